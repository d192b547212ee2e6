import PyProof.Rows.All
import Wide.All
import OpenK.AllK
import Wide.FinOn
import HandS.ForMost
import HandS.Evl
import HandS.Deep
import HandS.IsInst
import HandS.TupAny
import HandS.Star
import HandS.Conv
import HandS.DictTup
import HandS.OwnEq
import HandS.DeepEq
import HandS.DictComp
import HandS.Property
import KE.KEqNest
import HandS.Text
import HandS.Codes
import HandS.Style
import KE.KExcSuper
import HandS.ForSpec
import HandS.ExcSuper
import HandS.WordsExc
import HandS.ExcField
import HandS.ExcIs
import KE.KExcIs
import HandS.TryMany
import KE.RegKSuper
import PySem.Challenge.RW_aheadrows_k01_books_refused
set_option Elab.async false
set_option linter.all false
set_option maxRecDepth 100000
set_option maxHeartbeats 4000000
/-! Ah1: computations over a stable part of the heap. -/
namespace Ah
open PySem PySem.Spec PyProof.Rows L2 Evl

/-! ### the stable part G of a heap H, and how both grow -/
structure Nw (H G G' H' : Hp) : Prop where
  ex : Ex G G'
  le : Ex G' H'
  old : ∀ b, H b ≠ none → G b = none → G' b = none
section
variable {H H1 H2 H' G G1 G2 G' : Hp}
theorem Nw.refl (h : Ex G H) : Nw H G G H := ⟨Ex.refl G, h, fun _ _ e => e⟩
theorem Nw.trans (e : Ex H H1) (a : Nw H G G1 H1) (b : Nw H1 G1 G2 H2) : Nw H G G2 H2 :=
  ⟨a.ex.trans b.ex, b.le, fun c hc hg => b.old c (fun z => by
    cases q : H c with
    | none => exact hc q
    | some o => rw [e c o q] at z; cases z) (a.old c hc hg)⟩
theorem ne_ex {b : Addr} (e : Ex H H1) (h : H b ≠ none) : H1 b ≠ none := fun z => by
  cases q : H b with
  | none => exact h q
  | some o => rw [e b o q] at z; cases z
theorem Nw.new {p : Addr} {o : HO} (h : Ex G H) (hp : H p = none) : Nw H G (upd G p o) (upd H p o) := by
  have gp : G p = none := fresh_back h hp
  refine ⟨Ex.new gp, fun b u e => ?_, fun b hb hg => ?_⟩
  · by_cases hbp : b = p
    · subst hbp; rw [upd_same] at e ⊢; exact e
    · rw [upd_ne hbp] at e ⊢; exact h b u e
  · by_cases hbp : b = p
    · subst hbp; exact absurd hp hb
    · rw [upd_ne hbp]; exact hg
/-- a new object that does not become stable -/
theorem Nw.own {p : Addr} {o : HO} (h : Ex G H) (hp : H p = none) : Nw H G G (upd H p o) :=
  ⟨Ex.refl G, h.trans (Ex.new hp), fun _ _ e => e⟩
def mrg (A B : Hp) : Hp := fun b => match A b with
  | some o => some o
  | none => B b
theorem mrg_some {A B : Hp} {b : Addr} {o : HO} (h : A b = some o) : mrg A B b = some o := by unfold mrg; rw [h]
theorem mrg_none {A B : Hp} {b : Addr} (h : A b = none) : mrg A B b = B b := by unfold mrg; rw [h]
theorem Nw.up (hg : Ex G G1) (h1 : Ex G1 H) (e : Ex H H') (n : Nw H G G' H') : Nw H G1 (mrg G1 G') H' ∧ Ex G' (mrg G1 G') := by
  refine ⟨⟨fun b o h => mrg_some h, fun b o h => ?_, fun b hb hn => ?_⟩, fun b o h => ?_⟩
  · cases q : G1 b with
    | some u => rw [mrg_some q] at h; cases h; exact e b _ (h1 b _ q)
    | none => rw [mrg_none q] at h; exact n.le b o h
  · rw [mrg_none hn]; exact n.old b hb (fresh_back hg hn)
  · cases q : G1 b with
    | some u =>
      rw [mrg_some q]
      have z1 := n.le b o h
      have z2 := e b _ (h1 b _ q)
      rw [z1] at z2
      exact z2.symm
    | none => rw [mrg_none q]; exact h
end

/-! ### what holds of a result, whatever is added -/
structure MP (α : Type) where
  p : α → Hp → Prop
  mono : ∀ {a : α} {G G' : Hp}, Ex G G' → p a G → p a G'

def Cm {α : Type} (t : Hp → (α → Hp → Prop) → Prop) (G : Hp) (P : MP α) : Prop :=
  ∀ H, Ex G H → ∀ Q : α → Hp → Prop, (∀ a G' H', Ex H H' → Nw H G G' H' → P.p a G' → Q a H') → t H Q
section
variable {α β : Type} {t : Hp → (α → Hp → Prop) → Prop} {u : α → Hp → (β → Hp → Prop) → Prop} {G G1 : Hp} {P P' : MP α} {R : MP β}
theorem Cm.ret {a : α} (h : P.p a G) : Cm (fun H Q => Q a H) G P := fun H e Q q => q a G H (Ex.refl H) (Nw.refl e) h
theorem Cm.bind (h : Cm t G P) (k : ∀ a G1, Ex G G1 → P.p a G1 → Cm (u a) G1 R) : Cm (fun H Q => t H fun a H1 => u a H1 Q) G R := fun H e Q q =>
  h H e _ fun a G1 H1 e1 n1 p1 => k a G1 n1.ex p1 H1 n1.le Q fun b G2 H2 e2 n2 r2 => q b G2 H2 (e1.trans e2) (n1.trans e1 n2) r2
theorem Cm.up (h : Cm t G P) (hg : Ex G G1) : Cm t G1 P := fun H e Q q =>
  h H (hg.trans e) Q fun a G' H' e1 n1 p1 => by
    obtain ⟨n2, x2⟩ := n1.up hg e e1
    exact q a _ H' e1 n2 (P.mono x2 p1)
theorem Cm.imp (h : Cm t G P) (k : ∀ a G', Ex G G' → P.p a G' → P'.p a G') : Cm t G P' := fun H e Q q => h H e Q fun a G' H' e1 n1 p1 => q a G' H' e1 n1 (k a G' n1.ex p1)
end

/-! ### data -/
mutual
theorem Dp.up {K : PySem.W.Frag} {G G' : Hp} (e : Ex G G') : ∀ (d : PyData) (v : V), Dp K G v d → Dp K G' v d
  | .none, _, h => by cases h; exact .non
  | .bool b, _, h => by cases h; exact .bl b
  | .int i, _, h => by cases h; exact .int i
  | .str x, _, h => by cases h; exact .str x
  | .list ds, _, h => by
    cases h with
    | lst a b => exact .lst (ex_l e a) (DpAll.up e ds _ b)
  | .tuple ds, _, h => by
    cases h with
    | tup a b => exact .tup (ex_t e a) (DpAll.up e ds _ b)
  | .dict _, _, h => by cases h
theorem DpAll.up {K : PySem.W.Frag} {G G' : Hp} (e : Ex G G') : ∀ (ds : List PyData) (vs : List V), DpAll K G vs ds → DpAll K G' vs ds
  | [], _, h => by cases h; exact .nil
  | d :: ds, _, h => by
    cases h with
    | cons a b => exact .cons (Dp.up e d _ a) (DpAll.up e ds _ b)
end
theorem DpAll.length {K : PySem.W.Frag} {G : Hp} : ∀ {ds : List PyData} {vs : List V}, DpAll K G vs ds → vs.length = ds.length
  | [], _, h => by cases h; rfl
  | d :: ds, _, h => by
    cases h with
    | cons a b => rw [List.length_cons, List.length_cons, DpAll.length b]
theorem DpAll.get {K : PySem.W.Frag} {G : Hp} : ∀ {ds : List PyData} {vs : List V} {i : Nat} {d : PyData}, DpAll K G vs ds → ds[i]? = some d → ∃ v, vs[i]? = some v ∧ Dp K G v d
  | [], _, _, _, _, e => by simp at e
  | d :: ds, _, 0, _, h, e => by
    cases h with
    | cons a b => simp at e; subst e; exact ⟨_, rfl, a⟩
  | d :: ds, _, i + 1, _, h, e => by
    cases h with
    | cons a b =>
      obtain ⟨v, h1, h2⟩ := DpAll.get (i := i) b (by simpa using e)
      exact ⟨v, by simpa using h1, h2⟩
theorem DpAll.at_ {K : PySem.W.Frag} {G : Hp} : ∀ {ds : List PyData} {vs : List V} {i : Nat} {v : V}, DpAll K G vs ds → vs[i]? = some v → ∃ d, ds[i]? = some d ∧ Dp K G v d
  | [], _, _, _, h, e => by cases h; simp at e
  | d :: ds, _, 0, _, h, e => by
    cases h with
    | cons a b => simp at e; subst e; exact ⟨_, rfl, a⟩
  | d :: ds, _, i + 1, _, h, e => by
    cases h with
    | cons a b =>
      obtain ⟨v, h1, h2⟩ := DpAll.at_ (i := i) b (by simpa using e)
      exact ⟨v, by simpa using h1, h2⟩
theorem DpAll.app {K : PySem.W.Frag} {G : Hp} : ∀ {ds es : List PyData} {vs us : List V}, DpAll K G vs ds → DpAll K G us es → DpAll K G (vs ++ us) (ds ++ es)
  | [], _, _, _, h, k => by cases h; exact k
  | d :: ds, _, _, _, h, k => by
    cases h with
    | cons a b => exact .cons a (DpAll.app b k)
theorem DpAll.take {K : PySem.W.Frag} {G : Hp} : ∀ (n : Nat) {ds : List PyData} {vs : List V}, DpAll K G vs ds → DpAll K G (vs.take n) (ds.take n)
  | 0, _, _, _ => by rw [List.take_zero, List.take_zero]; exact .nil
  | n + 1, [], _, h => by cases h; exact .nil
  | n + 1, d :: ds, _, h => by
    cases h with
    | cons a b => exact .cons a (DpAll.take n b)
theorem DpAll.drop {K : PySem.W.Frag} {G : Hp} : ∀ (n : Nat) {ds : List PyData} {vs : List V}, DpAll K G vs ds → DpAll K G (vs.drop n) (ds.drop n)
  | 0, _, _, h => h
  | n + 1, [], _, h => by cases h; exact .nil
  | n + 1, d :: ds, _, h => by
    cases h with
    | cons a b => exact DpAll.drop n b
section
variable {K : PySem.W.Frag}
abbrev MP.d (K : PySem.W.Frag) (d : PyData) : MP V := ⟨fun v G => Dp K G v d, fun e h => Dp.up e d _ h⟩
abbrev MP.ds (K : PySem.W.Frag) (ds : List PyData) : MP (List V) := ⟨fun vs G => DpAll K G vs ds, fun e h => DpAll.up e ds _ h⟩
abbrev MP.eq {α : Type} (a : α) : MP α := ⟨fun b _ => b = a, fun _ h => h⟩
/-- arguments of any kind -/
inductive AllP : List V → List (MP V) → Hp → Prop where
  | nil {G : Hp} : AllP [] [] G
  | cons {v : V} {vs : List V} {P : MP V} {Ps : List (MP V)} {G : Hp} : P.p v G → AllP vs Ps G → AllP (v :: vs) (P :: Ps) G
theorem AllP.up {G G' : Hp} (e : Ex G G') : ∀ {Ps : List (MP V)} {vs : List V}, AllP vs Ps G → AllP vs Ps G'
  | [], _, h => by cases h; exact .nil
  | P :: Ps, _, h => by
    cases h with
    | cons a b => exact .cons (P.mono e a) (AllP.up e b)
theorem AllP.length {G : Hp} : ∀ {Ps : List (MP V)} {vs : List V}, AllP vs Ps G → vs.length = Ps.length
  | [], _, h => by cases h; rfl
  | P :: Ps, _, h => by
    cases h with
    | cons a b => rw [List.length_cons, List.length_cons, AllP.length b]
abbrev MP.args (Ps : List (MP V)) : MP (List V) := ⟨fun vs G => AllP vs Ps G, fun e h => AllP.up e h⟩
end

/-! ### expressions -/
section
variable {K : PySem.W.Frag} {σ : L2.St} {G : Hp} {ta tb te : TE} {tt tu : TT} {P P1 P2 : MP V} {v : V} {d e : PyData} {ds es : List PyData}
theorem c_var {i : Nat} (h : σ[i]? = some (some v)) (p : P.p v G) : Cm (tVar i σ) G P := fun H x Q q => ⟨v, h, q v G H (Ex.refl H) (Nw.refl x) p⟩
theorem c_c (p : P.p v G) : Cm (tC v σ) G P := fun H x Q q => q v G H (Ex.refl H) (Nw.refl x) p
theorem c_int {i : Int} : Cm (tC (.int i) σ) G (MP.d K (.int i)) := c_c (.int i)
theorem c_str {s : Str} : Cm (tC (.str s) σ) G (MP.d K (.str s)) := c_c (.str s)
theorem c_bl {b : Bool} : Cm (tC (.bl b) σ) G (MP.d K (.bool b)) := c_c (.bl b)
theorem c_non : Cm (tC .non σ) G (MP.d K .none) := c_c .non
/-- a two-place operation -/
theorem c_op {r : R2} (ha : Cm (ta σ) G P1) (hb : Cm (tb σ) G P2) (hr : ∀ x y G1, Ex G G1 → P1.p x G1 → P2.p y G1 → Cm (r x y) G1 P) : Cm (tOp r ta tb σ) G P :=
  Cm.bind (t := ta σ) (u := fun x H Q => tb σ H fun y H2 => r x y H2 Q) ha fun x G1 e1 p1 => Cm.bind (t := tb σ) (u := fun y H Q => r x y H Q) (hb.up e1) fun y G2 e2 p2 => hr x y G2 (e1.trans e2) (P1.mono e2 p1) p2
theorem c_un {r : V → Hp → VK → Prop} (ha : Cm (ta σ) G P1) (hr : ∀ x G1, Ex G G1 → P1.p x G1 → Cm (r x) G1 P) : Cm (tUn r ta σ) G P := Cm.bind (t := ta σ) (u := fun x H Q => r x H Q) ha hr
theorem c_nil : Cm (tNil σ) G (MP.args []) := Cm.ret .nil
theorem c_cons {tr : TA} {Ps : List (MP V)} (ha : Cm (ta σ) G P) (hr : Cm (tr σ) G (MP.args Ps)) : Cm (tCons ta tr σ) G (MP.args (P :: Ps)) :=
  Cm.bind (t := ta σ) (u := fun x H Q => tr σ H fun xs H2 => Q (x :: xs) H2) ha fun x G1 e1 p1 => Cm.bind (t := tr σ) (u := fun xs H Q => Q (x :: xs) H) (hr.up e1) fun xs G2 e2 p2 => Cm.ret (.cons (P.mono e2 p1) p2)
/-- arguments that are data -/
theorem allD {G : Hp} {vs : List V} : ∀ {ds : List PyData}, AllP vs (ds.map (MP.d K)) G → DpAll K G vs ds := fun {ds} h => by
  induction ds generalizing vs with
  | nil => cases h; exact .nil
  | cons d ds ih =>
    cases h with
    | cons a b => exact .cons a (ih b)
theorem c_dnil : Cm (tNil σ) G (MP.ds K []) := Cm.ret .nil
theorem c_dcons {tr : TA} (ha : Cm (ta σ) G (MP.d K d)) (hr : Cm (tr σ) G (MP.ds K ds)) : Cm (tCons ta tr σ) G (MP.ds K (d :: ds)) :=
  Cm.bind (t := ta σ) (u := fun x H Q => tr σ H fun xs H2 => Q (x :: xs) H2) ha fun x G1 e1 p1 => Cm.bind (t := tr σ) (u := fun xs H Q => Q (x :: xs) H) (hr.up e1) fun xs G2 e2 p2 => Cm.ret (.cons (Dp.up e2 _ _ p1) p2)
/-- a new object -/
theorem c_new {o : HO} (h : ∀ p, G p = none → P.p (.ref p) (upd G p o)) : Cm (fun H Q => ∀ p, H p = none → Q (.ref p) (upd H p o)) G P := fun H x Q q p hp =>
  q _ (upd G p o) _ (Ex.new hp) (Nw.new x hp) (h p (fresh_back x hp))
theorem dp_new_tup {p : Addr} {vs : List V} (hp : G p = none) (h : DpAll K G vs ds) : Dp K (upd G p (.tup vs)) (.ref p) (.tuple ds) := .tup (SqT.of upd_same) (DpAll.up (Ex.new hp) _ _ h)
theorem dp_new_lst {p : Addr} {vs : List V} (hp : G p = none) (h : DpAll K G vs ds) : Dp K (upd G p (.lst vs)) (.ref p) (.list ds) := .lst (SqL.of upd_same) (DpAll.up (Ex.new hp) _ _ h)
theorem sz (h : ds.length ≤ 100000) {vs : List V} (a : DpAll K G vs ds) : vs.length ≤ sizeLine := by rw [DpAll.length a]; exact sz_of h
theorem c_and {α : Type} {A : Prop} {t : Hp → (α → Hp → Prop) → Prop} {R : MP α} (h : A) (k : Cm t G R) : Cm (fun H Q => A ∧ t H Q) G R := fun H x Q q => ⟨h, k H x Q q⟩
theorem c_tup {t : TA} (h : Cm (t σ) G (MP.ds K ds)) (hl : ds.length ≤ 100000) : Cm (tTup t σ) G (MP.d K (.tuple ds)) :=
  Cm.bind (t := t σ) (u := fun (xs : List V) (H1 : Hp) (Q : V → Hp → Prop) => xs.length ≤ sizeLine ∧ ∀ p, H1 p = none → Q (V.ref p) (upd H1 p (.tup xs))) h fun xs G1 e1 p1 => c_and (sz hl p1) (c_new fun p hp => dp_new_tup hp p1)
theorem c_lst {t : TA} (h : Cm (t σ) G (MP.ds K ds)) (hl : ds.length ≤ 100000) : Cm (tLst t σ) G (MP.d K (.list ds)) :=
  Cm.bind (t := t σ) (u := fun (xs : List V) (H1 : Hp) (Q : V → Hp → Prop) => xs.length ≤ sizeLine ∧ ∀ p, H1 p = none → Q (V.ref p) (upd H1 p (.lst xs))) h fun xs G1 e1 p1 => c_and (sz hl p1) (c_new fun p hp => dp_new_lst hp p1)
theorem dp_tup {a : V} (h : Dp K G a (.tuple ds)) : ∃ p xs, a = .ref p ∧ SqT K G p xs ∧ DpAll K G xs ds := by cases h with | tup h1 h2 => exact ⟨_, _, rfl, h1, h2⟩
theorem dp_lst {a : V} (h : Dp K G a (.list ds)) : ∃ p xs, a = .ref p ∧ SqL K G p xs ∧ DpAll K G xs ds := by cases h with | lst h1 h2 => exact ⟨_, _, rfl, h1, h2⟩
theorem dp_int {a : V} {i : Int} (h : Dp K G a (.int i)) : a = .int i := by cases h; rfl
theorem dp_bl {a : V} {i : Bool} (h : Dp K G a (.bool i)) : a = .bl i := by cases h; rfl
theorem dp_str {a : V} {i : Str} (h : Dp K G a (.str i)) : a = .str i := by cases h; rfl
theorem dp_non {a : V} (h : Dp K G a .none) : a = .non := by cases h; rfl
end
end Ah
/-! Ah2: operators of any kind, and what they give on data. -/
namespace Ah
open PySem PySem.Spec PyProof.Rows L2 Evl

/-! ### union rules -/
def rAddS : R2 := fun x y H Q => ∃ i j, x = .str i ∧ y = .str j ∧ i.length + j.length ≤ sizeLine ∧ Q (.str (i ++ j)) H
def rAddG (K : PySem.W.Frag) : R2 := fun x y H Q => rI0 (fun i j => .int (i + j)) x y H Q ∨ rAddS x y H Q ∨ rCat x y H Q ∨ rCatA K x y H Q
def rInG (K : PySem.W.Frag) (neg : Bool) : R2 := fun x y H Q => ∃ d ds, Dp K H x d ∧ (Dp K H y (.list ds) ∨ Dp K H y (.tuple ds)) ∧ SeqAt.shaped d = true ∧ SeqAt.shaped (.list ds) = true ∧
  Q (.bl (if neg then !(ds.any fun z => PyData.eqv z d) else ds.any fun z => PyData.eqv z d)) H
def rLenG (K : PySem.W.Frag) : List V → Hp → VK → Prop := fun xs H Q => ∃ x n, xs = [x] ∧ LenV K x H n ∧ Q (.int n) H
def rIsiG (K : PySem.W.Frag) : List V → Hp → VK → Prop := fun xs H Q => rIsi K xs H Q ∨ rIsiT K xs H Q
def rSlG (K : PySem.W.Frag) : V → Option Int → Option Int → Hp → VK → Prop := fun x lo hi H Q => rSlL K x lo hi H Q ∨ rSlA K x lo hi H Q
def rMax2 : List V → Hp → VK → Prop := fun xs H Q => ∃ i j, xs = [.int i, .int j] ∧ Q (.int (if j > i then j else i)) H
def rIntG : List V → Hp → VK → Prop := fun xs H Q => (∃ i, xs = [.int i] ∧ Q (.int i) H) ∨ ∃ k, xs = [.bl k] ∧ Q (.int (if k then 1 else 0)) H
def rListG (K : PySem.W.Frag) : List V → Hp → VK → Prop := fun xs H Q => ∃ p ys, xs = [.ref p] ∧ (SqL K H p ys ∨ SqT K H p ys) ∧ ∀ l, H l = none → Q (.ref l) (upd H l (.lst ys))
def rTupG (K : PySem.W.Frag) : List V → Hp → VK → Prop := fun xs H Q => ∃ p ys, xs = [.ref p] ∧ ((SqL K H p ys ∧ ∀ l, H l = none → Q (.ref l) (upd H l (.tup ys))) ∨ (SqT K H p ys ∧ Q (.ref p) H))
def rStrI : List V → Hp → VK → Prop := fun xs H Q => ∃ i, xs = [.int i] ∧ i.natAbs.log2 < 1920 ∧ Q (.str (toString i)) H
abbrev rIsN : R2 := fun x y H Q => y = .non ∧ Q (.bl (decide (x = .non))) H
abbrev rNotN : R2 := fun x y H Q => y = .non ∧ Q (.bl (!decide (x = .non))) H
abbrev rSubI : R2 := rI0 fun i j => .int (i - j)
abbrev rMulI : R2 := rI CMul fun i j => .int (i * j)
abbrev rDivI : R2 := rI CDivN fun i j => .int (i.fdiv j)
abbrev rModI : R2 := rI (fun _ j => j ≠ 0) fun i j => .int (i.fmod j)
abbrev rPowI : R2 := rI CPow fun i j => .int (i ^ j.toNat)
abbrev rLtI : R2 := rI0 fun i j => .bl (decide (i < j))
abbrev rLeI : R2 := rI0 fun i j => .bl (decide (i ≤ j))
abbrev rGtI : R2 := rI0 fun i j => .bl (decide (j < i))
abbrev rGeI : R2 := rI0 fun i j => .bl (decide (j ≤ i))
section
variable {X : Cx}
theorem op_addG : OpR X (binaryOp .Add) (rAddG X.K) := op_add.or (OpR.or op_add_str (OpR.or op_cat op_catA))
theorem op_inG (hu : X.A.units + 65 < cLine) : OpR X (compareOp .In) (rInG X.K false) := by
  intro pins s σ H x y v u Q I rx ry h
  obtain ⟨d, ds, hd, he, sd, se, q⟩ := h
  obtain ⟨as, r1⟩ := Dp.reads I d x v hd rx
  rcases he with he | he
  · obtain ⟨bs, r2⟩ := Dp.reads I (.list ds) y u he ry
    exact SeqAt.in_list_reads r2 r1 (SeqAt.canLay_of_shaped se) (SeqAt.canLay_of_shaped sd) (room_in_shaped sd hu) ⟨.bl _, H, I, rfl, q⟩
  · obtain ⟨bs, r2⟩ := Dp.reads I (.tuple ds) y u he ry
    exact SeqAt.in_tuple_reads r2 r1 (SeqAt.canLay_of_shaped se) (SeqAt.canLay_of_shaped sd) (room_in_shaped sd hu) ⟨.bl _, H, I, rfl, q⟩
theorem op_notInG (hu : X.A.units + 65 < cLine) : OpR X (compareOp .NotIn) (rInG X.K true) := by
  intro pins s σ H x y v u Q I rx ry h
  obtain ⟨d, ds, hd, he, sd, se, q⟩ := h
  obtain ⟨as, r1⟩ := Dp.reads I d x v hd rx
  rcases he with he | he
  · obtain ⟨bs, r2⟩ := Dp.reads I (.list ds) y u he ry
    exact SeqAt.notIn_list_reads r2 r1 (SeqAt.canLay_of_shaped se) (SeqAt.canLay_of_shaped sd) (room_in_shaped sd hu) ⟨.bl _, H, I, rfl, q⟩
  · obtain ⟨bs, r2⟩ := Dp.reads I (.tuple ds) y u he ry
    exact SeqAt.notIn_tuple_reads r2 r1 (SeqAt.canLay_of_shaped se) (SeqAt.canLay_of_shaped sd) (room_in_shaped sd hu) ⟨.bl _, H, I, rfl, q⟩
theorem call_lenG : CallR X (.builtin "len") (rLenG X.K) := call_len
theorem call_isiG : CallR X (.builtin "isinstance") (rIsiG X.K) := by
  intro pins s σ H xs us Q I r h
  rcases h with h | h
  · exact call_isi pins s σ H xs us Q I r h
  · exact call_isiT pins s σ H xs us Q I r h
theorem sl_G : SlR X (rSlG X.K) := by
  intro pins s σ H x v vl vu lo hi sl Q I rx hs pl pu h
  rcases h with h | h
  · exact sl_list pins s σ H x v vl vu lo hi sl Q I rx hs pl pu h
  · exact sl_tupA pins s σ H x v vl vu lo hi sl Q I rx hs pl pu h
theorem call_max2G (hc : X.calm = true) : CallR X (.builtin "max") rMax2 := call_max2 hc
theorem call_intG : CallR X (.type "int") rIntG := call_int1
theorem call_listG : CallR X (.type "list") (rListG X.K) := call_list_of
theorem call_tupG : CallR X (.type "tuple") (rTupG X.K) := call_tuple_of
theorem call_strI : CallR X (.type "str") rStrI := call_str_int
end

/-! ### on data -/
section
variable {K : PySem.W.Frag} {σ : L2.St} {G : Hp} {ta tb te : TE} {tt tu : TT} {P P1 P2 : MP V} {v : V} {d e : PyData} {ds es : List PyData}
theorem shaped_lst {d : PyData} (h : SeqAt.shaped d = true) : SeqAt.shaped d = true := h
/-- v op w gives z, the heap unchanged -/
theorem c_val {r : R2} {x y z : V} {G : Hp} {P : MP V} (h : ∀ H, Ex G H → ∀ Q : VK, Q z H → r x y H Q) (p : P.p z G) : Cm (r x y) G P := fun H e Q q => h H e Q (q z G H (Ex.refl H) (Nw.refl e) p)
theorem c_eq (ha : Cm (ta σ) G (MP.d K d)) (hb : Cm (tb σ) G (MP.d K e)) (sd : SeqAt.shaped d = true) (se : SeqAt.shaped e = true) : Cm (tOp (rEqD K) ta tb σ) G (MP.d K (.bool (PyData.eqv d e))) :=
  c_op ha hb fun x y G1 e1 p q => c_val (z := .bl (PyData.eqv d e)) (fun H eh Q h => ⟨d, e, Dp.up eh _ _ p, Dp.up eh _ _ q, sd, se, h⟩) (.bl _)
theorem c_ne (ha : Cm (ta σ) G (MP.d K d)) (hb : Cm (tb σ) G (MP.d K e)) (sd : SeqAt.shaped d = true) (se : SeqAt.shaped e = true) : Cm (tOp (rNeD K) ta tb σ) G (MP.d K (.bool (!PyData.eqv d e))) :=
  c_op ha hb fun x y G1 e1 p q => c_val (z := .bl (!PyData.eqv d e)) (fun H eh Q h => ⟨d, e, Dp.up eh _ _ p, Dp.up eh _ _ q, sd, se, h⟩) (.bl _)
theorem c_inL {n : Bool} (ha : Cm (ta σ) G (MP.d K d)) (hb : Cm (tb σ) G (MP.d K (.list ds))) (sd : SeqAt.shaped d = true) (se : SeqAt.shaped (.list ds) = true) :
    Cm (tOp (rInG K n) ta tb σ) G (MP.d K (.bool (if n then !(ds.any fun z => PyData.eqv z d) else ds.any fun z => PyData.eqv z d))) :=
  c_op ha hb fun x y G1 e1 p q => c_val (z := .bl _) (fun H eh Q h => ⟨d, ds, Dp.up eh _ _ p, .inl (Dp.up eh _ _ q), sd, se, h⟩) (.bl _)
theorem c_inT {n : Bool} (ha : Cm (ta σ) G (MP.d K d)) (hb : Cm (tb σ) G (MP.d K (.tuple ds))) (sd : SeqAt.shaped d = true) (se : SeqAt.shaped (.list ds) = true) :
    Cm (tOp (rInG K n) ta tb σ) G (MP.d K (.bool (if n then !(ds.any fun z => PyData.eqv z d) else ds.any fun z => PyData.eqv z d))) :=
  c_op ha hb fun x y G1 e1 p q => c_val (z := .bl _) (fun H eh Q h => ⟨d, ds, Dp.up eh _ _ p, .inr (Dp.up eh _ _ q), sd, se, h⟩) (.bl _)
theorem c_isN (ha : Cm (ta σ) G (MP.d K d)) : Cm (tOp rIsN ta (tC .non) σ) G (MP.d K (.bool (match d with | .none => true | _ => false))) :=
  c_op (P2 := MP.d K .none) ha c_non fun x y G1 e1 p q => by
    have hy := dp_non q
    subst hy
    refine c_val (z := .bl _) (fun H eh Q h => ⟨rfl, ?_⟩) (.bl _)
    cases p <;> exact h
theorem c_notN (ha : Cm (ta σ) G (MP.d K d)) : Cm (tOp rNotN ta (tC .non) σ) G (MP.d K (.bool (match d with | .none => false | _ => true))) :=
  c_op (P2 := MP.d K .none) ha c_non fun x y G1 e1 p q => by
    have hy := dp_non q
    subst hy
    refine c_val (z := .bl _) (fun H eh Q h => ⟨rfl, ?_⟩) (.bl _)
    cases p <;> exact h
/-- ints -/
theorem c_I0 {g : Int → Int → V} {i j : Int} {z : PyData} (ha : Cm (ta σ) G (MP.d K (.int i))) (hb : Cm (tb σ) G (MP.d K (.int j))) (hz : ∀ G, Dp K G (g i j) z) : Cm (tOp (rI0 g) ta tb σ) G (MP.d K z) :=
  c_op ha hb fun x y G1 e1 p q => by
    rw [dp_int p, dp_int q]
    exact c_val (z := g i j) (fun H eh Q h => ⟨i, j, rfl, rfl, h⟩) (hz G1)
theorem c_I {C : Int → Int → Prop} {g : Int → Int → V} {i j : Int} {z : PyData} (ha : Cm (ta σ) G (MP.d K (.int i))) (hb : Cm (tb σ) G (MP.d K (.int j))) (hc : C i j) (hz : ∀ G, Dp K G (g i j) z) : Cm (tOp (rI C g) ta tb σ) G (MP.d K z) :=
  c_op ha hb fun x y G1 e1 p q => by
    rw [dp_int p, dp_int q]
    exact c_val (z := g i j) (fun H eh Q h => ⟨i, j, rfl, rfl, hc, h⟩) (hz G1)
theorem c_addI {i j : Int} (ha : Cm (ta σ) G (MP.d K (.int i))) (hb : Cm (tb σ) G (MP.d K (.int j))) : Cm (tOp (rAddG K) ta tb σ) G (MP.d K (.int (i + j))) :=
  c_op ha hb fun x y G1 e1 p q => by
    rw [dp_int p, dp_int q]
    exact c_val (z := .int (i + j)) (fun H eh Q h => .inl ⟨i, j, rfl, rfl, h⟩) (.int _)
theorem c_addS {i j : Str} (ha : Cm (ta σ) G (MP.d K (.str i))) (hb : Cm (tb σ) G (MP.d K (.str j))) (hl : i.length + j.length ≤ 100000) : Cm (tOp (rAddG K) ta tb σ) G (MP.d K (.str (i ++ j))) :=
  c_op ha hb fun x y G1 e1 p q => by
    rw [dp_str p, dp_str q]
    exact c_val (z := .str (i ++ j)) (fun H eh Q h => .inr (.inl ⟨i, j, rfl, rfl, sz_of hl, h⟩)) (.str _)
theorem c_addT (ha : Cm (ta σ) G (MP.d K (.tuple ds))) (hb : Cm (tb σ) G (MP.d K (.tuple es))) (hl : ds.length + es.length ≤ 100000) : Cm (tOp (rAddG K) ta tb σ) G (MP.d K (.tuple (ds ++ es))) :=
  c_op ha hb fun x y G1 e1 p q => by
    obtain ⟨a, xs, rfl, h1, h2⟩ := dp_tup p
    obtain ⟨b, ys, rfl, k1, k2⟩ := dp_tup q
    intro H eh Q hq
    refine .inr (.inr (.inr ⟨a, b, xs, ys, rfl, rfl, ex_t eh h1, ex_t eh k1, by rw [DpAll.length h2, DpAll.length k2]; exact sz_of hl, fun e => ?_, fun _ e => ?_, fun _ _ p' hp => ?_⟩))
    · subst e
      cases h2
      exact hq _ G1 H (Ex.refl H) (Nw.refl eh) (.tup k1 k2)
    · subst e
      cases k2
      rw [List.append_nil] at hq
      exact hq _ G1 H (Ex.refl H) (Nw.refl eh) (.tup h1 h2)
    · exact hq _ _ _ (Ex.new hp) (Nw.new eh hp) (dp_new_tup (fresh_back eh hp) (DpAll.app h2 k2))
/-- a stable list that may be read from the heap itself -/
theorem c_ixL {i : Int} (ha : Cm (ta σ) G (MP.d K (.list ds))) (hb : Cm (tb σ) G (MP.d K (.int i))) (hd : atI ds i = some d) : Cm (tOp (rIx K) ta tb σ) G (MP.d K d) :=
  c_op ha hb fun x y G1 e1 p q => by
    obtain ⟨a, xs, rfl, h1, h2⟩ := dp_lst p
    rw [dp_int q]
    have hl := DpAll.length h2
    unfold atI at hd
    rw [← hl] at hd
    obtain ⟨j, hj, hd⟩ := Option.bind_eq_some_iff.mp hd
    obtain ⟨z, hz, pz⟩ := DpAll.get h2 hd
    refine c_val (z := z) (fun H eh Q h => .inl ⟨a, xs, i, z, rfl, rfl, ex_l eh h1, ?_, h⟩) pz
    unfold atI
    rw [hj]
    exact hz
theorem c_ixT {i : Int} (ha : Cm (ta σ) G (MP.d K (.tuple ds))) (hb : Cm (tb σ) G (MP.d K (.int i))) (hd : atI ds i = some d) : Cm (tOp (rIx K) ta tb σ) G (MP.d K d) :=
  c_op ha hb fun x y G1 e1 p q => by
    obtain ⟨a, xs, rfl, h1, h2⟩ := dp_tup p
    rw [dp_int q]
    have hl := DpAll.length h2
    unfold atI at hd
    rw [← hl] at hd
    obtain ⟨j, hj, hd⟩ := Option.bind_eq_some_iff.mp hd
    obtain ⟨z, hz, pz⟩ := DpAll.get h2 hd
    refine c_val (z := z) (fun H eh Q h => .inr (.inl ⟨a, xs, i, z, rfl, rfl, ex_t eh h1, ?_, h⟩)) pz
    unfold atI
    rw [hj]
    exact hz
/-- one-argument calls -/
theorem c_cb1 {r : List V → Hp → VK → Prop} (ha : Cm (ta σ) G P1) (hr : ∀ x G1, Ex G G1 → P1.p x G1 → Cm (r [x]) G1 P) : Cm (tCB r (tCons ta tNil) σ) G P :=
  Cm.bind (t := ta σ) (u := fun x H Q => r [x] H Q) ha hr
theorem c_cb2 {r : List V → Hp → VK → Prop} (ha : Cm (ta σ) G P1) (hb : Cm (tb σ) G P2) (hr : ∀ x y G1, Ex G G1 → P1.p x G1 → P2.p y G1 → Cm (r [x, y]) G1 P) : Cm (tCB r (tCons ta (tCons tb tNil)) σ) G P :=
  Cm.bind (t := ta σ) (u := fun x H Q => tb σ H fun y H2 => r [x, y] H2 Q) ha fun x G1 e1 p1 => Cm.bind (t := tb σ) (u := fun y H Q => r [x, y] H Q) (hb.up e1) fun y G2 e2 p2 => hr x y G2 (e1.trans e2) (P1.mono e2 p1) p2
theorem c_valN {r : List V → Hp → VK → Prop} {xs : List V} {z : V} {G : Hp} {P : MP V} (h : ∀ H, Ex G H → ∀ Q : VK, Q z H → r xs H Q) (p : P.p z G) : Cm (r xs) G P := fun H e Q q => h H e Q (q z G H (Ex.refl H) (Nw.refl e) p)
theorem c_lenL (ha : Cm (ta σ) G (MP.d K (.list ds))) : Cm (tCB (rLenG K) (tCons ta tNil) σ) G (MP.d K (.int ds.length)) :=
  c_cb1 ha fun x G1 e1 p => by
    obtain ⟨a, xs, rfl, h1, h2⟩ := dp_lst p
    refine c_valN (z := .int xs.length) (fun H eh Q h => ⟨_, xs.length, rfl, .inl ⟨xs, ex_l eh h1, rfl⟩, h⟩) ?_
    rw [DpAll.length h2]
    exact .int _
theorem c_lenT (ha : Cm (ta σ) G (MP.d K (.tuple ds))) : Cm (tCB (rLenG K) (tCons ta tNil) σ) G (MP.d K (.int ds.length)) :=
  c_cb1 ha fun x G1 e1 p => by
    obtain ⟨a, xs, rfl, h1, h2⟩ := dp_tup p
    refine c_valN (z := .int xs.length) (fun H eh Q h => ⟨_, xs.length, rfl, .inr ⟨xs, ex_t eh h1, rfl⟩, h⟩) ?_
    rw [DpAll.length h2]
    exact .int _
theorem c_intI {i : Int} (ha : Cm (ta σ) G (MP.d K (.int i))) : Cm (tCB rIntG (tCons ta tNil) σ) G (MP.d K (.int i)) :=
  c_cb1 ha fun x G1 e1 p => by
    rw [dp_int p]
    exact c_valN (z := .int i) (fun H eh Q h => .inl ⟨i, rfl, h⟩) (.int _)
theorem c_intB {b : Bool} (ha : Cm (ta σ) G (MP.d K (.bool b))) : Cm (tCB rIntG (tCons ta tNil) σ) G (MP.d K (.int (if b then 1 else 0))) :=
  c_cb1 ha fun x G1 e1 p => by
    rw [dp_bl p]
    exact c_valN (z := .int (if b then 1 else 0)) (fun H eh Q h => .inr ⟨b, rfl, h⟩) (.int _)
theorem c_strI {i : Int} (ha : Cm (ta σ) G (MP.d K (.int i))) (hi : i.natAbs.log2 < 1920) : Cm (tCB rStrI (tCons ta tNil) σ) G (MP.d K (.str (toString i))) :=
  c_cb1 ha fun x G1 e1 p => by
    rw [dp_int p]
    exact c_valN (z := .str (toString i)) (fun H eh Q h => ⟨i, rfl, hi, h⟩) (.str _)
theorem c_max2 {i j : Int} (ha : Cm (ta σ) G (MP.d K (.int i))) (hb : Cm (tb σ) G (MP.d K (.int j))) : Cm (tCB rMax2 (tCons ta (tCons tb tNil)) σ) G (MP.d K (.int (if j > i then j else i))) :=
  c_cb2 ha hb fun x y G1 e1 p q => by
    rw [dp_int p, dp_int q]
    exact c_valN (z := .int (if j > i then j else i)) (fun H eh Q h => ⟨i, j, rfl, h⟩) (.int _)
theorem c_newV {o : HO} {G : Hp} {P : MP V} {r : Hp → VK → Prop} (hr : ∀ H, Ex G H → ∀ Q : VK, (∀ p, H p = none → Q (.ref p) (upd H p o)) → r H Q) (h : ∀ p, G p = none → P.p (.ref p) (upd G p o)) : Cm r G P := fun H e Q q =>
  hr H e Q fun p hp => q _ _ _ (Ex.new hp) (Nw.new e hp) (h p (fresh_back e hp))
theorem c_listL (ha : Cm (ta σ) G (MP.d K (.list ds))) : Cm (tCB (rListG K) (tCons ta tNil) σ) G (MP.d K (.list ds)) :=
  c_cb1 ha fun x G1 e1 p => by
    obtain ⟨a, xs, rfl, h1, h2⟩ := dp_lst p
    exact c_newV (o := .lst xs) (fun H eh Q h => ⟨a, xs, rfl, .inl (ex_l eh h1), h⟩) fun p hp => dp_new_lst hp h2
theorem c_listT (ha : Cm (ta σ) G (MP.d K (.tuple ds))) : Cm (tCB (rListG K) (tCons ta tNil) σ) G (MP.d K (.list ds)) :=
  c_cb1 ha fun x G1 e1 p => by
    obtain ⟨a, xs, rfl, h1, h2⟩ := dp_tup p
    exact c_newV (o := .lst xs) (fun H eh Q h => ⟨a, xs, rfl, .inr (ex_t eh h1), h⟩) fun p hp => dp_new_lst hp h2
theorem c_tupL (ha : Cm (ta σ) G (MP.d K (.list ds))) : Cm (tCB (rTupG K) (tCons ta tNil) σ) G (MP.d K (.tuple ds)) :=
  c_cb1 ha fun x G1 e1 p => by
    obtain ⟨a, xs, rfl, h1, h2⟩ := dp_lst p
    exact c_newV (o := .tup xs) (fun H eh Q h => ⟨a, xs, rfl, .inl ⟨ex_l eh h1, h⟩⟩) fun p hp => dp_new_tup hp h2
/-- slices -/
def cutD (ds : List PyData) (lo hi : Option Int) : List PyData := (ds.drop (HT.sIx ds.length 0 lo)).take (HT.sIx ds.length ds.length hi - HT.sIx ds.length 0 lo)
theorem cut_dp {xs : List V} {lo hi : Option Int} (h : DpAll K G xs ds) : DpAll K G (cutV xs lo hi) (cutD ds lo hi) := by
  unfold cutV cutD
  rw [DpAll.length h]
  exact DpAll.take _ (DpAll.drop _ h)
theorem c_part {i : Int} (ha : Cm (ta σ) G (MP.d K (.int i))) : Cm (tPart ta σ) G (MP.eq (some i)) :=
  Cm.bind (t := ta σ) (u := fun (x : V) (H1 : Hp) (Q : Option Int → Hp → Prop) => ∃ i, x = .int i ∧ Q (some i) H1) ha fun x G1 e1 p => by
    rw [dp_int p]
    exact fun H eh Q h => ⟨i, rfl, h (some i) G1 H (Ex.refl H) (Nw.refl eh) rfl⟩
theorem c_nopart : Cm (tNoPart σ) G (MP.eq none) := fun H eh Q h => h none G H (Ex.refl H) (Nw.refl eh) rfl
theorem c_sl {tl th : TO} {lo hi : Option Int} {r : V → Option Int → Option Int → Hp → VK → Prop} (ha : Cm (ta σ) G P1) (h1 : Cm (tl σ) G (MP.eq lo)) (h2 : Cm (th σ) G (MP.eq hi)) (hr : ∀ x G1, Ex G G1 → P1.p x G1 → Cm (r x lo hi) G1 P) : Cm (tSl r ta tl th σ) G P :=
  Cm.bind (t := ta σ) (u := fun (x : V) (H1 : Hp) (Q : VK) => tl σ H1 fun l H2 => th σ H2 fun u H3 => r x l u H3 Q) ha fun x G1 e1 p1 =>
    Cm.bind (t := tl σ) (u := fun (l : Option Int) (H2 : Hp) (Q : VK) => th σ H2 fun u H3 => r x l u H3 Q) (h1.up e1) fun l G2 e2 p2 =>
      Cm.bind (t := th σ) (u := fun (u : Option Int) (H3 : Hp) (Q : VK) => r x l u H3 Q) (h2.up (e1.trans e2)) fun u G3 e3 p3 => by
        have q2 : l = lo := p2
        have q3 : u = hi := p3
        subst q2 q3
        exact hr x G3 ((e1.trans e2).trans e3) (P1.mono (e2.trans e3) p1)
theorem c_slL {tl th : TO} {lo hi : Option Int} (ha : Cm (ta σ) G (MP.d K (.list ds))) (h1 : Cm (tl σ) G (MP.eq lo)) (h2 : Cm (th σ) G (MP.eq hi)) : Cm (tSl (rSlG K) ta tl th σ) G (MP.d K (.list (cutD ds lo hi))) :=
  c_sl ha h1 h2 fun x G1 e1 p => by
    obtain ⟨a, xs, rfl, h1, h2⟩ := dp_lst p
    exact c_newV (o := .lst (cutV xs lo hi)) (fun H eh Q h => .inl ⟨a, xs, rfl, ex_l eh h1, h⟩) fun p hp => dp_new_lst hp (cut_dp h2)
theorem c_slT {tl th : TO} {lo hi : Option Int} (ha : Cm (ta σ) G (MP.d K (.tuple ds))) (h1 : Cm (tl σ) G (MP.eq lo)) (h2 : Cm (th σ) G (MP.eq hi)) : Cm (tSl (rSlG K) ta tl th σ) G (MP.d K (.tuple (cutD ds lo hi))) :=
  c_sl ha h1 h2 fun x G1 e1 p => by
    obtain ⟨a, xs, rfl, h1, h2⟩ := dp_tup p
    intro H eh Q hq
    refine .inr ⟨a, xs, rfl, ex_t eh h1, fun hw => ?_, fun _ p' hp => ?_⟩
    · refine hq _ G1 H (Ex.refl H) (Nw.refl eh) ?_
      have e : cutD ds lo hi = ds := by
        unfold cutD
        rw [← DpAll.length h2, hw.1, hw.2, List.drop_zero, Nat.sub_zero, DpAll.length h2, List.take_length]
      rw [e]
      exact .tup h1 h2
    · exact hq _ _ _ (Ex.new hp) (Nw.new eh hp) (dp_new_tup (fresh_back eh hp) (cut_dp h2))
/-- isinstance -/
def tyD : PyData → String
  | .none => "NoneType"
  | .bool _ => "bool"
  | .int _ => "int"
  | .str _ => "str"
  | .list _ => "list"
  | .tuple _ => "tuple"
  | .dict _ => "dict"
theorem ty_of {x : V} {d : PyData} (h : Dp K G x d) : TyX K G x (.type (tyD d)) := by
  cases h with
  | non => exact .base .non
  | bl b => exact .base (.bl b)
  | int i => exact .base (.int i)
  | str s => exact .base (.str s)
  | lst h1 h2 =>
    rcases h1 with (h1 | ⟨o, h1⟩) | ⟨o, its, n, hk, hc, _⟩
    · exact .base (.lst h1)
    · exact .base (.frz h1)
    · exact .kList hk hc
  | tup h1 h2 =>
    rcases h1 with (h1 | ⟨o, h1⟩) | ⟨o, its, n, hk, hc, _⟩
    · exact .base (.tup h1)
    · exact .fTuple h1
    · exact .kTuple hk hc
theorem c_isi {T : String} {b : Bool} (ha : Cm (ta σ) G (MP.d K d)) (hk : kitB (tyD d) T = some b) : Cm (tCB (rIsiG K) (tCons ta (tCons (tC (.ty T)) tNil)) σ) G (MP.d K (.bool b)) :=
  c_cb2 (P2 := MP.eq (.ty T)) ha (c_c rfl) fun x y G1 e1 p q => by
    have hy : y = .ty T := q
    subst hy
    exact c_valN (z := .bl b) (fun H eh Q h => .inl ⟨x, _, _, _, b, rfl, .ty T, ty_of (Dp.up eh _ _ p), kit_ty hk, h⟩) (.bl _)
/-- tests and choices -/
theorem c_test {b : Bool} (h : Cm (te σ) G (MP.d K (.bool b))) : Cm (tTest te σ) G (MP.eq b) :=
  Cm.bind (t := te σ) (u := fun (x : V) (H : Hp) (Q : Bool → Hp → Prop) => ∃ k, x = .bl k ∧ Q k H) h fun x G1 e1 p => by
    rw [dp_bl p]
    exact fun H eh Q h => ⟨b, rfl, h b G1 H (Ex.refl H) (Nw.refl eh) rfl⟩
theorem c_tB {b : Bool} (h : Cm (te σ) G (MP.d K (.bool b))) : Cm (tB te σ) G (MP.eq b) := c_test h
theorem c_tand {a b : Bool} (h : Cm (tt σ) G (MP.eq a)) (k : a = true → Cm (tu σ) G (MP.eq b)) : Cm (tAnd tt tu σ) G (MP.eq (a && b)) :=
  Cm.bind (t := tt σ) (u := fun (c : Bool) (H : Hp) (Q : Bool → Hp → Prop) => if c = true then tu σ H Q else Q false H) h fun c G1 e1 p => by
    have e : c = a := p
    subst e
    cases c with
    | true => exact (k rfl).up e1
    | false => exact Cm.ret (P := MP.eq false) rfl
theorem c_tor {a b : Bool} (h : Cm (tt σ) G (MP.eq a)) (k : a = false → Cm (tu σ) G (MP.eq b)) : Cm (tOr tt tu σ) G (MP.eq (a || b)) :=
  Cm.bind (t := tt σ) (u := fun (c : Bool) (H : Hp) (Q : Bool → Hp → Prop) => if c = true then Q true H else tu σ H Q) h fun c G1 e1 p => by
    have e : c = a := p
    subst e
    cases c with
    | true => exact Cm.ret (P := MP.eq true) rfl
    | false => exact (k rfl).up e1
theorem c_tnot {a : Bool} (h : Cm (tt σ) G (MP.eq a)) : Cm (tNot tt σ) G (MP.eq (!a)) :=
  Cm.bind (t := tt σ) (u := fun (c : Bool) (H : Hp) (Q : Bool → Hp → Prop) => Q (!c) H) h fun c G1 e1 p => Cm.ret (by rw [show c = a from p])
theorem c_andV {a b : Bool} (h : Cm (ta σ) G (MP.d K (.bool a))) (k : a = true → Cm (tb σ) G (MP.d K (.bool b))) : Cm (tAndV ta tb σ) G (MP.d K (.bool (a && b))) :=
  Cm.bind (t := ta σ) (u := fun (x : V) (H : Hp) (Q : VK) => ∃ c, x = .bl c ∧ if c = true then tb σ H Q else Q (.bl false) H) h fun x G1 e1 p => by
    rw [dp_bl p]
    intro H eh Q hq
    refine ⟨a, rfl, ?_⟩
    cases a with
    | true => exact (k rfl).up e1 H eh Q hq
    | false => exact hq _ G1 H (Ex.refl H) (Nw.refl eh) (.bl false)
theorem c_orV {a b : Bool} (h : Cm (ta σ) G (MP.d K (.bool a))) (k : a = false → Cm (tb σ) G (MP.d K (.bool b))) : Cm (tOrV ta tb σ) G (MP.d K (.bool (a || b))) :=
  Cm.bind (t := ta σ) (u := fun (x : V) (H : Hp) (Q : VK) => ∃ c, x = .bl c ∧ if c = true then Q (.bl true) H else tb σ H Q) h fun x G1 e1 p => by
    rw [dp_bl p]
    intro H eh Q hq
    refine ⟨a, rfl, ?_⟩
    cases a with
    | true => exact hq _ G1 H (Ex.refl H) (Nw.refl eh) (.bl true)
    | false => exact (k rfl).up e1 H eh Q hq
theorem c_notV {a : Bool} (h : Cm (ta σ) G (MP.d K (.bool a))) : Cm (tNotV ta σ) G (MP.d K (.bool (!a))) :=
  Cm.bind (t := ta σ) (u := fun (x : V) (H : Hp) (Q : VK) => ∃ c, x = .bl c ∧ Q (.bl (!c)) H) h fun x G1 e1 p => by
    rw [dp_bl p]
    exact fun H eh Q hq => ⟨a, rfl, hq _ G1 H (Ex.refl H) (Nw.refl eh) (.bl _)⟩
theorem c_if {b : Bool} (h : Cm (tt σ) G (MP.eq b)) (h1 : b = true → Cm (ta σ) G P) (h2 : b = false → Cm (tb σ) G P) : Cm (tIf tt ta tb σ) G P :=
  Cm.bind (t := tt σ) (u := fun (c : Bool) (H : Hp) (Q : VK) => if c = true then ta σ H Q else tb σ H Q) h fun c G1 e1 p => by
    have e : c = b := p
    subst e
    cases c with
    | true => exact (h1 rfl).up e1
    | false => exact (h2 rfl).up e1
theorem c_to {t : Hp → VK → Prop} (h : Cm t G (MP.d K d)) (e : d = d') : Cm t G (MP.d K d') := by rw [← e]; exact h
theorem c_teq {α : Type} {a b : α} {t : Hp → (α → Hp → Prop) → Prop} (h : Cm t G (MP.eq a)) (e : a = b) : Cm t G (MP.eq b) := by rw [← e]; exact h
/-- a chained comparison of ints -/
theorem c_chainI {g g' : Int → Int → Bool} {tc : TE} {i j k : Int} (ha : Cm (ta σ) G (MP.d K (.int i))) (hb : Cm (tb σ) G (MP.d K (.int j))) (hc : Cm (tc σ) G (MP.d K (.int k))) :
    Cm (tChain (rI0 fun i j => .bl (g i j)) (rI0 fun i j => .bl (g' i j)) ta tb tc σ) G (MP.d K (.bool (g i j && g' j k))) :=
  Cm.bind (t := ta σ) (u := fun (x : V) (H : Hp) (Q : VK) => tb σ H fun y H2 => rI0 (fun i j => .bl (g i j)) x y H2 fun z H3 => ∃ k, z = .bl k ∧ (if k = true then tc σ H3 fun w' H4 => rI0 (fun i j => .bl (g' i j)) y w' H4 Q else Q (.bl false) H3)) ha fun x G1 e1 p1 =>
    Cm.bind (t := tb σ) (u := fun (y : V) (H : Hp) (Q : VK) => rI0 (fun i j => .bl (g i j)) x y H fun z H3 => ∃ k, z = .bl k ∧ (if k = true then tc σ H3 fun w' H4 => rI0 (fun i j => .bl (g' i j)) y w' H4 Q else Q (.bl false) H3)) (hb.up e1) fun y G2 e2 p2 => by
      rw [dp_int p1, dp_int p2]
      intro H eh Q hq
      refine ⟨i, j, rfl, rfl, g i j, rfl, ?_⟩
      cases hg : g i j with
      | false =>
        rw [hg] at hq
        exact hq _ G2 H (Ex.refl H) (Nw.refl eh) (.bl false)
      | true =>
        rw [hg] at hq
        refine (hc.up (e1.trans e2)) H eh _ fun w G3 H3 e3 n3 p3 => ?_
        rw [dp_int p3]
        exact ⟨j, k, rfl, rfl, hq _ G3 H3 e3 n3 (.bl _)⟩
end
end Ah
/-! Ah3: bodies of defs, promises of pure defs. -/
namespace Ah
open PySem PySem.Spec PyProof.Rows L2 Evl

/-- a body as a computation -/
def bd (t : TS) (σ : L2.St) : Hp → VK → Prop := fun H Q => t { nx := fun _ H' => Q .non H', rt := Q } σ H
section
variable {K : PySem.W.Frag} {σ : L2.St} {G : Hp} {te : TE} {tt : TT} {t u tr : TS} {P R : MP V} {v : V} {d e : PyData} {ds es : List PyData}
theorem b_ret (h : Cm (te σ) G P) : Cm (bd (tRet te) σ) G P := h
theorem b_retN (h : P.p .non G) : Cm (bd tRetN σ) G P := Cm.ret (a := V.non) h
theorem b_next (h : P.p .non G) : Cm (bd tNext σ) G P := Cm.ret (a := V.non) h
theorem b_asg {i : Nat} (h : Cm (te σ) G R) (k : ∀ v G1, Ex G G1 → R.p v G1 → Cm (bd tr (σ.set i (some v))) G1 P) : Cm (bd (tSeq (tAsg te (gName i)) tr) σ) G P :=
  Cm.bind (t := te σ) (u := fun (v : V) (H : Hp) (Q : VK) => tr { nx := fun _ H' => Q .non H', rt := Q } (σ.set i (some v)) H) h k
theorem b_drop (h : Cm (te σ) G R) (k : ∀ G1, Ex G G1 → Cm (bd tr σ) G1 P) : Cm (bd (tSeq (tDrop te) tr) σ) G P :=
  Cm.bind (t := te σ) (u := fun (v : V) (H : Hp) (Q : VK) => tr { nx := fun _ H' => Q .non H', rt := Q } σ H) h fun v G1 e1 p1 => k G1 e1
/-- if, and what follows -/
theorem b_ifL {b : Bool} (h : Cm (tt σ) G (MP.eq b)) (h1 : b = true → Cm (bd t σ) G P) (h2 : b = false → Cm (bd u σ) G P) : Cm (bd (tIfS tt t u) σ) G P :=
  Cm.bind (t := tt σ) (u := fun (c : Bool) (H : Hp) (Q : VK) => if c = true then t { nx := fun _ H' => Q .non H', rt := Q } σ H else u { nx := fun _ H' => Q .non H', rt := Q } σ H) h fun c G1 e1 p => by
    have e : c = b := p
    subst e
    cases c with
    | true => exact (h1 rfl).up e1
    | false => exact (h2 rfl).up e1
/-- if a: return ..; rest -/
theorem b_if {b : Bool} (h : Cm (tt σ) G (MP.eq b)) (h1 : b = true → Cm (bd (tSeq t tr) σ) G P) (h2 : b = false → Cm (bd (tSeq u tr) σ) G P) : Cm (bd (tSeq (tIfS tt t u) tr) σ) G P :=
  Cm.bind (t := tt σ) (u := fun (c : Bool) (H : Hp) (Q : VK) => if c = true then tSeq t tr { nx := fun _ H' => Q .non H', rt := Q } σ H else tSeq u tr { nx := fun _ H' => Q .non H', rt := Q } σ H) h fun c G1 e1 p => by
    have e : c = b := p
    subst e
    cases c with
    | true => exact (h1 rfl).up e1
    | false => exact (h2 rfl).up e1
theorem b_rets (h : Cm (te σ) G P) : Cm (bd (tSeq (tRet te) tr) σ) G P := h
theorem b_nexts (h : Cm (bd tr σ) G P) : Cm (bd (tSeq tNext tr) σ) G P := h
theorem b_seqA {t1 t2 t3 : TS} (h : Cm (bd (tSeq t1 (tSeq t2 t3)) σ) G P) : Cm (bd (tSeq (tSeq t1 t2) t3) σ) G P := h
/-- what a pure def promises: for each i, arguments as args i tells, a result as res i tells -/
def spOf {ι : Type} (args : ι → List (MP V)) (res : ι → MP V) : Sp := fun vs H Q _ => ∃ (i : ι) (G : Hp), Ex G H ∧ AllP vs (args i) G ∧
  ∀ v G' H', Ex H H' → Nw H G G' H' → (res i).p v G' → Q v H'
theorem spOf_len {ι : Type} {args : ι → List (MP V)} {res : ι → MP V} {n : Nat} (hn : ∀ i, (args i).length = n) : ∀ vs H Q E, spOf args res vs H Q E → vs.length = n := fun vs H Q E h => by
  obtain ⟨i, G, _, h, _⟩ := h
  rw [AllP.length h, hn i]
/-- it is kept by a body that computes so -/
theorem spOf_body {ι : Type} {args : ι → List (MP V)} {res : ι → MP V} {N : List Str} {vs : List V} {H : Hp} {Q : VK} {E : XK} (h : spOf args res vs H Q E)
    (k : ∀ i G, AllP vs (args i) G → Cm (bd t (start N vs)) G (res i)) : t { nx := fun _ H' => Q .non H', rt := Q } (start N vs) H := by
  obtain ⟨i, G, e, ha, q⟩ := h
  exact k i G ha H e Q q
/-- a call of it -/
theorem c_call {ι : Type} {args : ι → List (MP V)} {res : ι → MP V} {ta : TA} {E : XK} (i : ι) (h : Cm (ta σ) G (MP.args (args i))) : Cm (tCall (spOf args res) [] E ta σ) G (res i) :=
  Cm.bind (t := ta σ) (u := fun (vs : List V) (H : Hp) (Q : VK) => spOf args res (vs ++ []) H Q E) h fun vs G1 e1 p => fun H eh Q hq => ⟨i, G1, eh, by rw [List.append_nil]; exact p, hq⟩
end
/-- a def that may be called by its name -/
structure Cal (P : Program) (w : World) (K : PySem.W.Frag) (mg : Str → Option Value) (base : Heap) (CX : CXT) (k : Nat) (x : Str) (sp : Sp) : Prop where
  ex : ∃ (f : Addr) (fd : FuncData) (ps : List Str), FnOk P w K mg base CX k f fd ps sp ∧ mg x = some (.ref f) ∧ PySem.W.keepIn K (.ref f) = true ∧ Binds K fd ps []
section
variable {X : Cx} {k j : Nat} {x : Str} {sp : Sp} {p pos : Pos} {e : Expr} {es : List Expr} {t : TA}
theorem pe_cal (c : Cal X.prog X.w X.K X.mg X.base CX0 k x sp) (hr : Room j X.A) (hk : k ≤ j) (hg : Gl X x) (ha : PA X (e :: es) t)
    (hdb : (x == ("__debug__" : Str)) = false := by decide) (he : starEach (e :: es) X.env = (false, eval e X.env) :: starEach es X.env := by rfl) (hpl : (backTo pos (starEach es X.env)).any (·.1) = false := by rfl) :
    PE X (.Call (.Name x p) (e :: es) [] pos) (tCall sp [] E0 t) := by
  obtain ⟨f, fd, ps, F, hm, kp, b⟩ := c.ex
  exact pe_call F (hr.mono hk) hg hm kp b .nil pass0 ha hdb he hpl
theorem pe_cal0 (c : Cal X.prog X.w X.K X.mg X.base CX0 k x sp) (hr : Room j X.A) (hk : k ≤ j) (hg : Gl X x) (hdb : (x == ("__debug__" : Str)) = false := by decide) :
    PE X (.Call (.Name x p) [] [] pos) (tCall sp [] E0 tNil) := by
  obtain ⟨f, fd, ps, F, hm, kp, b⟩ := c.ex
  exact pe_call0 F (hr.mono hk) hg hm kp b .nil pass0 hdb
end
end Ah
/-! Ah4: the source of draws. -/
namespace Ah
open PySem PySem.Spec PyProof.Rows L2 Evl

/-- the addresses of the text's classes and constants -/
structure Ad where
  KEYS : Addr
  PARTS : Addr
  WORDS : Addr
  ROWS : Addr
  Book : Addr
  InvalidLine : Addr := 0
  InvalidRows : Addr := 0
  InvalidRule : Addr := 0
  InvalidWords : Addr := 0
  AheadError : Addr := 0
  InvalidDeed : Addr := 0
  InvalidDeeds : Addr := 0
  UnknownDeed : Addr := 0
  NotComparable : Addr := 0
  InvalidLimit : Addr := 0
  UnknownKind : Addr := 0
  Possible : Addr := 0
  Record : Addr := 0
  Board : Addr := 0
  Desk : Addr := 0
  DAYS : Addr := 0
  SWEEP : Addr := 0
  KINDS : Addr := 0
theorem hu65 {A : Around} {k : Nat} (hr : Room k A) : A.units + 65 < cLine := by
  have h := hr.un
  omega
/-! ### a list or a tuple walked -/
def iSeq (K : PySem.W.Frag) (tl : TE) : TI := fun σ H R => tl σ H fun x H1 => (∃ a, x = .ref a ∧ (∃ xs, SqL K H1 a xs) ∧ R (Itl K a) H1) ∨ (∃ a, x = .ref a ∧ (∃ xs, SqT K H1 a xs) ∧ R (Itt K a) H1)
theorem pi_seq {X : Cx} {tg l : Expr} {tl : TE} (hl : PE X l tl) : PI X tg l (iSeq X.K tl) := by
  refine ⟨fun pins s σ H R I h => thn (hl.run pins s σ H _ I h) fun v s1 ⟨x, H1, I1, r1, q1⟩ => ?_⟩
  rcases q1 with ⟨a, e, ⟨xs, hq⟩, q⟩ | ⟨a, e, ⟨xs, hq⟩, q⟩
  · subst e
    obtain rfl : v = Value.ref a := r1
    obtain ⟨its, rv, p, hz⟩ := I1.list hq
    exact wpAny_pyIter_list p.isList (pi_one (tk := s1.toks) I1 _ (turn_list a _) ⟨_, Heap.get?_push_size _ rfl, rfl, rfl⟩ q)
  · subst e
    obtain rfl : v = Value.ref a := r1
    obtain ⟨its, rv, p, hz⟩ := I1.tuple hq
    exact wpAny_pyIter_tuple (show s1.heap.IsTuple a its.toArray from p) (pi_one (tk := s1.toks) I1 _ (turn_tuple a _) ⟨_, Heap.get?_push_size _ rfl, rfl, rfl⟩ q)
/-! ### uses of readings -/
section
variable {K : PySem.W.Frag} {H : Hp} {Q : VK}
theorem u_ixL {p : Addr} {xs : List V} {i : Int} {v : V} (h : SqL K H p xs) (ha : atI xs i = some v) (q : Q v H) : rIx K (.ref p) (.int i) H Q := .inl ⟨p, xs, i, v, rfl, rfl, h, ha, q⟩
theorem u_ixT {p : Addr} {xs : List V} {i : Int} {v : V} (h : SqT K H p xs) (ha : atI xs i = some v) (q : Q v H) : rIx K (.ref p) (.int i) H Q := .inr (.inl ⟨p, xs, i, v, rfl, rfl, h, ha, q⟩)
theorem u_addI {i j : Int} (q : Q (.int (i + j)) H) : rAddG K (.int i) (.int j) H Q := .inl ⟨i, j, rfl, rfl, q⟩
theorem u_cat {a b : Addr} {xs ys : List V} (h1 : H a = some (.lst xs)) (h2 : H b = some (.lst ys)) (hl : xs.length + ys.length ≤ 100000) (q : ∀ p, H p = none → Q (.ref p) (upd H p (.lst (xs ++ ys)))) : rAddG K (.ref a) (.ref b) H Q :=
  .inr (.inr (.inl ⟨a, b, xs, ys, rfl, rfl, h1, h2, sz_of hl, q⟩))
end
structure Src (H : Hp) (h c : Addr) : Prop where
  ex : ∃ (s i : Int) (cells : List Int), H h = some (.lst [.int s, .ref c, .int i]) ∧ H c = some (.lst (cells.map V.int)) ∧ cells.length ≤ 63 ∧ 0 ≤ s ∧ s < 2147483647
/-- all but the source's two lists is as it was -/
def Fr (h c : Addr) (H H' : Hp) : Prop := ∀ b o, H b = some o → b ≠ h → b ≠ c → H' b = some o
theorem Fr.trans {h c : Addr} {H H1 H2 : Hp} (a : Fr h c H H1) (b : Fr h c H1 H2) : Fr h c H H2 := fun d o e h1 h2 => b d o (a d o e h1 h2) h1 h2
theorem Fr.refl {h c : Addr} {H : Hp} : Fr h c H H := fun _ _ e _ _ => e
theorem Fr.of {h c : Addr} {H H1 : Hp} (e : Ex H H1) : Fr h c H H1 := fun d o x _ _ => e d o x
theorem Fr.ex {h c : Addr} {G H H1 : Hp} (f : Fr h c H H1) (e : Ex G H) (gh : G h = none) (gc : G c = none) : Ex G H1 := fun b o x =>
  f b o (e b o x) (fun z => by rw [z, gh] at x; cases x) (fun z => by rw [z, gc] at x; cases x)
theorem Src.ne {H : Hp} {h c : Addr} (S : Src H h c) : h ≠ c := by
  obtain ⟨s, i, cells, h1, h2, _⟩ := S.ex
  refine ne_of h1 h2 fun z => ?_
  injection z with z
  match cells, z with
  | [], z => cases z
  | [_], z => cases z
  | a :: b :: r, z => injection z with _ z; injection z with z; cases z
theorem Src.ext {H H' : Hp} {h c : Addr} (S : Src H h c) (e : Ex H H') : Src H' h c := by
  obtain ⟨s, i, cells, h1, h2, h3⟩ := S.ex
  exact ⟨s, i, cells, e _ _ h1, e _ _ h2, h3⟩
theorem fmod_lt {a b : Int} (hb : 0 < b) : 0 ≤ a.fmod b ∧ a.fmod b < b := by
  rw [Int.fmod_eq_emod_of_nonneg a (by omega)]
  exact ⟨Int.emod_nonneg a (by omega), Int.emod_lt_of_pos a hb⟩
/-! ### _law_mix -/
def sp__law_mix (K : PySem.W.Frag) (w : World) (c : Ad) : Sp := fun vs H Q _ => ∃ (a : Addr) (ns : List Int) (seed : Int), vs = [.ref a, .int seed] ∧ SqL K H a (ns.map V.int) ∧ ns.length ≤ 63 ∧ 0 ≤ seed ∧ seed < 2147483647 ∧
  ∀ h d H', H h = none → H d = none → Same H H' → Src H' h d → Q (.ref h) H'
theorem len__law_mix {K : PySem.W.Frag} {w : World} {c : Ad} {vs : List V} {H : Hp} {Q : VK} {E : XK} (h : sp__law_mix K w c vs H Q E) : vs.length = 2 := by
  obtain ⟨a, ns, seed, rfl, _⟩ := h
  rfl
def t__law_mix (K : PySem.W.Frag) (w : World) (c : Ad) : TS :=
  (tSeq (tAsg (tVar 1) (gName 2))
    (tSeq (tFor (iSeq K (tVar 0)) (gName 3)
    (tAsg (tOp rModI (tCB rIntG (tCons (tOp (rAddG K) (tOp (rAddG K) (tOp rMulI (tVar 2) (tC (.int 48271))) (tOp rModI (tCB rIntG (tCons (tVar 3) tNil)) (tC (.int 2147483629)))) (tC (.int 1))) tNil)) (tC (.int 2147483647))) (gName 2)))
    (tRet (tLst (tCons (tVar 2) (tCons (tCB (rListG K) (tCons (tVar 0) tNil)) (tCons (tC (.int 0)) tNil)))))))
abbrev Dn (Q : VK) : Ends := { nx := fun _ H' => Q .non H', rt := Q }
theorem rd__law_mix {K : PySem.W.Frag} {w : World} {c : Ad} {vs : List V} {H : Hp} {Q : VK} {E : XK} (h : sp__law_mix K w c vs H Q E) : t__law_mix K w c (Dn Q) (vs.map some ++ List.replicate (4 - vs.length) none) H := by
  obtain ⟨a, ns, seed, rfl, hS, hl, h0, h1, k⟩ := h
  refine ⟨_, rfl, _, rfl, .inl ⟨a, rfl, ⟨_, hS⟩, ?_⟩⟩
  refine for_list (xs := ns.map V.int) (fun i σ H' => H' = H ∧ ∃ (s : Int) (x : Option V), σ = [some (.ref a), some (.int seed), some (.int s), x] ∧ 0 ≤ s ∧ s < 2147483647) ⟨rfl, seed, none, rfl, h0, h1⟩ ?_ ?_ ?_
  · rintro i σ H' _ ⟨rfl, _⟩
    exact hS
  · rintro i x σ H' hx ⟨rfl, s, y, rfl, g0, g1⟩
    obtain ⟨n, hn, rfl⟩ : ∃ n, ns[i]? = some n ∧ x = .int n := by
      rw [List.getElem?_map] at hx
      cases q : ns[i]? with
      | none => rw [q] at hx; cases hx
      | some n => rw [q] at hx; cases hx; exact ⟨n, rfl, rfl⟩
    refine ⟨_, rfl, _, _, rfl, rfl, .inr ⟨by decide, by decide⟩, _, rfl, .inl ⟨_, rfl, _, _, rfl, rfl, (by decide : (2147483629 : Int) ≠ 0), ?_⟩⟩
    refine u_addI (u_addI (.inl ⟨_, rfl, _, _, rfl, rfl, (by decide : (2147483647 : Int) ≠ 0), rfl, _, _, rfl, ?_, ?_⟩))
    · exact (fmod_lt (by decide)).1
    · exact (fmod_lt (by decide)).2
  · rintro σ H' ⟨rfl, s, y, rfl, g0, g1⟩
    refine ⟨_, rfl, _, rfl, a, _, rfl, .inl hS, fun d hd => ⟨by show 3 ≤ sizeLine; decide, fun p hp => ?_⟩⟩
    refine k p d _ (fresh_back (Ex.new hd) hp) hd ((Ex.new hd).trans (Ex.new hp)) ⟨s, 0, ns, upd_same, ?_, hl, g0, g1⟩
    rw [upd_ne (ne_of_none upd_same hp), upd_same]
/-! ### _law_next -/
def sp__law_next (K : PySem.W.Frag) (w : World) (c : Ad) : Sp := fun vs H Q _ => ∃ (h d : Addr) (cap : Int), vs = [.ref h, .int cap] ∧ Src H h d ∧ 0 < cap ∧ cap < 1000000000 ∧
  ∀ (r : Int) H', 0 ≤ r → r < cap → Src H' h d → Fr h d H H' → Q (.int r) H'
theorem len__law_next {K : PySem.W.Frag} {w : World} {c : Ad} {vs : List V} {H : Hp} {Q : VK} {E : XK} (h : sp__law_next K w c vs H Q E) : vs.length = 2 := by
  obtain ⟨a, ns, seed, rfl, _⟩ := h
  rfl
def t__law_next (K : PySem.W.Frag) (w : World) (c : Ad) : TS :=
  (tSeq (tAsg (tOp (rIx K) (tOp (rAddG K) (tOp (rIx K) (tVar 0) (tC (.int 1))) (tLst (tCons (tC (.int 0)) tNil))) (tOp rModI (tCB rIntG (tCons (tOp (rIx K) (tVar 0) (tC (.int 2))) tNil)) (tCB rMax2 (tCons (tC (.int 1)) (tCons (tCB (rLenG K) (tCons (tOp (rIx K) (tVar 0) (tC (.int 1))) tNil)) tNil))))) (gName 2))
    (tSeq (tIfS (tTest (tOp rGeI (tVar 2) (tOp rPowI (tC (.int 10)) (tC (.int 18))))) (tSeq (tAsg (tOp rDivI (tVar 2) (tVar 1)) (gSub (tOp (rIx K) (tVar 0) (tC (.int 1))) (tOp rModI (tCB rIntG (tCons (tOp (rIx K) (tVar 0) (tC (.int 2))) tNil)) (tCB (rLenG K) (tCons (tOp (rIx K) (tVar 0) (tC (.int 1))) tNil))) rSetL))
    (tRet (tOp rModI (tCB rIntG (tCons (tVar 2) tNil)) (tVar 1)))) tNext)
    (tSeq (tAsg (tOp rModI (tCB rIntG (tCons (tOp (rAddG K) (tOp (rAddG K) (tOp rMulI (tOp (rIx K) (tVar 0) (tC (.int 0))) (tC (.int 48271))) (tOp rMulI (tVar 2) (tC (.int 69621)))) (tC (.int 11))) tNil)) (tC (.int 2147483647))) (gSub (tVar 0) (tC (.int 0)) rSetL))
    (tSeq (tAsg (tOp (rAddG K) (tOp (rIx K) (tVar 0) (tC (.int 2))) (tC (.int 1))) (gSub (tVar 0) (tC (.int 2)) rSetL))
    (tRet (tOp rModI (tCB rIntG (tCons (tOp rDivI (tOp (rIx K) (tVar 0) (tC (.int 0))) (tC (.int 7))) tNil)) (tVar 1)))))))
theorem atI_of {α : Type} {xs : List α} {i : Int} {j : Nat} {v : α} (h0 : 0 ≤ i) (hj : i.toNat = j) (h : xs[j]? = some v) : atI xs i = some v := by
  have e : i = (j : Int) := by omega
  rw [e]
  exact atI_nat h
theorem set_ints {cells : List Int} {j : Nat} {z : Int} : (cells.map V.int).set j (.int z) = (cells.set j z).map V.int := (List.map_set).symm
theorem ixN_of {n : Nat} {i : Int} {j : Nat} (h : i = (j : Int)) (hj : j < n) : ixN n i = some j := by rw [h]; exact ixN_nat hj
theorem rd__law_next {K : PySem.W.Frag} {w : World} {c : Ad} {vs : List V} {H : Hp} {Q : VK} {E : XK} (h : sp__law_next K w c vs H Q E) : t__law_next K w c (Dn Q) (vs.map some ++ List.replicate (3 - vs.length) none) H := by
  obtain ⟨h, d, cap, rfl, S, c0, c1, k⟩ := h
  have hne := S.ne
  obtain ⟨s, i, cells, hh, hd, hl, s0, s1⟩ := id S.ex
  refine ⟨_, rfl, u_ixL (SqL.of hh) rfl ⟨by show 1 ≤ sizeLine; decide, fun p hp => ?_⟩⟩
  have e1 : Ex H (upd H p (.lst [.int 0])) := Ex.new hp
  refine u_cat (e1 _ _ hd) upd_same (by rw [List.length_map]; show _ + 1 ≤ _; omega) fun q hq => ?_
  generalize hH1 : upd (upd H p (.lst [.int 0])) q (.lst (cells.map V.int ++ [.int 0])) = H1
  have e2 : Ex H H1 := by rw [← hH1]; exact e1.trans (Ex.new hq)
  have hq1 : H1 q = some (.lst (cells.map V.int ++ [.int 0])) := by rw [← hH1, upd_same]
  refine ⟨_, rfl, u_ixL (SqL.of (e2 _ _ hh)) rfl (.inl ⟨_, rfl, _, rfl, u_ixL (SqL.of (e2 _ _ hh)) rfl ⟨_, (cells.map V.int).length, rfl, .inl ⟨_, SqL.of (e2 _ _ hd), rfl⟩, _, _, rfl, ?_⟩⟩)⟩
  rw [List.length_map]
  generalize hm : (if (cells.length : Int) > 1 then (cells.length : Int) else 1) = m
  have m0 : 0 < m := by rw [← hm]; split <;> omega
  have m1 : m ≤ cells.length + 1 ∧ (0 < cells.length → m = cells.length) := by rw [← hm]; split <;> omega
  refine ⟨_, _, rfl, rfl, by show m ≠ 0; omega, ?_⟩
  obtain ⟨j0, j1⟩ := fmod_lt (a := i) m0
  generalize hj : i.fmod m = j at j0 j1
  -- the cell
  obtain ⟨x, hx, hx2⟩ : ∃ x, (cells.map V.int ++ [V.int 0])[j.toNat]? = some (.int x) ∧ (1000000000000000000 ≤ x → j.toNat < cells.length) := by
    by_cases hc : j.toNat < cells.length
    · exact ⟨cells[j.toNat], by rw [List.getElem?_append_left (by rw [List.length_map]; exact hc), List.getElem?_map, List.getElem?_eq_getElem hc]; rfl, fun _ => hc⟩
    · have z : cells.length = 0 := by
        cases q : cells with
        | nil => rfl
        | cons a r =>
          have hc : ¬ j.toNat < cells.length := hc
          rw [q] at hc m1
          simp only [List.length_cons] at hc m1
          have := m1.2 (by omega)
          omega
      have z2 : cells = [] := List.eq_nil_of_length_eq_zero z
      subst z2
      have z3 : j.toNat = 0 := by
        have := m1.1
        simp only [List.length_nil] at this
        omega
      rw [z3]
      exact ⟨0, rfl, fun z => absurd z (by decide)⟩
  refine u_ixL (SqL.of hq1) (atI_of (by rw [hj]; exact j0) (by rw [hj]) hx) ?_
  refine ⟨_, rfl, _, _, rfl, rfl, ⟨by decide, by decide, by decide⟩, _, _, rfl, rfl, _, rfl, ?_⟩
  refine ite2 (fun hb => ?_) (fun hb => ?_)
  · have hb : 1000000000000000000 ≤ x := of_decide_eq_true hb
    have hj := hx2 hb
    refine ⟨_, rfl, _, rfl, _, _, rfl, rfl, ⟨by omega, by omega⟩, _, rfl, u_ixL (SqL.of (e2 _ _ hh)) rfl ?_⟩
    refine ⟨_, rfl, u_ixL (SqL.of (e2 _ _ hh)) rfl (.inl ⟨_, rfl, _, rfl, u_ixL (SqL.of (e2 _ _ hh)) rfl ⟨_, (cells.map V.int).length, rfl, .inl ⟨_, SqL.of (e2 _ _ hd), rfl⟩, ?_⟩⟩)⟩
    rw [List.length_map]
    have hm2 : m = cells.length := m1.2 (by omega)
    rw [← hm2]
    refine ⟨_, _, rfl, rfl, by show m ≠ 0; omega, ?_⟩
    have hi : i.fmod m = (j.toNat : Int) := by omega
    refine ⟨d, _, _, j.toNat, rfl, rfl, e2 _ _ hd, ixN_of hi (by rw [List.length_map]; exact hj), ?_⟩
    refine ⟨_, rfl, .inl ⟨_, rfl, _, rfl, _, _, rfl, rfl, by show cap ≠ 0; omega, ?_⟩⟩
    refine k _ _ (fmod_lt c0).1 (fmod_lt c0).2 ⟨s, i, cells.set j.toNat (x.fdiv cap), ?_, ?_, by rw [List.length_set]; exact hl, s0, s1⟩ fun b o hb h1 h2 => ?_
    · rw [upd_ne hne]; exact e2 _ _ hh
    · rw [upd_same, set_ints]
    · rw [upd_ne h2]; exact e2 _ _ hb
  · refine ⟨_, rfl, u_ixL (SqL.of (e2 _ _ hh)) rfl ⟨_, _, rfl, rfl, .inr ⟨by decide, by decide⟩, _, rfl, _, _, rfl, rfl, .inr ⟨by decide, by decide⟩, u_addI (u_addI (.inl ⟨_, rfl, _, _, rfl, rfl, (by decide : (2147483647 : Int) ≠ 0), ?_⟩))⟩⟩
    generalize hs : ((s * 48271 + x * 69621 + 11).fmod 2147483647) = s'
    have s2 : 0 ≤ s' ∧ s' < 2147483647 := by rw [← hs]; exact fmod_lt (by decide)
    refine ⟨_, rfl, h, _, 0, 0, rfl, rfl, e2 _ _ hh, rfl, ?_⟩
    refine ⟨_, rfl, u_ixL (SqL.of upd_same) rfl (u_addI ⟨_, rfl, h, _, 2, 2, rfl, rfl, upd_same, rfl, ?_⟩)⟩
    rw [upd_upd]
    refine ⟨_, rfl, u_ixL (SqL.of upd_same) rfl ⟨_, _, rfl, rfl, ⟨by decide, by decide⟩, .inl ⟨_, rfl, _, rfl, _, _, rfl, rfl, by show cap ≠ 0; omega, ?_⟩⟩⟩
    refine k _ _ (fmod_lt c0).1 (fmod_lt c0).2 ⟨s', i + 1, cells, by rw [upd_same, ← hs] <;> rfl, ?_, hl, s2.1, s2.2⟩ fun b o hb h1 h2 => ?_
    · rw [upd_ne (Ne.symm hne)]; exact e2 _ _ hd
    · rw [upd_ne h1]; exact e2 _ _ hb
/-! ### _law_pick -/
def sp__law_pick (K : PySem.W.Frag) (w : World) (c : Ad) : Sp := fun vs H Q _ => ∃ (h d a : Addr) (xs : List V) (G : Hp), vs = [.ref h, .ref a] ∧ Src H h d ∧ Ex G H ∧ G h = none ∧ G d = none ∧ SqL K G a xs ∧ 0 < xs.length ∧ xs.length ≤ 100000 ∧
  ∀ (v : V) H', v ∈ xs → Src H' h d → Fr h d H H' → Q v H'
theorem len__law_pick {K : PySem.W.Frag} {w : World} {c : Ad} {vs : List V} {H : Hp} {Q : VK} {E : XK} (h : sp__law_pick K w c vs H Q E) : vs.length = 2 := by
  obtain ⟨a, ns, seed, _, _, rfl, _⟩ := h
  rfl
def t__law_pick (K : PySem.W.Frag) (w : World) (c : Ad) : TS :=
  (tRet (tOp (rIx K) (tVar 1) (tCall (sp__law_next K w c) [] E0 (tCons (tVar 0) (tCons (tCB (rLenG K) (tCons (tVar 1) tNil)) tNil)))))
theorem rd__law_pick {K : PySem.W.Frag} {w : World} {c : Ad} {vs : List V} {H : Hp} {Q : VK} {E : XK} (h : sp__law_pick K w c vs H Q E) : t__law_pick K w c (Dn Q) (vs.map some ++ List.replicate (2 - vs.length) none) H := by
  obtain ⟨h, d, a, xs, G, rfl, S, e, gh, gd, hx, l0, l1, k⟩ := h
  refine ⟨_, rfl, _, rfl, _, rfl, _, xs.length, rfl, .inl ⟨_, ex_l e hx, rfl⟩, h, d, _, rfl, S, by omega, by omega, fun r H' r0 r1 S' f => ?_⟩
  have hr : r.toNat < xs.length := by omega
  exact u_ixL (ex_l (f.ex e gh gd) hx) (atI_of r0 rfl (List.getElem?_eq_getElem hr)) (k _ H' (List.getElem_mem hr) S' f)
end Ah
/-! Ah5: dicts of the written part, their keys texts. -/
namespace Ah
open PySem PySem.Spec PyProof.Rows L2 Evl

/-- the entries of a written dict -/
def EnL (P : Params) : List DictEntry → List (Str × V) → Prop
  | [], [] => True
  | e :: es, q :: r => (∃ t, e.key = .str q.1 t) ∧ e.hash = PyData.keyHash P q.1 ∧ RelV q.2 e.val ∧ EnL P es r
  | _, _ => False
structure KD (K : PySem.W.Frag) (w : World) (d : Addr) (kvs : List (Str × V)) : Prop where
  at_ : ∃ es n, K.lookup d = some ⟨.type "dict", none, .dict es n, #[]⟩ ∧ EnL w.params es.toList kvs
  low : (d == sysModules) = false
  nd : (kvs.map (·.1)).Nodup
  len : kvs.length ≤ 1000
def mixOf (kvs : List (Str × V)) : List (Key × V) := kvs.map fun q => (Sum.inr q.1, q.2)
theorem mixOf_len (kvs : List (Str × V)) : (mixOf kvs).length = kvs.length := List.length_map _
section
variable {P : Program} {w : World}
theorem enl_pairs : ∀ {es : List DictEntry} {kvs : List (Str × V)}, EnL w.params es kvs → ∃ vs : List (Key × Value), KV (mixOf kvs) vs ∧ Pairs (mixKind P w) es vs ∧ vs.map (·.1) = (kvs.map (·.1)).map Sum.inr ∧ ∀ e ∈ es, ∃ k, (mixKind P w).is k e.key = true ∧ e.hash = (mixKind P w).hash k
  | [], [], _ => ⟨[], .nil, .nil, rfl, fun _ h => nomatch h⟩
  | [], _ :: _, h => h.elim
  | _ :: _, [], h => h.elim
  | e :: es, q :: r, h => by
    obtain ⟨⟨t, h1⟩, h2, h3, h4⟩ := h
    obtain ⟨vs, g1, g2, g3, g4⟩ := enl_pairs h4
    have k1 : keyIs (Sum.inr q.1) e.key = true := by rw [h1]; exact keyIs_str _ _
    refine ⟨(Sum.inr q.1, e.val) :: vs, .cons ⟨rfl, h3⟩ g1, .cons k1 rfl g2, by rw [List.map_cons, List.map_cons, List.map_cons, g3], fun x hx => ?_⟩
    rcases List.mem_cons.mp hx with rfl | hx
    · exact ⟨Sum.inr q.1, k1, h2⟩
    · exact g4 x hx
/-- what stands at d in every heap that bears the written part -/
theorem KD.look {K : PySem.W.Frag} {d : Addr} {kvs : List (Str × V)} (D : KD K w d kvs) {h : Heap} (X : K.In h) : ∃ (o : Obj) (es : Array DictEntry) (n : Nat) (vs : List (Key × Value)), h.get? d = some o ∧ o.ExactDict ∧ o.data = .dict es n ∧ es.size = kvs.length ∧
    KV (mixOf kvs) vs ∧ h.DictAt (mixKind P w) d vs n := by
  obtain ⟨es, n, hl, he⟩ := D.at_
  obtain ⟨vs, g1, g2, g3, g4⟩ := enl_pairs (P := P) he
  have ho := X d _ hl
  refine ⟨_, es, n, vs, ho, ⟨rfl, rfl, rfl⟩, rfl, ?_, g1, ⟨_, es, ho, ⟨rfl, rfl, rfl⟩, rfl, fun e hm => g4 e (by simpa using hm), g2, ?_⟩⟩
  · have e1 := g2.length
    have e2 : (mixOf kvs).length = vs.length := Paired.length g1
    rw [mixOf_len] at e2
    rw [Array.length_toList] at e1
    omega
  · rw [g3]
    exact D.nd.map _ fun a b hne e => hne (Sum.inr.inj e)
end
section
variable {X : Cx} {pins : List (Addr × Obj)} {σ : L2.St} {H : Hp} {s : Shared} {d : Addr} {kvs : List (Str × V)}
theorem KD.inv (D : KD X.K X.w d kvs) (I : Inv X pins σ H s) : ∃ (o : Obj) (es : Array DictEntry) (n : Nat) (vs : List (Key × Value)), s.heap.get? d = some o ∧ o.ExactDict ∧ o.data = .dict es n ∧ es.size = kvs.length ∧
    KV (mixOf kvs) vs ∧ s.heap.DictAt (mixKind X.prog X.w) d vs n := D.look (P := X.prog) I.kIn
/-- the value at a key -/
theorem mix_find {x : Str} {v : V} : ∀ {kvs : List (Str × V)} {vs : List (Key × Value)}, KV (mixOf kvs) vs → kvs.lookup x = some v → ∃ u, valueAt vs (Sum.inr x) = some u ∧ RelV v u
  | [], _, _, h => by cases h
  | q :: r, _, h, e => by
    cases h with
    | @cons a b l1 l2 h1 h2 =>
      unfold valueAt
      rw [List.find?_cons]
      rw [List.lookup_cons] at e
      have e1 : b.1 = Sum.inr q.1 := h1.1.symm
      by_cases hx : x = q.1
      · subst hx
        rw [beq_self_eq_true] at e
        have e : q.2 = v := Option.some.inj e
        rw [e1, decide_eq_true rfl]
        exact ⟨b.2, rfl, by rw [← e]; exact h1.2⟩
      · rw [beq_eq_false_iff_ne.mpr hx] at e
        rw [e1, decide_eq_false fun z => hx (Sum.inr.inj z).symm]
        exact mix_find h2 e
theorem mix_none {x : Str} : ∀ {kvs : List (Str × V)} {vs : List (Key × Value)}, KV (mixOf kvs) vs → kvs.lookup x = none → valueAt vs (Sum.inr x) = none
  | [], _, h, _ => by cases h; rfl
  | q :: r, _, h, e => by
    cases h with
    | @cons a b l1 l2 h1 h2 =>
      unfold valueAt
      rw [List.find?_cons]
      rw [List.lookup_cons] at e
      have e1 : b.1 = Sum.inr q.1 := h1.1.symm
      by_cases hx : x = q.1
      · subst hx
        rw [beq_self_eq_true] at e
        cases e
      · rw [beq_eq_false_iff_ne.mpr hx] at e
        rw [e1, decide_eq_false fun z => hx (Sum.inr.inj z).symm]
        exact mix_none h2 e
theorem mix_some {x : Str} {kvs : List (Str × V)} {vs : List (Key × Value)} (h : KV (mixOf kvs) vs) : (valueAt vs (Sum.inr x)).isSome = (kvs.lookup x).isSome := by
  cases q : kvs.lookup x with
  | none => rw [mix_none h q] <;> rfl
  | some v =>
    obtain ⟨u, e, _⟩ := mix_find h q
    rw [e] <;> rfl
/-- d[x] -/
def rIxW (K : PySem.W.Frag) (w : World) : R2 := fun x y H Q => ∃ p z kvs v, x = .ref p ∧ y = .str z ∧ KD K w p kvs ∧ kvs.lookup z = some v ∧ Q v H
theorem ix_W : IxR X (rIxW X.K X.w) := by
  intro value slice pins s σ H x y v u Q I rx ry h hs
  obtain ⟨p, z, kvs, r, rfl, rfl, D, hz, q⟩ := h
  obtain rfl : v = Value.ref p := rx
  obtain ⟨t, rfl⟩ := ry
  obtain ⟨o, es, n, vs, ho, hx, hd, hn, hk, hat⟩ := D.inv I
  obtain ⟨u0, hu, ru⟩ := mix_find hk hz
  have hm := hat.dictOf.mapOf
  exact tail_any hm.typeIs slot_dict_getitem.lookup (wpAny_getItem_of (knd := mixKind X.prog X.w) (mixKind_str X.prog X.w z t) hm hu ⟨r, H, I.tok _, ru, q⟩) hs
/-- x in d -/
def rInW (K : PySem.W.Frag) (w : World) : R2 := fun x y H Q => ∃ p z kvs, x = .str z ∧ y = .ref p ∧ KD K w p kvs ∧ Q (.bl (kvs.lookup z).isSome) H
theorem op_inW : OpR X (compareOp .In) (rInW X.K X.w) := by
  intro pins s σ H x y v u Q I rx ry h
  obtain ⟨p, z, kvs, rfl, rfl, D, q⟩ := h
  obtain ⟨t, rfl⟩ := rx
  cases ry
  obtain ⟨o, es, n, vs, ho, hx, hd, hn, hk, hat⟩ := D.inv I
  refine wpAny_in_of (knd := mixKind X.prog X.w) (mixKind_str X.prog X.w z t) D.low hat.dictOf.mapOf ?_
  rw [mix_some hk]
  exact ⟨.bl _, H, I.tok _, rfl, q⟩
/-- len(d), list(d) -/
def rLenW (K : PySem.W.Frag) (w : World) : List V → Hp → VK → Prop := fun xs H Q => ∃ p kvs, xs = [.ref p] ∧ KD K w p kvs ∧ Q (.int kvs.length) H
theorem call_lenW : CallR X (.builtin "len") (rLenW X.K X.w) := by
  intro pins s σ H xs us Q I r h
  obtain ⟨p, kvs, rfl, D, q⟩ := h
  obtain ⟨u, rfl, ru⟩ := vals1 r
  cases ru
  obtain ⟨o, es, n, vs, ho, hx, hd, hn, hk, hat⟩ := D.inv I
  have e : kvs.length = vs.length := by
    rw [← mixOf_len kvs]
    exact Paired.length hk
  have hl := D.len
  refine call_len_dict D.low hat.dictOf (by omega) ?_
  rw [← e]
  exact ⟨.int kvs.length, H, I.tok _, ⟨_, rfl⟩, q⟩
def rListW (K : PySem.W.Frag) (w : World) : List V → Hp → VK → Prop := fun xs H Q => ∃ p kvs, xs = [.ref p] ∧ KD K w p kvs ∧ ∀ l, H l = none → Q (.ref l) (upd H l (.lst (kvs.map fun q => V.str q.1)))
theorem call_listW (hc : X.calm = true) : CallR X (.type "list") (rListW X.K X.w) := by
  intro pins s σ H xs us Q I r h
  obtain ⟨p, kvs, rfl, D, q⟩ := h
  obtain ⟨u, rfl, ru⟩ := vals1 r
  cases ru
  obtain ⟨o, es, n, vs, ho, hx, hd, hn, hk, hat⟩ := D.inv I
  have e : kvs.length = vs.length := by
    rw [← mixOf_len kvs]
    exact Paired.length hk
  have hl := D.len
  have hsz : kvs.length ≤ sizeLine := Nat.le_trans hl (by decide)
  refine PySem.W.kdl_call (PySem.W.kdl_dict (knd := mixKind X.prog X.w) (kvs := vs) (ep := n) D.low) (I.ok.hd hc) hat (by omega) fun h' tk acc c' hkeep hS hacc => ?_
  have rel : Vals (kvs.map fun q => V.str q.1) acc.toList := by
    refine vals_of_at (by
      have e9 : acc.toList.length = acc.size := by simp
      rw [List.length_map, e9, hacc.1]
      exact e) fun j x y hj1 hj2 => ?_
    obtain ⟨k, z, hz, hi⟩ := hacc.2 j y (by rw [← Array.getElem?_toList]; exact hj2)
    have e1 : (mixOf kvs).map (·.1) = vs.map (·.1) := KV.keys hk
    have e2 : ((mixOf kvs).map (·.1))[j]? = some k := by
      rw [e1, List.getElem?_map, hz] <;> rfl
    unfold mixOf at e2
    rw [List.map_map, List.getElem?_map] at e2
    rw [List.getElem?_map] at hj1
    cases hq : kvs[j]? with
    | none => rw [hq] at hj1; cases hj1
    | some q0 =>
      rw [hq] at hj1 e2
      cases hj1
      cases e2
      exact keyIs_rel (k := Sum.inr q0.1) hi
  refine ⟨.ref s.heap.objs.size, _, I.laid hkeep (Nat.le_refl _) (o := .lst (kvs.map fun q => V.str q.1)) ⟨by rw [List.length_map]; exact hsz, acc.toList, c', rel, by rw [Array.toArray_toList]; exact hS⟩, rfl, q _ (I.hok.fresh (Nat.le_refl _))⟩
end
/-! ### walks -/
/-- its keys; its pairs -/
def ItkW (kvs : List (Str × V)) : It := ⟨fun i _ => i < kvs.length, fun i H x H' => H' = H ∧ ∃ q, kvs[i]? = some q ∧ x = .str q.1, fun i _ => kvs.length ≤ i⟩
def ItiW (kvs : List (Str × V)) : It := ⟨fun i _ => i < kvs.length, fun i H x H' => ∃ T q, kvs[i]? = some q ∧ x = .ref T ∧ H T = none ∧ H' = upd H T (.tup [.str q.1, q.2]), fun i _ => kvs.length ≤ i⟩
def iKeysW (K : PySem.W.Frag) (w : World) (td : TE) : TI := fun σ H R => td σ H fun x H1 => ∃ d kvs, x = .ref d ∧ KD K w d kvs ∧ R (ItkW kvs) H1
def iItemsW (K : PySem.W.Frag) (w : World) (td : TE) : TI := fun σ H R => td σ H fun x H1 => ∃ d kvs, x = .ref d ∧ KD K w d kvs ∧ R (ItiW kvs) H1
theorem kv_at {kvs : List (Str × V)} {vs : List (Key × Value)} (h : KV (mixOf kvs) vs) {i : Nat} {q : Str × V} (e : kvs[i]? = some q) : ∃ u, vs[i]? = some (Sum.inr q.1, u) ∧ RelV q.2 u := by
  refine kv_get h (k := Sum.inr q.1) (v := q.2) ?_
  unfold mixOf
  rw [List.getElem?_map, e] <;> rfl
section
variable {P : Program} {w : World} {K : PySem.W.Frag} {d : Addr} {kvs : List (Str × V)}
theorem walk_keysW {tg : Expr} {n : Nat} (it : Addr) (D : KD K w d kvs) (hn : ∀ h, K.In h → ∃ o es, h.get? d = some o ∧ o.data = .dict es n) : Turn P w K tg (ItkW kvs) [it] it (fun i h => h.IsKeyIter it d i kvs.length n) where
  mem := List.mem_singleton.mpr rfl
  obj := fun i h st b hb => by
    obtain rfl := List.mem_singleton.mp hb
    obtain ⟨oi, e, c, dd⟩ := st
    exact ⟨oi, e, fun v z => by rw [dd] at z; cases z⟩
  keep := fun i h h' st k => st.at fun oi e => k it (List.mem_singleton.mpr rfl) oi e
  item := by
    intro X e1 e2 e3 calm i pins s σ H E I hf st hi
    subst e1 e2 e3
    have hi : i < kvs.length := hi
    obtain ⟨f0, f1, f2, f3, f4, f5⟩ := hf it (List.mem_singleton.mpr rfl)
    obtain ⟨o, es, m, vs, ho, hx, hd, hsz, hk, hat⟩ := D.inv I
    obtain ⟨o', es', ho', hd'⟩ := hn s.heap I.kIn
    rw [ho] at ho'
    cases ho'
    rw [hd] at hd'
    cases hd'
    obtain ⟨u, hu, ru⟩ := kv_at hk (List.getElem?_eq_getElem hi)
    have hl : kvs.length = vs.length := by rw [← mixOf_len kvs]; exact Paired.length hk
    rw [hl] at st
    refine wpAny_pyNext_dict_item st hat hu fun key h' hkey st' sb => ?_
    have I1 : Inv X pins σ H { s with heap := h' } := I.turned (t' := s.toks) (fun b ob hb e => (sb.2 b hb).trans e) f0 f1 f3 f4 f5
    obtain ⟨oi, e, c, dd⟩ := id st'
    have rk : RelV (.str kvs[i].1) key := relV_key (show keyIs (Sum.inr kvs[i].1) key = true from hkey)
    refine ⟨key, rfl, go_of (s := { s with heap := h' }) e c dd (by decide) ⟨_, H, I1, rk, ⟨rfl, kvs[i], List.getElem?_eq_getElem hi, rfl⟩, ?_, fun b hb => (hf b hb).1⟩⟩
    show h'.IsKeyIter it d (i + 1) kvs.length _
    rw [hl]
    exact st'
  done := by
    intro X e1 e2 e3 calm i pins s σ H E I hf st hi
    subst e1 e2 e3
    obtain ⟨f0, f1, f2, f3, f4, f5⟩ := hf it (List.mem_singleton.mpr rfl)
    obtain ⟨o, es, m, vs, ho, hx, hd, hsz, hk, hat⟩ := D.inv I
    obtain ⟨o', es', ho', hd'⟩ := hn s.heap I.kIn
    rw [ho] at ho'
    cases ho'
    rw [hd] at hd'
    cases hd'
    exact next_key_end (I.ok.hd calm) st ho hd hsz hi fun h' eb => ⟨rfl, I.turned (t' := s.toks) (fun b ob hb e => eb b ob hb e) f0 f1 f3 f4 f5⟩
  self := fun A i s Q E st h => wpAny_pyIter_keyiter st h
theorem walk_itemsW {elts : List Expr} {kk n : Nat} {tpos : Pos} (it : Addr) (D : KD K w d kvs) (hn : ∀ h, K.In h → ∃ o es, h.get? d = some o ∧ o.data = .dict es n) :
    Turn P w K (.Tuple elts kk tpos) (ItiW kvs) [it] it (fun i h => ∃ a b, IsItemIter h it d i kvs.length n a b) where
  mem := List.mem_singleton.mpr rfl
  obj := fun i h st b hb => by
    obtain rfl := List.mem_singleton.mp hb
    obtain ⟨x, y, e⟩ := st
    exact ⟨_, e, fun v z => nomatch z⟩
  keep := fun i h h' st k => let ⟨x, y, e⟩ := st; ⟨x, y, k it (List.mem_singleton.mpr rfl) _ e⟩
  item := by
    intro X e1 e2 e3 calm i pins s σ H E I hf st hi
    subst e1 e2 e3
    have hi : i < kvs.length := hi
    obtain ⟨o, es, m, vs, ho, hx, hd, hsz, hk, hat⟩ := D.inv I
    obtain ⟨o', es', ho', hd'⟩ := hn s.heap I.kIn
    rw [ho] at ho'
    cases ho'
    rw [hd] at hd'
    cases hd'
    obtain ⟨u, hu, ru⟩ := kv_at hk (List.getElem?_eq_getElem hi)
    have hl : kvs.length = vs.length := by rw [← mixOf_len kvs]; exact Paired.length hk
    obtain ⟨x, y, he⟩ := st
    rw [hl] at he
    have hlt : it < s.heap.objs.size := Heap.lt_size he
    refine wpAny_pyNext_items_item he hat hu fun key h' hkey hio hT hz hkp => ?_
    have rk : RelV (.str kvs[i].1) key := relV_key (show keyIs (Sum.inr kvs[i].1) key = true from hkey)
    refine ⟨_, rfl, wpAny_letOwnedTupleGo_items (s := { s with heap := h' }) hio fun h2 he' sb => ?_⟩
    have hT2 := (sb.2 _ (Nat.ne_of_gt hlt)).trans hT
    have fresh : ObjOk X.prog X.w (upd H s.heap.objs.size (.tup [.str kvs[i].1, kvs[i].2])) h2 s.heap.objs.size (.tup [.str kvs[i].1, kvs[i].2]) :=
      ⟨by show 2 ≤ sizeLine; decide, [key, u], .cons rk (.cons ru .nil), _, hT2, rfl, _, rfl⟩
    have I1 := I.turnedNew (t' := s.toks) (ch := [it]) (h' := h2) (fun b ob hb e => (sb.2 b (by simpa using hb)).trans (hkp b ob (by simpa using hb) e)) hf (Nat.le_refl _) fresh
    refine ⟨.ref s.heap.objs.size, _, I1, rfl, ⟨_, kvs[i], List.getElem?_eq_getElem hi, rfl, I.hok.fresh (Nat.le_refl _), rfl⟩, ⟨key, u, by rw [hl]; exact he'⟩, fun b hb => ?_⟩
    obtain rfl := List.mem_singleton.mp hb
    rw [upd_ne (Nat.ne_of_lt hlt)]
    exact (hf b hb).1
  done := by
    intro X e1 e2 e3 calm i pins s σ H E I hf st hi
    subst e1 e2 e3
    obtain ⟨f0, f1, f2, f3, f4, f5⟩ := hf it (List.mem_singleton.mpr rfl)
    obtain ⟨o, es, m, vs, ho, hx, hd, hsz, hk, hat⟩ := D.inv I
    obtain ⟨o', es', ho', hd'⟩ := hn s.heap I.kIn
    rw [ho] at ho'
    cases ho'
    rw [hd] at hd'
    cases hd'
    have hl : kvs.length = vs.length := by rw [← mixOf_len kvs]; exact Paired.length hk
    have hi : kvs.length ≤ i := hi
    obtain ⟨x, y, he⟩ := st
    rw [hl] at he
    exact wpAny_pyNext_items_end (I.ok.hd calm) he hat (List.getElem?_eq_none (by omega)) fun h' eb => ⟨rfl, I.turned (t' := s.toks) (fun b ob hb e => eb b ob hb e) f0 f1 f3 f4 f5⟩
  self := fun A i s Q E st h => let ⟨_, _, e⟩ := st; PySem.W.kcp_self e h
theorem KD.ep (D : KD K w d kvs) : ∃ n, ∀ h, K.In h → ∃ o es, h.get? d = some o ∧ o.data = .dict es n := by
  obtain ⟨es, n, hl, _⟩ := D.at_
  exact ⟨n, fun h X => ⟨_, es, X d _ hl, rfl⟩⟩
end
section
variable {X : Cx} {tg e : Expr} {td : TE} {apos cpos : Pos}
theorem pi_keysW (he : PE X e td) : PI X tg e (iKeysW X.K X.w td) := by
  refine ⟨fun pins s σ H R I h => thn (he.run pins s σ H _ I h) fun u s1 ⟨x, H1, I1, rx, d, kvs, ex, D, q⟩ => ?_⟩
  subst ex
  obtain rfl : u = Value.ref d := rx
  obtain ⟨o, es, n, vs, ho, hx, hd, hsz, hk, hat⟩ := D.inv I1
  obtain ⟨m, hm⟩ := D.ep
  obtain ⟨o', es', ho', hd'⟩ := hm s1.heap I1.kIn
  rw [ho] at ho'
  cases ho'
  rw [hd] at hd'
  cases hd'
  refine iter_keys D.low ho hx hd (pi_one (tk := s1.toks) I1 _ (walk_keysW _ D hm) ⟨_, Heap.get?_push_size _ rfl, rfl, ?_⟩ q)
  rw [hsz] <;> rfl
theorem pi_itemsW {elts : List Expr} {kk : Nat} {tpos : Pos} (he : PE X e td) (hbase : attributeBase e "items" X.env (eval e X.env) = eval e X.env := by rfl) (hline : (apos.endLine == cpos.line) = true := by rfl) :
    PI X (.Tuple elts kk tpos) (.Call (.Attribute e "items" apos) [] [] cpos) (iItemsW X.K X.w td) := by
  refine ⟨fun pins s σ H R I h => wpAny_Call_method (T := "dict") (id := "dict.items") hbase rfl hline F.plainAttrs_dict F.slot_dict_items F.type_dict_items (thn (he.run pins s σ H _ I h) fun u s1 ⟨x, H1, I1, rx, d, kvs, ex, D, q⟩ => ?_)⟩
  subst ex
  obtain rfl : u = Value.ref d := rx
  obtain ⟨o, es, n, vs, ho, hx, hd, hsz, hk, hat⟩ := D.inv I1
  obtain ⟨m, hm⟩ := D.ep
  obtain ⟨o', es', ho', hd'⟩ := hm s1.heap I1.kIn
  rw [ho] at ho'
  cases ho'
  rw [hd] at hd'
  cases hd'
  have hl : kvs.length = vs.length := by rw [← mixOf_len kvs]; exact Paired.length hk
  refine ⟨hat.dictOf.typeIs, hat.dictOf.mapOf.noDict, ?_⟩
  have I2 : Inv X pins σ H1 { s1 with heap := s1.heap.push { cls := .type "dict_items", data := .fields #[.ref d] } } := I1.kept (t' := s1.toks) fun b ob q => Heap.get?_push_of_some _ q
  have fin : wpAny (model X.prog X.w) X.A (pyIter (.ref s1.heap.objs.size)) (PIE X pins σ (.Tuple elts kk tpos) R) X.xe { s1 with heap := s1.heap.push { cls := .type "dict_items", data := .fields #[.ref d] } } := by
    refine wpAny_pyIter_items (d := d) (knd := mixKind X.prog X.w) ⟨_, Heap.get?_push_size _ rfl, rfl, rfl⟩ (hat.push _) (pi_one (tk := s1.toks) I2 _ (walk_itemsW _ D hm) ⟨.none, .none, ?_⟩ q)
    rw [hl]
    exact Heap.get?_push_size _ rfl
  show wpAny _ _ (callWith cpos (.builtin "dict.items") [.ref d] [] []) _ X.xe s1
  exact method_meetsIn F.slot_dict_items F.entry_dict_items rfl (PySem.evalArgs_none ⟨rfl, hat.dictOf.typeIs, F.args_dict_items_1 _, _, meets_dict_items (mixKind X.prog X.w) d D.low, ⟨vs, hat.dictOf⟩, fin⟩)
end
end Ah
/-! Ah6: rules, books as data; drawing them. -/
namespace Ah
open PySem PySem.Spec PyProof.Rows L2 Evl

/-! ### data -/
inductive Mis where
  | none | place | waits
  deriving DecidableEq
structure Rule where
  twice : Bool
  edStay : Bool
  fills : Bool
  joStay : Bool
  mis : Mis
  empty : Bool
  deriving DecidableEq
def Mis.s : Mis → Str
  | .none => "none" | .place => "place" | .waits => "waits"
def Rule.kvs (r : Rule) : List (Str × Str) := [("again", bif r.twice then "twice" else "skip"), ("editions", bif r.edStay then "stays" else "moves"), ("fill", bif r.fills then "fills" else "beside"),
  ("joined", bif r.joStay then "stays" else "moves"), ("missing", r.mis.s), ("swept", bif r.empty then "empty" else "all")]
/-- a dict from texts to texts -/
def kvD (l : List (Str × Str)) : List (Key × V) := l.map fun q => (Sum.inr q.1, .str q.2)
/-- keys: false a, true b; days: false 1, true 2 -/
def kS (k : Bool) : Str := bif k then "b" else "a"
def dI (d : Bool) : Int := bif d then 2 else 1
abbrev Row := Bool × Bool
def rowD (r : Row) : PyData := .tuple [.str (kS r.1), .int (dI r.2)]
structure Bk where
  rows : List Row
  rule : Rule
  join : Bool
  sweep : Bool
def Bk.ok (b : Bk) : Prop := b.rows.length = 1 ∨ b.rows.length = 2
def Bk.words (b : Bk) : List Str := (bif b.join then [("join" : Str)] else []) ++ (bif b.sweep then [("sweep" : Str)] else [])
def rowsD (b : Bk) : PyData := .tuple (b.rows.map rowD)
def wordsD (b : Bk) : PyData := .tuple (b.words.map PyData.str)
def partsL : List (List Str) := [["again", "skip", "twice"], ["editions", "moves", "stays"], ["fill", "beside", "fills"], ["joined", "moves", "stays"], ["missing", "none", "place", "waits"], ["swept", "all", "empty"]]
def partsD : PyData := .list (partsL.map fun l => .list (l.map PyData.str))
section
variable {K : PySem.W.Frag} {σ : L2.St} {G : Hp} {ta tb te : TE} {P P1 P2 : MP V} {d e : PyData} {ds es : List PyData}
/-- a tracked list of data -/
abbrev MP.l (K : PySem.W.Frag) (ds : List PyData) : MP V := ⟨fun v G => ∃ a xs, v = .ref a ∧ G a = some (.lst xs) ∧ DpAll K G xs ds, fun e h => let ⟨a, xs, h1, h2, h3⟩ := h; ⟨a, xs, h1, e _ _ h2, DpAll.up e _ _ h3⟩⟩
theorem l_d {t : Hp → VK → Prop} (h : Cm t G (MP.l K ds)) : Cm t G (MP.d K (.list ds)) := h.imp fun v G' _ p => by
  obtain ⟨a, xs, rfl, h2, h3⟩ := p
  exact .lst (SqL.of h2) h3
theorem c_lstl {t : TA} (h : Cm (t σ) G (MP.ds K ds)) (hl : ds.length ≤ 100000) : Cm (tLst t σ) G (MP.l K ds) :=
  Cm.bind (t := t σ) (u := fun (xs : List V) (H1 : Hp) (Q : V → Hp → Prop) => xs.length ≤ sizeLine ∧ ∀ p, H1 p = none → Q (V.ref p) (upd H1 p (.lst xs))) h fun xs G1 e1 p1 => c_and (sz hl p1) (c_new fun p hp => ⟨p, xs, rfl, upd_same, DpAll.up (Ex.new hp) _ _ p1⟩)
theorem c_addL (ha : Cm (ta σ) G (MP.l K ds)) (hb : Cm (tb σ) G (MP.l K es)) (hl : ds.length + es.length ≤ 100000) : Cm (tOp (rAddG K) ta tb σ) G (MP.l K (ds ++ es)) :=
  c_op ha hb fun x y G1 e1 p q => by
    obtain ⟨a, xs, rfl, h1, h2⟩ := p
    obtain ⟨b, ys, rfl, k1, k2⟩ := q
    exact c_newV (o := .lst (xs ++ ys)) (fun H eh Q h => u_cat (eh _ _ h1) (eh _ _ k1) (by rw [DpAll.length h2, DpAll.length k2]; exact hl) h) fun p hp => ⟨p, _, rfl, upd_same, DpAll.up (Ex.new hp) _ _ (DpAll.app h2 k2)⟩
theorem c_mono (h : Cm (te σ) G P) : Cm (te σ) G P := h
end
/-! ### _law_parts -/
abbrev sp__law_parts (K : PySem.W.Frag) (w : World) (c : Ad) : Sp := spOf (ι := Unit) (fun _ => []) (fun _ => MP.l K (partsL.map fun l => .list (l.map PyData.str)))
theorem len__law_parts {K : PySem.W.Frag} {w : World} {c : Ad} {vs : List V} {H : Hp} {Q : VK} {E : XK} (h : sp__law_parts K w c vs H Q E) : vs.length = 0 := spOf_len (fun _ => rfl) vs H Q E h
def t__law_parts (K : PySem.W.Frag) (w : World) (c : Ad) : TS :=
  (tSeq (tAsg (tLst (tCons (tLst (tCons (tC (.str "again")) (tCons (tC (.str "skip")) (tCons (tC (.str "twice")) tNil)))) (tCons (tLst (tCons (tC (.str "editions")) (tCons (tC (.str "moves")) (tCons (tC (.str "stays")) tNil)))) (tCons (tLst (tCons (tC (.str "fill")) (tCons (tC (.str "beside")) (tCons (tC (.str "fills")) tNil)))) tNil)))) (gName 0))
    (tRet (tOp (rAddG K) (tVar 0) (tLst (tCons (tLst (tCons (tC (.str "joined")) (tCons (tC (.str "moves")) (tCons (tC (.str "stays")) tNil)))) (tCons (tLst (tCons (tC (.str "missing")) (tCons (tC (.str "none")) (tCons (tC (.str "place")) (tCons (tC (.str "waits")) tNil))))) (tCons (tLst (tCons (tC (.str "swept")) (tCons (tC (.str "all")) (tCons (tC (.str "empty")) tNil)))) tNil)))))))
theorem c_strs3 {K : PySem.W.Frag} {σ : L2.St} {G : Hp} {a b c : Str} : Cm (tLst (tCons (tC (.str a)) (tCons (tC (.str b)) (tCons (tC (.str c)) tNil))) σ) G (MP.d K (.list [.str a, .str b, .str c])) :=
  c_lst (c_dcons c_str (c_dcons c_str (c_dcons c_str c_dnil))) (by show 3 ≤ 100000; decide)
theorem rd__law_parts {K : PySem.W.Frag} {w : World} {c : Ad} {vs : List V} {H : Hp} {Q : VK} {E : XK} (h : sp__law_parts K w c vs H Q E) : t__law_parts K w c (Dn Q) (vs.map some ++ List.replicate (1 - vs.length) none) H := by
  obtain ⟨_, G, e, ha, q⟩ := h
  cases ha
  refine (b_asg (R := MP.l K _) (c_lstl (c_dcons c_strs3 (c_dcons c_strs3 (c_dcons c_strs3 c_dnil))) (by show 3 ≤ 100000; decide)) fun v G1 e1 p1 => ?_ : Cm (bd (t__law_parts K w c) [none]) G (MP.l K (partsL.map fun l => .list (l.map PyData.str)))) H e Q q
  exact b_ret (c_addL (c_var (P := MP.l K _) rfl p1) (c_lstl (c_dcons c_strs3 (c_dcons (c_lst (c_dcons c_str (c_dcons c_str (c_dcons c_str (c_dcons c_str c_dnil)))) (by show 4 ≤ 100000; decide)) (c_dcons c_strs3 c_dnil))) (by show 3 ≤ 100000; decide)) (by show 6 ≤ 100000; decide))
end Ah
/-! Ah7: comprehensions over data; all, any. -/
namespace Ah
open PySem PySem.Spec PyProof.Rows L2 Evl

section
variable {K : PySem.W.Frag} {σ : L2.St} {G : Hp} {tl te : TE} {tt : TT} {g : TG} {ds : List PyData} {vs : List Nat}
/-- one turn of a comprehension over data: the target takes the item, the test says q, the element is f -/
def CTurn (K : PySem.W.Frag) (σ : L2.St) (vs : List Nat) (g : TG) (tt : TT) (te : TE) (q : Bool) (e : PyData) (v : V) (G1 : Hp) : Prop :=
  ∃ σ2, wipe σ2 vs = wipe σ vs ∧ (∀ H1, Ex G1 H1 → ∀ Q : L2.St → Hp → Prop, Q σ2 H1 → g v (wipe σ vs) H1 Q) ∧ Cm (tt σ2) G1 (MP.eq q) ∧ (q = true → Cm (te σ2) G1 (MP.d K e))
/-- the word of such a loop: the new list at D holds the data es -/
def CW (K : PySem.W.Frag) (H1 G1 : Hp) (D : Addr) (es : List PyData) (H' : Hp) : Prop :=
  ∃ (G' : Hp) (acc : List V), Ex H1 H' ∧ Nw H1 G1 G' H' ∧ G' D = none ∧ H' D = some (.lst acc) ∧ DpAll K G' acc es
theorem cw_start {H1 G1 : Hp} {D : Addr} (e : Ex G1 H1) (hD : H1 D = none) : CW K H1 G1 D [] (upd H1 D (.lst [])) :=
  ⟨G1, [], Ex.new hD, Nw.own e hD, fresh_back e hD, upd_same, .nil⟩
theorem cw_turn2 {H1 G1 H' : Hp} {D : Addr} {es : List PyData} {q : Bool} {d : PyData} {v : V} (hD : H1 D = none) (hl : es.length < 100000)
    (w : ∃ (G' : Hp) (acc : List V), Ex H1 H' ∧ Nw H1 G1 G' H' ∧ G' D = none ∧ H' D = some (.lst acc) ∧ DpAll K G' acc es ∧ CTurn K σ vs g tt te q d v G') : g v (wipe σ vs) H' fun σ2 H2 => wipe σ2 vs = wipe σ vs ∧ tt σ2 H2 fun b H3 =>
      if b = true then te σ2 H3 fun y H4 => ∃ acc, H4 D = some (.lst acc) ∧ acc.length < sizeLine ∧ CW K H1 G1 D (if q = true then es ++ [d] else es) (upd H4 D (.lst (acc ++ [y]))) else CW K H1 G1 D (if q = true then es ++ [d] else es) H3 := by
  obtain ⟨G', acc, e1, n1, gD, hD', ha, σ2, hw, hg, ct, ce⟩ := w
  refine hg H' n1.le _ ⟨hw, ct H' n1.le _ fun b G2 H2 e2 n2 p2 => ?_⟩
  have p2 : b = q := p2
  subst p2
  have gD2 : G2 D = none := n2.old D (by rw [hD']; exact fun z => nomatch z) gD
  cases b with
  | false =>
    rw [if_neg Bool.false_ne_true, if_neg Bool.false_ne_true]
    exact ⟨G2, acc, e1.trans e2, n1.trans e1 n2, gD2, e2 _ _ hD', DpAll.up n2.ex _ _ ha⟩
  | true =>
    rw [if_pos rfl, if_pos rfl]
    refine (ce rfl).up n2.ex H2 n2.le _ fun y G3 H3 e3 n3 p3 => ?_
    have h3 : H3 D = some (.lst acc) := e3 _ _ (e2 _ _ hD')
    have gD3 : G3 D = none := n3.old D (by rw [e2 _ _ hD']; exact fun z => nomatch z) gD2
    refine ⟨acc, h3, by rw [DpAll.length ha]; exact sz_lt hl, G3, acc ++ [y], Ex.mut ((e1.trans e2).trans e3) hD, ?_, gD3, upd_same, DpAll.app (DpAll.up (n2.ex.trans n3.ex) _ _ ha) (.cons p3 .nil)⟩
    have n4 := (n1.trans e1 n2).trans (e1.trans e2) n3
    exact ⟨n4.ex, Ex.mut n4.le gD3, n4.old⟩
theorem cw_turn {H1 G1 H' : Hp} {D : Addr} {es : List PyData} {q : Bool} {d : PyData} {v : V} (hD : H1 D = none) (w : CW K H1 G1 D es H') (hl : es.length < 100000)
    (ht : ∀ G', Ex G1 G' → CTurn K σ vs g tt te q d v G') : g v (wipe σ vs) H' fun σ2 H2 => wipe σ2 vs = wipe σ vs ∧ tt σ2 H2 fun b H3 =>
      if b = true then te σ2 H3 fun y H4 => ∃ acc, H4 D = some (.lst acc) ∧ acc.length < sizeLine ∧ CW K H1 G1 D (if q = true then es ++ [d] else es) (upd H4 D (.lst (acc ++ [y]))) else CW K H1 G1 D (if q = true then es ++ [d] else es) H3 := by
  obtain ⟨G', acc, e1, n1, gD, hD', ha⟩ := w
  exact cw_turn2 hD hl ⟨G', acc, e1, n1, gD, hD', ha, ht G' n1.ex⟩
theorem cw_end {H1 G1 H' : Hp} {D : Addr} {es : List PyData} (hD : H1 D = none) (g1 : G1 D = none) (w : CW K H1 G1 D es H') : ∃ G', Nw H1 G1 G' H' ∧ Ex H1 H' ∧ (MP.l K es).p (.ref D) G' := by
  obtain ⟨G', acc, e1, n1, gD, hD', ha⟩ := w
  refine ⟨upd G' D (.lst acc), ⟨n1.ex.trans (Ex.new gD), fun b o h => ?_, fun b hb hg => ?_⟩, e1, D, acc, rfl, upd_same, DpAll.up (Ex.new gD) _ _ ha⟩
  · by_cases hb : b = D
    · subst hb; rw [upd_same] at h; rw [hD', ← h]
    · rw [upd_ne hb] at h; exact n1.le b o h
  · rw [upd_ne (fun z => hb (by rw [z]; exact hD))]
    exact n1.old b hb hg
theorem snocRec {α : Type} {M : List α → Prop} (nil : M []) (snoc : ∀ l a, M l → M (l ++ [a])) (l : List α) : M l := by
  have h : ∀ r : List α, M r.reverse := fun r => by
    induction r with
    | nil => exact nil
    | cons a r ih => rw [List.reverse_cons]; exact snoc _ _ ih
  have e := h l.reverse
  rwa [List.reverse_reverse] at e
/-- what is made of the first i items -/
def picked (q : Nat → Bool) (f : Nat → PyData) (i : Nat) : List PyData := ((List.range i).filter q).map f
theorem picked_succ (q : Nat → Bool) (f : Nat → PyData) (i : Nat) : picked q f (i + 1) = if q i = true then picked q f i ++ [f i] else picked q f i := by
  unfold picked
  rw [List.range_succ, List.filter_append, List.map_append]
  cases h : q i with
  | true => rw [List.filter_cons, if_pos h, if_pos rfl] <;> rfl
  | false =>
    rw [List.filter_cons, if_neg (by rw [h]; exact Bool.false_ne_true), if_neg Bool.false_ne_true]
    exact List.append_nil _
theorem picked_len (q : Nat → Bool) (f : Nat → PyData) (i : Nat) : (picked q f i).length ≤ i := by
  unfold picked
  rw [List.length_map]
  have h := List.length_filter_le q (List.range i)
  rwa [List.length_range] at h
theorem picked_all (f : Nat → PyData) (q : Nat → Bool) : ∀ (ds : List PyData) (F : PyData → PyData) (t : PyData → Bool), (∀ i d, ds[i]? = some d → q i = t d ∧ (t d = true → f i = F d)) → picked q f ds.length = (ds.filter t).map F := by
  intro ds
  induction ds using snocRec with
  | nil => intro F t h; rfl
  | snoc l a ih =>
    intro F t h
    rw [List.length_append, List.length_singleton, picked_succ, List.filter_append, List.map_append, ih F t fun i d e => h i d (by rw [List.getElem?_append_left (List.getElem?_eq_some_iff.mp e).1]; exact e)]
    obtain ⟨h1, h2⟩ := h l.length a (by simp)
    rw [h1]
    cases ht : t a with
    | true => rw [if_pos rfl, h2 ht, List.filter_cons, if_pos ht] <;> rfl
    | false => rw [if_neg Bool.false_ne_true, List.filter_cons, if_neg (by rw [ht]; exact Bool.false_ne_true)]; simp
end
end Ah
namespace Ah
open PySem PySem.Spec PyProof.Rows L2 Evl
section
variable {K : PySem.W.Frag} {σ : L2.St} {G : Hp} {tl te : TE} {tt : TT} {g : TG} {ds : List PyData} {vs : List Nat} {t : PyData → Bool} {F : PyData → PyData}
theorem lc_end {H H1 H' : Hp} {G G1 : Hp} {D : Addr} {es : List PyData} {Q : VK} (n1 : Nw H G G1 H1) (e1 : Ex H H1) (hD : H1 D = none) (w : CW K H1 G1 D es H')
    (k : ∀ v G' H', Ex H H' → Nw H G G' H' → (MP.l K es).p v G' → Q v H') : Q (.ref D) H' := by
  obtain ⟨G', n2, e2, p⟩ := cw_end hD (fresh_back n1.le hD) w
  exact k _ G' H' (e1.trans e2) (n1.trans e1 n2) p
theorem c_lcL (hl : Cm (tl σ) G (MP.d K (.list ds))) (hn : ds.length ≤ 90000)
    (turn : ∀ v d G1, Ex G G1 → d ∈ ds → Dp K G1 v d → CTurn K σ vs g tt te (t d) (F d) v G1) : Cm (tLc (iSeq K tl) g tt te vs σ) G (MP.l K ((ds.filter t).map F)) := fun H e Q k =>
  hl H e _ fun x G1 H1 e1 n1 p1 => by
    obtain ⟨a, xs, rfl, h1, h2⟩ := dp_lst p1
    have hlen := DpAll.length h2
    refine .inl ⟨a, rfl, ⟨xs, ex_l n1.le h1⟩, fun D hD => ?_⟩
    refine lc_list (xs := xs) (fun i H' => CW K H1 G1 D (picked (fun i => t (ds.getD i .none)) (fun i => F (ds.getD i .none)) i) H') (cw_start n1.le hD) ?_ ?_ ?_
    · rintro i H' _ ⟨G', acc, _, n, _⟩
      exact ex_l (n.ex.trans n.le) h1
    · intro i x H' hx w
      obtain ⟨d, hd, pd⟩ := DpAll.at_ h2 hx
      have eg : ds.getD i .none = d := by rw [List.getD_eq_getElem?_getD, hd] <;> rfl
      rw [picked_succ, eg]
      have hi := (List.getElem?_eq_some_iff.mp hd).1
      refine cw_turn hD w (by have := picked_len (fun i => t (ds.getD i .none)) (fun i => F (ds.getD i .none)) i; omega) fun G' eG => ?_
      exact turn x d G' (n1.ex.trans eG) (List.mem_of_getElem? hd) (Dp.up eG _ _ pd)
    · intro H' w
      rw [hlen, picked_all _ _ ds F t fun i d e => by
        have eg : ds.getD i .none = d := by rw [List.getD_eq_getElem?_getD, e] <;> rfl
        exact ⟨congrArg t eg, fun _ => congrArg F eg⟩] at w
      exact lc_end n1 e1 hD w k
theorem c_lcT (hl : Cm (tl σ) G (MP.d K (.tuple ds))) (hn : ds.length ≤ 90000)
    (turn : ∀ v d G1, Ex G G1 → d ∈ ds → Dp K G1 v d → CTurn K σ vs g tt te (t d) (F d) v G1) : Cm (tLc (iSeq K tl) g tt te vs σ) G (MP.l K ((ds.filter t).map F)) := fun H e Q k =>
  hl H e _ fun x G1 H1 e1 n1 p1 => by
    obtain ⟨a, xs, rfl, h1, h2⟩ := dp_tup p1
    have hlen := DpAll.length h2
    refine .inr ⟨a, rfl, ⟨xs, ex_t n1.le h1⟩, fun D hD => ?_⟩
    refine lc_tup (xs := xs) (fun i H' => CW K H1 G1 D (picked (fun i => t (ds.getD i .none)) (fun i => F (ds.getD i .none)) i) H') (cw_start n1.le hD) ?_ ?_ ?_
    · rintro i H' _ ⟨G', acc, _, n, _⟩
      exact ex_t (n.ex.trans n.le) h1
    · intro i x H' hx w
      obtain ⟨d, hd, pd⟩ := DpAll.at_ h2 hx
      have eg : ds.getD i .none = d := by rw [List.getD_eq_getElem?_getD, hd] <;> rfl
      rw [picked_succ, eg]
      have hi := (List.getElem?_eq_some_iff.mp hd).1
      refine cw_turn hD w (by have := picked_len (fun i => t (ds.getD i .none)) (fun i => F (ds.getD i .none)) i; omega) fun G' eG => ?_
      exact turn x d G' (n1.ex.trans eG) (List.mem_of_getElem? hd) (Dp.up eG _ _ pd)
    · intro H' w
      rw [hlen, picked_all _ _ ds F t fun i d e => by
        have eg : ds.getD i .none = d := by rw [List.getD_eq_getElem?_getD, e] <;> rfl
        exact ⟨congrArg t eg, fun _ => congrArg F eg⟩] at w
      exact lc_end n1 e1 hD w k
/-- over range(n) -/
theorem c_lcR {ta : TA} {n : Nat} {t : Nat → Bool} {F : Nat → PyData} (ha : Cm (ta σ) G (MP.ds K [.int n])) (hn : n ≤ 90000)
    (turn : ∀ (i : Nat) G1, Ex G G1 → i < n → CTurn K σ vs g tt te (t i) (F i) (.int i) G1) : Cm (tLc (iRng1 ta) g tt te vs σ) G (MP.l K (((List.range n).filter t).map F)) := fun H e Q k =>
  ha H e _ fun xs G1 H1 e1 n1 p1 => by
    cases p1 with
    | cons pa pb =>
      cases pb
      rw [dp_int pa]
      refine ⟨n, rfl, by omega, by omega, fun D hD => ?_⟩
      have hn' : (n : Int).toNat = n := by omega
      rw [hn']
      refine lc_range (lo := 0) (n := n) (fun i H' => CW K H1 G1 D (picked t F i) H') (cw_start n1.le hD) (fun i H' hi w => ?_) fun H' w => lc_end n1 e1 hD w k
      have e0 : (0 : Int) + (i : Int) = (i : Int) := Int.zero_add _
      rw [picked_succ, e0]
      exact cw_turn hD w (by have := picked_len t F i; omega) fun G' eG => turn i G' (n1.ex.trans eG) hi
/-- the target one name -/
theorem ct_name {j : Nat} {q : Bool} {d : PyData} {v : V} {G1 : Hp} (hw : wipe ((wipe σ vs).set j (some v)) vs = wipe σ vs) (ht : Cm (tt ((wipe σ vs).set j (some v))) G1 (MP.eq q)) (he : q = true → Cm (te ((wipe σ vs).set j (some v))) G1 (MP.d K d)) :
    CTurn K σ vs (gName j) tt te q d v G1 := ⟨_, hw, fun H1 _ Q k => k, ht, he⟩
/-- the target a pair of names -/
theorem ct_pair {i j : Nat} {q : Bool} {d : PyData} {v x y : V} {G1 : Hp} {a : Addr} (hv : v = .ref a) (ha : SqT K G1 a [x, y]) (hw : wipe (((wipe σ vs).set i (some x)).set j (some y)) vs = wipe σ vs) (ht : Cm (tt (((wipe σ vs).set i (some x)).set j (some y))) G1 (MP.eq q))
    (he : q = true → Cm (te (((wipe σ vs).set i (some x)).set j (some y))) G1 (MP.d K d)) : CTurn K σ vs (gTup K 2 (gCons (gName i) (gCons (gName j) gNil))) tt te q d v G1 :=
  ⟨_, hw, fun H1 e Q k => ⟨a, [x, y], hv, ex_t e ha, rfl, _, _, rfl, _, _, rfl, rfl, k⟩, ht, he⟩
theorem c_yes : Cm (tYes σ) G (MP.eq true) := Cm.ret (P := MP.eq true) rfl
theorem filter_yes (ds : List PyData) : ds.filter (fun _ => true) = ds := List.filter_eq_self.mpr fun _ _ => rfl
/-- all(..), any(..) of truth values -/
theorem dps_bools : ∀ {bs : List Bool} {xs : List V} {G : Hp}, DpAll K G xs (bs.map PyData.bool) → xs = bs.map V.bl
  | [], _, _, h => by cases h; rfl
  | b :: bs, _, _, h => by
    cases h with
    | cons h1 h2 => rw [dp_bl h1, dps_bools h2] <;> rfl
theorem c_all {ta : TE} {bs : List Bool} (ha : Cm (ta σ) G (MP.l K (bs.map PyData.bool))) : Cm (tCB (rAll K) (tCons ta tNil) σ) G (MP.d K (.bool (bs.all id))) :=
  c_cb1 ha fun x G1 e1 p => by
    obtain ⟨a, xs, rfl, h1, h2⟩ := p
    rw [dps_bools h2] at h1
    exact c_valN (z := .bl (bs.all id)) (fun H eh Q h => ⟨a, bs, rfl, SqL.of (eh _ _ h1), h⟩) (.bl _)
theorem c_any {ta : TE} {bs : List Bool} (ha : Cm (ta σ) G (MP.l K (bs.map PyData.bool))) : Cm (tCB (rAny K) (tCons ta tNil) σ) G (MP.d K (.bool (bs.any id))) :=
  c_cb1 ha fun x G1 e1 p => by
    obtain ⟨a, xs, rfl, h1, h2⟩ := p
    rw [dps_bools h2] at h1
    exact c_valN (z := .bl (bs.any id)) (fun H eh Q h => ⟨a, bs, rfl, SqL.of (eh _ _ h1), h⟩) (.bl _)
end
end Ah
/-! Ah8: equality with dicts within; own ==. -/
namespace Ah
open PySem PySem.Spec PyProof.Rows L2 Evl

/-- two dicts of texts by texts -/
def kvEq (l m : List (Str × Str)) : Bool := l.length == m.length && l.all fun p => (m.lookup p.1).isSome && decide (l.lookup p.1 = m.lookup p.1)
theorem valV_kv (x : Str) : ∀ l : List (Str × Str), valV (kvD l) (Sum.inr x : Key) = (l.lookup x).map V.str
  | [] => rfl
  | q :: r => by
    have ih := valV_kv x r
    unfold valV at ih ⊢
    unfold kvD at ih ⊢
    rw [List.map_cons, List.find?_cons, List.lookup_cons]
    by_cases h : q.1 = x
    · subst h
      rw [decide_eq_true rfl, beq_self_eq_true] <;> rfl
    · rw [decide_eq_false fun z => h (Sum.inr.inj z), beq_eq_false_iff_ne.mpr fun z => h z.symm]
      exact ih
section
variable {X : Cx} {pins : List (Addr × Obj)} {σ : L2.St} {H : Hp} {s : Shared}
theorem tree_data {n : Nat} (hn : 64 ≤ n) (I : Inv X pins σ H s) {x y : V} {v u : Value} {d e : PyData} (hx : Dp X.K H x d) (hy : Dp X.K H y e) (rx : RelV x v) (ry : RelV y u) (sd : SeqAt.shaped d = true) (se : SeqAt.shaped e = true) : PySem.W.EqTree X.prog X.w s n v u (PyData.eqv d e) := by
  obtain ⟨as, r1⟩ := Dp.reads I d x v hx rx
  obtain ⟨bs, r2⟩ := Dp.reads I e y u hy ry
  exact .leaf fun A hu => SeqAt.eqAt_reads d e A s v u as bs r1 r2 (SeqAt.canLay_of_shaped sd) (SeqAt.canLay_of_shaped se) (SeqAt.room_of_shaped sd (by omega))
theorem relO_some {v : Option V} {u : Option Value} (r : RelO v u) : u.isSome = v.isSome := by
  cases v with
  | none => rw [r.none_of] <;> rfl
  | some x => obtain ⟨y, e, _⟩ := r.some_of; rw [e] <;> rfl
theorem lookup_at : ∀ {l : List (Str × Str)} {j : Nat} {q : Str × Str}, (l.map (·.1)).Nodup → l[j]? = some q → l.lookup q.1 = some q.2
  | [], _, _, _, e => by simp at e
  | a :: r, 0, q, _, e => by
    have e : a = q := by simpa using e
    subst e
    rw [List.lookup_cons, beq_self_eq_true]
  | a :: r, j + 1, q, hn, e => by
    have hn : (a.1 :: r.map (·.1)).Nodup := hn
    obtain ⟨h1, h2⟩ := List.nodup_cons.mp hn
    have e : r[j]? = some q := by simpa using e
    have hne : ¬ q.1 = a.1 := fun z => h1 (List.mem_map.mpr ⟨q, List.mem_of_getElem? e, z⟩)
    rw [List.lookup_cons, beq_eq_false_iff_ne.mpr hne]
    exact lookup_at h2 e
theorem all_kv {m : List (Str × Str)} {vb : List (Key × Value)} (rb : KV (kvD m) vb) (f : Str → Bool) : ∀ {k : List (Str × Str)} {va : List (Key × Value)}, KV (kvD k) va →
    (va.all fun p => (valueAt vb p.1).isSome && (match p.1 with | .inr x => f x | .inl _ => false)) = k.all fun p => (m.lookup p.1).isSome && f p.1
  | [], _, h => by cases h; rfl
  | q :: r, _, h => by
    cases h with
    | @cons a b l1 l2 h1 h2 =>
      obtain ⟨bk, bv⟩ := b
      obtain ⟨h3, h4⟩ := h1
      have h3 : Sum.inr q.1 = bk := h3
      subst h3
      rw [List.all_cons, List.all_cons, all_kv (k := r) rb f h2, relO_some (rb.val (Sum.inr q.1)), valV_kv, Option.isSome_map]
theorem tree_dict (I : Inv X pins σ H s) {a b : Addr} {l m : List (Str × Str)} (ha : H a = some (.dK (kvD l))) (hb : H b = some (.dK (kvD m))) (hab : a ≠ b) (hl : (l.map (·.1)).Nodup) : PySem.W.EqTree X.prog X.w s 65 (.ref a) (.ref b) (kvEq l m) := by
  obtain ⟨_, ya, va, ra, da⟩ := (show ObjOk X.prog X.w H s.heap a (.dK (kvD l)) from I.hok a _ ha)
  obtain ⟨_, yb, vb, rb, db⟩ := (show ObjOk X.prog X.w H s.heap b (.dK (kvD m)) from I.hok b _ hb)
  have t := PySem.W.EqTree.dicts (n := 64) (e := fun k => match k with | .inr x => decide (l.lookup x = m.lookup x) | .inl _ => false) hab ya yb da db fun k v y hm hv => by
    obtain ⟨j, hj⟩ := List.getElem?_of_mem hm
    obtain ⟨z, hz, rz⟩ := KV.at' ra hj
    unfold kvD at hz
    rw [List.getElem?_map] at hz
    cases hq : l[j]? with
    | none => rw [hq] at hz; cases hz
    | some q =>
      rw [hq] at hz
      have hz : (Sum.inr q.1, V.str q.2) = (k, z) := Option.some.inj hz
      cases hz
      have e1 : l.lookup q.1 = some q.2 := by
        exact lookup_at hl hq
      have r2 : RelO (valV (kvD m) (Sum.inr q.1)) (some y) := by rw [← hv]; exact rb.val _
      rw [valV_kv] at r2
      cases e2 : m.lookup q.1 with
      | none => rw [e2] at r2; exact r2.elim
      | some w =>
        rw [e2] at r2
        obtain ⟨t1, rfl⟩ := (show ∃ t, v = Value.str q.2 t from rz)
        obtain ⟨t2, rfl⟩ := (show ∃ t, y = Value.str w t from r2)
        show PySem.W.EqTree X.prog X.w s 64 _ _ (decide (l.lookup q.1 = m.lookup q.1))
        rw [e1, e2]
        refine .leaf fun A hu prog' w' E' Q' hq' => wpAny_eqBool_str ?_
        have e3 : decide (some q.2 = some w) = decide (q.2 = w) := by simp
        rw [e3] at hq'
        exact hq'
  have e : (va.length == vb.length && va.all fun p => (valueAt vb p.1).isSome && (match p.1 with | .inr x => decide (l.lookup x = m.lookup x) | .inl _ => false)) = kvEq l m := by
    have h1 : (kvD l).length = va.length := Paired.length ra
    have h2 : (kvD m).length = vb.length := Paired.length rb
    unfold kvEq
    rw [all_kv rb _ ra, ← h1, ← h2]
    unfold kvD
    rw [List.length_map, List.length_map]
  rw [← e]
  exact t
theorem kvEq_self {l : List (Str × Str)} (hl : (l.map (·.1)).Nodup) : kvEq l l = true := by
  unfold kvEq
  rw [beq_self_eq_true, Bool.true_and]
  refine List.all_eq_true.mpr fun q hq => ?_
  obtain ⟨j, hj⟩ := List.getElem?_of_mem hq
  rw [lookup_at hl hj, decide_eq_true rfl] <;> rfl
end
/-- (data, dict, data) == (data, dict, data) -/
def rEq3 (K : PySem.W.Frag) : R2 := fun x y H Q => ∃ (a b p q : Addr) (r1 w1 r2 w2 : V) (dr dw er ew : PyData) (l m : List (Str × Str)), x = .ref a ∧ y = .ref b ∧ SqT K H a [r1, .ref p, w1] ∧ SqT K H b [r2, .ref q, w2] ∧
  (Dp K H r1 dr ∧ Dp K H w1 dw ∧ Dp K H r2 er ∧ Dp K H w2 ew) ∧ (SeqAt.shaped dr = true ∧ SeqAt.shaped dw = true ∧ SeqAt.shaped er = true ∧ SeqAt.shaped ew = true) ∧
  H p = some (.dK (kvD l)) ∧ H q = some (.dK (kvD m)) ∧ (l.map (·.1)).Nodup ∧ Q (.bl (PyData.eqv dr er && (kvEq l m && PyData.eqv dw ew))) H
theorem kvD_inj : ∀ {l m : List (Str × Str)}, kvD l = kvD m → l = m
  | [], [], _ => rfl
  | [], _ :: _, h => nomatch h
  | _ :: _, [], h => nomatch h
  | a :: r, b :: t, h => by
    have h : (Sum.inr a.1, V.str a.2) :: kvD r = (Sum.inr b.1, V.str b.2) :: kvD t := h
    injection h with h1 h2
    obtain ⟨a1, a2⟩ := a
    obtain ⟨b1, b2⟩ := b
    simp only [Prod.mk.injEq, Sum.inr.injEq, V.str.injEq] at h1
    rw [h1.1, h1.2, kvD_inj h2]
theorem op_eq3 {X : Cx} (hu : X.A.units + 66 < cLine) : OpR X (compareOp .Eq) (rEq3 X.K) := by
  intro pins s σ H x y v u Q I rx ry h
  obtain ⟨a, b, p, q, r1, w1, r2, w2, dr, dw, er, ew, l, m, rfl, rfl, ha, hb, ⟨h1, h2, h3, h4⟩, ⟨s1, s2, s3, s4⟩, hp, hq, hn, k⟩ := h
  obtain rfl : v = Value.ref a := rx
  obtain rfl : u = Value.ref b := ry
  obtain ⟨us, rv, ta, _⟩ := I.tuple ha
  obtain ⟨ws, rw', tb, _⟩ := I.tuple hb
  cases rv with
  | cons v1 rv => cases rv with
    | cons v2 rv => cases rv with
      | cons v3 rv =>
        cases rv
        cases rw' with
        | cons u1 rw' => cases rw' with
          | cons u2 rw' => cases rw' with
            | cons u3 rw' =>
              cases rw'
              rename_i y1 y2 y3 z1 z2 z3
              obtain rfl : y2 = Value.ref p := v2
              obtain rfl : z2 = Value.ref q := u2
              have t2 : PySem.W.EqTree X.prog X.w s 65 (.ref p) (.ref q) (kvEq l m) := by
                by_cases e : p = q
                · subst e
                  rw [hp] at hq
                  have e2 : l = m := kvD_inj (by injection hq with hq; injection hq)
                  subst e2
                  rw [kvEq_self hn]
                  exact .same
                · exact tree_dict I hp hq e hn
              have t1 := (tree_data (n := 65) (by decide) I h1 h3 v1 u1 s1 s3)
              have t3 := (tree_data (n := 65) (by decide) I h2 h4 v3 u3 s2 s4)
              refine PySem.W.eq_tuplesT (n := 65) (e := fun j => match j with | 0 => PyData.eqv dr er | 1 => kvEq l m | _ => PyData.eqv dw ew) ta tb (fun j g1 g2 => ?_) (by omega) (fin_bl I k ?_)
              · match j, g1, g2 with
                | 0, _, _ => exact t1
                | 1, _, _ => exact t2
                | 2, _, _ => exact t3
                | j + 3, g1, _ => exact absurd g1 (by simp)
              · show (PyData.eqv dr er && (kvEq l m && PyData.eqv dw ew)) = ((PyData.eqv dr er && (kvEq l m && (PyData.eqv dw ew && true))) && true)
                rw [Bool.and_true, Bool.and_true]
/-! ### an own == -/
def rEqO (K : PySem.W.Frag) (C : Addr) (sp : Sp) : R2 := fun x y H Q => ∃ a dx fs b, x = .ref a ∧ y = .ref b ∧ H a = some (.ins C dx fs) ∧ ((∃ dy gs, H b = some (.ins C dy gs)) ∨ ∃ xs, H b = some (.lst xs)) ∧ sp [.ref a, .ref b] H (fun v H' => (∃ k, v = .bl k) ∧ Q v H') E0
theorem op_own {X : Cx} {CX : CXT} {n : Nat} {C f : Addr} {fd : FuncData} {ps : List Str} {sp : Sp} (F : FnOk X.prog X.w X.K X.mg X.base CX n f fd ps sp) (hr : Room n X.A) (hs : PySem.W.findIn X.K (.ref C) "__eq__" = some (some (.ref f))) (hf : PySem.W.isFn X.K (.ref f) = true)
    (hl : PySem.W.notFirst X.K C (.type "list") = true) (hb : Binds X.K fd ps []) (hx : Passes CX X E0) : OpR X (compareOp .Eq) (rEqO X.K C sp) := by
  intro pins s σ H x y v u Q I rx ry h
  obtain ⟨a, dx, fs, b, rfl, rfl, ha, hb', hsp⟩ := h
  obtain rfl : v = Value.ref a := rx
  obtain rfl : u = Value.ref b := ry
  obtain ⟨mA, J, _⟩ := ins_get I.hok ha
  obtain ⟨od, J, _⟩ := J.look
  obtain ⟨m, hF⟩ := I.fr
  have goal : wpAny (model X.prog X.w) X.A (call (.ref f) [.ref a, .ref b]) (PySem.W.CmpBack (EP X pins σ Q)) X.xe s := by
    have l2 := F.len _ _ _ _ hsp
    have r2 : Vals [V.ref a, V.ref b] [Value.ref a, Value.ref b] := .cons rfl (.cons rfl .nil)
    have z := run_fn (Q := fun v H' => (∃ k, v = .bl k) ∧ Q v H') F hr hb .nil hx I r2 (by rw [List.append_nil]; exact hsp)
    refine thn z fun u s' ⟨v', H', I', rv, ⟨k, hk⟩, q⟩ => ?_
    subst hk
    obtain rfl : u = Value.bool k := rv
    exact ⟨.bl k, H', I', rfl, q⟩
  show wpAny (model X.prog X.w) X.A (richCompare .Eq (.ref a) (.ref b)) (EP X pins σ Q) X.xe s
  rcases hb' with ⟨dy, gs, hb'⟩ | ⟨xs, hb'⟩
  · obtain ⟨mB, J', _⟩ := ins_get I.hok hb'
    obtain ⟨od', J', _⟩ := J'.look
    exact PySem.W.cmp_K (op := .Eq) (tb := .ref C) hr.units0 hF I.ok.mod.kin J J'.type (by simp [PySem.W.notFirst]) hs hf goal
  · obtain ⟨_, its, n', _, e⟩ := (show ObjOk X.prog X.w H s.heap b (.lst xs) from I.hok b _ hb')
    exact PySem.W.cmp_K (op := .Eq) (tb := .type "list") hr.units0 hF I.ok.mod.kin J ((PySem.W.Looks.ld e).andThen .now) hl hs hf goal
end Ah
/-! Ah9: dicts of texts as data; classes made by their names. -/
namespace Ah
open PySem PySem.Spec PyProof.Rows L2 Evl

section
variable {K : PySem.W.Frag} {w : World} {σ : L2.St} {G : Hp} {td tk te : TE} {P P1 P2 : MP V} {l : List (Str × Str)} {x y : Str}
/-- a dict of texts by texts -/
abbrev MP.dk (l : List (Str × Str)) : MP V := ⟨fun v G => ∃ p, v = .ref p ∧ G p = some (.dK (kvD l)), fun e h => let ⟨p, h1, h2⟩ := h; ⟨p, h1, e _ _ h2⟩⟩
/-- a written dict -/
abbrev MP.kd (K : PySem.W.Frag) (w : World) (kvs : List (Str × V)) : MP V := ⟨fun v _ => ∃ p, v = .ref p ∧ KD K w p kvs, fun _ h => h⟩
theorem c_dget (h1 : Cm (td σ) G (MP.dk l)) (h2 : Cm (tk σ) G (MP.d K (.str x))) (hl : l.lookup x = some y) : Cm (tDGet td tk σ) G (MP.d K (.str y)) :=
  Cm.bind (t := td σ) (u := fun (x : V) (H1 : Hp) (Q : VK) => tk σ H1 fun y H2 => ∃ a v, x = .ref a ∧ DGet H2 a y (some v) ∧ Q v H2) h1 fun v G1 e1 p1 =>
    Cm.bind (t := tk σ) (u := fun (y : V) (H2 : Hp) (Q : VK) => ∃ a z, v = .ref a ∧ DGet H2 a y (some z) ∧ Q z H2) (h2.up e1) fun u G2 e2 p2 => by
      obtain ⟨p, rfl, hp⟩ := p1
      rw [dp_str p2]
      intro H eh Q hq
      have hd := DGet.k (k := Sum.inr x) (eh _ _ (e2 _ _ hp))
      rw [valV_kv, hl] at hd
      exact ⟨p, .str y, rfl, hd, hq _ G2 H (Ex.refl H) (Nw.refl eh) (.str y)⟩
theorem c_din {b : Bool} (h1 : Cm (tk σ) G (MP.d K (.str x))) (h2 : Cm (td σ) G (MP.dk l)) (hl : (l.lookup x).isSome = b) : Cm (tDIn tk td σ) G (MP.d K (.bool b)) :=
  Cm.bind (t := tk σ) (u := fun (y : V) (H1 : Hp) (Q : VK) => td σ H1 fun x H2 => ∃ a o, x = .ref a ∧ DGet H2 a y o ∧ Q (.bl o.isSome) H2) h1 fun v G1 e1 p1 =>
    Cm.bind (t := td σ) (u := fun (x : V) (H2 : Hp) (Q : VK) => ∃ a o, x = .ref a ∧ DGet H2 a v o ∧ Q (.bl o.isSome) H2) (h2.up e1) fun u G2 e2 p2 => by
      obtain ⟨p, rfl, hp⟩ := p2
      rw [dp_str p1]
      intro H eh Q hq
      have hd := DGet.k (k := Sum.inr x) (eh _ _ hp)
      rw [valV_kv] at hd
      refine ⟨p, _, rfl, hd, ?_⟩
      rw [Option.isSome_map, hl]
      exact hq _ G2 H (Ex.refl H) (Nw.refl eh) (.bl b)
/-- of written dicts -/
theorem c_ixW {kvs : List (Str × V)} {v : V} (h1 : Cm (td σ) G (MP.kd K w kvs)) (h2 : Cm (tk σ) G (MP.d K (.str x))) (hl : kvs.lookup x = some v) (hp : ∀ G', Ex G G' → P.p v G') : Cm (tOp (rIxW K w) td tk σ) G P :=
  c_op h1 h2 fun a b G1 e1 p q => by
    obtain ⟨p, rfl, D⟩ := p
    rw [dp_str q]
    exact c_val (z := v) (fun H eh Q h => ⟨p, x, kvs, v, rfl, rfl, D, hl, h⟩) (hp G1 e1)
theorem c_inW {kvs : List (Str × V)} {b : Bool} (h1 : Cm (tk σ) G (MP.d K (.str x))) (h2 : Cm (td σ) G (MP.kd K w kvs)) (hl : (kvs.lookup x).isSome = b) : Cm (tOp (rInW K w) tk td σ) G (MP.d K (.bool b)) :=
  c_op h1 h2 fun a c G1 e1 ps q => by
    obtain ⟨p, rfl, D⟩ := q
    rw [dp_str ps]
    refine c_val (z := .bl b) (fun H eh Q h => ⟨p, x, kvs, rfl, rfl, D, ?_⟩) (.bl b)
    rw [hl]
    exact h
theorem c_lenW {kvs : List (Str × V)} (h1 : Cm (td σ) G (MP.kd K w kvs)) : Cm (tCB (rLenW K w) (tCons td tNil) σ) G (MP.d K (.int kvs.length)) :=
  c_cb1 h1 fun x G1 e1 p => by
    obtain ⟨p, rfl, D⟩ := p
    exact c_valN (z := .int kvs.length) (fun H eh Q h => ⟨p, kvs, rfl, D, h⟩) (.int _)
theorem dps_str : ∀ (xs : List Str) (G : Hp), DpAll K G (xs.map V.str) (xs.map PyData.str)
  | [], _ => .nil
  | x :: xs, G => .cons (.str x) (dps_str xs G)
theorem c_listW {kvs : List (Str × V)} (h1 : Cm (td σ) G (MP.kd K w kvs)) : Cm (tCB (rListW K w) (tCons td tNil) σ) G (MP.l K ((kvs.map (·.1)).map PyData.str)) :=
  c_cb1 h1 fun x G1 e1 p => by
    obtain ⟨p, rfl, D⟩ := p
    refine c_newV (o := .lst (kvs.map fun q => V.str q.1)) (fun H eh Q h => ⟨p, kvs, rfl, D, h⟩) fun p hp => ⟨p, _, rfl, upd_same, ?_⟩
    have z := dps_str (K := K) (kvs.map (·.1)) (upd G1 p (.lst (kvs.map fun q => V.str q.1)))
    rwa [List.map_map] at z
/-- len(d) -/
def rLenD : List V → Hp → VK → Prop := fun xs H Q => ∃ a kvs, xs = [V.ref a] ∧ H a = some (.dK kvs) ∧ Q (.int kvs.length) H
theorem c_lenD (h1 : Cm (td σ) G (MP.dk l)) : Cm (tCB rLenD (tCons td tNil) σ) G (MP.d K (.int l.length)) :=
  c_cb1 h1 fun x G1 e1 p => by
    obtain ⟨p, rfl, hp⟩ := p
    refine c_valN (z := .int (kvD l).length) (fun H eh Q h => ⟨p, _, rfl, eh _ _ hp, h⟩) ?_
    unfold kvD
    rw [List.length_map]
    exact .int _
end
theorem call_lenK {X : Cx} : CallR X (.builtin "len") rLenD := call_lenD
/-! ### classes made by name -/
structure Mak (P : Program) (w : World) (K : PySem.W.Frag) (mg : Str → Option Value) (base : Heap) (CX : CXT) (k : Nat) (x : Str) (C : Addr) (sp : Sp) : Prop where
  ex : ∃ (f : Addr) (fd : FuncData) (ps : List Str), Mk K C f ∧ FnOk P w K mg base CX k f fd ps sp ∧ mg x = some (.ref C) ∧ Binds K fd ps []
theorem pe_mak {X : Cx} {k j : Nat} {x : Str} {C : Addr} {sp : Sp} {p pos : Pos} {e : Expr} {es : List Expr} {t : TA} (c : Mak X.prog X.w X.K X.mg X.base CX0 k x C sp) (hr : Room j X.A) (hk : k + 1 ≤ j) (hg : Gl X x) (ha : PA X (e :: es) t)
    (hdb : (x == ("__debug__" : Str)) = false := by decide) (he : starEach (e :: es) X.env = (false, eval e X.env) :: starEach es X.env := by rfl) (hpl : (backTo pos (starEach es X.env)).any (·.1) = false := by rfl) :
    PE X (.Call (.Name x p) (e :: es) [] pos) (tMake C sp [] E0 t) := by
  obtain ⟨f, fd, ps, M, F, hm, b⟩ := c.ex
  exact pe_make M F (hr.mono hk) hg hm b .nil pass0 ha hdb he hpl
end Ah
/-! Ah10: what a book asks of its rows, rule and words. -/
namespace Ah
open PySem PySem.Spec PyProof.Rows L2 Evl

def kvParts : List (Str × List Str) := [("again", ["skip", "twice"]), ("editions", ["moves", "stays"]), ("fill", ["beside", "fills"]), ("joined", ["moves", "stays"]), ("missing", ["none", "place", "waits"]), ("swept", ["all", "empty"])]
def kvRows : List (Str × Row) := [("a1", (false, false)), ("a2", (false, true)), ("b1", (true, false)), ("b2", (true, true))]
/-- what the top has written -/
structure Ax (K : PySem.W.Frag) (w : World) (c : Ad) : Prop where
  keys : ∀ G, Dp K G (.ref c.KEYS) (.tuple [.str "a", .str "b"])
  wds : ∀ G, Dp K G (.ref c.WORDS) (.tuple [.str "join", .str "sweep"])
  parts : ∃ vs : List V, KD K w c.PARTS ((kvParts.map (·.1)).zip vs) ∧ vs.length = 6 ∧ ∀ G, DpAll K G vs (kvParts.map fun q => .tuple (q.2.map PyData.str))
  cl : Cls K c.Book
  nW : NoAttr K c.Book "wanted"
  nT : NoAttr K c.Book "terms"
  nK : NoAttr K c.Book "kinds"

/-! ### words, integers, editions -/
def isStrD : PyData → Bool
  | .str _ => true
  | _ => false
def isIntD : PyData → Bool
  | .int _ => true
  | .bool _ => true
  | _ => false
def isBoolD : PyData → Bool
  | .bool _ => true
  | _ => false
def isTupD : PyData → Bool
  | .tuple _ => true
  | _ => false
def isListD : PyData → Bool
  | .list _ => true
  | _ => false
theorem kit_str (d : PyData) : kitB (tyD d) "str" = some (isStrD d) := match d with
  | .none => (by decide +kernel : kitB "NoneType" "str" = some false)
  | .bool _ => (by decide +kernel : kitB "bool" "str" = some false)
  | .int _ => (by decide +kernel : kitB "int" "str" = some false)
  | .str _ => (by decide +kernel : kitB "str" "str" = some true)
  | .list _ => (by decide +kernel : kitB "list" "str" = some false)
  | .tuple _ => (by decide +kernel : kitB "tuple" "str" = some false)
  | .dict _ => (by decide +kernel : kitB "dict" "str" = some false)
theorem kit_int (d : PyData) : kitB (tyD d) "int" = some (isIntD d) := match d with
  | .none => (by decide +kernel : kitB "NoneType" "int" = some false)
  | .bool _ => (by decide +kernel : kitB "bool" "int" = some true)
  | .int _ => (by decide +kernel : kitB "int" "int" = some true)
  | .str _ => (by decide +kernel : kitB "str" "int" = some false)
  | .list _ => (by decide +kernel : kitB "list" "int" = some false)
  | .tuple _ => (by decide +kernel : kitB "tuple" "int" = some false)
  | .dict _ => (by decide +kernel : kitB "dict" "int" = some false)
theorem kit_bool (d : PyData) : kitB (tyD d) "bool" = some (isBoolD d) := match d with
  | .none => (by decide +kernel : kitB "NoneType" "bool" = some false)
  | .bool _ => (by decide +kernel : kitB "bool" "bool" = some true)
  | .int _ => (by decide +kernel : kitB "int" "bool" = some false)
  | .str _ => (by decide +kernel : kitB "str" "bool" = some false)
  | .list _ => (by decide +kernel : kitB "list" "bool" = some false)
  | .tuple _ => (by decide +kernel : kitB "tuple" "bool" = some false)
  | .dict _ => (by decide +kernel : kitB "dict" "bool" = some false)
theorem kit_tup (d : PyData) : kitB (tyD d) "tuple" = some (isTupD d) := match d with
  | .none => (by decide +kernel : kitB "NoneType" "tuple" = some false)
  | .bool _ => (by decide +kernel : kitB "bool" "tuple" = some false)
  | .int _ => (by decide +kernel : kitB "int" "tuple" = some false)
  | .str _ => (by decide +kernel : kitB "str" "tuple" = some false)
  | .list _ => (by decide +kernel : kitB "list" "tuple" = some false)
  | .tuple _ => (by decide +kernel : kitB "tuple" "tuple" = some true)
  | .dict _ => (by decide +kernel : kitB "dict" "tuple" = some false)
theorem kit_list (d : PyData) : kitB (tyD d) "list" = some (isListD d) := match d with
  | .none => (by decide +kernel : kitB "NoneType" "list" = some false)
  | .bool _ => (by decide +kernel : kitB "bool" "list" = some false)
  | .int _ => (by decide +kernel : kitB "int" "list" = some false)
  | .str _ => (by decide +kernel : kitB "str" "list" = some false)
  | .list _ => (by decide +kernel : kitB "list" "list" = some true)
  | .tuple _ => (by decide +kernel : kitB "tuple" "list" = some false)
  | .dict _ => (by decide +kernel : kitB "dict" "list" = some false)
/-- d is one of some words -/
def isWordD (d : PyData) (ws : List Str) : Bool := match d with
  | .str s => ws.any fun x => x == s
  | _ => false
def isIntIn (d : PyData) (lo hi : Int) : Bool := match d with
  | .int i => decide (lo ≤ i) && decide (i ≤ hi)
  | _ => false
def isEdD (d : PyData) (least : Int) : Bool := match d with
  | .tuple [x, y] => isWordD x ["a", "b"] && isIntIn y least 2
  | _ => false
/-- a text that may be compared -/
def okS : PyData → Prop
  | .str s => SeqAt.shaped (.str s) = true
  | _ => True
structure WordIn where
  d : PyData
  ws : List Str
  tup : Bool
  ok : okS d
  shp : SeqAt.shaped (.list (ws.map PyData.str)) = true
section
variable {K : PySem.W.Frag} {w : World} {c : Ad} {σ : L2.St} {G : Hp}
abbrev MP.strs (K : PySem.W.Frag) (ws : List Str) (tup : Bool) : MP V := MP.d K (if tup then .tuple (ws.map PyData.str) else .list (ws.map PyData.str))
abbrev sp_is_word (K : PySem.W.Frag) (w : World) (c : Ad) : Sp := spOf (ι := WordIn) (fun i => [MP.d K i.d, MP.strs K i.ws i.tup]) (fun i => MP.d K (.bool (isWordD i.d i.ws)))
theorem len_is_word {vs : List V} {H : Hp} {Q : VK} {E : XK} (h : sp_is_word K w c vs H Q E) : vs.length = 2 := spOf_len (by intro i; rfl) vs H Q E h
def t_is_word (K : PySem.W.Frag) (w : World) (c : Ad) : TS :=
  (tRet (tAndV (tCB (rIsiG K) (tCons (tVar 0) (tCons (tC (.ty "str")) tNil))) (tOp (rInG K false) (tVar 0) (tVar 1))))
theorem any_word (ws : List Str) (s : Str) : ((ws.map PyData.str).any fun z => PyData.eqv z (.str s)) = ws.any fun x => x == s := by
  rw [List.any_map]
  rfl
theorem rd_is_word {vs : List V} {H : Hp} {Q : VK} {E : XK} (h : sp_is_word K w c vs H Q E) : t_is_word K w c (Dn Q) (vs.map some ++ List.replicate (2 - vs.length) none) H := by
  obtain ⟨⟨d, ws, tup, ok, shp⟩, G, e, ha, q⟩ := h
  cases ha with
  | cons p1 ha => cases ha with
    | cons p2 ha =>
      cases ha
      rename_i x y
      have h1 : Cm (tVar 0 [some x, some y]) G (MP.d K d) := c_var rfl p1
      have key : Cm (bd (t_is_word K w c) [some x, some y]) G (MP.d K (.bool (isWordD d ws))) := by
        refine b_ret ?_
        cases d with
        | str s =>
          refine c_to (c_andV (b := ws.any fun x => x == s) (c_isi h1 (kit_str _)) fun _ => ?_) (by rfl)
          cases tup with
          | true => exact c_to (c_inT h1 (c_var (P := MP.d K (.tuple (ws.map PyData.str))) rfl p2) ok shp) (by rw [if_neg Bool.false_ne_true, any_word])
          | false => exact c_to (c_inL h1 (c_var (P := MP.d K (.list (ws.map PyData.str))) rfl p2) ok shp) (by rw [if_neg Bool.false_ne_true, any_word])
        | _ => exact c_to (c_andV (b := false) (c_isi h1 (kit_str _)) fun z => absurd z Bool.false_ne_true) rfl
      exact key H e Q q
abbrev sp_is_integer (K : PySem.W.Frag) (w : World) (c : Ad) : Sp := spOf (ι := PyData × Int × Int) (fun i => [MP.d K i.1, MP.d K (.int i.2.1), MP.d K (.int i.2.2)]) (fun i => MP.d K (.bool (isIntIn i.1 i.2.1 i.2.2)))
theorem len_is_integer {vs : List V} {H : Hp} {Q : VK} {E : XK} (h : sp_is_integer K w c vs H Q E) : vs.length = 3 := spOf_len (by intro i; rfl) vs H Q E h
def t_is_integer (K : PySem.W.Frag) (w : World) (c : Ad) : TS :=
  (tRet (tAndV (tCB (rIsiG K) (tCons (tVar 0) (tCons (tC (.ty "int")) tNil))) (tAndV (tNotV (tCB (rIsiG K) (tCons (tVar 0) (tCons (tC (.ty "bool")) tNil)))) (tChain rLeI rLeI (tVar 1) (tVar 0) (tVar 2)))))
theorem rd_is_integer {vs : List V} {H : Hp} {Q : VK} {E : XK} (h : sp_is_integer K w c vs H Q E) : t_is_integer K w c (Dn Q) (vs.map some ++ List.replicate (3 - vs.length) none) H := by
  obtain ⟨⟨d, lo, hi⟩, G, e, ha, q⟩ := h
  cases ha with
  | cons p1 ha => cases ha with
    | cons p2 ha => cases ha with
      | cons p3 ha =>
        cases ha
        rename_i x y z
        have h1 : Cm (tVar 0 [some x, some y, some z]) G (MP.d K d) := c_var rfl p1
        have key : Cm (bd (t_is_integer K w c) [some x, some y, some z]) G (MP.d K (.bool (isIntIn d lo hi))) := by
          refine b_ret ?_
          cases d with
          | int i =>
            refine c_to (c_andV (b := decide (lo ≤ i) && decide (i ≤ hi)) (c_isi h1 (kit_int _)) fun _ => c_to (c_andV (b := decide (lo ≤ i) && decide (i ≤ hi)) (c_notV (c_isi h1 (kit_bool _))) fun _ => ?_) rfl) rfl
            exact c_chainI (g := fun i j => decide (i ≤ j)) (g' := fun i j => decide (i ≤ j)) (c_var (P := MP.d K (.int lo)) rfl p2) h1 (c_var (P := MP.d K (.int hi)) rfl p3)
          | bool b => exact c_to (c_andV (b := false) (c_isi h1 (kit_int _)) fun _ => c_to (c_andV (b := false) (c_notV (c_isi h1 (kit_bool _))) fun z => absurd z Bool.false_ne_true) rfl) rfl
          | _ => exact c_to (c_andV (b := false) (c_isi h1 (kit_int _)) fun z => absurd z Bool.false_ne_true) rfl
        exact key H e Q q
structure EdIn where
  d : PyData
  least : Int
  ok : ∀ x y, d = .tuple [x, y] → okS x
theorem shp_keys : SeqAt.shaped (.list ([("a" : Str), "b"].map PyData.str)) = true := by decide +kernel
abbrev sp_is_edition (K : PySem.W.Frag) (w : World) (c : Ad) : Sp := spOf (ι := EdIn) (fun i => [MP.d K i.d, MP.d K (.int i.least)]) (fun i => MP.d K (.bool (isEdD i.d i.least)))
theorem len_is_edition {vs : List V} {H : Hp} {Q : VK} {E : XK} (h : sp_is_edition K w c vs H Q E) : vs.length = 2 := spOf_len (by intro i; rfl) vs H Q E h
def t_is_edition (K : PySem.W.Frag) (w : World) (c : Ad) : TS :=
  (tRet (tAndV (tCB (rIsiG K) (tCons (tVar 0) (tCons (tC (.ty "tuple")) tNil))) (tAndV (tOp (rEqD K) (tCB (rLenG K) (tCons (tVar 0) tNil)) (tC (.int 2))) (tAndV (tCall (sp_is_word K w c) [] E0 (tCons (tOp (rIx K) (tVar 0) (tC (.int 0))) (tCons (tC (.ref c.KEYS)) tNil))) (tCall (sp_is_integer K w c) [] E0 (tCons (tOp (rIx K) (tVar 0) (tC (.int 1))) (tCons (tVar 1) (tCons (tC (.int 2)) tNil))))))))
theorem shp_int (i : Int) : SeqAt.shaped (.int i) = true := by rfl
theorem rd_is_edition (X : Ax K w c) {vs : List V} {H : Hp} {Q : VK} {E : XK} (h : sp_is_edition K w c vs H Q E) : t_is_edition K w c (Dn Q) (vs.map some ++ List.replicate (2 - vs.length) none) H := by
  obtain ⟨⟨d, least, ok⟩, G, e, ha, q⟩ := h
  cases ha with
  | cons p1 ha => cases ha with
    | cons p2 ha =>
      cases ha
      rename_i x y
      have h1 : Cm (tVar 0 [some x, some y]) G (MP.d K d) := c_var rfl p1
      have key : Cm (bd (t_is_edition K w c) [some x, some y]) G (MP.d K (.bool (isEdD d least))) := by
        refine b_ret ?_
        cases d with
        | tuple ds =>
          have hlen : Cm (tOp (rEqD K) (tCB (rLenG K) (tCons (tVar 0) tNil)) (tC (.int 2)) [some x, some y]) G (MP.d K (.bool ((ds.length : Int) == 2))) := c_eq (c_lenT h1) c_int (shp_int _) (shp_int _)
          refine c_to (c_andV (b := isEdD (.tuple ds) least) (c_isi h1 (kit_tup _)) fun _ => ?_) (by rfl)
          match ds, h1, ok, hlen with
          | [a, b], h1, ok, hlen =>
            refine c_to (c_andV (b := isEdD (.tuple [a, b]) least) hlen fun _ => ?_) rfl
            refine c_andV (c_call (args := fun i : WordIn => [MP.d K i.d, MP.strs K i.ws i.tup]) (res := fun i => MP.d K (.bool (isWordD i.d i.ws))) ⟨a, ["a", "b"], true, ok _ _ rfl, shp_keys⟩ (c_cons (c_ixT h1 c_int rfl) (c_cons (c_c (X.keys G)) c_nil))) fun _ => ?_
            exact c_call (args := fun i : PyData × Int × Int => [MP.d K i.1, MP.d K (.int i.2.1), MP.d K (.int i.2.2)]) (res := fun i => MP.d K (.bool (isIntIn i.1 i.2.1 i.2.2))) (b, least, 2) (c_cons (c_ixT h1 c_int rfl) (c_cons (c_var (P := MP.d K (.int least)) rfl p2) (c_cons c_int c_nil)))
          | [], h1, ok, hlen => exact c_to (c_andV (b := false) hlen fun z => absurd z (by decide)) rfl
          | [_], h1, ok, hlen => exact c_to (c_andV (b := false) hlen fun z => absurd z (by show ¬ ((1 : Int) == 2) = true; decide)) rfl
          | _ :: _ :: _ :: r, h1, ok, hlen =>
            have z : (((r.length + 3 : Nat) : Int) == 2) = false := beq_eq_false_iff_ne.mpr (by omega)
            refine c_to (c_andV (b := false) (c_to hlen (congrArg PyData.bool z)) fun z => absurd z (by decide)) rfl
        | _ => exact c_to (c_andV (b := false) (c_isi h1 (kit_tup _)) fun z => absurd z Bool.false_ne_true) rfl
      exact key H e Q q
end
end Ah
/-! Ah11: walks over dicts. -/
namespace Ah
open PySem PySem.Spec PyProof.Rows L2 Evl

/-! ### forms of loops over a written dict -/
theorem for_itemsW {kvs : List (Str × V)} {g : TG} {tb : TS} {D : Ends} {σ : L2.St} {H : Hp} (Pv : Nat → L2.St → Hp → Prop) (h0 : Pv 0 σ H)
    (hs : ∀ i q T σ H, kvs[i]? = some q → Pv i σ H → H T = none → g (.ref T) σ (upd H T (.tup [.str q.1, q.2])) fun σ2 H2 => tb { D with nx := Pv (i + 1), ct := Pv (i + 1), bk := D.nx } σ2 H2) (hd : ∀ σ H, Pv kvs.length σ H → D.nx σ H) :
    ∃ W : Nat → Nat → L2.St → Hp → Prop, (∃ m, W 0 m σ H) ∧ ∀ i m σ H, W i m σ H →
      ((ItiW kvs).stop i H ∧ D.nx σ H) ∨ ((ItiW kvs).go i H ∧ ∃ N : L2.St → Hp → Prop, (∀ σ' H', N σ' H' → ∃ m', m' < m ∧ W (i + 1) m' σ' H') ∧ ∀ x H', (ItiW kvs).yld i H x H' → g x σ H' fun σ2 H2 => tb { D with nx := N, ct := N, bk := D.nx } σ2 H2) := by
  refine ⟨fun i m σ H => m = kvs.length - i ∧ i ≤ kvs.length ∧ Pv i σ H, ⟨kvs.length, rfl, Nat.zero_le _, h0⟩, ?_⟩
  rintro i m σ H ⟨rfl, hi, p⟩
  by_cases hlt : i < kvs.length
  · refine .inr ⟨hlt, Pv (i + 1), fun σ' H' p' => ⟨_, by omega, rfl, hlt, p'⟩, fun x H' y => ?_⟩
    obtain ⟨T, q, hq, e1, hT, e2⟩ := y
    subst e1 e2
    exact hs i q T σ H hq p hT
  · have e : i = kvs.length := by omega
    subst e
    exact .inl ⟨Nat.le_refl _, hd σ H p⟩
section
variable {K : PySem.W.Frag} {w : World} {σ : L2.St} {G : Hp} {te td tk tv : TE} {tt : TT} {P : MP V} {tr t u : TS}
theorem u_yes {σ : L2.St} {H : Hp} {Q : Bool → Hp → Prop} (h : Q true H) : tYes σ H Q := h
theorem b_ifN (h : Cm (tt σ) G (MP.eq false)) (k : Cm (bd tr σ) G P) : Cm (bd (tSeq (tIfS tt tNever tNext) tr) σ) G P := b_if h (fun z => absurd z Bool.false_ne_true) fun _ => k
/-- in the middle of a body: a test that is false -/
theorem u_ifN {D : Ends} {H : Hp} (h : Cm (tt σ) G (MP.eq false)) (e : Ex G H) (k : ∀ G' H', Ex H H' → Nw H G G' H' → tr D σ H') : tSeq (tIfS tt tNever tNext) tr D σ H :=
  h H e _ fun b G' H' e1 n1 p => by
    have p : b = false := p
    subst p
    exact iteF (k G' H' e1 n1)
theorem c_isiK {l : List (Str × Str)} (h : Cm (te σ) G (MP.dk l)) : Cm (tCB (rIsiG K) (tCons te (tCons (tC (.ty "dict")) tNil)) σ) G (MP.d K (.bool true)) :=
  c_cb2 (P2 := MP.eq (.ty "dict")) h (c_c rfl) fun x y G1 e1 p q => by
    have hy : y = .ty "dict" := q
    subst hy
    obtain ⟨a, rfl, ha⟩ := p
    exact c_valN (z := .bl true) (fun H eh Q h => .inl ⟨_, _, _, _, true, rfl, .ty "dict", .base (.dK (eh _ _ ha)), kit_ty (by decide +kernel), h⟩) (.bl _)
/-- a quiet loop over a written dict's pairs: for each, a test that is false -/
theorem b_forW {kvs : List (Str × V)} {i j : Nat} (σf : Option V → Option V → L2.St) (x0 y0 : Option V) (hσ : σ = σf x0 y0) (hset : ∀ x y a b, ((σf x y).set i (some a)).set j (some b) = σf (some a) (some b)) (hd : Cm (td σ) G (MP.kd K w kvs))
    (turn : ∀ q G1, q ∈ kvs → Ex G G1 → Cm (tt (σf (some (.str q.1)) (some q.2))) G1 (MP.eq false)) (hP : ∀ {G1}, Ex G G1 → P.p .non G1) :
    Cm (bd (tFor (iItemsW K w td) (gTup K 2 (gCons (gName i) (gCons (gName j) gNil))) (tIfS tt tNever tNext)) σ) G P := fun H e Q q =>
  hd H e _ fun a G1 H1 e1 n1 p1 => by
    obtain ⟨p, rfl, D⟩ := p1
    refine ⟨p, kvs, rfl, D, for_itemsW (fun n σ' H' => Ex H H' ∧ (∃ G', Nw H G G' H') ∧ ∃ x y, σ' = σf x y) ⟨e1, ⟨G1, n1⟩, x0, y0, hσ⟩ ?_ ?_⟩
    · rintro n r T σ' H' hr ⟨e2, ⟨G', n2⟩, x, y, rfl⟩ hT
      refine ⟨T, [.str r.1, r.2], rfl, SqT.of upd_same, rfl, _, _, rfl, _, _, rfl, rfl, ?_⟩
      rw [hset]
      have n3 := n2.trans e2 (Nw.own (o := .tup [.str r.1, r.2]) n2.le hT)
      refine turn r G' (List.mem_of_getElem? hr) n2.ex _ n3.le _ fun b G3 H3 e3 n4 p3 => ?_
      have p3 : b = false := p3
      subst p3
      exact iteF ⟨(e2.trans (Ex.new hT)).trans e3, ⟨G3, n3.trans (e2.trans (Ex.new hT)) n4⟩, _, _, rfl⟩
    · rintro σ' H' ⟨e2, ⟨G', n2⟩, _⟩
      exact q .non G' H' e2 n2 (hP n2.ex)
/-! ### a comprehension over the keys, the pairs of a dict that is locked meanwhile -/
def hide (G : Hp) (d : Addr) : Hp := fun b => if b = d then none else G b
theorem hide_ne {G : Hp} {b d : Addr} (h : b ≠ d) : hide G d b = G b := by unfold hide; rw [if_neg h]
theorem hide_same {G : Hp} {d : Addr} : hide G d d = none := by unfold hide; rw [if_pos rfl]
theorem hide_le {G : Hp} {d : Addr} : Ex (hide G d) G := fun b o h => by
  by_cases hb : b = d
  · subst hb; rw [hide_same] at h; cases h
  · rwa [hide_ne hb] at h
theorem hide_ex {G H : Hp} {d : Addr} {o : HO} (e : Ex G H) : Ex (hide G d) (upd H d o) := fun b u h => by
  by_cases hb : b = d
  · subst hb; rw [hide_same] at h; cases h
  · rw [hide_ne hb] at h; rw [upd_ne hb]; exact e b u h
/-- unlocking -/
theorem unlock {H H' G G' : Hp} {d : Addr} {od : Obj} {u : HO} (e : Ex G H) (hd : G d = some u) (e1 : Ex (upd H d (.frz od u)) H') (n : Nw (upd H d (.frz od u)) (hide G d) G' H') : Ex H (upd H' d u) ∧ Nw H G (upd G' d u) (upd H' d u) ∧ Ex G' (upd G' d u) := by
  have hH := e d u hd
  have gd : G' d = none := n.old d (by rw [upd_same]; exact fun z => nomatch z) hide_same
  refine ⟨fun b o h => ?_, ⟨fun b o h => ?_, fun b o h => ?_, fun b hb hg => ?_⟩, Ex.new gd⟩
  · by_cases hb : b = d
    · subst hb; rw [upd_same, ← h, hH]
    · rw [upd_ne hb]; exact e1 b o (by rw [upd_ne hb]; exact h)
  · by_cases hb : b = d
    · subst hb; rw [upd_same, ← h, hd]
    · rw [upd_ne hb]; exact n.ex b o (by rw [hide_ne hb]; exact h)
  · by_cases hb : b = d
    · subst hb; rw [upd_same] at h ⊢; exact h
    · rw [upd_ne hb] at h ⊢; exact n.le b o h
  · have hne : b ≠ d := fun z => by rw [z, hd] at hg; cases hg
    rw [upd_ne hne]
    exact n.old b (by rw [upd_ne hne]; exact hb) (by rw [hide_ne hne]; exact hg)
theorem picked_map {α : Type} (F : α → PyData) (l : List α) (f : Nat → PyData) (h : ∀ i a, l[i]? = some a → f i = F a) : picked (fun _ => true) f l.length = l.map F := by
  unfold picked
  rw [List.filter_eq_self.mpr fun _ _ => rfl]
  refine List.ext_getElem? fun i => ?_
  rw [List.getElem?_map, List.getElem?_map]
  by_cases hi : i < l.length
  · rw [List.getElem?_range hi, List.getElem?_eq_getElem hi]
    exact congrArg some (h i _ (List.getElem?_eq_getElem hi))
  · rw [List.getElem?_eq_none (by rw [List.length_range]; omega), List.getElem?_eq_none (by omega)] <;> rfl
theorem kvD_at {l : List (Str × Str)} {i : Nat} {k : Key} {v : V} (h : (kvD l)[i]? = some (k, v)) : ∃ q, l[i]? = some q ∧ k = Sum.inr q.1 ∧ v = .str q.2 := by
  unfold kvD at h
  rw [List.getElem?_map] at h
  cases z : l[i]? with
  | none => rw [z] at h; cases h
  | some q => rw [z] at h; cases h; exact ⟨q, rfl, rfl, rfl⟩
/-- [te for k in d] -/
theorem c_lcKeys {l : List (Str × Str)} {j : Nat} {vs : List Nat} {F : Str × Str → PyData} {d : Addr} (hn : l.length ≤ 90000) (hG : G d = some (.dK (kvD l))) (htd : ∀ H1 (Q : VK), Ex (hide G d) H1 → Q (.ref d) H1 → td σ H1 Q)
    (turn : ∀ q G1, q ∈ l → CTurn K σ vs (gName j) tt te true (F q) (.str q.1) G1) : Cm (tLockE (tLc (iKeys td) (gName j) tt te vs) σ) G (MP.l K (l.map F)) := fun H e Q k => by
  refine ⟨d, .dK (kvD l), e _ _ hG, trivial, fun od => ?_⟩
  refine htd _ _ (hide_ex e) ⟨d, od, rfl, .inl ⟨kvD l, upd_same, fun D hD => ?_⟩⟩
  have hdD : d ≠ D := ne_of_none upd_same hD
  have lk : ∀ {H'}, Ex (upd H d (.frz od (.dK (kvD l)))) H' → H' d = some (.frz od (.dK (kvD l))) := fun x => x _ _ upd_same
  refine ⟨fun i m H' => m = l.length - i ∧ i ≤ l.length ∧ CW K (upd H d (.frz od (.dK (kvD l)))) (hide G d) D (picked (fun _ => true) (fun i => F (l.getD i ("", ""))) i) H', ⟨l.length, rfl, Nat.zero_le _, cw_start (hide_ex e) hD⟩, ?_⟩
  rintro i m H' ⟨rfl, hi, w⟩
  have len : (kvD l).length = l.length := List.length_map _
  by_cases hlt : i < l.length
  · refine .inr ⟨⟨lk w.choose_spec.choose_spec.1, by rw [len]; exact hlt⟩, fun H'' => CW K (upd H d (.frz od (.dK (kvD l)))) (hide G d) D (picked (fun _ => true) (fun i => F (l.getD i ("", ""))) (i + 1)) H'', fun H'' w' => ⟨_, by omega, rfl, hlt, w'⟩, fun x H'' y => ?_⟩
    obtain ⟨e1, kk, vv, hkv, e2⟩ := y
    subst e1
    obtain ⟨q, hq, e3, e4⟩ := kvD_at hkv
    subst e3
    have e2 : x = .str q.1 := e2
    subst e2
    have eg : l.getD i ("", "") = q := by rw [List.getD_eq_getElem?_getD, hq] <;> rfl
    rw [picked_succ, eg]
    exact cw_turn hD w (by have := picked_len (fun _ => true) (fun i => F (l.getD i ("", ""))) i; omega) fun G' _ => turn q G' (List.mem_of_getElem? hq)
  · have ei : i = l.length := by omega
    subst ei
    rw [picked_map F l _ fun i a h => by rw [List.getD_eq_getElem?_getD, h] <;> rfl] at w
    refine .inl ⟨⟨lk w.choose_spec.choose_spec.1, by rw [len]; exact Nat.le_refl _⟩, lk w.choose_spec.choose_spec.1, ?_⟩
    obtain ⟨G', n, e1, p⟩ := cw_end hD (by rw [hide_ne (Ne.symm hdD)]; exact fresh_back e ((upd_ne (Ne.symm hdD)).symm.trans hD)) w
    obtain ⟨x1, x2, x3⟩ := unlock e hG e1 n
    exact k _ _ _ x1 x2 ((MP.l K (l.map F)).mono x3 p)
/-- [te for k, v in d.items()] -/
theorem c_lcItems {l : List (Str × Str)} {a b : Nat} {vs : List Nat} {F : Str × Str → PyData} {d : Addr} (hn : l.length ≤ 90000) (hG : G d = some (.dK (kvD l))) (htd : ∀ H1 (Q : VK), Ex (hide G d) H1 → Q (.ref d) H1 → td σ H1 Q)
    (turn : ∀ q (G1 : Hp) T, q ∈ l → G1 T = some (.tup [.str q.1, .str q.2]) → CTurn K σ vs (gTup K 2 (gCons (gName a) (gCons (gName b) gNil))) tt te true (F q) (.ref T) G1) : Cm (tLockE (tLc (iItems td) (gTup K 2 (gCons (gName a) (gCons (gName b) gNil))) tt te vs) σ) G (MP.l K (l.map F)) := fun H e Q k => by
  refine ⟨d, .dK (kvD l), e _ _ hG, trivial, fun od => ?_⟩
  refine htd _ _ (hide_ex e) ⟨d, od, kvD l, rfl, upd_same, fun D hD => ?_⟩
  have hdD : d ≠ D := ne_of_none upd_same hD
  have lk : ∀ {H'}, Ex (upd H d (.frz od (.dK (kvD l)))) H' → H' d = some (.frz od (.dK (kvD l))) := fun x => x _ _ upd_same
  refine ⟨fun i m H' => m = l.length - i ∧ i ≤ l.length ∧ CW K (upd H d (.frz od (.dK (kvD l)))) (hide G d) D (picked (fun _ => true) (fun i => F (l.getD i ("", ""))) i) H', ⟨l.length, rfl, Nat.zero_le _, cw_start (hide_ex e) hD⟩, ?_⟩
  rintro i m H' ⟨rfl, hi, w⟩
  have len : (kvD l).length = l.length := List.length_map _
  by_cases hlt : i < l.length
  · refine .inr ⟨⟨lk w.choose_spec.choose_spec.1, by rw [len]; exact hlt⟩, fun H'' => CW K (upd H d (.frz od (.dK (kvD l)))) (hide G d) D (picked (fun _ => true) (fun i => F (l.getD i ("", ""))) (i + 1)) H'', fun H'' w' => ⟨_, by omega, rfl, hlt, w'⟩, fun x H'' y => ?_⟩
    obtain ⟨T, kk, vv, hkv, e2, hT, e1⟩ := y
    subst e1
    obtain ⟨q, hq, e3, e4⟩ := kvD_at hkv
    subst e3 e4 e2
    have eg : l.getD i ("", "") = q := by rw [List.getD_eq_getElem?_getD, hq] <;> rfl
    rw [picked_succ, eg]
    obtain ⟨G', acc, x1, n1, gD, hD', ha⟩ := w
    have gT := fresh_back n1.le hT
    have hTD : D ≠ T := ne_of_none hD' hT
    exact cw_turn2 hD (by have := picked_len (fun _ => true) (fun i => F (l.getD i ("", ""))) i; omega) ⟨upd G' T (.tup [.str q.1, .str q.2]), acc, x1.trans (Ex.new hT), n1.trans x1 (Nw.new n1.le hT), by rw [upd_ne hTD]; exact gD, by rw [upd_ne hTD]; exact hD', DpAll.up (Ex.new gT) _ _ ha, turn q _ T (List.mem_of_getElem? hq) upd_same⟩
  · have ei : i = l.length := by omega
    subst ei
    rw [picked_map F l _ fun i a h => by rw [List.getD_eq_getElem?_getD, h] <;> rfl] at w
    refine .inl ⟨⟨lk w.choose_spec.choose_spec.1, by rw [len]; exact Nat.le_refl _⟩, lk w.choose_spec.choose_spec.1, ?_⟩
    obtain ⟨G', n, e1, p⟩ := cw_end hD (by rw [hide_ne (Ne.symm hdD)]; exact fresh_back e ((upd_ne (Ne.symm hdD)).symm.trans hD)) w
    obtain ⟨x1, x2, x3⟩ := unlock e hG e1 n
    exact k _ _ _ x1 x2 ((MP.l K (l.map F)).mono x3 p)
/-! ### {k: e for k in a written dict} -/
theorem putK_snoc {l : List (Str × Str)} {x y : Str} (h : x ∉ l.map (·.1)) : putK (kvD l) (Sum.inr x : Key) (.str y) = kvD (l ++ [(x, y)]) := by
  have hn : valV (kvD l) (Sum.inr x : Key) = none := by
    rw [valV_kv]
    cases q : l.lookup x with
    | none => rfl
    | some z =>
      have : x ∈ l.map (·.1) := by
        clear h
        induction l with
        | nil => cases q
        | cons a r ih =>
          rw [List.lookup_cons] at q
          by_cases hx : x = a.1
          · rw [hx]; exact List.mem_cons_self
          · rw [beq_eq_false_iff_ne.mpr hx] at q
            exact List.mem_cons_of_mem _ (ih q)
      exact absurd this h
  rw [putK_new _ hn]
  unfold kvD
  rw [List.map_append] <;> rfl
theorem c_dcW {kvs : List (Str × V)} {j : Nat} {vs : List Nat} {f : Str → Str} (hd : Cm (td σ) G (MP.kd K w kvs))
    (turn : ∀ q G1, q ∈ kvs → Ex G G1 → ∃ σ2, σ2 = (wipe σ vs).set j (some (.str q.1)) ∧ wipe σ2 vs = wipe σ vs ∧ Cm (tk σ2) G1 (MP.d K (.str q.1)) ∧ Cm (tv σ2) G1 (MP.d K (.str (f q.1)))) :
    Cm (tDc (iKeysW K w td) (gName j) tYes tk tv vs σ) G (MP.dk (kvs.map fun q => (q.1, f q.1))) := fun H e Q k => hd H e _ fun a G1 H1 e1 n1 p1 => by
  obtain ⟨p, rfl, D0⟩ := p1
  refine ⟨p, kvs, rfl, D0, fun D hD => ?_⟩
  refine ⟨fun i m H' => m = kvs.length - i ∧ i ≤ kvs.length ∧ ∃ G', Ex H1 H' ∧ Nw H1 G1 G' H' ∧ G' D = none ∧ H' D = some (.dK (kvD ((kvs.take i).map fun q => (q.1, f q.1)))),
    ⟨kvs.length, rfl, Nat.zero_le _, G1, Ex.new hD, Nw.own n1.le hD, fresh_back n1.le hD, upd_same⟩, ?_⟩
  rintro i m H' ⟨rfl, hi, G', e2, n2, gD, hD'⟩
  by_cases hlt : i < kvs.length
  · refine .inr ⟨hlt, fun H'' => ∃ G', Ex H1 H'' ∧ Nw H1 G1 G' H'' ∧ G' D = none ∧ H'' D = some (.dK (kvD ((kvs.take (i + 1)).map fun q => (q.1, f q.1)))), fun H'' x => ⟨_, by omega, rfl, hlt, x⟩, fun x H'' y => ?_⟩
    obtain ⟨z, q, hq, rfl⟩ := y
    subst z
    obtain ⟨σ2, hs, hw, ck, cv⟩ := turn q G' (List.mem_of_getElem? hq) (n1.ex.trans n2.ex)
    subst hs
    refine ⟨hw, u_yes ?_⟩
    dsimp only
    rw [if_pos rfl]
    refine ck H'' n2.le _ fun y G3 H3 e3 n3 p3 => cv.up n3.ex H3 n3.le _ fun z G4 H4 e4 n4 p4 => ?_
    have h4 : H4 D = _ := e4 _ _ (e3 _ _ hD')
    have x1 := ((e2.trans e3).trans e4)
    have x2 := (n2.trans e2 n3).trans (e2.trans e3) n4
    have g4 : G4 D = none := n4.old D (by rw [e3 _ _ hD']; exact fun z => nomatch z) (n3.old D (by rw [hD']; exact fun z => nomatch z) gD)
    refine ⟨_, Sum.inr q.1, dp_str p3, h4, ?_, G4, Ex.mut x1 hD, ⟨x2.ex, Ex.mut x2.le g4, x2.old⟩, g4, ?_⟩
    · have hl := D0.len
      unfold kvD
      rw [List.length_map, List.length_map, List.length_take]
      exact Nat.lt_of_le_of_lt (Nat.le_trans (Nat.min_le_right _ _) hl) (by decide)
    · have ez : z = .str (f q.1) := dp_str p4
      rw [upd_same, ez, putK_snoc, List.take_succ, hq, List.map_append]
      · rfl
      · intro hm
        rw [List.map_map] at hm
        obtain ⟨r, hr, er⟩ := List.mem_map.mp hm
        obtain ⟨n, hn1, hn2⟩ := List.mem_take_iff_getElem.mp hr
        have h5 : kvs[n]? = some r := by rw [List.getElem?_eq_getElem (by omega)]; exact congrArg some hn2
        have hnd := D0.nd
        have a1 : (kvs.map (·.1))[n]? = some q.1 := by rw [List.getElem?_map, h5]; exact congrArg some er
        have a2 : (kvs.map (·.1))[i]? = some q.1 := by rw [List.getElem?_map, hq] <;> rfl
        have := nd_ix hnd a1 a2
        omega
  · have ei : i = kvs.length := by omega
    subst ei
    rw [List.take_length] at hD'
    refine .inl ⟨Nat.le_refl _, ?_⟩
    have gd : G1 D = none := fresh_back n1.le hD
    refine k _ (upd G' D (.dK (kvD (kvs.map fun q => (q.1, f q.1))))) H' (e1.trans e2) (n1.trans e1 ⟨n2.ex.trans (Ex.new gD), fun b o h => ?_, fun b hb hg => ?_⟩) ⟨D, rfl, upd_same⟩
    · by_cases hb : b = D
      · subst hb; rw [upd_same] at h; rw [hD', ← h]
      · rw [upd_ne hb] at h; exact n2.le b o h
    · rw [upd_ne (fun z => hb (by rw [z]; exact hD))]
      exact n2.old b hb hg
end
end Ah
/-! Ah12: books made. -/
namespace Ah
open PySem PySem.Spec PyProof.Rows L2 Evl

section
variable {K : PySem.W.Frag} {w : World} {c : Ad} {σ : L2.St} {G : Hp} {tl te : TE} {g : TG} {ds : List PyData} {vs : List Nat}
theorem all_map (ds : List PyData) (f : PyData → Bool) : (ds.filter (fun _ => true)).map (fun d => PyData.bool (f d)) = (ds.map f).map PyData.bool := by
  rw [filter_yes, List.map_map] <;> rfl
theorem c_allT (f : PyData → Bool) (hl : Cm (tl σ) G (MP.d K (.tuple ds))) (hn : ds.length ≤ 90000)
    (turn : ∀ v d G1, Ex G G1 → d ∈ ds → Dp K G1 v d → CTurn K σ vs g tYes te true (.bool (f d)) v G1) : Cm (tCB (rAll K) (tCons (tLc (iSeq K tl) g tYes te vs) tNil) σ) G (MP.d K (.bool (ds.all f))) := by
  have h := c_lcT (t := fun _ => true) (F := fun d => .bool (f d)) hl hn turn
  rw [all_map] at h
  refine c_to (c_all h) ?_
  rw [List.all_map] <;> rfl
theorem c_allL (f : PyData → Bool) (hl : Cm (tl σ) G (MP.d K (.list ds))) (hn : ds.length ≤ 90000)
    (turn : ∀ v d G1, Ex G G1 → d ∈ ds → Dp K G1 v d → CTurn K σ vs g tYes te true (.bool (f d)) v G1) : Cm (tCB (rAll K) (tCons (tLc (iSeq K tl) g tYes te vs) tNil) σ) G (MP.d K (.bool (ds.all f))) := by
  have h := c_lcL (t := fun _ => true) (F := fun d => .bool (f d)) hl hn turn
  rw [all_map] at h
  refine c_to (c_all h) ?_
  rw [List.all_map] <;> rfl
/-- calls of the three looks -/
theorem c_isWord {ta tb : TE} {d : PyData} {ws : List Str} (tup : Bool) (ha : Cm (ta σ) G (MP.d K d)) (hb : Cm (tb σ) G (MP.strs K ws tup)) (ok : okS d) (shp : SeqAt.shaped (.list (ws.map PyData.str)) = true) :
    Cm (tCall (sp_is_word K w c) [] E0 (tCons ta (tCons tb tNil)) σ) G (MP.d K (.bool (isWordD d ws))) :=
  c_call (args := fun i : WordIn => [MP.d K i.d, MP.strs K i.ws i.tup]) (res := fun i => MP.d K (.bool (isWordD i.d i.ws))) ⟨d, ws, tup, ok, shp⟩ (c_cons ha (c_cons hb c_nil))
theorem c_isEd {ta tb : TE} {d : PyData} {least : Int} (ha : Cm (ta σ) G (MP.d K d)) (hb : Cm (tb σ) G (MP.d K (.int least))) (ok : ∀ x y, d = .tuple [x, y] → okS x) :
    Cm (tCall (sp_is_edition K w c) [] E0 (tCons ta (tCons tb tNil)) σ) G (MP.d K (.bool (isEdD d least))) :=
  c_call (args := fun i : EdIn => [MP.d K i.d, MP.d K (.int i.least)]) (res := fun i => MP.d K (.bool (isEdD i.d i.least))) ⟨d, least, ok⟩ (c_cons ha (c_cons hb c_nil))
theorem Ax.kd (X : Ax K w c) : ∃ kvs, kvs.map (·.1) = kvParts.map (·.1) ∧ KD K w c.PARTS kvs ∧ ∀ (i : Nat) (q : Str × V), kvs[i]? = some q → ∃ r : Str × List Str, kvParts[i]? = some r ∧ q.1 = r.1 ∧ ∀ G, Dp K G q.2 (.tuple (r.2.map PyData.str)) := by
  obtain ⟨vs, D, hl, hd⟩ := X.parts
  refine ⟨_, ?_, D, fun i q hq => ?_⟩
  · rw [List.map_fst_zip]
    rw [hl]
    decide
  · obtain ⟨q1, q2⟩ := q
    obtain ⟨h1, h2⟩ := List.getElem?_zip_eq_some.mp hq
    rw [List.getElem?_map] at h1
    cases hr : kvParts[i]? with
    | none => rw [hr] at h1; cases h1
    | some r =>
      rw [hr] at h1
      refine ⟨r, rfl, (Option.some.inj h1).symm, fun G => ?_⟩
      obtain ⟨v, e1, e2⟩ := DpAll.get (hd G) (i := i) (d := .tuple (r.2.map PyData.str)) (by rw [List.getElem?_map, hr] <;> rfl)
      have e1 : vs[i]? = some v := e1
      have h2 : vs[i]? = some q2 := h2
      rw [e1] at h2
      cases h2
      exact e2
end
/-! ### rules -/
theorem parts_nodup : (kvParts.map (·.1)).Nodup := by decide +kernel
theorem rule_keys (r : Rule) : r.kvs.map (·.1) = kvParts.map (·.1) := rfl
theorem rule_nodup (r : Rule) : (r.kvs.map (·.1)).Nodup := by rw [rule_keys]; exact parts_nodup
theorem rule_len (r : Rule) : r.kvs.length = 6 := rfl
theorem bif_mem {b : Bool} {x y : Str} : (bif b then y else x) ∈ [x, y] := by cases b <;> simp
theorem mis_mem {m : Mis} : m.s ∈ [("none" : Str), "place", "waits"] := by cases m <;> simp [Mis.s]
/-- each part's word is one of those that it may have -/
theorem rule_word (r : Rule) : ∀ (i : Nat) (q : Str × Str), r.kvs[i]? = some q → ∃ p : Str × List Str, kvParts[i]? = some p ∧ q.1 = p.1 ∧ q.2 ∈ p.2 := by
  obtain ⟨a, b, c, d, m, e⟩ := r
  intro i q h
  match i, h with
  | 0, h => cases h; exact ⟨_, rfl, rfl, bif_mem⟩
  | 1, h => cases h; exact ⟨_, rfl, rfl, bif_mem⟩
  | 2, h => cases h; exact ⟨_, rfl, rfl, bif_mem⟩
  | 3, h => cases h; exact ⟨_, rfl, rfl, bif_mem⟩
  | 4, h => cases h; exact ⟨_, rfl, rfl, mis_mem⟩
  | 5, h => cases h; exact ⟨_, rfl, rfl, bif_mem⟩
  | i + 6, h => exact absurd h (by show ¬ (([] : List (Str × Str))[i]? = some q); simp)
theorem parts_shaped : ∀ p ∈ kvParts, SeqAt.shaped (.list (p.2.map PyData.str)) = true := by decide +kernel
theorem keys_shaped : SeqAt.shaped (.list ((kvParts.map (·.1)).map PyData.str)) = true := by decide +kernel
theorem key_ok : ∀ p ∈ kvParts, SeqAt.shaped (.str p.1) = true := by decide +kernel
theorem words_ok : ∀ p ∈ kvParts, ∀ x ∈ p.2, SeqAt.shaped (.str x) = true := by decide +kernel
theorem isWord_mem {x : Str} {ws : List Str} (h : x ∈ ws) : isWordD (.str x) ws = true := List.any_eq_true.mpr ⟨x, h, beq_self_eq_true x⟩
theorem rule_lookup (r : Rule) {i : Nat} {q : Str × Str} (h : r.kvs[i]? = some q) : r.kvs.lookup q.1 = some q.2 := lookup_at (rule_nodup r) h
section
variable {K : PySem.W.Frag} {w : World} {c : Ad} {σ : L2.St} {G : Hp}
abbrev sp_check_rule (K : PySem.W.Frag) (w : World) (c : Ad) : Sp := spOf (ι := Rule) (fun r => [MP.dk r.kvs]) (fun _ => MP.d K .none)
theorem len_check_rule {vs : List V} {H : Hp} {Q : VK} {E : XK} (h : sp_check_rule K w c vs H Q E) : vs.length = 1 := spOf_len (by intro i; rfl) vs H Q E h
def t_check_rule (K : PySem.W.Frag) (w : World) (c : Ad) : TS :=
  (tSeq (tIfS (tOr (tNot (tB (tCB (rIsiG K) (tCons (tVar 0) (tCons (tC (.ty "dict")) tNil))))) (tOr (tTest (tOp (rNeD K) (tCB rLenD (tCons (tVar 0) tNil)) (tCB (rLenW K w) (tCons (tC (.ref c.PARTS)) tNil)))) (tNot (tB (tCB (rAll K) (tCons (tLockE (tLc (iKeys (tVar 0)) (gName 1) tYes (tCall (sp_is_word K w c) [] E0 (tCons (tVar 1) (tCons (tCB (rListW K w) (tCons (tC (.ref c.PARTS)) tNil)) tNil))) [1])) tNil)))))) tNever tNext)
    (tFor (iItemsW K w (tC (.ref c.PARTS))) (gTup K 2 (gCons (gName 1) (gCons (gName 2) gNil)))
    (tIfS (tNot (tB (tCall (sp_is_word K w c) [] E0 (tCons (tDGet (tVar 0) (tVar 1)) (tCons (tVar 2) tNil))))) tNever tNext)))
theorem l_strs {ws : List Str} {t : Hp → VK → Prop} {G : Hp} (h : Cm t G (MP.l K (ws.map PyData.str))) : Cm t G (MP.strs K ws false) := l_d h
theorem rd_check_rule (X : Ax K w c) {vs : List V} {H : Hp} {Q : VK} {E : XK} (h : sp_check_rule K w c vs H Q E) : t_check_rule K w c (Dn Q) (vs.map some ++ List.replicate (3 - vs.length) none) H := by
  obtain ⟨r, G, e, ha, q⟩ := h
  cases ha with
  | cons p1 ha =>
    cases ha
    rename_i x
    obtain ⟨p, rfl, hp⟩ := id p1
    obtain ⟨kvs, k1, D, k3⟩ := X.kd
    have key : Cm (bd (t_check_rule K w c) [some (.ref p), none, none]) G (MP.d K .none) := by
      have h0 : ∀ {G1 : Hp} {a b : Option V}, Ex G G1 → Cm (tVar 0 [some (.ref p), a, b]) G1 (MP.dk r.kvs) := fun eG => c_var rfl ⟨p, rfl, eG _ _ hp⟩
      have hP : ∀ {G1 : Hp} {σ : L2.St}, Cm (tC (.ref c.PARTS) σ) G1 (MP.kd K w kvs) := c_c ⟨_, rfl, D⟩
      have hlen : kvs.length = 6 := by
        have : (kvs.map (·.1)).length = 6 := by rw [k1]; decide
        rwa [List.length_map] at this
      refine b_ifN (c_teq (c_tor (b := false) (c_tnot (c_tB (c_isiK (h0 (Ex.refl G))))) fun _ => c_teq (c_tor (a := false) (b := false) (c_test (c_to (c_ne (c_lenD (h0 (Ex.refl G))) (c_lenW hP) (shp_int _) (shp_int _)) (by rw [hlen]; rfl))) fun _ => c_teq (c_tnot (a := true) (c_tB (K := K) ?_)) rfl) rfl) rfl) ?_
      · have z := c_lcKeys (K := K) (σ := [some (.ref p), none, none]) (G := G) (tt := tYes) (j := 1) (vs := [1]) (F := fun q : Str × Str => .bool (isWordD (.str q.1) (kvParts.map (·.1)))) (l := r.kvs) (d := p) (td := tVar 0)
          (te := tCall (sp_is_word K w c) [] E0 (tCons (tVar 1) (tCons (tCB (rListW K w) (tCons (tC (.ref c.PARTS)) tNil)) tNil))) (by rw [rule_len]; decide) hp (fun H1 Q _ hq => ⟨_, rfl, hq⟩) fun q G1 hq => by
            obtain ⟨j, hj⟩ := List.getElem?_of_mem hq
            obtain ⟨pr, hpr, e1, _⟩ := rule_word r j q hj
            refine ct_name rfl c_yes fun _ => c_isWord false (c_var (P := MP.d K (.str q.1)) rfl (.str _)) (l_strs (by rw [← k1]; exact c_listW hP)) ?_ keys_shaped
            show SeqAt.shaped (.str q.1) = true
            rw [e1]
            exact key_ok pr (List.mem_of_getElem? hpr)
        have e2 : (r.kvs.map fun q : Str × Str => PyData.bool (isWordD (.str q.1) (kvParts.map (·.1)))) = (r.kvs.map fun q : Str × Str => isWordD (.str q.1) (kvParts.map (·.1))).map PyData.bool := by rw [List.map_map] <;> rfl
        rw [e2] at z
        refine c_to (c_all z) (congrArg PyData.bool ?_)
        refine List.all_eq_true.mpr fun b hb => ?_
        obtain ⟨q, hq, rfl⟩ := List.mem_map.mp hb
        refine isWord_mem ?_
        rw [← rule_keys r]
        exact List.mem_map.mpr ⟨q, hq, rfl⟩
      · refine b_forW (K := K) (w := w) (kvs := kvs) (i := 1) (j := 2) (fun a b => [some (.ref p), a, b]) none none rfl (fun _ _ _ _ => rfl) hP (fun q G1 hq eG => ?_) fun _ => .non
        obtain ⟨j, hj⟩ := List.getElem?_of_mem hq
        obtain ⟨pr, hpr, e1, e2⟩ := k3 j q hj
        have hjl : j < r.kvs.length := by rw [rule_len]; have := (List.getElem?_eq_some_iff.mp hj).1; omega
        obtain ⟨pr2, hpr2, e3, e4⟩ := rule_word r j _ (List.getElem?_eq_getElem hjl)
        rw [hpr] at hpr2
        cases hpr2
        have lk := rule_lookup r (List.getElem?_eq_getElem hjl)
        rw [e3, ← e1] at lk
        refine c_teq (c_tnot (a := true) (c_tB (c_to (c_isWord (d := .str (r.kvs[j]'hjl).2) (ws := pr.2) true (c_dget (h0 eG) (c_var (P := MP.d K (.str q.1)) rfl (.str _)) lk) (c_var (P := MP.d K (.tuple (pr.2.map PyData.str))) rfl (e2 G1)) ?_ (parts_shaped pr (List.mem_of_getElem? hpr))) ?_))) rfl
        · exact words_ok pr (List.mem_of_getElem? hpr) _ e4
        · rw [isWord_mem e4]
    exact key H e Q q
end
end Ah
/-! Ah13: Book. -/
namespace Ah
open PySem PySem.Spec PyProof.Rows L2 Evl

/-- the attributes of a book -/
def bkF (vr : V) (pt : Addr) (vw : V) : List (Str × V) := putF "kinds" vw (putF "terms" (.ref pt) (putF "wanted" vr []))
theorem nkt : ¬ (("kinds" : Str) = "terms") := by decide +kernel
theorem nkw : ¬ (("kinds" : Str) = "wanted") := by decide +kernel
theorem ntw : ¬ (("terms" : Str) = "wanted") := by decide +kernel
theorem bkF_w (vr : V) (pt : Addr) (vw : V) : (bkF vr pt vw).lookup ("wanted" : Str) = some vr := by
  unfold bkF
  rw [lookup_putF, if_neg (Ne.symm nkw), lookup_putF, if_neg (Ne.symm ntw), lookup_putF, if_pos rfl]
theorem bkF_t (vr : V) (pt : Addr) (vw : V) : (bkF vr pt vw).lookup ("terms" : Str) = some (.ref pt) := by
  unfold bkF
  rw [lookup_putF, if_neg (Ne.symm nkt), lookup_putF, if_pos rfl]
theorem bkF_k (vr : V) (pt : Addr) (vw : V) : (bkF vr pt vw).lookup ("kinds" : Str) = some vw := by
  unfold bkF
  rw [lookup_putF, if_pos rfl]
theorem bkF_len (vr : V) (pt : Addr) (vw : V) : (bkF vr pt vw).length ≤ 3 := by
  unfold bkF
  have h1 := length_putF "wanted" vr []
  have h2 := length_putF "terms" (.ref pt) (putF "wanted" vr [])
  have h3 := length_putF "kinds" vw (putF "terms" (.ref pt) (putF "wanted" vr []))
  simp only [List.length_nil] at h1
  omega
def BkAt (K : PySem.W.Frag) (c : Ad) (b : Bk) (v : V) (G : Hp) : Prop := ∃ x dx vr pt vw, v = .ref x ∧ G x = some (.ins c.Book dx (bkF vr pt vw)) ∧ Dp K G vr (rowsD b) ∧ G pt = some (.dK (kvD b.rule.kvs)) ∧ Dp K G vw (wordsD b)
abbrev MP.bk (K : PySem.W.Frag) (c : Ad) (b : Bk) : MP V := ⟨BkAt K c b, fun e h => let ⟨x, dx, vr, pt, vw, h1, h2, h3, h4, h5⟩ := h; ⟨x, dx, vr, pt, vw, h1, e _ _ h2, Dp.up e _ _ h3, e _ _ h4, Dp.up e _ _ h5⟩⟩
theorem row_ok (r : Row) : isEdD (rowD r) 1 = true := by
  obtain ⟨a, b⟩ := r
  cases a <;> cases b <;> decide +kernel
theorem ks_ok (k : Bool) : SeqAt.shaped (.str (kS k)) = true := by cases k <;> decide +kernel
theorem words_in (b : Bk) : b.words = [] ∨ b.words = [("join" : Str)] ∨ b.words = [("sweep" : Str)] ∨ b.words = [("join" : Str), "sweep"] := by
  obtain ⟨_, _, j, s⟩ := b
  cases j <;> cases s
  · exact .inl rfl
  · exact .inr (.inr (.inl rfl))
  · exact .inr (.inl rfl)
  · exact .inr (.inr (.inr rfl))
/-- what holds of every list of words -/
theorem words_all {M : List Str → Prop} (b : Bk) (h0 : M []) (h1 : M ["join"]) (h2 : M ["sweep"]) (h3 : M ["join", "sweep"]) : M b.words := by
  rcases words_in b with e | e | e | e <;> rw [e] <;> assumption
theorem words_shp (b : Bk) : SeqAt.shaped (.list (b.words.map PyData.str)) = true := words_all (M := fun l => SeqAt.shaped (.list (l.map PyData.str)) = true) b (by decide +kernel) (by decide +kernel) (by decide +kernel) (by decide +kernel)
section
variable {K : PySem.W.Frag} {w : World} {c : Ad} {σ : L2.St} {G : Hp}
def sp_Book_init (K : PySem.W.Frag) (w : World) (c : Ad) : Sp := fun vs H Q _ => ∃ (x dx : Addr) (vr vd vw : V) (b : Bk) (G : Hp), vs = [.ref x, vr, vd, vw] ∧ Ex G H ∧ G x = none ∧ H x = some (.ins c.Book dx []) ∧ Dp K G vr (rowsD b) ∧ (MP.dk b.rule.kvs).p vd G ∧ Dp K G vw (wordsD b) ∧ b.ok ∧
  ∀ pt G' H', (∀ q o, H q = some o → q ≠ x → H' q = some o) → Nw H G G' H' → G' pt = some (.dK (kvD b.rule.kvs)) → H' x = some (.ins c.Book dx (bkF vr pt vw)) → Q .non H'
theorem len_Book_init {vs : List V} {H : Hp} {Q : VK} {E : XK} (h : sp_Book_init K w c vs H Q E) : vs.length = 4 := by
  obtain ⟨x, dx, vr, vd, vw, b, G, rfl, _⟩ := h
  rfl
def t_Book_init (K : PySem.W.Frag) (w : World) (c : Ad) : TS :=
  (tSeq (tIfS (tOr (tNot (tB (tCB (rIsiG K) (tCons (tVar 1) (tCons (tC (.ty "tuple")) tNil))))) (tNot (tTest (tChain rLeI rLeI (tC (.int 1)) (tCB (rLenG K) (tCons (tVar 1) tNil)) (tC (.int 2)))))) tNever tNext)
    (tSeq (tIfS (tNot (tB (tCB (rAll K) (tCons (tLc (iSeq K (tVar 1)) (gName 4) tYes (tCall (sp_is_edition K w c) [] E0 (tCons (tVar 4) (tCons (tC (.int 1)) tNil))) [4]) tNil)))) tNever tNext)
    (tSeq (tDrop (tCall (sp_check_rule K w c) [] E0 (tCons (tVar 2) tNil)))
    (tSeq (tIfS (tOr (tNot (tB (tCB (rIsiG K) (tCons (tVar 3) (tCons (tC (.ty "tuple")) tNil))))) (tNot (tB (tCB (rAll K) (tCons (tLc (iSeq K (tVar 3)) (gName 5) tYes (tCall (sp_is_word K w c) [] E0 (tCons (tVar 5) (tCons (tC (.ref c.WORDS)) tNil))) [5]) tNil))))) tNever tNext)
    (tSeq (tIfS (tTest (tOp (rNeD K) (tLc (iSeq K (tC (.ref c.WORDS))) (gName 5) (tTest (tOp (rInG K false) (tVar 5) (tVar 3))) (tVar 5) [5]) (tCB (rListG K) (tCons (tVar 3) tNil)))) tNever tNext)
    (tSeq (sFld K (tVar 0) (tVar 1) "wanted")
    (tSeq (sFld K (tVar 0) (tDc (iKeysW K w (tC (.ref c.PARTS))) (gName 6) tYes (tVar 6) (tDGet (tVar 2) (tVar 6)) [6]) "terms")
    (sFld K (tVar 0) (tVar 3) "kinds"))))))))
theorem u_drop {te : TE} {tr : TS} {D : Ends} {H : Hp} {P : MP V} (h : Cm (te σ) G P) (e : Ex G H) (k : ∀ G' H', Ex H H' → Nw H G G' H' → tr D σ H') : tSeq (tDrop te) tr D σ H := h H e _ fun v G' H' e1 n1 _ => k G' H' e1 n1
theorem map_fst_eq (r : Rule) {kvs : List (Str × V)} {f : Str → Str} (k1 : kvs.map (·.1) = kvParts.map (·.1)) (hf : ∀ q ∈ r.kvs, f q.1 = q.2) : (kvs.map fun q => (q.1, f q.1)) = r.kvs := by
  have e : (kvs.map fun q => (q.1, f q.1)) = (kvs.map (·.1)).map fun x => (x, f x) := by rw [List.map_map] <;> rfl
  rw [e, k1, ← rule_keys r, List.map_map]
  refine (List.map_congr_left fun q hq => ?_).trans (List.map_id _)
  exact Prod.ext rfl (hf q hq)
theorem rd_Book_init (X : Ax K w c) {vs : List V} {H : Hp} {Q : VK} {E : XK} (h : sp_Book_init K w c vs H Q E) : t_Book_init K w c (Dn Q) (vs.map some ++ List.replicate (7 - vs.length) none) H := by
  obtain ⟨x, dx, vr, vd, vw, b, G, rfl, e, gx, hx, hr, ⟨pd, rfl, hd⟩, hw, ok, k⟩ := h
  obtain ⟨kvs, k1, D, k3⟩ := X.kd
  show t_Book_init K w c (Dn Q) [some (.ref x), some vr, some (.ref pd), some vw, none, none, none] H
  have c1 : ∀ {G1 : Hp} {a1 a2 a3 : Option V}, Ex G G1 → Cm (tVar 1 [some (.ref x), some vr, some (.ref pd), some vw, a1, a2, a3]) G1 (MP.d K (.tuple (b.rows.map rowD))) := fun eG => c_var rfl (Dp.up eG _ _ hr)
  have c2 : ∀ {G1 : Hp} {a1 a2 a3 : Option V}, Ex G G1 → Cm (tVar 2 [some (.ref x), some vr, some (.ref pd), some vw, a1, a2, a3]) G1 (MP.dk b.rule.kvs) := fun eG => c_var rfl ⟨pd, rfl, eG _ _ hd⟩
  have c3 : ∀ {G1 : Hp} {a1 a2 a3 : Option V}, Ex G G1 → Cm (tVar 3 [some (.ref x), some vr, some (.ref pd), some vw, a1, a2, a3]) G1 (MP.d K (.tuple (b.words.map PyData.str))) := fun eG => c_var rfl (Dp.up eG _ _ hw)
  have hrl : b.rows.length ≤ 2 := by rcases ok with z | z <;> omega
  have hwl : (b.words.map PyData.str).length ≤ 2 := words_all (M := fun l => (l.map PyData.str).length ≤ 2) b (by decide) (by decide) (by decide) (by decide)
  refine u_ifN (c_teq (c_tor (b := false) (c_tnot (c_tB (c_isi (c1 (Ex.refl G)) (kit_tup _)))) fun _ => c_teq (c_tnot (a := true) (c_test (c_to (c_chainI (g := fun i j => decide (i ≤ j)) (g' := fun i j => decide (i ≤ j)) c_int (c_lenT (c1 (Ex.refl G))) c_int) ?_))) rfl) rfl) e fun G1 H1 e1 n1 => ?_
  · rw [List.length_map]
    rcases ok with z | z <;> rw [z] <;> rfl
  refine u_ifN (c_teq (c_tnot (a := true) (c_tB (c_to (c_allT (K := K) (fun d => isEdD d 1) (c1 n1.ex) (by rw [List.length_map]; omega) fun v d G2 eG hm hv => ct_name rfl c_yes fun _ => c_isEd (c_var (P := MP.d K d) rfl hv) c_int ?_) ?_))) rfl) n1.le fun G2 H2 e2 n2 => ?_
  · intro a a' hd'
    obtain ⟨r, _, rfl⟩ := List.mem_map.mp hm
    injection hd' with hd'
    injection hd' with h1 _
    subst h1
    exact ks_ok _
  · rw [List.all_eq_true.mpr]
    intro d hm
    obtain ⟨r, _, rfl⟩ := List.mem_map.mp hm
    exact row_ok r
  have x2 : Ex G G2 := n1.ex.trans n2.ex
  refine u_drop (c_call (args := fun r : Rule => [MP.dk r.kvs]) (res := fun _ => MP.d K .none) b.rule (c_cons (c2 x2) c_nil)) n2.le fun G3 H3 e3 n3 => ?_
  have x3 : Ex G G3 := x2.trans n3.ex
  refine u_ifN (c_teq (c_tor (b := false) (c_tnot (c_tB (c_isi (c3 x3) (kit_tup _)))) fun _ => c_teq (c_tnot (a := true) (c_tB (c_to (c_allT (K := K) (fun d => isWordD d ["join", "sweep"]) (c3 x3) (by omega) fun v d G4 eG hm hv => ct_name rfl c_yes fun _ => c_isWord (d := d) (ws := ["join", "sweep"]) true (c_var (P := MP.d K d) rfl hv) (c_c (X.wds G4)) ?_ (by decide +kernel)) ?_))) rfl) rfl) n3.le fun G4 H4 e4 n4 => ?_
  · obtain ⟨s, hs, rfl⟩ := List.mem_map.mp hm
    exact words_all (M := fun l => s ∈ l → SeqAt.shaped (.str s) = true) b (fun z => nomatch z) (by intro z; rw [List.mem_singleton.mp z]; decide +kernel) (by intro z; rw [List.mem_singleton.mp z]; decide +kernel)
      (by intro z; rcases List.mem_cons.mp z with z | z; · rw [z]; decide +kernel
          · rw [List.mem_singleton.mp z]; decide +kernel) hs
  · exact congrArg PyData.bool (words_all (M := fun l => (l.map PyData.str).all (fun d => isWordD d ["join", "sweep"]) = true) b (by decide +kernel) (by decide +kernel) (by decide +kernel) (by decide +kernel))
  have x4 : Ex G G4 := x3.trans n4.ex
  refine u_ifN (c_test (c_to (c_ne (l_d (c_lcT (K := K) (ds := [.str "join", .str "sweep"]) (t := fun d => (b.words.map PyData.str).any fun z => PyData.eqv z d) (F := fun d => d) (c_c (X.wds G4)) (by decide) fun v d G5 eG hm hv => ct_name rfl (c_test (c_to (c_inT (n := false) (c_var (P := MP.d K d) rfl hv) (c3 (x4.trans eG)) ?_ (words_shp b)) rfl)) fun _ => c_var (P := MP.d K d) rfl hv)) (c_listT (c3 x4)) ?_ ?_) ?_)) n4.le fun G5 H5 e5 n5 => ?_
  · rcases List.mem_cons.mp hm with z | z
    · rw [z]; decide +kernel
    · rw [List.mem_singleton.mp z]; decide +kernel
  · exact words_all (M := fun l => SeqAt.shaped (.list (List.map (fun d => d) (List.filter (fun d => (l.map PyData.str).any fun z => PyData.eqv z d) [.str "join", .str "sweep"]))) = true) b (by decide +kernel) (by decide +kernel) (by decide +kernel) (by decide +kernel)
  · exact words_shp b
  · exact congrArg PyData.bool (words_all (M := fun l => (!PyData.eqv (.list (List.map (fun d => d) (List.filter (fun d => (l.map PyData.str).any fun z => PyData.eqv z d) [.str "join", .str "sweep"]))) (.list (l.map PyData.str))) = false) b (by decide +kernel) (by decide +kernel) (by decide +kernel) (by decide +kernel))
  have x5 : Ex G G5 := x4.trans n5.ex
  have n05 : Nw H G G5 H5 := (((n1.trans e1 n2).trans (e1.trans e2) n3).trans ((e1.trans e2).trans e3) n4).trans (((e1.trans e2).trans e3).trans e4) n5
  have e05 : Ex H H5 := (((e1.trans e2).trans e3).trans e4).trans e5
  have gx5 : G5 x = none := n05.old x (by rw [hx]; exact fun z => nomatch z) gx
  -- self.wanted = rows
  refine ⟨_, rfl, _, rfl, x, c.Book, dx, [], rfl, e05 _ _ hx, X.cl, X.nW, by show 0 < 1000; decide, ?_⟩
  -- self.terms = {..}
  have eU : Ex G5 (upd H5 x (.ins c.Book dx (putF "wanted" vr []))) := n05.le.mut gx5
  change sFld K (tVar 0) (tDc (iKeysW K w (tC (.ref c.PARTS))) (gName 6) tYes (tVar 6) (tDGet (tVar 2) (tVar 6)) [6]) "terms" _ _ _
  unfold sFld
  refine (c_dcW (K := K) (w := w) (G := G5) (σ := [some (.ref x), some vr, some (.ref pd), some vw, none, none, none]) (j := 6) (vs := [6]) (tk := tVar 6) (tv := tDGet (tVar 2) (tVar 6)) (td := tC (.ref c.PARTS)) (kvs := kvs) (f := fun y => (b.rule.kvs.lookup y).getD "") (c_c ⟨_, rfl, D⟩) fun q G6 hq eG => ⟨_, rfl, rfl, c_var rfl (.str _), c_dget (c2 (x5.trans eG)) (c_var (P := MP.d K (.str q.1)) rfl (.str _)) ?_⟩) _ eU _ fun v G6 H6 e6 n6 p6 => ?_
  · have hm : q.1 ∈ b.rule.kvs.map (·.1) := by rw [rule_keys, ← k1]; exact List.mem_map.mpr ⟨q, hq, rfl⟩
    obtain ⟨r, hr', er⟩ := List.mem_map.mp hm
    obtain ⟨j, hj⟩ := List.getElem?_of_mem hr'
    have := rule_lookup b.rule hj
    rw [er] at this
    rw [this] <;> rfl
  rw [map_fst_eq (f := fun y => (b.rule.kvs.lookup y).getD "") b.rule k1 fun q hq => by
    obtain ⟨j, hj⟩ := List.getElem?_of_mem hq
    rw [rule_lookup b.rule hj] <;> rfl] at p6
  obtain ⟨pt, rfl, hpt⟩ := p6
  have hx6 : H6 x = some (.ins c.Book dx (putF "wanted" vr [])) := e6 _ _ upd_same
  refine ⟨_, rfl, x, c.Book, dx, _, rfl, hx6, X.cl, X.nT, ?_, ?_⟩
  · have := length_putF "wanted" vr []
    simp only [List.length_nil] at this
    omega
  -- self.kinds = words
  refine ⟨_, rfl, _, rfl, x, c.Book, dx, _, rfl, upd_same, X.cl, X.nK, ?_, ?_⟩
  · have h1 := length_putF "wanted" vr []
    have h2 := length_putF "terms" (.ref pt) (putF "wanted" vr [])
    simp only [List.length_nil] at h1
    omega
  rw [upd_upd]
  have gx6 : G6 x = none := n6.old x (by rw [upd_same]; exact fun z => nomatch z) gx5
  have hne : ∀ q o, H q = some o → q ≠ x → upd H6 x (.ins c.Book dx (bkF vr pt vw)) q = some o := fun q o hq hqx => by
    rw [upd_ne hqx]
    exact e6 _ _ (by rw [upd_ne hqx]; exact e05 _ _ hq)
  refine k pt G6 _ hne ⟨n05.ex.trans n6.ex, n6.le.mut gx6, fun q hq hg => ?_⟩ hpt upd_same
  by_cases hqx : q = x
  · rw [hqx]; exact gx6
  · exact n6.old q (by rw [upd_ne hqx]; exact ne_ex e05 hq) (n05.old q hq hg)
/-- Book(rows, rule, words) -/
theorem c_mkBook {ta tb td : TE} (b : Bk) (ok : b.ok) (h1 : Cm (ta σ) G (MP.d K (rowsD b))) (h2 : Cm (tb σ) G (MP.dk b.rule.kvs)) (h3 : Cm (td σ) G (MP.d K (wordsD b))) :
    Cm (tMake c.Book (sp_Book_init K w c) [] E0 (tCons ta (tCons tb (tCons td tNil))) σ) G (MP.bk K c b) := fun H e Q k =>
  c_cons h1 (c_cons h2 (c_cons h3 c_nil)) H e _ fun vs G1 H1 e1 n1 p1 => by
    cases p1 with
    | cons a1 p1 => cases p1 with
      | cons a2 p1 => cases p1 with
        | cons a3 p1 =>
          cases p1
          rename_i vr vd vw
          intro x dx nx ndx hne
          have e2 : Ex H1 (upd (upd H1 dx (.own x)) x (.ins c.Book dx [])) := (Ex.new ndx).trans (Ex.new (by rw [upd_ne (Ne.symm hne)]; exact nx))
          have gx := fresh_back n1.le nx
          refine ⟨x, dx, _, _, _, b, G1, rfl, n1.le.trans e2, gx, upd_same, a1, a2, a3, ok, fun pt G' H' f n hpt hx => ⟨rfl, ?_⟩⟩
          have gx' : G' x = none := n.old x (by rw [upd_same]; exact fun z => nomatch z) gx
          have e3 : Ex H1 H' := fun q o hq => f q o (e2 q o hq) (ne_of_none hq nx)
          have n3 : Nw H1 G1 (upd G' x (.ins c.Book dx (bkF vr pt vw))) H' := by
            refine ⟨n.ex.trans (Ex.new gx'), fun q o hq => ?_, fun q hq hg => ?_⟩
            · by_cases hqx : q = x
              · subst hqx; rw [upd_same] at hq; rw [hx, ← hq]
              · rw [upd_ne hqx] at hq; exact n.le q o hq
            · have hqx : q ≠ x := fun z => hq (by rw [z]; exact nx)
              rw [upd_ne hqx]
              exact n.old q (ne_ex e2 hq) hg
          exact k _ _ H' (e1.trans e3) (n1.trans e1 n3) ⟨x, dx, _, pt, _, rfl, upd_same, Dp.up (n.ex.trans (Ex.new gx')) _ _ a1, (Ex.new gx') _ _ hpt, Dp.up (n.ex.trans (Ex.new gx')) _ _ a3⟩
end
end Ah
/-! Ah14: drawing a book. -/
namespace Ah
open PySem PySem.Spec PyProof.Rows L2 Evl

/-- from a stable G of H to a stable G' of H', the source drawn from meanwhile -/
structure Dr (h d : Addr) (H G G' H' : Hp) : Prop where
  fr : Fr h d H H'
  ex : Ex G G'
  le : Ex G' H'
  old : ∀ b, H b ≠ none → G b = none → G' b = none
  src : Src H' h d
section
variable {h d : Addr} {H H1 H2 G G1 G2 : Hp}
theorem Src.nh (S : Src H h d) : H h ≠ none := by
  obtain ⟨s, i, cells, h1, _⟩ := S.ex
  rw [h1]; exact fun z => nomatch z
theorem Src.nd (S : Src H h d) : H d ≠ none := by
  obtain ⟨s, i, cells, _, h1, _⟩ := S.ex
  rw [h1]; exact fun z => nomatch z
theorem Dr.of (e : Ex H H1) (n : Nw H G G1 H1) (S : Src H h d) : Dr h d H G G1 H1 := ⟨Fr.of e, n.ex, n.le, n.old, S.ext e⟩
theorem Fr.some {b : Addr} (f : Fr h d H H1) (S : Src H1 h d) (hb : H b ≠ none) : H1 b ≠ none := by
  by_cases e1 : b = h
  · subst e1; exact S.nh
  · by_cases e2 : b = d
    · subst e2; exact S.nd
    · cases q : H b with
      | none => exact absurd q hb
      | some o => rw [f b o q e1 e2]; exact fun z => nomatch z
theorem Dr.trans (a : Dr h d H G G1 H1) (b : Dr h d H1 G1 G2 H2) : Dr h d H G G2 H2 :=
  ⟨a.fr.trans b.fr, a.ex.trans b.ex, b.le, fun c hc hg => b.old c (a.fr.some a.src hc) (a.old c hc hg), b.src⟩
theorem Dr.refl (e : Ex G H) (S : Src H h d) : Dr h d H G G H := ⟨Fr.refl, Ex.refl G, e, fun _ _ z => z, S⟩
/-- the source drawn from, nothing new that is stable -/
theorem Dr.drawn (e : Ex G H) (gh : G h = none) (gd : G d = none) (f : Fr h d H H1) (S : Src H1 h d) : Dr h d H G G H1 := ⟨f, Ex.refl G, f.ex e gh gd, fun _ _ z => z, S⟩
theorem Dr.gh (a : Dr h d H G G1 H1) (S : Src H h d) (g : G h = none) : G1 h = none := a.old h S.nh g
theorem Dr.gd (a : Dr h d H G G1 H1) (S : Src H h d) (g : G d = none) : G1 d = none := a.old d S.nd g
end
section
variable {K : PySem.W.Frag} {w : World} {c : Ad} {σ : L2.St} {G H : Hp} {ta te : TE} {ds : List PyData} {h d : Addr} {Q : VK} {i : Nat}
theorem u_next {n : Int} (hi : σ[i]? = some (some (.ref h))) (S : Src H h d) (h0 : 0 < n) (h1 : n < 1000000000) (k : ∀ (r : Int) H', 0 ≤ r → r < n → Src H' h d → Fr h d H H' → Q (.int r) H') :
    tCall (sp__law_next K w c) [] E0 (tCons (tVar i) (tCons (tC (.int n)) tNil)) σ H Q := ⟨_, hi, h, d, n, rfl, S, h0, h1, k⟩
theorem u_pick (hi : σ[i]? = some (some (.ref h))) (ha : Cm (ta σ) G (MP.d K (.list ds))) (e : Ex G H) (S : Src H h d) (gh : G h = none) (gd : G d = none) (hl : 0 < ds.length) (hl2 : ds.length ≤ 100000)
    (k : ∀ v x G' H', x ∈ ds → Dp K G' v x → Dr h d H G G' H' → Q v H') : tCall (sp__law_pick K w c) [] E0 (tCons (tVar i) (tCons ta tNil)) σ H Q := by
  refine ⟨_, hi, ha H e _ fun a G1 H1 e1 n1 p1 => ?_⟩
  obtain ⟨a, xs, rfl, hs, hd⟩ := dp_lst p1
  have D1 := Dr.of e1 n1 S
  have g1 := D1.gh S gh
  have g2 := D1.gd S gd
  refine ⟨h, d, a, xs, G1, rfl, D1.src, n1.le, g1, g2, hs, by rw [DpAll.length hd]; exact hl, by rw [DpAll.length hd]; exact hl2, fun v H' hv S' f => ?_⟩
  obtain ⟨j, hj⟩ := List.getElem?_of_mem hv
  obtain ⟨x, hx, px⟩ := DpAll.at_ hd hj
  exact k v x G1 H' (List.mem_of_getElem? hx) px (D1.trans (Dr.drawn n1.le g1 g2 f S'))
end
theorem Src.upd {H : Hp} {h d p : Addr} {o : HO} (S : Src H h d) (h1 : p ≠ h) (h2 : p ≠ d) : Src (L2.upd H p o) h d := by
  obtain ⟨s, i, cells, a, b, r⟩ := S.ex
  exact ⟨s, i, cells, by rw [upd_ne (Ne.symm h1)]; exact a, by rw [upd_ne (Ne.symm h2)]; exact b, r⟩
/-! ### rules put together -/
def okKvs (l : List (Str × Str)) : Prop := ∀ (j : Nat) (q : Str × Str), l[j]? = some q → ∃ p : Str × List Str, kvParts[j]? = some p ∧ q.1 = p.1 ∧ q.2 ∈ p.2
theorem bool_of {x y z : Str} (h : z ∈ [x, y]) : ∃ b : Bool, z = bif b then y else x := by
  rcases List.mem_cons.mp h with e | e
  · exact ⟨false, e⟩
  · exact ⟨true, List.mem_singleton.mp e⟩
theorem mis_of {z : Str} (h : z ∈ [("none" : Str), "place", "waits"]) : ∃ m : Mis, z = m.s := by
  rcases List.mem_cons.mp h with e | h
  · exact ⟨.none, e⟩
  · rcases List.mem_cons.mp h with e | h
    · exact ⟨.place, e⟩
    · exact ⟨.waits, List.mem_singleton.mp h⟩
theorem rule_of {l : List (Str × Str)} (hl : l.length = 6) (h : okKvs l) : ∃ r : Rule, l = r.kvs := by
  match l, hl, h with
  | [q0, q1, q2, q3, q4, q5], _, h =>
    obtain ⟨p, e, a1, a2⟩ := h 0 q0 rfl
    cases e
    obtain ⟨p, e, b1, b2⟩ := h 1 q1 rfl
    cases e
    obtain ⟨p, e, c1, c2⟩ := h 2 q2 rfl
    cases e
    obtain ⟨p, e, d1, d2⟩ := h 3 q3 rfl
    cases e
    obtain ⟨p, e, m1, m2⟩ := h 4 q4 rfl
    cases e
    obtain ⟨p, e, e1, e2⟩ := h 5 q5 rfl
    cases e
    obtain ⟨a, a2⟩ := bool_of a2
    obtain ⟨b, b2⟩ := bool_of b2
    obtain ⟨c, c2⟩ := bool_of c2
    obtain ⟨d, d2⟩ := bool_of d2
    obtain ⟨m, m2⟩ := mis_of m2
    obtain ⟨e, e2⟩ := bool_of e2
    refine ⟨⟨a, b, c, d, m, e⟩, ?_⟩
    rw [← Prod.eta q0, ← Prod.eta q1, ← Prod.eta q2, ← Prod.eta q3, ← Prod.eta q4, ← Prod.eta q5, a1, a2, b1, b2, c1, c2, d1, d2, m1, m2, e1, e2] <;> rfl
def putS (l : List (Str × Str)) (x y : Str) : List (Str × Str) := if l.any (fun q => decide (q.1 = x)) then l.map (fun q => if q.1 = x then (q.1, y) else q) else l ++ [(x, y)]
theorem put_kv (l : List (Str × Str)) (x y : Str) : putK (kvD l) (Sum.inr x : Key) (.str y) = kvD (putS l x y) := by
  have e1 : ((kvD l).any fun kv => decide (kv.1 = Sum.inr x)) = l.any fun q => decide (q.1 = x) := by
    unfold kvD
    rw [List.any_map]
    refine congrArg (fun f => l.any f) (funext fun q => ?_)
    show decide (Sum.inr q.1 = (Sum.inr x : Key)) = decide (q.1 = x)
    by_cases e : q.1 = x
    · rw [e, decide_eq_true rfl, decide_eq_true rfl]
    · rw [decide_eq_false e, decide_eq_false fun z => e (Sum.inr.inj z)]
  unfold putK putS
  rw [e1]
  split
  · unfold kvD
    rw [List.map_map, List.map_map]
    refine List.map_congr_left fun q _ => ?_
    show (if (Sum.inr q.1 : Key) = Sum.inr x then _ else _) = ((fun q : Str × Str => ((Sum.inr q.1 : Key), V.str q.2)) (if q.1 = x then (q.1, y) else q))
    by_cases e : q.1 = x
    · rw [if_pos e, if_pos (congrArg Sum.inr e)]
    · rw [if_neg e, if_neg fun z => e (Sum.inr.inj z)]
  · unfold kvD
    rw [List.map_append] <;> rfl
theorem put_missing (r : Rule) : putS r.kvs "missing" "place" = ({ r with mis := .place } : Rule).kvs := by
  have e1 : (r.kvs.any fun q => decide (q.1 = ("missing" : Str))) = true := by
    have : (r.kvs.map (·.1)).any (fun x => decide (x = ("missing" : Str))) = true := by rw [rule_keys]; decide +kernel
    rwa [List.any_map] at this
  unfold putS
  rw [if_pos e1]
  unfold Rule.kvs
  obtain ⟨a, b, c, d, m, e⟩ := r
  cases m <;> cases a <;> cases b <;> cases c <;> cases d <;> cases e <;> decide +kernel
theorem put_again (r : Rule) : putS r.kvs "again" "skip" = ({ r with twice := false } : Rule).kvs := by
  have e1 : (r.kvs.any fun q => decide (q.1 = ("again" : Str))) = true := by
    have : (r.kvs.map (·.1)).any (fun x => decide (x = ("again" : Str))) = true := by rw [rule_keys]; decide +kernel
    rwa [List.any_map] at this
  unfold putS
  rw [if_pos e1]
  unfold Rule.kvs
  obtain ⟨a, b, c, d, m, e⟩ := r
  cases m <;> cases a <;> cases b <;> cases c <;> cases d <;> cases e <;> decide +kernel
section
variable {K : PySem.W.Frag} {w : World} {c : Ad}
def sp__law_rule (K : PySem.W.Frag) (w : World) (c : Ad) : Sp := fun vs H Q _ => ∃ (h d : Addr), vs = [.ref h] ∧ Src H h d ∧ ∀ (r : Rule) p H', H p = none → H' p = some (.dK (kvD r.kvs)) → Src H' h d → Fr h d H H' → Q (.ref p) H'
theorem len__law_rule {vs : List V} {H : Hp} {Q : VK} {E : XK} (h : sp__law_rule K w c vs H Q E) : vs.length = 1 := by
  obtain ⟨_, _, rfl, _⟩ := h
  rfl
def t__law_rule (K : PySem.W.Frag) (w : World) (c : Ad) : TS :=
  (tSeq (tAsg tDNewK (gName 1))
    (tSeq (tFor (iSeq K (tCall (sp__law_parts K w c) [] E0 tNil)) (gName 2)
    (sDPut (tVar 1) (tOp (rIx K) (tVar 2) (tC (.int 0))) (tCall (sp__law_pick K w c) [] E0 (tCons (tVar 0) (tCons (tSl (rSlG K) (tVar 2) (tPart (tC (.int 1))) tNoPart) tNil)))))
    (tSeq (tIfS (tTest (tOp (rEqD K) (tCall (sp__law_next K w c) [] E0 (tCons (tVar 0) (tCons (tC (.int 3)) tNil))) (tC (.int 0)))) (sDPut (tVar 1) (tC (.str "missing")) (tC (.str "place"))) tNext)
    (tRet (tVar 1)))))
def noH : Hp := fun _ => none
theorem noH_ex {H : Hp} : Ex noH H := fun _ _ z => nomatch z
theorem parts_at {i : Nat} {x : PyData} (h : (partsL.map fun l => PyData.list (l.map PyData.str))[i]? = some x) : ∃ p : Str × List Str, kvParts[i]? = some p ∧ x = .list (.str p.1 :: p.2.map PyData.str) := by
  have e : (partsL.map fun l => PyData.list (l.map PyData.str)) = kvParts.map fun p => .list (.str p.1 :: p.2.map PyData.str) := rfl
  rw [e, List.getElem?_map] at h
  cases q : kvParts[i]? with
  | none => rw [q] at h; cases h
  | some p => rw [q] at h; exact ⟨p, rfl, (Option.some.inj h).symm⟩
theorem parts_pos : ∀ p ∈ kvParts, 0 < p.2.length ∧ p.2.length ≤ 3 := by decide +kernel
theorem okKvs.snoc {l : List (Str × Str)} {i : Nat} {pt : Str × List Str} {s : Str} (h : okKvs l) (hn : l.length = i) (hp : kvParts[i]? = some pt) (hs : s ∈ pt.2) : okKvs (l ++ [(pt.1, s)]) := by
  intro j q hj
  rw [List.getElem?_append] at hj
  split at hj
  · exact h j q hj
  · next hlt =>
    have : j = i := by
      have := (List.getElem?_eq_some_iff.mp hj).1
      simp at this
      omega
    subst this
    rw [hn, Nat.sub_self] at hj
    cases hj
    exact ⟨pt, hp, rfl, hs⟩
theorem kv_keys_nd : ∀ i < 6, ∀ j < 6, (kvParts[i]?).map (·.1) = (kvParts[j]?).map (·.1) → i = j := by decide +kernel
theorem okKvs.fresh {l : List (Str × Str)} {i : Nat} {pt : Str × List Str} (h : okKvs l) (hn : l.length = i) (hp : kvParts[i]? = some pt) : (l.any fun q => decide (q.1 = pt.1)) = false := by
  rw [Bool.eq_false_iff]
  intro ha
  obtain ⟨q, hq, he⟩ := List.any_eq_true.mp ha
  have he := of_decide_eq_true he
  obtain ⟨j, hj⟩ := List.getElem?_of_mem hq
  obtain ⟨p2, h2, h3, _⟩ := h j q hj
  have hjl := (List.getElem?_eq_some_iff.mp hj).1
  have := kv_keys_nd j (List.getElem?_eq_some_iff.mp h2).1 i (List.getElem?_eq_some_iff.mp hp).1 (by rw [h2, hp, Option.map_some, Option.map_some, ← he, h3])
  omega
theorem rd__law_rule {vs : List V} {H : Hp} {Q : VK} {E : XK} (h : sp__law_rule K w c vs H Q E) : t__law_rule K w c (Dn Q) (vs.map some ++ List.replicate (3 - vs.length) none) H := by
  obtain ⟨h, d, rfl, S, k⟩ := h
  intro p hp
  have S1 : Src (upd H p (.dK [])) h d := S.ext (Ex.new hp)
  refine ⟨(), noH, noH_ex, .nil, fun v G H1 e1 n1 p1 => ?_⟩
  obtain ⟨a, xs, rfl, ha, hd⟩ := p1
  have D1 : Dr h d H noH G H1 := ⟨Fr.of ((Ex.new hp).trans e1), noH_ex, n1.le, fun b hb g => n1.old b (by rw [upd_ne (fun z => hb (by rw [z]; exact hp))]; exact hb) g, S1.ext e1⟩
  have gp : G p = none := n1.old p (by rw [upd_same]; exact fun z => nomatch z) rfl
  have gh := D1.gh S rfl
  have gd := D1.gd S rfl
  have hph : p ≠ h := fun z => S.nh (by rw [← z]; exact hp)
  have hpd : p ≠ d := fun z => S.nd (by rw [← z]; exact hp)
  have hst : ∀ {G' H2 : Hp} {l : List (Str × Str)}, Dr h d H noH G' H2 → G' p = none → Dr h d H noH G' (upd H2 p (.dK (kvD l))) := fun D g => ⟨fun b o hb h1 h2 => by
    rw [upd_ne (fun z => by rw [z, hp] at hb; cases hb)]; exact D.fr b o hb h1 h2, D.ex, D.le.mut g, D.old, D.src.upd hph hpd⟩
  refine .inl ⟨a, rfl, ⟨xs, SqL.of (n1.le _ _ ha)⟩, ?_⟩
  have hxl : xs.length = 6 := (DpAll.length hd).trans rfl
  refine for_list (xs := xs) (fun i σ H' => (∃ x, σ = [some (.ref h), some (.ref p), x]) ∧ (∃ G', Dr h d H noH G' H' ∧ G' p = none ∧ G' a = G a ∧ Ex G G') ∧ ∃ l : List (Str × Str), H' p = some (.dK (kvD l)) ∧ l.length = i ∧ okKvs l)
    ⟨⟨none, rfl⟩, ⟨G, D1, gp, rfl, Ex.refl G⟩, [], e1 _ _ upd_same, rfl, fun j q z => by simp at z⟩ ?_ ?_ ?_
  · rintro i σ H' _ ⟨_, ⟨G', D, _, _, eG⟩, _⟩
    exact SqL.of (D.le _ _ (eG _ _ ha))
  · rintro i x σ H' hx ⟨⟨y, rfl⟩, ⟨G', D, gp', _, eG⟩, l, hl, hn, hok⟩
    obtain ⟨pd, hpd', px⟩ := DpAll.at_ hd hx
    obtain ⟨pt, hpt, rfl⟩ := parts_at hpd'
    have px' := Dp.up eG _ _ px
    have hmem := List.mem_of_getElem? hpt
    have cx : ∀ {G2 : Hp}, Ex G' G2 → Cm (tVar 2 [some (.ref h), some (.ref p), some x]) G2 (MP.d K (.list (.str pt.1 :: pt.2.map PyData.str))) := fun e2 => c_var rfl (Dp.up e2 _ _ px')
    refine u_pick (ds := pt.2.map PyData.str) rfl (c_to (c_slL (cx (Ex.refl _)) (c_part (K := K) c_int) c_nopart) ?_) D.le D.src (D.gh S rfl) (D.gd S rfl) (by rw [List.length_map]; exact (parts_pos pt hmem).1) (by rw [List.length_map]; have := (parts_pos pt hmem).2; omega) fun v z G2 H2 hz pz D2 => ?_
    · refine congrArg PyData.list ?_
      unfold cutD
      simp [HT.sIx]
      exact List.take_of_length_le (by rw [List.length_map] <;> exact Nat.le_refl _)
    · obtain ⟨s, hs, rfl⟩ := List.mem_map.mp hz
      have ev := dp_str pz
      subst ev
      have hl2 : H2 p = some (.dK (kvD l)) := D2.fr _ _ hl hph hpd
      have gp2 : G2 p = none := D2.old p (by rw [hl]; exact fun z => nomatch z) gp'
      refine ⟨_, rfl, (c_ixL (cx D2.ex) c_int (atI_of (by decide) rfl rfl) : Cm (tOp (rIx K) (tVar 2) (tC (.int 0)) [some (.ref h), some (.ref p), some x]) G2 (MP.d K (.str pt.1))) H2 D2.le _ fun u G3 H3 e3 n3 p3 => ?_⟩
      have eu := dp_str p3
      subst eu
      have hl3 : H3 p = some (.dK (kvD l)) := e3 _ _ hl2
      have hlen := (List.getElem?_eq_some_iff.mp hpt).1
      have D3 := (D.trans D2).trans (Dr.of e3 n3 D2.src)
      have gp3 : G3 p = none := n3.old p (by rw [hl2]; exact fun z => nomatch z) gp2
      have ep : putK (kvD l) (Sum.inr pt.1 : Key) (.str s) = kvD (l ++ [(pt.1, s)]) := by
        rw [put_kv]
        unfold putS
        rw [hok.fresh hn hpt] <;> rfl
      refine ⟨p, _, rfl, DPut.k (k := Sum.inr pt.1) hl3 ?_, ⟨x, rfl⟩, ⟨G3, ?_, gp3, ?_, eG.trans (D2.ex.trans n3.ex)⟩, l ++ [(pt.1, s)], ?_, by rw [List.length_append, hn] <;> rfl, hok.snoc hn hpt hs⟩
      · unfold kvD
        rw [List.length_map, hn]
        exact Nat.lt_trans hlen (by decide)
      · rw [ep]; exact hst D3 gp3
      · rw [(eG.trans (D2.ex.trans n3.ex)) _ _ ha, ha]
      · rw [upd_same, ep]
  · rintro σ H' ⟨⟨x, rfl⟩, ⟨G', D, gp', _, eG⟩, l, hl, hn, hok⟩
    obtain ⟨r, rfl⟩ := rule_of (hn.trans hxl) hok
    refine u_next rfl D.src (by decide) (by decide) fun n H2 _ _ S2 f2 => ?_
    have hl2 : H2 p = some (.dK (kvD r.kvs)) := f2 _ _ hl hph hpd
    have D2 := D.trans (Dr.drawn D.le (D.gh S rfl) (D.gd S rfl) f2 S2)
    refine ⟨.int n, .int 0, .int _, .int _, rfl, rfl, _, rfl, ?_⟩
    cases PyData.eqv (.int n) (.int 0) with
    | true =>
      refine ⟨_, rfl, p, _, rfl, DPut.k (k := Sum.inr "missing") hl2 (by rw [kvD, List.length_map, hn, hxl]; decide), _, rfl, ?_⟩
      rw [put_kv, put_missing]
      exact k _ p _ hp upd_same (hst (l := ({ r with mis := .place } : Rule).kvs) D2 gp').src (hst (l := ({ r with mis := .place } : Rule).kvs) D2 gp').fr
    | false => exact ⟨_, rfl, k r p _ hp hl2 S2 D2.fr⟩
end
end Ah
/-! Ah15: computations that draw from the source. -/
namespace Ah
open PySem PySem.Spec PyProof.Rows L2 Evl

abbrev MP.ex {α ι : Type} (f : ι → MP α) : MP α := ⟨fun v G => ∃ i, (f i).p v G, fun e h => let ⟨i, q⟩ := h; ⟨i, (f i).mono e q⟩⟩
/-- t draws from the source at h, d, and answers a P -/
def Dw {α : Type} (h d : Addr) (t : Hp → (α → Hp → Prop) → Prop) (G : Hp) (P : MP α) : Prop :=
  ∀ H, Ex G H → Src H h d → G h = none → G d = none → ∀ Q : α → Hp → Prop, (∀ a G' H', P.p a G' → Dr h d H G G' H' → Q a H') → t H Q
theorem Dr.up {h d : Addr} {G G1 G' H H' : Hp} (hg : Ex G G1) (h1 : Ex G1 H) (g1 : G1 h = none) (g2 : G1 d = none) (n : Dr h d H G G' H') : Dr h d H G1 (mrg G1 G') H' ∧ Ex G' (mrg G1 G') := by
  have key : ∀ b u, G1 b = some u → H' b = some u := fun b u q => n.fr b u (h1 b u q) (fun z => by rw [z, g1] at q; cases q) (fun z => by rw [z, g2] at q; cases q)
  refine ⟨⟨n.fr, fun b o h => mrg_some h, fun b o h => ?_, fun b hb hn => ?_, n.src⟩, fun b o h => ?_⟩
  · cases q : G1 b with
    | some u => rw [mrg_some q] at h; cases h; exact key b _ q
    | none => rw [mrg_none q] at h; exact n.le b o h
  · rw [mrg_none hn]; exact n.old b hb (fresh_back hg hn)
  · cases q : G1 b with
    | some u =>
      rw [mrg_some q]
      have z1 := n.le b o h
      rw [key b _ q] at z1
      exact z1
    | none => rw [mrg_none q]; exact h
section
variable {α β : Type} {t : Hp → (α → Hp → Prop) → Prop} {u : α → Hp → (β → Hp → Prop) → Prop} {G G1 : Hp} {P P' : MP α} {R : MP β} {h d : Addr}
theorem Dw.of (k : Cm t G P) : Dw h d t G P := fun H e S gh gd Q q => k H e Q fun a G' H' e1 n1 p1 => q a G' H' p1 (Dr.of e1 n1 S)
theorem Dw.ret {a : α} (k : P.p a G) : Dw h d (fun H Q => Q a H) G P := Dw.of (Cm.ret k)
theorem Dw.bind (k : Dw h d t G P) (l : ∀ a G1, Ex G G1 → P.p a G1 → Dw h d (u a) G1 R) : Dw h d (fun H Q => t H fun a H1 => u a H1 Q) G R := fun H e S gh gd Q q =>
  k H e S gh gd _ fun a G1 H1 p1 D1 => l a G1 D1.ex p1 H1 D1.le D1.src (D1.gh S gh) (D1.gd S gd) Q fun b G2 H2 r2 D2 => q b G2 H2 r2 (D1.trans D2)
theorem Dw.up (k : Dw h d t G P) (hg : Ex G G1) : Dw h d t G1 P := fun H e S gh gd Q q =>
  k H (hg.trans e) S (fresh_back hg gh) (fresh_back hg gd) Q fun a G' H' p1 D1 => by
    obtain ⟨n2, x2⟩ := Dr.up hg e gh gd D1
    exact q a _ H' (P.mono x2 p1) n2
theorem Dw.imp (k : Dw h d t G P) (l : ∀ a G', Ex G G' → P.p a G' → P'.p a G') : Dw h d t G P' := fun H e S gh gd Q q => k H e S gh gd Q fun a G' H' p1 D1 => q a G' H' (l a G' D1.ex p1) D1
end
section
variable {K : PySem.W.Frag} {w : World} {c : Ad} {σ : L2.St} {G : Hp} {ta tb te tl : TE} {tas : TA} {ds : List PyData} {h d : Addr} {P P1 P2 R : MP V} {r : R2} {i : Nat} {tt : TT} {t u tr : TS} {x y : PyData}
theorem d_op (h1 : Dw h d (ta σ) G P1) (h2 : Dw h d (tb σ) G P2) (hr : ∀ x y G1, Ex G G1 → P1.p x G1 → P2.p y G1 → Cm (r x y) G1 P) : Dw h d (tOp r ta tb σ) G P :=
  Dw.bind (t := ta σ) (u := fun (x : V) (H : Hp) (Q : VK) => tb σ H fun y H2 => r x y H2 Q) h1 fun x G1 e1 p1 =>
    Dw.bind (t := tb σ) (u := fun (y : V) (H : Hp) (Q : VK) => r x y H Q) (h2.up e1) fun y G2 e2 p2 => .of (hr x y G2 (e1.trans e2) (P1.mono e2 p1) p2)
theorem d_addI {f g : Int → Prop} {ι κ : Type} {fi : ι → Int} {fj : κ → Int} (h1 : Dw h d (ta σ) G (MP.ex fun i : ι => MP.d K (.int (fi i)))) (h2 : Dw h d (tb σ) G (MP.ex fun j : κ => MP.d K (.int (fj j)))) :
    Dw h d (tOp (rAddG K) ta tb σ) G (MP.ex fun p : ι × κ => MP.d K (.int (fi p.1 + fj p.2))) :=
  d_op h1 h2 fun x y G1 e1 ⟨i, p⟩ ⟨j, q⟩ => by
    rw [dp_int p, dp_int q]
    exact c_val (z := .int (fi i + fj j)) (fun H eh Q h => u_addI h) ⟨(i, j), .int _⟩
theorem d_nil : Dw h d (tNil σ) G (MP.args []) := .of c_nil
theorem d_cons {Ps : List (MP V)} (h1 : Dw h d (te σ) G P) (h2 : Dw h d (tas σ) G (MP.args Ps)) : Dw h d (tCons te tas σ) G (MP.args (P :: Ps)) :=
  Dw.bind (t := te σ) (u := fun (x : V) (H : Hp) (Q : List V → Hp → Prop) => tas σ H fun xs H2 => Q (x :: xs) H2) h1 fun x G1 e1 p1 =>
    Dw.bind (t := tas σ) (u := fun (xs : List V) (H : Hp) (Q : List V → Hp → Prop) => Q (x :: xs) H) (h2.up e1) fun xs G2 e2 p2 => .ret (.cons (P.mono e2 p1) p2)
theorem d_next {n : Nat} (hi : σ[i]? = some (some (.ref h))) (h0 : 0 < n) (h1 : n < 1000000000) : Dw h d (tCall (sp__law_next K w c) [] E0 (tCons (tVar i) (tCons (tC (.int n)) tNil)) σ) G (MP.ex fun r : Fin n => MP.d K (.int r.val)) :=
  fun H e S gh gd Q q => u_next hi S (by omega) (by omega) fun r H' r0 r1 S' f => q _ G H' ⟨⟨r.toNat, by omega⟩, by
    have : (r.toNat : Int) = r := by omega
    show Dp K G _ (.int (r.toNat : Int))
    rw [this]
    exact .int r⟩ (Dr.drawn e gh gd f S')
theorem d_pick (hi : σ[i]? = some (some (.ref h))) (ha : Cm (ta σ) G (MP.d K (.list ds))) (hl : 0 < ds.length) (hl2 : ds.length ≤ 100000) :
    Dw h d (tCall (sp__law_pick K w c) [] E0 (tCons (tVar i) (tCons ta tNil)) σ) G (MP.ex fun x : { x // x ∈ ds } => MP.d K x.val) :=
  fun H e S gh gd Q q => u_pick hi ha e S gh gd hl hl2 fun v x G' H' hx px D => q v G' H' ⟨⟨x, hx⟩, px⟩ D
theorem d_rule (hi : σ[i]? = some (some (.ref h))) : Dw h d (tCall (sp__law_rule K w c) [] E0 (tCons (tVar i) tNil) σ) G (MP.ex fun r : Rule => MP.dk r.kvs) :=
  fun H e S gh gd Q q => ⟨_, hi, h, d, rfl, S, fun r p H' hp hH S' f => by
    have ex := f.ex e gh gd
    have gp : G p = none := fresh_back e hp
    refine q _ (upd G p (.dK (kvD r.kvs))) H' ⟨r, p, rfl, upd_same⟩ ⟨f, Ex.new gp, fun b o hb => ?_, fun b hb hn => ?_, S'⟩
    · by_cases hbp : b = p
      · subst hbp; rw [upd_same] at hb; rw [hH]; exact hb
      · rw [upd_ne hbp] at hb; exact ex b o hb
    · rw [upd_ne (fun z => hb (by rw [z]; exact hp))]; exact hn⟩
/-! ### bodies that draw -/
theorem db_ret (k : Dw h d (te σ) G P) : Dw h d (bd (tRet te) σ) G P := k
theorem db_asg {i : Nat} (k : Dw h d (te σ) G R) (l : ∀ v G1, Ex G G1 → R.p v G1 → Dw h d (bd tr (σ.set i (some v))) G1 P) : Dw h d (bd (tSeq (tAsg te (gName i)) tr) σ) G P :=
  Dw.bind (t := te σ) (u := fun (v : V) (H : Hp) (Q : VK) => tr { nx := fun _ H' => Q .non H', rt := Q } (σ.set i (some v)) H) k l
theorem db_if {b : Bool} (k : Cm (tt σ) G (MP.eq b)) (h1 : b = true → Dw h d (bd (tSeq t tr) σ) G P) (h2 : b = false → Dw h d (bd (tSeq u tr) σ) G P) : Dw h d (bd (tSeq (tIfS tt t u) tr) σ) G P :=
  Dw.bind (t := tt σ) (u := fun (c : Bool) (H : Hp) (Q : VK) => if c = true then tSeq t tr { nx := fun _ H' => Q .non H', rt := Q } σ H else tSeq u tr { nx := fun _ H' => Q .non H', rt := Q } σ H) (.of k) fun c G1 e1 p => by
    have e : c = b := p
    subst e
    cases c with
    | true => exact (h1 rfl).up e1
    | false => exact (h2 rfl).up e1
/-! ### statements of a law's loop -/
def St (h d : Addr) (t : TS) (D : Ends) (σ : L2.St) (G : Hp) : Prop := ∀ H, Ex G H → Src H h d → G h = none → G d = none → t D σ H
variable {D : Ends}
theorem s_asg {i : Nat} (k : Dw h d (te σ) G R) (l : ∀ v G1, Ex G G1 → R.p v G1 → St h d tr D (σ.set i (some v)) G1) : St h d (tSeq (tAsg te (gName i)) tr) D σ G :=
  fun H e S gh gd => k H e S gh gd _ fun a G1 H1 p1 D1 => l a G1 D1.ex p1 H1 D1.le D1.src (D1.gh S gh) (D1.gd S gd)
theorem s_if {b : Bool} (k : Dw h d (tt σ) G (MP.eq b)) (h1 : b = true → St h d t D σ G) (h2 : b = false → St h d u D σ G) : St h d (tIfS tt t u) D σ G :=
  fun H e S gh gd => k H e S gh gd _ fun a G1 H1 p1 D1 => by
    have p1 : a = b := p1
    subst p1
    cases a with
    | true => exact h1 rfl H1 (D1.ex.trans D1.le) D1.src gh gd
    | false => exact h2 rfl H1 (D1.ex.trans D1.le) D1.src gh gd
theorem s_next (k : ∀ H, Ex G H → Src H h d → D.nx σ H) : St h d tNext D σ G := fun H e S _ _ => k H e S
/-! ### a comprehension over range that draws -/
/-- the new list at A holds i data that S tells -/
def CD (K : PySem.W.Frag) (S : PyData → Prop) (h d : Addr) (H1 G1 : Hp) (A : Addr) (i : Nat) (H' : Hp) : Prop :=
  ∃ (G' : Hp) (acc : List V) (es : List PyData), es.length = i ∧ (∀ e ∈ es, S e) ∧ Dr h d H1 G1 G' H' ∧ G' A = none ∧ H' A = some (.lst acc) ∧ DpAll K G' acc es
theorem d_lcR {ta : TA} {g : TG} {te : TE} {vs : List Nat} {S : PyData → Prop} {ι : Type} {fn : ι → Nat} {fd : ι → PyData} (ha : Dw h d (ta σ) G (MP.args [MP.ex fun i : ι => MP.d K (.int (fn i : Nat))])) (hn : ∀ i, fn i ≤ 90000)
    (turn : ∀ (v : V) G1, Ex G G1 → ∃ σ2, wipe σ2 vs = wipe σ vs ∧ (∀ H1, Ex G1 H1 → ∀ Q : L2.St → Hp → Prop, Q σ2 H1 → g v (wipe σ vs) H1 Q) ∧ Dw h d (te σ2) G1 (MP.ex fun x : { x // S x } => MP.d K x.val)) :
    Dw h d (tLc (iRng1 ta) g tYes te vs σ) G (MP.ex fun p : { p : ι × List PyData // p.2.length = fn p.1 ∧ ∀ x ∈ p.2, S x } => MP.l K p.val.2) := fun H e S0 gh gd Q q =>
  ha H e S0 gh gd _ fun xs G1 H1 p1 D1 => by
    match xs, p1 with
    | [a], .cons ⟨j, pa⟩ _ =>
      rw [dp_int pa]
      have hj := hn j
      refine ⟨fn j, rfl, by omega, by omega, fun A hA => ?_⟩
      have gA : G1 A = none := fresh_back D1.le hA
      have hAh : A ≠ h := fun z => D1.src.nh (by rw [← z]; exact hA)
      have hAd : A ≠ d := fun z => D1.src.nd (by rw [← z]; exact hA)
      refine lc_range (lo := 0) (n := ((fn j : Nat) : Int).toNat) (fun i H' => CD K S h d H1 G1 A i H') ⟨G1, [], [], rfl, fun _ z => absurd z (List.not_mem_nil), ⟨Fr.of (Ex.new hA), Ex.refl G1, D1.le.trans (Ex.new hA), fun _ _ z => z, D1.src.upd hAh hAd⟩, gA, upd_same, .nil⟩ ?_ ?_
      · rintro i H' hi ⟨G', acc, es, hl, hS, D2, gA', hA', pa'⟩
        obtain ⟨σ2, hw, hg, hd⟩ := turn (.int (0 + i)) G' (D1.ex.trans D2.ex)
        refine hg H' D2.le _ ⟨hw, ?_⟩
        refine u_yes (iteT ?_)
        refine hd H' D2.le D2.src (D2.gh D1.src (D1.gh S0 gh)) (D2.gd D1.src (D1.gd S0 gd)) _ fun y G3 H3 ⟨⟨z, hz⟩, pz⟩ D3 => ?_
        have h3 : H3 A = some (.lst acc) := D3.fr _ _ hA' hAh hAd
        have g3 : G3 A = none := D3.old A (by rw [hA']; exact fun z => nomatch z) gA'
        have D4 := D2.trans D3
        refine ⟨acc, h3, by rw [DpAll.length pa', hl]; exact sz_lt (by omega), G3, acc ++ [y], es ++ [z], by rw [List.length_append, hl] <;> rfl, fun e he => ?_, ⟨fun b o hb h1 h2 => ?_, D4.ex, D4.le.mut g3, D4.old, D4.src.upd hAh hAd⟩, g3, upd_same, DpAll.app (DpAll.up D3.ex _ _ pa') (.cons pz .nil)⟩
        · rcases List.mem_append.mp he with he | he
          · exact hS e he
          · rw [List.mem_singleton.mp he]; exact hz
        · rw [upd_ne (fun z => by rw [z, hA] at hb; cases hb)]; exact D4.fr b o hb h1 h2
      · rintro H' ⟨G', acc, es, hl, hS, D2, gA', hA', pa'⟩
        have D3 := D1.trans D2
        refine q _ (upd G' A (.lst acc)) H' ⟨⟨(j, es), by rw [hl] <;> rfl, hS⟩, A, acc, rfl, upd_same, DpAll.up (Ex.new gA') _ _ pa'⟩ ⟨D3.fr, D3.ex.trans (Ex.new gA'), fun b o hb => ?_, fun b hb hn => ?_, D3.src⟩
        · by_cases hbA : b = A
          · subst hbA; rw [upd_same] at hb; rw [hA']; exact hb
          · rw [upd_ne hbA] at hb; exact D3.le b o hb
        · rw [upd_ne (fun z => D1.fr.some D1.src hb (by rw [z]; exact hA))]; exact D3.old b hb hn
end
end Ah
/-! Ah16: drawing a book; texts. -/
namespace Ah
open PySem PySem.Spec PyProof.Rows L2 Evl

/-! ### join, split, stars, copies of dicts -/
def rJoin (K : PySem.W.Frag) : V → List V → Hp → VK → Prop := fun x xs H Q => ∃ a p, ∃ ys : List Str, x = .str a ∧ xs = [.ref p] ∧ (SqL K H p (ys.map V.str) ∨ SqT K H p (ys.map V.str)) ∧ (ys.map (·.length)).sum + ys.length * a.length ≤ 16777216 ∧ Q (.str (Txt.join a ys)) H
def rSplit : V → List V → Hp → VK → Prop := fun x xs H Q => ∃ a b, x = .str a ∧ xs = [.str b] ∧ (b.length == 0) = false ∧ a.length + 2 ≤ sizeLine ∧ rNewStrs (Txt.split a b) H Q
def rDictK : List V → Hp → VK → Prop := fun xs H Q => ∃ (a : Addr) (kvs : List (Key × V)), xs = [.ref a] ∧ Rd H a (.dK kvs) ∧ ∀ p, H p = none → Q (.ref p) (upd H p (.dK kvs))
theorem call_dictK {X : Cx} : CallR X (.type "dict") rDictK := call_dictD
theorem sum_le (n : Nat) : ∀ l : List Str, (∀ x ∈ l, x.length ≤ n) → (l.map (·.length)).sum ≤ l.length * n
  | [], _ => by simp
  | x :: l, h => by
    have h1 := h x (List.mem_cons_self ..)
    have h2 := sum_le n l fun z hz => h z (List.mem_cons_of_mem _ hz)
    rw [List.map_cons, List.sum_cons, List.length_cons, Nat.succ_mul]
    omega
section
variable {K : PySem.W.Frag} {w : World} {c : Ad} {σ : L2.St} {G : Hp} {ta tb te td : TE} {tas : TA} {ds es : List PyData} {h d : Addr} {P R : MP V} {l : List (Str × Str)}
theorem strs_of : ∀ {xs : List V} {ys : List Str} {G : Hp}, DpAll K G xs (ys.map PyData.str) → xs = ys.map V.str
  | [], [], _, _ => rfl
  | _, y :: ys, _, h => by
    cases h with
    | cons a b => rw [dp_str a, strs_of b] <;> rfl
theorem c_m1 {r : V → List V → Hp → VK → Prop} {P2 : MP V} {a : Str} (h1 : Cm (ta σ) G (MP.d K (.str a))) (h2 : Cm (tb σ) G P2) (k : ∀ y G1, Ex G G1 → P2.p y G1 → Cm (r (.str a) [y]) G1 P) : Cm (tM1 r ta tb σ) G P :=
  Cm.bind (t := ta σ) (u := fun (x : V) (H : Hp) (Q : VK) => (∃ a, x = .str a) ∧ tb σ H fun y H2 => r x [y] H2 Q) h1 fun x G1 e1 p1 => by
    rw [dp_str p1]
    exact c_and ⟨a, rfl⟩ (Cm.bind (t := tb σ) (u := fun (y : V) (H : Hp) (Q : VK) => r (.str a) [y] H Q) (h2.up e1) fun y G2 e2 p2 => k y G2 (e1.trans e2) p2)
theorem c_join {a : Str} {ys : List Str} {n : Nat} (h1 : Cm (ta σ) G (MP.d K (.str a))) (h2 : Cm (tb σ) G (MP.d K (.list (ys.map PyData.str)))) (hy : ∀ y ∈ ys, y.length ≤ n) (hz : ys.length * (n + a.length) ≤ 16777216) :
    Cm (tM1 (rJoin K) ta tb σ) G (MP.d K (.str (Txt.join a ys))) :=
  c_m1 h1 h2 fun y G1 e1 q => by
    obtain ⟨b, xs, rfl, k1, k2⟩ := dp_lst q
    rw [strs_of k2] at k1
    refine c_val (r := fun x y => rJoin K x [y]) (z := .str (Txt.join a ys)) (fun H eh Q h => ⟨a, b, ys, rfl, rfl, .inl (ex_l eh k1), ?_, h⟩) (.str _)
    have := sum_le n ys hy
    rw [Nat.mul_add] at hz
    omega
theorem c_split {a b : Str} (h1 : Cm (ta σ) G (MP.d K (.str a))) (h2 : Cm (tb σ) G (MP.d K (.str b))) (hb : (b.length == 0) = false) (ha : a.length ≤ 90000) :
    Cm (tM1 rSplit ta tb σ) G (MP.l K ((Txt.split a b).map PyData.str)) :=
  c_m1 h1 h2 fun y G1 e1 q => by
    rw [dp_str q]
    refine c_newV (r := rSplit (.str a) [.str b]) (o := .lst ((Txt.split a b).map V.str)) (fun H eh Q h => ⟨a, b, rfl, rfl, hb, ?_, h⟩) fun p hp => ⟨p, _, rfl, upd_same, dps_str _ _⟩
    exact sz_of (by omega)
theorem c_dictK (h1 : Cm (ta σ) G (MP.dk l)) : Cm (tCB rDictK (tCons ta tNil) σ) G (MP.dk l) :=
  c_cb1 h1 fun x G1 e1 p => by
    obtain ⟨p, rfl, hp⟩ := p
    exact c_newV (o := .dK (kvD l)) (fun H eh Q h => ⟨p, _, rfl, .inl (eh _ _ hp), h⟩) fun p hp => ⟨p, rfl, upd_same⟩
/-- [*a, ..] -/
theorem c_star (h1 : Cm (ta σ) G (MP.d K (.list ds))) (h2 : Cm (tas σ) G (MP.ds K es)) : Cm (StX.tStar K ta tas σ) G (MP.ds K (ds ++ es)) :=
  Cm.bind (t := ta σ) (u := fun (x : V) (H : Hp) (Q : List V → Hp → Prop) => ∃ p xs, x = V.ref p ∧ (SqT K H p xs ∨ SqL K H p xs) ∧ tas σ H fun ys H2 => Q (xs ++ ys) H2) h1 fun x G1 e1 p1 => by
    obtain ⟨b, xs, rfl, k1, k2⟩ := dp_lst p1
    exact fun H e Q q => ⟨b, xs, rfl, .inr (ex_l e k1), h2.up e1 H e _ fun ys G2 H2 e2 n2 p2 => q _ G2 H2 e2 n2 (DpAll.app (DpAll.up n2.ex _ _ k2) p2)⟩
theorem c_starT (h1 : Cm (ta σ) G (MP.d K (.tuple ds))) (h2 : Cm (tas σ) G (MP.ds K es)) : Cm (StX.tStar K ta tas σ) G (MP.ds K (ds ++ es)) :=
  Cm.bind (t := ta σ) (u := fun (x : V) (H : Hp) (Q : List V → Hp → Prop) => ∃ p xs, x = V.ref p ∧ (SqT K H p xs ∨ SqL K H p xs) ∧ tas σ H fun ys H2 => Q (xs ++ ys) H2) h1 fun x G1 e1 p1 => by
    obtain ⟨b, xs, rfl, k1, k2⟩ := dp_tup p1
    exact fun H e Q q => ⟨b, xs, rfl, .inl (ex_t e k1), h2.up e1 H e _ fun ys G2 H2 e2 n2 p2 => q _ G2 H2 e2 n2 (DpAll.app (DpAll.up n2.ex _ _ k2) p2)⟩
end
/-! ### _law_with -/
section
variable {K : PySem.W.Frag} {w : World} {c : Ad}
abbrev sp__law_with (K : PySem.W.Frag) (w : World) (c : Ad) : Sp := fun vs H Q _ => ∃ (p : Addr) (l : List (Key × V)) (x : Str) (v : V), vs = [.ref p, .str x, v] ∧ H p = some (.dK l) ∧ l.length < 1000 ∧ ∀ q, H q = none → Q (.ref q) (upd H q (.dK (putK l (Sum.inr x) v)))
theorem len__law_with {vs : List V} {H : Hp} {Q : VK} {E : XK} (h : sp__law_with K w c vs H Q E) : vs.length = 3 := by
  obtain ⟨_, _, _, _, rfl, _⟩ := h
  rfl
def t__law_with (K : PySem.W.Frag) (w : World) (c : Ad) : TS :=
  (tSeq (tAsg (tCB rDictK (tCons (tVar 0) tNil)) (gName 3))
    (tSeq (sDPut (tVar 3) (tVar 1) (tVar 2))
    (tRet (tVar 3))))
theorem rd__law_with {vs : List V} {H : Hp} {Q : VK} {E : XK} (h : sp__law_with K w c vs H Q E) : t__law_with K w c (Dn Q) (vs.map some ++ List.replicate (4 - vs.length) none) H := by
  obtain ⟨p, l, x, y, rfl, hp, hl, k⟩ := h
  refine ⟨_, rfl, p, _, rfl, .inl hp, fun q hq => ⟨_, rfl, _, rfl, _, rfl, q, _, rfl, DPut.k (k := Sum.inr x) upd_same ?_, _, rfl, ?_⟩⟩
  · exact sz_lt (by omega)
  · rw [upd_upd]
    exact k q hq
variable {σ : L2.St} {G : Hp} {ta tb te td : TE} {h d : Addr} {i : Nat}
theorem c_with {l : List (Str × Str)} {x y : Str} (h1 : Cm (ta σ) G (MP.dk l)) (h2 : Cm (tb σ) G (MP.d K (.str x))) (h3 : Cm (td σ) G (MP.d K (.str y))) (hl : l.length < 1000) : Cm (tCall (sp__law_with K w c) [] E0 (tCons ta (tCons tb (tCons td tNil))) σ) G (MP.dk (putS l x y)) := fun H e Q k =>
  c_cons h1 (c_cons h2 (c_cons h3 c_nil)) H e _ fun vs G1 H1 e1 n1 p1 => by
    cases p1 with
    | cons a1 p1 => cases p1 with
      | cons a2 p1 => cases p1 with
        | cons a3 p1 =>
          cases p1
          obtain ⟨p, rfl, hp⟩ := a1
          rw [dp_str a2, dp_str a3]
          refine ⟨p, kvD l, x, .str y, rfl, n1.le _ _ hp, by unfold kvD; rw [List.length_map]; exact hl, fun q hq => ?_⟩
          rw [put_kv]
          exact k _ (upd G1 q _) _ (e1.trans (Ex.new hq)) (n1.trans e1 (Nw.new n1.le hq)) ⟨q, rfl, upd_same⟩
end
/-! ### _law_draw -/
section
variable {K : PySem.W.Frag} {w : World} {c : Ad} {σ : L2.St} {G : Hp} {ta tb te td : TE} {h d : Addr} {i : Nat}
/-- a row of a law: what a book is made of -/
abbrev MP.rw (K : PySem.W.Frag) (b : Bk) : MP V := ⟨fun v G => ∃ a v0 v1 v2, v = .ref a ∧ G a = some (.lst [v0, v1, v2]) ∧ Dp K G v0 (rowsD b) ∧ (MP.dk b.rule.kvs).p v1 G ∧ Dp K G v2 (wordsD b),
  fun e h => let ⟨a, v0, v1, v2, h1, h2, h3, h4, h5⟩ := h; ⟨a, v0, v1, v2, h1, e _ _ h2, Dp.up e _ _ h3, (MP.dk b.rule.kvs).mono e h4, Dp.up e _ _ h5⟩⟩
def Bk.sound (b : Bk) : Prop := b.ok ∧ (b.rows.length = 2 → b.rule.twice = false ∧ ¬ (b.join = true ∧ b.sweep = true))
abbrev BkS := { b : Bk // b.sound }
def sp__law_draw (K : PySem.W.Frag) (w : World) (c : Ad) : Sp := fun vs H Q _ => ∃ (h d : Addr), vs = [.ref h] ∧ Src H h d ∧ ∀ (b : BkS) v G' H', (MP.rw K b.val).p v G' → Dr h d H noH G' H' → Q v H'
theorem len__law_draw {vs : List V} {H : Hp} {Q : VK} {E : XK} (h : sp__law_draw K w c vs H Q E) : vs.length = 1 := by
  obtain ⟨_, _, rfl, _⟩ := h
  rfl
def t__law_draw (K : PySem.W.Frag) (w : World) (c : Ad) : TS :=
  (tSeq (tAsg (tCB (rTupG K) (tCons (tLc (iRng1 (tCons (tOp (rAddG K) (tC (.int 1)) (tCall (sp__law_next K w c) [] E0 (tCons (tVar 0) (tCons (tC (.int 2)) tNil)))) tNil)) (gName 3) tYes (tTup (tCons (tCall (sp__law_pick K w c) [] E0 (tCons (tVar 0) (tCons (tLst (tCons (tC (.str "a")) (tCons (tC (.str "b")) tNil))) tNil))) (tCons (tOp (rAddG K) (tC (.int 1)) (tCall (sp__law_next K w c) [] E0 (tCons (tVar 0) (tCons (tC (.int 2)) tNil)))) tNil))) [3]) tNil)) (gName 1))
    (tSeq (tAsg (tCall (sp__law_rule K w c) [] E0 (tCons (tVar 0) tNil)) (gName 2))
    (tSeq (tIfS (tTest (tOp (rEqD K) (tCB (rLenG K) (tCons (tVar 1) tNil)) (tC (.int 1)))) (tRet (tLst (tCons (tVar 1) (tCons (tVar 2) (tCons (tCall (sp__law_pick K w c) [] E0 (tCons (tVar 0) (tCons (tLst (tCons (tTup tNil) (tCons (tTup (tCons (tC (.str "join")) tNil)) (tCons (tTup (tCons (tC (.str "sweep")) tNil)) (tCons (tTup (tCons (tC (.str "join")) (tCons (tC (.str "sweep")) tNil))) (tCons (tTup (tCons (tC (.str "join")) (tCons (tC (.str "sweep")) tNil))) tNil)))))) tNil))) tNil))))) tNext)
    (tRet (tLst (tCons (tVar 1) (tCons (tCall (sp__law_with K w c) [] E0 (tCons (tVar 2) (tCons (tC (.str "again")) (tCons (tC (.str "skip")) tNil)))) (tCons (tCall (sp__law_pick K w c) [] E0 (tCons (tVar 0) (tCons (tLst (tCons (tTup tNil) (tCons (tTup (tCons (tC (.str "join")) tNil)) (tCons (tTup (tCons (tC (.str "sweep")) tNil)) tNil)))) tNil))) tNil))))))))
theorem d_cb1 {r : List V → Hp → VK → Prop} {P1 P : MP V} (ha : Dw h d (ta σ) G P1) (k : ∀ x G1, Ex G G1 → P1.p x G1 → Cm (r [x]) G1 P) : Dw h d (tCB r (tCons ta tNil) σ) G P :=
  Dw.bind (t := ta σ) (u := fun (x : V) (H : Hp) (Q : VK) => r [x] H Q) ha fun x G1 e1 p1 => .of (k x G1 e1 p1)
abbrev MP.sm (K : PySem.W.Frag) (S : PyData → Prop) : MP V := MP.ex fun x : { x : PyData // S x } => MP.d K x.val
theorem d_tup2 {S1 S2 S : PyData → Prop} (h1 : Dw h d (ta σ) G (MP.sm K S1)) (h2 : Dw h d (tb σ) G (MP.sm K S2)) (hS : ∀ a b, S1 a → S2 b → S (.tuple [a, b])) : Dw h d (tTup (tCons ta (tCons tb tNil)) σ) G (MP.sm K S) :=
  Dw.bind (t := (tCons ta (tCons tb tNil)) σ) (u := fun (xs : List V) (H : Hp) (Q : VK) => xs.length ≤ sizeLine ∧ ∀ p, H p = none → Q (V.ref p) (upd H p (.tup xs))) (d_cons h1 (d_cons h2 d_nil)) fun xs G1 e1 p1 => by
    cases p1 with
    | cons a1 p1 => cases p1 with
      | cons a2 p1 =>
        cases p1
        obtain ⟨⟨a, ha⟩, pa⟩ := a1
        obtain ⟨⟨b, hb⟩, pb⟩ := a2
        exact .of (c_and (sz_of (n := 2) (by decide)) (c_new fun p hp => ⟨⟨_, hS a b ha hb⟩, dp_new_tup hp (.cons pa (.cons pb .nil))⟩))
theorem d_lst3 {P0 P1 P2 P : MP V} (h0 : Dw h d (ta σ) G P0) (h1 : Dw h d (tb σ) G P1) (h2 : Dw h d (te σ) G P2) (hP : ∀ G1 p v0 v1 v2, Ex G G1 → G1 p = some (.lst [v0, v1, v2]) → P0.p v0 G1 → P1.p v1 G1 → P2.p v2 G1 → P.p (.ref p) G1) :
    Dw h d (tLst (tCons ta (tCons tb (tCons te tNil))) σ) G P :=
  Dw.bind (t := (tCons ta (tCons tb (tCons te tNil))) σ) (u := fun (xs : List V) (H : Hp) (Q : VK) => xs.length ≤ sizeLine ∧ ∀ p, H p = none → Q (V.ref p) (upd H p (.lst xs))) (d_cons h0 (d_cons h1 (d_cons h2 d_nil))) fun xs G1 e1 p1 => by
    cases p1 with
    | cons a1 p1 => cases p1 with
      | cons a2 p1 => cases p1 with
        | cons a3 p1 =>
          cases p1
          exact .of (c_and (sz_of (n := 3) (by decide)) (c_new fun p hp => hP _ p _ _ _ (e1.trans (Ex.new hp)) upd_same (P0.mono (Ex.new hp) a1) (P1.mono (Ex.new hp) a2) (P2.mono (Ex.new hp) a3)))
abbrev Rows1 := { l : List Row // l.length = 1 ∨ l.length = 2 }
theorem rows_of : ∀ (ds : List PyData), (∀ x ∈ ds, ∃ r : Row, x = rowD r) → ∃ l : List Row, ds = l.map rowD
  | [], _ => ⟨[], rfl⟩
  | x :: ds, h => by
    obtain ⟨r, rfl⟩ := h x (List.mem_cons_self ..)
    obtain ⟨l, rfl⟩ := rows_of ds fun z hz => h z (List.mem_cons_of_mem _ hz)
    exact ⟨r :: l, rfl⟩
theorem d_12 (hi : σ[i]? = some (some (.ref h))) : Dw h d (tOp (rAddG K) (tC (.int 1)) (tCall (sp__law_next K w c) [] E0 (tCons (tVar i) (tCons (tC (.int 2)) tNil))) σ) G (MP.ex fun b : Bool => MP.d K (.int (dI b))) :=
  d_op (P1 := MP.d K (.int 1)) (.of c_int) (d_next (n := 2) hi (by decide) (by decide)) fun x y G1 e1 p ⟨r, q⟩ => by
    rw [dp_int p, dp_int q]
    refine c_val (z := .int (1 + r.val)) (fun H eh Q h => u_addI h) ⟨decide (r.val = 1), ?_⟩
    match r with
    | ⟨0, _⟩ => exact .int 1
    | ⟨1, _⟩ => exact .int 2
theorem d_rows (hi : σ[i]? = some (some (.ref h))) (hj : ∀ v, ((wipe σ [3]).set 3 (some v))[i]? = some (some (.ref h))) (hw : ∀ v, wipe ((wipe σ [3]).set 3 (some v)) [3] = wipe σ [3]) :
    Dw h d (tCB (rTupG K) (tCons (tLc (iRng1 (tCons (tOp (rAddG K) (tC (.int 1)) (tCall (sp__law_next K w c) [] E0 (tCons (tVar i) (tCons (tC (.int 2)) tNil)))) tNil)) (gName 3) tYes (tTup (tCons (tCall (sp__law_pick K w c) [] E0 (tCons (tVar i) (tCons (tLst (tCons (tC (.str "a")) (tCons (tC (.str "b")) tNil))) tNil))) (tCons (tOp (rAddG K) (tC (.int 1)) (tCall (sp__law_next K w c) [] E0 (tCons (tVar i) (tCons (tC (.int 2)) tNil)))) tNil))) [3]) tNil) σ) G
      (MP.ex fun l : Rows1 => MP.d K (.tuple (l.val.map rowD))) :=
  d_cb1 (d_lcR (S := fun x => ∃ r : Row, x = rowD r) (fn := fun b : Bool => (dI b).toNat) (fd := fun _ => .none) (d_cons (P := MP.ex fun b : Bool => MP.d K (.int (((dI b).toNat : Nat) : Int))) ((d_12 hi).imp fun a G' e p => by
      obtain ⟨b, p⟩ := p
      cases b
      · exact ⟨false, p⟩
      · exact ⟨true, p⟩) d_nil) (fun b => by cases b <;> decide) fun v G1 e1 => ⟨_, hw v, fun H1 _ Q k => k, d_tup2 (S1 := fun x => x ∈ [PyData.str "a", .str "b"]) (S2 := fun x => ∃ b : Bool, x = .int (dI b)) (d_pick (hj v) (c_lst (c_dcons c_str (c_dcons c_str c_dnil)) (by show 2 ≤ 100000; decide)) (by decide) (by decide))
        ((d_12 (hj v)).imp fun a G' e ⟨b, p⟩ => ⟨⟨_, b, rfl⟩, p⟩) fun a b ha ⟨x, hb⟩ => by
          subst hb
          rcases List.mem_cons.mp ha with e | ha
          · exact ⟨(false, x), by rw [e] <;> rfl⟩
          · exact ⟨(true, x), by rw [List.mem_singleton.mp ha] <;> rfl⟩⟩) fun x G1 e1 ⟨⟨⟨b, ds⟩, hl, hS⟩, p⟩ => by
    obtain ⟨a, xs, rfl, h1, h2⟩ := p
    obtain ⟨l, rfl⟩ := rows_of ds hS
    refine c_newV (o := .tup xs) (fun H eh Q h => ⟨a, xs, rfl, .inl ⟨SqL.of (eh _ _ h1), h⟩⟩) fun p hp => ⟨⟨l, ?_⟩, dp_new_tup hp h2⟩
    have hl : (l.map rowD).length = (dI b).toNat := hl
    rw [List.length_map] at hl
    cases b
    · exact .inl hl
    · exact .inr hl
theorem put_again_ok (r : Rule) : putS r.kvs "again" "skip" = ({ r with twice := false } : Rule).kvs := put_again r
def wlist5 : List PyData := [.tuple [], .tuple [.str "join"], .tuple [.str "sweep"], .tuple [.str "join", .str "sweep"], .tuple [.str "join", .str "sweep"]]
theorem w5 {x : PyData} (h : x ∈ wlist5) : ∃ j s : Bool, ∀ rs r, x = wordsD ⟨rs, r, j, s⟩ := by
  unfold wlist5 at h
  simp only [List.mem_cons, List.not_mem_nil, or_false] at h
  rcases h with e | e | e | e | e
  · exact ⟨false, false, fun _ _ => e⟩
  · exact ⟨true, false, fun _ _ => e⟩
  · exact ⟨false, true, fun _ _ => e⟩
  · exact ⟨true, true, fun _ _ => e⟩
  · exact ⟨true, true, fun _ _ => e⟩
theorem w3 {x : PyData} (h : x ∈ ([.tuple [], .tuple [.str "join"], .tuple [.str "sweep"]] : List PyData)) : ∃ j s : Bool, ¬ (j = true ∧ s = true) ∧ ∀ rs r, x = wordsD ⟨rs, r, j, s⟩ := by
  simp only [List.mem_cons, List.not_mem_nil, or_false] at h
  rcases h with e | e | e
  · exact ⟨false, false, by decide, fun _ _ => e⟩
  · exact ⟨true, false, by decide, fun _ _ => e⟩
  · exact ⟨false, true, by decide, fun _ _ => e⟩
theorem rd__law_draw {vs : List V} {H : Hp} {Q : VK} {E : XK} (h : sp__law_draw K w c vs H Q E) : t__law_draw K w c (Dn Q) (vs.map some ++ List.replicate (4 - vs.length) none) H := by
  obtain ⟨h, d, rfl, S, k⟩ := h
  have key : Dw h d (bd (t__law_draw K w c) [some (.ref h), none, none, none]) noH (MP.ex fun b : BkS => MP.rw K b.val) := by
    refine db_asg (d_rows rfl (fun _ => rfl) (fun _ => rfl)) fun v G1 e1 ⟨⟨rs, hrs⟩, p1⟩ => db_asg (d_rule rfl) fun v2 G2 e2 ⟨r, p2⟩ => ?_
    refine db_if (c_test (c_eq (c_lenT (c_var rfl (Dp.up e2 _ _ p1))) c_int rfl rfl)) (fun hb => ?_) (fun hb => ?_)
    · have hl : rs.length = 1 := by
        rcases hrs with h | h
        · exact h
        · rw [List.length_map, h] at hb; cases hb
      refine d_lst3 (.of (c_var (P := MP.d K (.tuple (rs.map rowD))) rfl (Dp.up e2 _ _ p1))) (.of (c_var (P := MP.dk r.kvs) rfl p2)) (d_pick (ds := wlist5) rfl (c_lst (c_dcons (c_tup c_dnil (by show 0 ≤ 100000; decide)) (c_dcons (c_tup (c_dcons c_str c_dnil) (by show 1 ≤ 100000; decide)) (c_dcons (c_tup (c_dcons c_str c_dnil) (by show 1 ≤ 100000; decide)) (c_dcons (c_tup (c_dcons c_str (c_dcons c_str c_dnil)) (by show 2 ≤ 100000; decide)) (c_dcons (c_tup (c_dcons c_str (c_dcons c_str c_dnil)) (by show 2 ≤ 100000; decide)) c_dnil))))) (by show 5 ≤ 100000; decide)) (by decide) (by decide))
        fun G3 p v0 v1 v3 e3 hp q0 q1 ⟨⟨x, hx⟩, q2⟩ => ?_
      obtain ⟨j, s, hw⟩ := w5 hx
      refine ⟨⟨⟨rs, r, j, s⟩, .inl hl, fun z => by rw [hl] at z; cases z⟩, p, v0, v1, v3, rfl, hp, q0, q1, ?_⟩
      rw [← hw rs r]
      exact q2
    · have hl : rs.length = 2 := by
        rcases hrs with h | h
        · rw [List.length_map, h] at hb; cases hb
        · exact h
      refine d_lst3 (.of (c_var (P := MP.d K (.tuple (rs.map rowD))) rfl (Dp.up e2 _ _ p1))) (.of (c_with (c_var (P := MP.dk r.kvs) rfl p2) c_str c_str (by show 6 < 1000; decide))) (d_pick rfl (c_lst (c_dcons (c_tup c_dnil (by show 0 ≤ 100000; decide)) (c_dcons (c_tup (c_dcons c_str c_dnil) (by show 1 ≤ 100000; decide)) (c_dcons (c_tup (c_dcons c_str c_dnil) (by show 1 ≤ 100000; decide)) c_dnil))) (by show 3 ≤ 100000; decide)) (by decide) (by decide))
        fun G3 p v0 v1 v3 e3 hp q0 q1 ⟨⟨x, hx⟩, q2⟩ => ?_
      obtain ⟨j, s, hjs, hw⟩ := w3 hx
      refine ⟨⟨⟨rs, { r with twice := false }, j, s⟩, .inr hl, fun _ => ⟨rfl, hjs⟩⟩, p, v0, v1, v3, rfl, hp, q0, ?_, ?_⟩
      · rw [← put_again r]; exact q1
      · rw [← hw rs { r with twice := false }]
        exact q2
  exact key H noH_ex S rfl rfl Q fun v G' H' ⟨b, p⟩ D => k b v G' H' p D
theorem d_draw (hi : σ[i]? = some (some (.ref h))) : Dw h d (tCall (sp__law_draw K w c) [] E0 (tCons (tVar i) tNil) σ) G (MP.ex fun b : BkS => MP.rw K b.val) :=
  fun H e S gh gd Q q => ⟨_, hi, h, d, rfl, S, fun b v G' H' p D => by
    obtain ⟨D2, x2⟩ := Dr.up (G := noH) noH_ex e gh gd D
    exact q v _ H' ⟨b, (MP.rw K b.val).mono x2 p⟩ D2⟩
end
end Ah
/-! Ah17: books made, compared, written. -/
namespace Ah
open PySem PySem.Spec PyProof.Rows L2 Evl

structure Axt (K : PySem.W.Frag) (w : World) (c : Ad) : Prop where
  ax : Ax K w c
  ins : C8.InsC K c.Book
  rows : ∃ vs : List V, KD K w c.ROWS ([("a1" : Str), "a2", "b1", "b2"].zip vs) ∧ vs.length = 4 ∧ ∀ G, DpAll K G vs ([(false, false), (false, true), (true, false), (true, true)].map rowD)
section
variable {K : PySem.W.Frag} {w : World} {c : Ad} {σ : L2.St} {G : Hp} {ta tb te td : TE} {b b1 b2 : Bk}
/-! ### parts of a row, of a book -/
theorem c_rw0 (h1 : Cm (ta σ) G (MP.rw K b)) : Cm (tOp (rIx K) ta (tC (.int 0)) σ) G (MP.d K (rowsD b)) :=
  c_op (P2 := MP.eq (.int 0)) h1 (c_c rfl) fun x y G1 e1 p q => by
    obtain ⟨a, v0, v1, v2, rfl, ha, h0, h1, h2⟩ := p
    have q : y = .int 0 := q
    subst q
    exact c_val (z := v0) (fun H eh Q h => u_ixL (SqL.of (eh _ _ ha)) rfl h) h0
theorem c_rw1 (h1 : Cm (ta σ) G (MP.rw K b)) : Cm (tOp (rIx K) ta (tC (.int 1)) σ) G (MP.dk b.rule.kvs) :=
  c_op (P2 := MP.eq (.int 1)) h1 (c_c rfl) fun x y G1 e1 p q => by
    obtain ⟨a, v0, v1, v2, rfl, ha, h0, h1, h2⟩ := p
    have q : y = .int 1 := q
    subst q
    exact c_val (z := v1) (fun H eh Q h => u_ixL (SqL.of (eh _ _ ha)) rfl h) h1
theorem c_rw2 (h1 : Cm (ta σ) G (MP.rw K b)) : Cm (tOp (rIx K) ta (tC (.int 2)) σ) G (MP.d K (wordsD b)) :=
  c_op (P2 := MP.eq (.int 2)) h1 (c_c rfl) fun x y G1 e1 p q => by
    obtain ⟨a, v0, v1, v2, rfl, ha, h0, h1, h2⟩ := p
    have q : y = .int 2 := q
    subst q
    exact c_val (z := v2) (fun H eh Q h => u_ixL (SqL.of (eh _ _ ha)) rfl h) h2
theorem c_bkw (X : Ax K w c) (h1 : Cm (ta σ) G (MP.bk K c b)) : Cm (tFld K ta "wanted" σ) G (MP.d K (rowsD b)) :=
  Cm.bind (t := ta σ) (u := fun (x : V) (H : Hp) (Q : VK) => ∃ a C dx fs v, x = .ref a ∧ H a = some (.ins C dx fs) ∧ Cls K C ∧ NoAttr K C "wanted" ∧ fs.lookup ("wanted" : Str) = some v ∧ Q v H) h1 fun x G1 e1 p1 => by
    obtain ⟨x, dx, vr, pt, vw, rfl, hx, hr, ht, hw⟩ := p1
    exact fun H eh Q q => ⟨x, _, dx, _, vr, rfl, eh _ _ hx, X.cl, X.nW, bkF_w _ _ _, q vr G1 H (Ex.refl H) (Nw.refl eh) hr⟩
theorem c_bkt (X : Ax K w c) (h1 : Cm (ta σ) G (MP.bk K c b)) : Cm (tFld K ta "terms" σ) G (MP.dk b.rule.kvs) :=
  Cm.bind (t := ta σ) (u := fun (x : V) (H : Hp) (Q : VK) => ∃ a C dx fs v, x = .ref a ∧ H a = some (.ins C dx fs) ∧ Cls K C ∧ NoAttr K C "terms" ∧ fs.lookup ("terms" : Str) = some v ∧ Q v H) h1 fun x G1 e1 p1 => by
    obtain ⟨x, dx, vr, pt, vw, rfl, hx, hr, ht, hw⟩ := p1
    exact fun H eh Q q => ⟨x, _, dx, _, .ref pt, rfl, eh _ _ hx, X.cl, X.nT, bkF_t _ _ _, q _ G1 H (Ex.refl H) (Nw.refl eh) ⟨pt, rfl, ht⟩⟩
theorem c_bkk (X : Ax K w c) (h1 : Cm (ta σ) G (MP.bk K c b)) : Cm (tFld K ta "kinds" σ) G (MP.d K (wordsD b)) :=
  Cm.bind (t := ta σ) (u := fun (x : V) (H : Hp) (Q : VK) => ∃ a C dx fs v, x = .ref a ∧ H a = some (.ins C dx fs) ∧ Cls K C ∧ NoAttr K C "kinds" ∧ fs.lookup ("kinds" : Str) = some v ∧ Q v H) h1 fun x G1 e1 p1 => by
    obtain ⟨x, dx, vr, pt, vw, rfl, hx, hr, ht, hw⟩ := p1
    exact fun H eh Q q => ⟨x, _, dx, _, vw, rfl, eh _ _ hx, X.cl, X.nK, bkF_k _ _ _, q vw G1 H (Ex.refl H) (Nw.refl eh) hw⟩
end
/-! ### _law_built -/
section
variable {K : PySem.W.Frag} {w : World} {c : Ad} {σ : L2.St} {G : Hp} {ta tb te td : TE} {b b1 b2 : Bk}
abbrev sp__law_built (K : PySem.W.Frag) (w : World) (c : Ad) : Sp := spOf (ι := { b : Bk // b.ok }) (fun b => [MP.rw K b.val]) (fun b => MP.bk K c b.val)
theorem len__law_built {vs : List V} {H : Hp} {Q : VK} {E : XK} (h : sp__law_built K w c vs H Q E) : vs.length = 1 := spOf_len (by intro i; rfl) vs H Q E h
def t__law_built (K : PySem.W.Frag) (w : World) (c : Ad) : TS :=
  (tRet (tMake c.Book (sp_Book_init K w c) [] E0 (tCons (tOp (rIx K) (tVar 0) (tC (.int 0))) (tCons (tOp (rIx K) (tVar 0) (tC (.int 1))) (tCons (tOp (rIx K) (tVar 0) (tC (.int 2))) tNil)))))
theorem rd__law_built {vs : List V} {H : Hp} {Q : VK} {E : XK} (h : sp__law_built K w c vs H Q E) : t__law_built K w c (Dn Q) (vs.map some ++ List.replicate (1 - vs.length) none) H := by
  obtain ⟨⟨b, ok⟩, G, e, ha, q⟩ := h
  cases ha with
  | cons a1 ha =>
    cases ha
    rename_i x
    have hx : Cm (tVar 0 [some x]) G (MP.rw K b) := c_var (P := MP.rw K b) rfl a1
    exact (b_ret (c_mkBook b ok (c_rw0 hx) (c_rw1 hx) (c_rw2 hx)) : Cm (bd (t__law_built K w c) [some x]) G (MP.bk K c b)) H e Q q
/-! ### Book.__eq__ -/
def bkEq (a b : Bk) : Bool := PyData.eqv (rowsD a) (rowsD b) && (kvEq a.rule.kvs b.rule.kvs && PyData.eqv (wordsD a) (wordsD b))
theorem rows_all {M : List Row → Prop} {b : Bk} (ok : b.ok) (h1 : ∀ k d, M [(k, d)]) (h2 : ∀ k d l e, M [(k, d), (l, e)]) : M b.rows := by
  obtain ⟨rs, r, j, s⟩ := b
  match rs, ok with
  | [(k, d)], _ => exact h1 k d
  | [(k, d), (l, e)], _ => exact h2 k d l e
  | [], h => rcases h with h | h <;> cases h
  | _ :: _ :: _ :: r, h => rcases h with h | h <;> simp at h
theorem rows_shaped {b : Bk} (ok : b.ok) : SeqAt.shaped (rowsD b) = true := rows_all (M := fun l => SeqAt.shaped (.tuple (l.map rowD)) = true) ok (by decide +kernel) (by decide +kernel)
theorem words_shaped (b : Bk) : SeqAt.shaped (wordsD b) = true := words_all (M := fun l => SeqAt.shaped (.tuple (l.map PyData.str)) = true) b (by decide +kernel) (by decide +kernel) (by decide +kernel) (by decide +kernel)
theorem rule_nd (r : Rule) : (r.kvs.map (·.1)).Nodup := by rw [rule_keys]; decide +kernel
abbrev sp_Book_eq (K : PySem.W.Frag) (w : World) (c : Ad) : Sp := spOf (ι := { b : Bk × Bk // b.1.ok ∧ b.2.ok }) (fun b => [MP.bk K c b.val.1, MP.bk K c b.val.2]) (fun b => MP.d K (.bool (bkEq b.val.1 b.val.2)))
theorem len_Book_eq {vs : List V} {H : Hp} {Q : VK} {E : XK} (h : sp_Book_eq K w c vs H Q E) : vs.length = 2 := spOf_len (by intro i; rfl) vs H Q E h
def t_Book_eq (K : PySem.W.Frag) (w : World) (c : Ad) : TS :=
  (tSeq (tIfS (tNot (tB (tCB (rIsiG K) (tCons (tVar 1) (tCons (tC (.ref c.Book)) tNil))))) (tRet (tC (.bl false))) tNext)
    (tRet (tOp (rEq3 K) (tTup (tCons (tFld K (tVar 0) "wanted") (tCons (tFld K (tVar 0) "terms") (tCons (tFld K (tVar 0) "kinds") tNil)))) (tTup (tCons (tFld K (tVar 1) "wanted") (tCons (tFld K (tVar 1) "terms") (tCons (tFld K (tVar 1) "kinds") tNil)))))))
theorem c_isBook (X : Axt K w c) (h1 : Cm (ta σ) G (MP.bk K c b)) : Cm (tCB (rIsiG K) (tCons ta (tCons (tC (.ref c.Book)) tNil)) σ) G (MP.d K (.bool true)) :=
  c_cb2 (P2 := MP.eq (.ref c.Book)) h1 (c_c rfl) fun x y G1 e1 p q => by
    have hy : y = .ref c.Book := q
    subst hy
    obtain ⟨x, dx, vr, pt, vw, rfl, hx, _⟩ := p
    exact c_valN (z := .bl true) (fun H eh Q h => .inl ⟨.ref x, _, _, _, true, rfl, .own _, .base (TyOf.ins (eh _ _ hx) X.ins.cl X.ins.ha X.ins.hn X.ins.htk X.ins.hm), X.ins.me, h⟩) (.bl _)
/-- (rows, rule, words) of a book -/
abbrev MP.t3 (K : PySem.W.Frag) (b : Bk) : MP V := ⟨fun v G => ∃ a v0 p v2, v = .ref a ∧ G a = some (.tup [v0, .ref p, v2]) ∧ Dp K G v0 (rowsD b) ∧ G p = some (.dK (kvD b.rule.kvs)) ∧ Dp K G v2 (wordsD b),
  fun e h => let ⟨a, v0, v1, v2, h1, h2, h3, h4, h5⟩ := h; ⟨a, v0, v1, v2, h1, e _ _ h2, Dp.up e _ _ h3, e _ _ h4, Dp.up e _ _ h5⟩⟩
theorem c_t3 (X : Ax K w c) (h1 : Cm (ta σ) G (MP.bk K c b)) : Cm (tTup (tCons (tFld K ta "wanted") (tCons (tFld K ta "terms") (tCons (tFld K ta "kinds") tNil))) σ) G (MP.t3 K b) :=
  Cm.bind (t := (tCons (tFld K ta "wanted") (tCons (tFld K ta "terms") (tCons (tFld K ta "kinds") tNil))) σ) (u := fun (xs : List V) (H : Hp) (Q : VK) => xs.length ≤ sizeLine ∧ ∀ p, H p = none → Q (V.ref p) (upd H p (.tup xs)))
    (c_cons (c_bkw X h1) (c_cons (c_bkt X h1) (c_cons (c_bkk X h1) c_nil))) fun xs G1 e1 p1 => by
    cases p1 with
    | cons a1 p1 => cases p1 with
      | cons a2 p1 => cases p1 with
        | cons a3 p1 =>
          cases p1
          obtain ⟨p, rfl, hp⟩ := a2
          exact c_and (sz_of (n := 3) (by decide)) (c_new fun q hq => ⟨q, _, p, _, rfl, upd_same, Dp.up (Ex.new hq) _ _ a1, Ex.new hq _ _ hp, Dp.up (Ex.new hq) _ _ a3⟩)
theorem rd_Book_eq (X : Axt K w c) {vs : List V} {H : Hp} {Q : VK} {E : XK} (h : sp_Book_eq K w c vs H Q E) : t_Book_eq K w c (Dn Q) (vs.map some ++ List.replicate (2 - vs.length) none) H := by
  obtain ⟨⟨⟨b1, b2⟩, o1, o2⟩, G, e, ha, q⟩ := h
  cases ha with
  | cons a1 ha => cases ha with
    | cons a2 ha =>
      cases ha
      rename_i x y
      have hx : Cm (tVar 0 [some x, some y]) G (MP.bk K c b1) := c_var (P := MP.bk K c b1) rfl a1
      have hy : Cm (tVar 1 [some x, some y]) G (MP.bk K c b2) := c_var (P := MP.bk K c b2) rfl a2
      refine (b_if (b := false) (c_teq (c_tnot (c_tB (c_isBook X hy))) rfl) (fun z => absurd z Bool.false_ne_true) fun _ => b_nexts (b_ret ?_) : Cm (bd (t_Book_eq K w c) [some x, some y]) G (MP.d K (.bool (bkEq b1 b2)))) H e Q q
      refine c_op (c_t3 X.ax hx) (c_t3 X.ax hy) fun u v G1 e1 ⟨a, v0, p, v2, hu, ha, k0, k1, k2⟩ ⟨a', v0', p', v2', hv, ha', k0', k1', k2'⟩ => c_val (z := .bl (bkEq b1 b2)) (fun H eh Q h => ?_) (.bl _)
      exact ⟨a, a', p, p', v0, v2, v0', v2', _, _, _, _, _, _, hu, hv, SqT.of (eh _ _ ha), SqT.of (eh _ _ ha'), ⟨Dp.up eh _ _ k0, Dp.up eh _ _ k2, Dp.up eh _ _ k0', Dp.up eh _ _ k2'⟩,
        ⟨rows_shaped o1, words_shaped _, rows_shaped o2, words_shaped _⟩, eh _ _ k1, eh _ _ k1', rule_nd _, h⟩
theorem eqv_self {b : Bk} (ok : b.ok) : bkEq b b = true := by
  have h1 : PyData.eqv (rowsD b) (rowsD b) = true := rows_all (M := fun l => PyData.eqv (.tuple (l.map rowD)) (.tuple (l.map rowD)) = true) ok (by decide +kernel) (by decide +kernel)
  have h2 : PyData.eqv (wordsD b) (wordsD b) = true := words_all (M := fun l => PyData.eqv (.tuple (l.map PyData.str)) (.tuple (l.map PyData.str)) = true) b (by decide +kernel) (by decide +kernel) (by decide +kernel) (by decide +kernel)
  unfold bkEq
  rw [h1, h2, kvEq_self (rule_nd _)] <;> rfl
/-- == of two books -/
theorem c_bkEq (o1 : b1.ok) (o2 : b2.ok) (h1 : Cm (ta σ) G (MP.bk K c b1)) (h2 : Cm (tb σ) G (MP.bk K c b2)) : Cm (tOp (rEqO K c.Book (sp_Book_eq K w c)) ta tb σ) G (MP.d K (.bool (bkEq b1 b2))) :=
  c_op h1 h2 fun x y G1 e1 p q => fun H e Q k => by
    have p0 := p
    have q0 := q
    obtain ⟨a, dx, vr, pt, vw, rfl, hx, _⟩ := p
    obtain ⟨a', dx', vr', pt', vw', rfl, hx', _⟩ := q
    refine ⟨a, dx, _, a', rfl, rfl, e _ _ hx, .inl ⟨_, _, e _ _ hx'⟩, ⟨(b1, b2), o1, o2⟩, G1, e, .cons p0 (.cons q0 .nil), fun v G' H' e2 n2 p2 => ⟨⟨_, dp_bl p2⟩, k v G' H' e2 n2 p2⟩⟩
end
end Ah
/-! Ah18: the text of a book. -/
namespace Ah
open PySem PySem.Spec PyProof.Rows L2 Evl

def rowT (r : Row) : Str := kS r.1 ++ (toString (dI r.2) : Str)
def bkParts (b : Bk) : List (List Str) := (("rows" : Str) :: b.rows.map rowT) :: ((b.rule.kvs.map fun q => [q.1, q.2]) ++ [("words" : Str) :: b.words])
def lineT (ps : List Str) : Str := Txt.join (" " : Str) ps
def bkLines (b : Bk) : List Str := (bkParts b).map lineT
def bkText (b : Bk) : Str := Txt.join ("\n" : Str) (bkLines b)
def okT (s : Str) : Bool := decide (s.length ≤ 10) && (!(TL.tl s).contains 32 && SeqAt.shaped (.str s))
def okP (ps : List Str) : Bool := !ps.isEmpty && (decide (ps.length ≤ 4) && (ps.all okT && (decide ((lineT ps).length ≤ 60) && (!(TL.tl (lineT ps)).contains 10 && SeqAt.shaped (.list (ps.map PyData.str))))))
theorem okP_row {b : Bk} (ok : b.ok) : okP (("rows" : Str) :: b.rows.map rowT) = true := rows_all (M := fun l => okP (("rows" : Str) :: l.map rowT) = true) ok (by decide +kernel) (by decide +kernel)
theorem okP_words (b : Bk) : okP (("words" : Str) :: b.words) = true := words_all (M := fun l => okP (("words" : Str) :: l) = true) b (by decide +kernel) (by decide +kernel) (by decide +kernel) (by decide +kernel)
theorem okP_all : ∀ p ∈ kvParts, ∀ s ∈ p.2, okP [p.1, s] = true := by decide +kernel
theorem okP_kv (r : Rule) : ∀ q ∈ r.kvs, okP [q.1, q.2] = true := fun q hq => by
  obtain ⟨i, hi⟩ := List.getElem?_of_mem hq
  obtain ⟨p, hp, e1, e2⟩ := rule_word r i q hi
  rw [e1]
  exact okP_all p (List.mem_of_getElem? hp) q.2 e2
theorem okP_bk {b : Bk} (ok : b.ok) : ∀ ps ∈ bkParts b, okP ps = true := fun ps h => by
  rcases List.mem_cons.mp h with e | h
  · rw [e]; exact okP_row ok
  · rcases List.mem_append.mp h with h | h
    · obtain ⟨q, hq, rfl⟩ := List.mem_map.mp h
      exact okP_kv b.rule q hq
    · rw [List.mem_singleton.mp h]; exact okP_words b
section
variable {ps : List Str}
theorem okP.ne (h : okP ps = true) : ps ≠ [] := by
  intro e
  subst e
  cases h
theorem okP.and (h : okP ps = true) : ps.length ≤ 4 ∧ (∀ p ∈ ps, okT p = true) ∧ (lineT ps).length ≤ 60 ∧ 10 ∉ TL.tl (lineT ps) ∧ SeqAt.shaped (.list (ps.map PyData.str)) = true := by
  unfold okP at h
  simp only [Bool.and_eq_true, decide_eq_true_eq, List.all_eq_true, Bool.not_eq_true'] at h
  obtain ⟨_, h1, h2, h3, h4, h5⟩ := h
  refine ⟨h1, h2, h3, fun z => ?_, h5⟩
  rw [List.contains_iff_mem.mpr z] at h4
  cases h4
theorem okT.and {s : Str} (h : okT s = true) : s.length ≤ 10 ∧ 32 ∉ TL.tl s ∧ SeqAt.shaped (.str s) = true := by
  unfold okT at h
  simp only [Bool.and_eq_true, decide_eq_true_eq, Bool.not_eq_true'] at h
  obtain ⟨h1, h2, h3⟩ := h
  refine ⟨h1, fun z => ?_, h3⟩
  rw [List.contains_iff_mem.mpr z] at h2
  cases h2
theorem split_line (h : okP ps = true) : Txt.split (lineT ps) (" " : Str) = ps :=
  TL.split_join (s := 32) (S := []) (by decide +kernel) (by decide +kernel) (okP.ne h) fun p hp => (okT.and ((okP.and h).2.1 p hp)).2.1
end
theorem split_text {b : Bk} (ok : b.ok) : Txt.split (bkText b) ("\n" : Str) = bkLines b :=
  TL.split_join (s := 10) (S := []) (by decide +kernel) (by decide +kernel) (by unfold bkLines bkParts; exact fun z => nomatch z) fun p hp => by
    obtain ⟨ps, hps, rfl⟩ := List.mem_map.mp hp
    exact (okP.and (okP_bk ok ps hps)).2.2.2.1
theorem join_len (n : Nat) (y : Str) : ∀ l : List Str, (∀ x ∈ l, x.length ≤ n) → (Str.join y l).length ≤ l.length * (n + y.length)
  | [], _ => by show (0 : Nat) ≤ _; omega
  | [x], h => by
    have h1 := h x (List.mem_cons_self ..)
    show x.length ≤ 1 * (n + y.length)
    omega
  | x :: z :: r, h => by
    have h1 := h x (List.mem_cons_self ..)
    have h2 := join_len n y (z :: r) fun u hu => h u (List.mem_cons_of_mem _ hu)
    show ((x ++ y ++ Str.join y (z :: r)).length) ≤ _
    rw [PySem.Str.length_append, PySem.Str.length_append, List.length_cons, Nat.succ_mul]
    omega
theorem lines_len {b : Bk} (ok : b.ok) : ∀ x ∈ bkLines b, x.length ≤ 60 := fun x hx => by
  obtain ⟨ps, hps, rfl⟩ := List.mem_map.mp hx
  exact (okP.and (okP_bk ok ps hps)).2.2.1
theorem lines_8 (b : Bk) : (bkLines b).length = 8 := rfl
theorem text_len {b : Bk} (ok : b.ok) : (bkText b).length ≤ 1000 := by
  unfold bkText
  rw [TL.join_eq]
  have h := join_len 60 ("\n" : Str) (bkLines b) (lines_len ok)
  rw [lines_8] at h
  exact Nat.le_trans h (by decide +kernel)
theorem line2 (x y : Str) : x ++ (" " : Str) ++ y = lineT [x, y] := by
  unfold lineT
  rw [TL.join_eq] <;> rfl
section
variable {K : PySem.W.Frag} {w : World} {c : Ad} {σ : L2.St} {G : Hp} {ta tb te td : TE} {b : Bk} {ds : List PyData}
theorem c_spc {x : Str} : Cm (tC (.str x) σ) G (MP.d K (.str x)) := c_str
/-- key + str(day) -/
theorem c_rowT {i j : Nat} {r : Row} (hi : σ[i]? = some (some (.str (kS r.1)))) (hj : σ[j]? = some (some (.int (dI r.2)))) : Cm (tOp (rAddG K) (tVar i) (tCB rStrI (tCons (tVar j) tNil)) σ) G (MP.d K (.str (rowT r))) :=
  c_addS (c_var hi (.str _)) (c_strI (c_var hj (.int _)) ((by decide +kernel : ∀ d, (dI d).natAbs.log2 < 1920) r.2)) ((by decide +kernel : ∀ a d, (kS a).length + (toString (dI d) : Str).length ≤ 100000) r.1 r.2)
theorem c_rowsLl {i j : Nat} {tl : TE} (ok : b.ok) (hl : Cm (tl σ) G (MP.d K (rowsD b))) (hw : ∀ x y, wipe (((wipe σ [i, j]).set i (some x)).set j (some y)) [i, j] = wipe σ [i, j]) (h1 : ∀ x y, (((wipe σ [i, j]).set i (some x)).set j (some y))[i]? = some (some x)) (h2 : ∀ x y, (((wipe σ [i, j]).set i (some x)).set j (some y))[j]? = some (some y)) :
    Cm (tLc (iSeq K tl) (gTup K 2 (gCons (gName i) (gCons (gName j) gNil))) tYes (tOp (rAddG K) (tVar i) (tCB rStrI (tCons (tVar j) tNil))) [i, j] σ) G (MP.l K ((b.rows.map rowT).map PyData.str)) := by
  have hlen : (b.rows.map rowD).length ≤ 90000 := by rw [List.length_map]; rcases ok with h | h <;> omega
  have e : ((b.rows.map rowT).map PyData.str) = ((b.rows.map rowD).filter fun _ => true).map fun d => match d with | .tuple [.str x, .int n] => .str (x ++ (toString n : Str)) | _ => .none := by
    rw [filter_yes, List.map_map, List.map_map] <;> rfl
  rw [e]
  refine c_lcT hl hlen fun v d G1 e1 hd pd => ?_
  obtain ⟨r, hr, rfl⟩ := List.mem_map.mp hd
  obtain ⟨a, xs, rfl, k1, k2⟩ := dp_tup pd
  cases k2 with
  | cons q1 k2 => cases k2 with
    | cons q2 k2 =>
      cases k2
      rw [dp_str q1, dp_int q2] at k1
      exact ct_pair (x := .str (kS r.1)) (y := .int (dI r.2)) rfl k1 (hw _ _) c_yes fun _ => c_rowT (h1 _ _) (h2 _ _)
theorem c_rowsL {i j : Nat} {tl : TE} (ok : b.ok) (hl : Cm (tl σ) G (MP.d K (rowsD b))) (hw : ∀ x y, wipe (((wipe σ [i, j]).set i (some x)).set j (some y)) [i, j] = wipe σ [i, j]) (h1 : ∀ x y, (((wipe σ [i, j]).set i (some x)).set j (some y))[i]? = some (some x)) (h2 : ∀ x y, (((wipe σ [i, j]).set i (some x)).set j (some y))[j]? = some (some y)) :
    Cm (tLc (iSeq K tl) (gTup K 2 (gCons (gName i) (gCons (gName j) gNil))) tYes (tOp (rAddG K) (tVar i) (tCB rStrI (tCons (tVar j) tNil))) [i, j] σ) G (MP.d K (.list ((b.rows.map rowT).map PyData.str))) := l_d (c_rowsLl ok hl hw h1 h2)
theorem c_star1 (h1 : Cm (ta σ) G (MP.d K (.list ds))) : Cm (StX.tStar K ta tNil σ) G (MP.ds K ds) := by
  have h := c_star h1 c_dnil
  rwa [List.append_nil] at h
theorem c_star1T (h1 : Cm (ta σ) G (MP.d K (.tuple ds))) : Cm (StX.tStar K ta tNil σ) G (MP.ds K ds) := by
  have h := c_starT h1 c_dnil
  rwa [List.append_nil] at h
theorem ms {ys : List Str} {x : Str} (h1 : Cm (ta σ) G (MP.d K (.str x))) {t : TA} (h2 : Cm (t σ) G (MP.ds K (ys.map PyData.str))) : Cm (tCons ta t σ) G (MP.ds K ((x :: ys).map PyData.str)) := c_dcons h1 h2
theorem c_lineT {te : TE} {ps : List Str} (ok : okP ps = true) (h : Cm (te σ) G (MP.d K (.list (ps.map PyData.str)))) : Cm (tM1 (rJoin K) (tC (.str " ")) te σ) G (MP.d K (.str (lineT ps))) :=
  c_join (n := 10) c_str h (fun y hy => (okT.and ((okP.and ok).2.1 y hy)).1) (by have := (okP.and ok).1; show ps.length * 11 ≤ _; omega)
theorem c_text {te : TE} (ok : b.ok) (h : Cm (te σ) G (MP.d K (.list ((bkLines b).map PyData.str)))) : Cm (tM1 (rJoin K) (tC (.str "\n")) te σ) G (MP.d K (.str (bkText b))) :=
  c_join (n := 60) c_str h (lines_len ok) (by rw [lines_8]; decide +kernel)
theorem Nw.put {H G G3 H3 : Hp} {p : Addr} {o : HO} (n : Nw H G G3 H3) (e : Ex H H3) (gp : G3 p = none) (hp : H p = none) : Nw H G (upd G3 p o) (upd H3 p o) ∧ Ex H (upd H3 p o) := by
  refine ⟨⟨n.ex.trans (Ex.new gp), fun b u h => ?_, fun b hb hg => ?_⟩, Ex.mut e hp⟩
  · by_cases hbp : b = p
    · subst hbp; rw [upd_same] at h ⊢; exact h
    · rw [upd_ne hbp] at h ⊢; exact n.le b u h
  · rw [upd_ne (fun z => hb (by rw [z]; exact hp))]; exact n.old b hb hg
/-! ### write -/
abbrev BkO := { b : Bk // b.ok }
abbrev sp_write (K : PySem.W.Frag) (w : World) (c : Ad) : Sp := spOf (ι := BkO) (fun b => [MP.bk K c b.val]) (fun b => MP.d K (.str (bkText b.val)))
theorem len_write {vs : List V} {H : Hp} {Q : VK} {E : XK} (h : sp_write K w c vs H Q E) : vs.length = 1 := spOf_len (by intro i; rfl) vs H Q E h
def t_write (K : PySem.W.Frag) (w : World) (c : Ad) : TS :=
  (tSeq (tAsg (tLst (tCons (tM1 (rJoin K) (tC (.str " ")) (tLst (tCons (tC (.str "rows")) (StX.tStar K (tLc (iSeq K (tFld K (tVar 0) "wanted")) (gTup K 2 (gCons (gName 2) (gCons (gName 3) gNil))) tYes (tOp (rAddG K) (tVar 2) (tCB rStrI (tCons (tVar 3) tNil))) [2, 3]) tNil)))) tNil)) (gName 1))
    (tSeq (tDrop (tBM K "list" rExtend (tVar 1) (tCons (tLockE (tLc (iItems (tFld K (tVar 0) "terms")) (gTup K 2 (gCons (gName 4) (gCons (gName 5) gNil))) tYes (tOp (rAddG K) (tOp (rAddG K) (tVar 4) (tC (.str " "))) (tVar 5)) [4, 5])) tNil)))
    (tRet (tM1 (rJoin K) (tC (.str "\n")) (tLst (StX.tStar K (tVar 1) (tCons (tM1 (rJoin K) (tC (.str " ")) (tLst (tCons (tC (.str "words")) (StX.tStar K (tFld K (tVar 0) "kinds") tNil)))) tNil)))))))
theorem rd_write (X : Ax K w c) {vs : List V} {H : Hp} {Q : VK} {E : XK} (h : sp_write K w c vs H Q E) : t_write K w c (Dn Q) (vs.map some ++ List.replicate (6 - vs.length) none) H := by
  obtain ⟨⟨b, ok⟩, G, e, ha, q⟩ := h
  cases ha with
  | cons a1 ha =>
    cases ha
    rename_i x
    have hb : ∀ {σ : L2.St} {G1 : Hp}, Ex G G1 → σ[0]? = some (some x) → Cm (tVar 0 σ) G1 (MP.bk K c b) := fun e1 hσ => c_var hσ ((MP.bk K c b).mono e1 a1)
    refine c_lineT (K := K) (okP_row ok) (c_lst (ms c_str (c_star1 (c_rowsL ok (c_bkw X (hb (Ex.refl G) rfl)) (fun _ _ => rfl) (fun _ _ => rfl) (fun _ _ => rfl)))) ?_) H e _ fun y G1 H1 e1 n1 p1 => ?_
    · rw [List.length_map, List.length_cons, List.length_map]; rcases ok with h | h <;> rw [h] <;> decide
    · have ey := dp_str p1
      subst ey
      refine ⟨sz_of (n := 1) (by decide), fun p hp => ?_⟩
      have hb1 := (MP.bk K c b).mono n1.ex a1
      have hb1' := hb1
      obtain ⟨bx, dx, vr, pt, vw, hbx, hx, hr, ht, hw⟩ := hb1'
      subst hbx
      have nep : bx ≠ pt := ne_of hx ht fun z => nomatch z
      have n2 : Nw H G G1 (upd H1 p (.lst [.str (lineT (("rows" : Str) :: b.rows.map rowT))])) := ⟨n1.ex, n1.le.trans (Ex.new hp), n1.old⟩
      refine ⟨_, rfl, .inl ⟨rfl, _, SqL.of upd_same⟩, ?_⟩
      refine (c_cons (c_lcItems (l := b.rule.kvs) (F := fun q => PyData.str (lineT [q.1, q.2])) (by show 6 ≤ 90000; decide) ht (fun H2 Q e2 k => ⟨_, rfl, bx, c.Book, dx, _, .ref pt, rfl, e2 _ _ (by rw [hide_ne nep]; exact hx), X.cl, X.nT, bkF_t _ _ _, k⟩) fun q G2 T hq hT => ?_) c_nil) _ n2.le _ fun vs G3 H3 e3 n3 p3 => ?_
      · refine ct_pair rfl (SqT.of hT) rfl c_yes fun _ => ?_
        have ok2 := okP_kv b.rule q hq
        have l1 := (okT.and ((okP.and ok2).2.1 q.1 (List.mem_cons_self ..))).1
        have l2 := (okT.and ((okP.and ok2).2.1 q.2 (List.mem_cons_of_mem _ (List.mem_cons_self ..)))).1
        rw [← line2]
        have l3 : (" " : Str).length = 1 := by decide +kernel
        exact c_addS (c_addS (c_var rfl (.str _)) c_str (by omega)) (c_var rfl (.str _)) (by rw [PySem.Str.length_append]; omega)
      · cases p3 with
        | cons a3 p3 =>
          cases p3
          obtain ⟨a, xs, rfl, ha, hxs⟩ := a3
          have hp3 := e3 _ _ upd_same
          have gp1 : G1 p = none := fresh_back n1.le hp
          have gp3 : G3 p = none := n3.old p (by rw [upd_same]; exact fun z => nomatch z) gp1
          refine ⟨p, a, _, xs, rfl, rfl, hp3, n3.le _ _ ha, by rw [DpAll.length hxs]; exact sz_of (n := 7) (by decide), ?_⟩
          have hx8 : DpAll K G3 ([V.str (lineT (("rows" : Str) :: b.rows.map rowT))] ++ xs) ((lineT (("rows" : Str) :: b.rows.map rowT) :: b.rule.kvs.map fun q => lineT [q.1, q.2]).map PyData.str) := by
            refine .cons (.str _) ?_
            rw [List.map_map]
            exact hxs
          obtain ⟨n4, e4⟩ := Nw.put (o := .lst ([V.str (lineT (("rows" : Str) :: b.rows.map rowT))] ++ xs)) (n2.trans (e1.trans (Ex.new hp)) n3) ((e1.trans (Ex.new hp)).trans e3) gp3 (fresh_back e1 hp)
          have hb4 : ∀ {σ : L2.St}, σ[0]? = some (some (.ref bx)) → Cm (tVar 0 σ) (upd G3 p (.lst ([V.str (lineT (("rows" : Str) :: b.rows.map rowT))] ++ xs))) (MP.bk K c b) := fun hσ => c_var hσ ((MP.bk K c b).mono (n3.ex.trans (Ex.new gp3)) hb1)
          refine c_text ok ?_ _ n4.le _ fun v G5 H5 e5 n5 p5 => q v G5 H5 (e4.trans e5) (n4.trans e4 n5) p5
          have hL : Cm (tVar 1 [some (.ref bx), some (.ref p), none, none, none, none]) (upd G3 p (.lst ([V.str (lineT (("rows" : Str) :: b.rows.map rowT))] ++ xs))) (MP.d K (.list ((lineT (("rows" : Str) :: b.rows.map rowT) :: b.rule.kvs.map fun q => lineT [q.1, q.2]).map PyData.str))) :=
            c_var rfl (.lst (SqL.of upd_same) (DpAll.up (Ex.new gp3) _ _ hx8))
          have hz := c_lst (K := K) (c_star hL (c_dcons (c_lineT (okP_words b) (c_lst (ms c_str (c_star1T (c_bkk X (hb4 rfl)))) (by have := (okP.and (okP_words b)).1; rw [List.length_map]; omega))) c_dnil)) (by show 8 ≤ 100000; decide)
          have ez : (bkLines b).map PyData.str = ((lineT (("rows" : Str) :: b.rows.map rowT) :: b.rule.kvs.map fun q => lineT [q.1, q.2]).map PyData.str) ++ [.str (lineT (("words" : Str) :: b.words))] := rfl
          rw [ez]
          exact hz
end
end Ah
/-! Ah19: the text of a book, read. -/
namespace Ah
open PySem PySem.Spec PyProof.Rows L2 Evl

theorem cut1 (d : PyData) (ds : List PyData) : cutD (d :: ds) (some 1) none = ds := by
  unfold cutD
  have e1 : HT.sIx (d :: ds).length 0 (some 1) = 1 := by unfold HT.sIx; simp
  have e2 : HT.sIx (d :: ds).length (d :: ds).length none = (d :: ds).length := rfl
  rw [e1, e2]
  exact List.take_of_length_le (by simp)
abbrev MP.ts (K : PySem.W.Frag) (xs : List Str) : MP V := MP.d K (.list (xs.map PyData.str))
section
variable {K : PySem.W.Frag} {w : World} {c : Ad} {σ : L2.St} {G : Hp} {ta tb te td : TE} {b : Bk} {ds : List PyData}
theorem c_hd {x : Str} {xs : List Str} (h : Cm (ta σ) G (MP.ts K (x :: xs))) : Cm (tOp (rIx K) ta (tC (.int 0)) σ) G (MP.d K (.str x)) := c_ixL h c_int (atI_of (by decide) rfl rfl)
theorem c_tl {x : Str} {xs : List Str} (h : Cm (ta σ) G (MP.ts K (x :: xs))) : Cm (tSl (rSlG K) ta (tPart (tC (.int 1))) tNoPart σ) G (MP.ts K xs) := c_to (c_slL h (c_part (K := K) c_int) c_nopart) (congrArg PyData.list (cut1 _ _))
theorem c_neS {x y : Str} (h1 : Cm (ta σ) G (MP.d K (.str x))) (h2 : Cm (tb σ) G (MP.d K (.str y))) (s1 : SeqAt.shaped (.str x) = true) (s2 : SeqAt.shaped (.str y) = true) : Cm (tTest (tOp (rNeD K) ta tb) σ) G (MP.eq (!(PyData.eqv (.str x) (.str y)))) := c_test (c_ne h1 h2 s1 s2)
theorem eqv_str (x : Str) : PyData.eqv (.str x) (.str x) = true := by
  show decide (x = x) = true
  exact decide_eq_true rfl
theorem c_neSame {x : Str} (h1 : Cm (ta σ) G (MP.d K (.str x))) (h2 : Cm (tb σ) G (MP.d K (.str x))) (s1 : SeqAt.shaped (.str x) = true) : Cm (tTest (tOp (rNeD K) ta tb) σ) G (MP.eq false) := c_teq (c_neS h1 h2 s1 s1) (by rw [eqv_str] <;> rfl)
theorem okT.sh {s : Str} (h : okT s = true) : SeqAt.shaped (.str s) = true := (okT.and h).2.2
/-! ### line_at -/
structure LineIn where
  lines : List Str
  i : Nat
  ps : List Str
  at_ : lines[i]? = some (lineT ps)
  ok : okP ps = true
abbrev sp_line_at (K : PySem.W.Frag) (w : World) (c : Ad) : Sp := spOf (ι := LineIn) (fun i => [MP.ts K i.lines, MP.d K (.int i.i)]) (fun i => MP.ts K i.ps)
theorem len_line_at {vs : List V} {H : Hp} {Q : VK} {E : XK} (h : sp_line_at K w c vs H Q E) : vs.length = 2 := spOf_len (by intro i; rfl) vs H Q E h
def t_line_at (K : PySem.W.Frag) (w : World) (c : Ad) : TS :=
  (tSeq (tIfS (tTest (tOp rGeI (tVar 1) (tCB (rLenG K) (tCons (tVar 0) tNil)))) tNever tNext)
    (tRet (tM1 rSplit (tOp (rIx K) (tVar 0) (tVar 1)) (tC (.str " ")))))
theorem rd_line_at {vs : List V} {H : Hp} {Q : VK} {E : XK} (h : sp_line_at K w c vs H Q E) : t_line_at K w c (Dn Q) (vs.map some ++ List.replicate (2 - vs.length) none) H := by
  obtain ⟨⟨lines, i, ps, hat, ok⟩, G, e, ha, q⟩ := h
  cases ha with
  | cons a1 ha => cases ha with
    | cons a2 ha =>
      cases ha
      rename_i x y
      have h1 : Cm (tVar 0 [some x, some y]) G (MP.ts K lines) := c_var rfl a1
      have h2 : Cm (tVar 1 [some x, some y]) G (MP.d K (.int i)) := c_var rfl a2
      have hi : i < lines.length := (List.getElem?_eq_some_iff.mp hat).1
      refine (b_ifN (c_test (c_to (c_I0 (z := .bool false) h2 (c_lenL h1) fun G => ?_) rfl)) (b_ret ?_) : Cm (bd (t_line_at K w c) [some x, some y]) G (MP.ts K ps)) H e Q q
      · have e1 : decide (((lines.map PyData.str).length : Int) ≤ (i : Int)) = false := decide_eq_false (by rw [List.length_map]; omega)
        rw [e1]
        exact .bl false
      · have hs := split_line ok
        rw [← hs]
        refine l_d (c_split (c_ixL h1 h2 (atI_of (by omega) rfl ?_)) c_str (by decide +kernel) ?_)
        · show (lines.map PyData.str)[((i : Nat) : Int).toNat]? = _
          rw [Int.toNat_natCast, List.getElem?_map, hat] <;> rfl
        · have := (okP.and ok).2.2.1
          omega
theorem c_line (i : LineIn) (h1 : Cm (ta σ) G (MP.ts K i.lines)) (h2 : Cm (tb σ) G (MP.d K (.int i.i))) : Cm (tCall (sp_line_at K w c) [] E0 (tCons ta (tCons tb tNil)) σ) G (MP.ts K i.ps) :=
  c_call (args := fun i : LineIn => [MP.ts K i.lines, MP.d K (.int i.i)]) (res := fun i => MP.ts K i.ps) i (c_cons h1 (c_cons h2 c_nil))
def line0 (b : BkO) : LineIn := ⟨bkLines b.val, 0, _, rfl, okP_row b.property⟩
def line7 (b : BkO) : LineIn := ⟨bkLines b.val, 7, _, rfl, okP_words b.val⟩
theorem lineK_at {b : Bk} {i : Nat} {q : Str × Str} (h : b.rule.kvs[i]? = some q) : (bkLines b)[i + 1]? = some (lineT [q.1, q.2]) := by
  have hi : i < (b.rule.kvs.map fun q => [q.1, q.2]).length := by rw [List.length_map]; exact (List.getElem?_eq_some_iff.mp h).1
  unfold bkLines bkParts
  rw [List.getElem?_map, List.getElem?_cons_succ, List.getElem?_append_left hi, List.getElem?_map, h] <;> rfl
def lineK (b : BkO) (i : Nat) (q : Str × Str) (h : b.val.rule.kvs[i]? = some q) : LineIn := ⟨bkLines b.val, i + 1, _, lineK_at h, okP_kv _ q (List.mem_of_getElem? h)⟩
/-! ### rows_at -/
def rowTab : List (Str × PyData) := [("a1", rowD (false, false)), ("a2", rowD (false, true)), ("b1", rowD (true, false)), ("b2", rowD (true, true))]
def rowOf : PyData → PyData
  | .str s => (rowTab.lookup s).getD .none
  | _ => .none
def inRows : PyData → Bool
  | .str s => (rowTab.lookup s).isSome
  | _ => false
theorem rowOf_T (r : Row) : rowTab.lookup (rowT r) = some (rowD r) := by
  obtain ⟨a, b⟩ := r
  cases a <;> cases b <;> rfl
theorem tab_of : ∀ {ks : List Str} {vs : List V} {ds : List PyData} {s : Str} {d : PyData} {G : Hp}, vs.length = ks.length → DpAll K G vs ds → (ks.zip ds).lookup s = some d → ∃ v, (ks.zip vs).lookup s = some v ∧ Dp K G v d
  | [], _, _, _, _, _, _, _, h => nomatch h
  | k :: ks, v :: vs, d' :: ds, s, d, G, hl, .cons a b, h => by
    rw [List.zip_cons_cons, List.lookup_cons] at h ⊢
    cases e : s == k with
    | true =>
      rw [e] at h
      cases h
      exact ⟨v, rfl, a⟩
    | false =>
      rw [e] at h
      exact tab_of (by simpa using hl) b h
  | k :: ks, [], _, _, _, _, hl, _, _ => nomatch hl
theorem Axt.rowAt (X : Axt K w c) (r : Row) : ∃ kvs v, KD K w c.ROWS kvs ∧ kvs.lookup (rowT r) = some v ∧ ∀ G, Dp K G v (rowD r) := by
  obtain ⟨vs, D, hl, hd⟩ := X.rows
  have h : ∀ G, ∃ v, ([("a1" : Str), "a2", "b1", "b2"].zip vs).lookup (rowT r) = some v ∧ Dp K G v (rowD r) := fun G => tab_of hl (hd G) (rowOf_T r)
  obtain ⟨v, h1, _⟩ := h noH
  refine ⟨_, v, D, h1, fun G => ?_⟩
  obtain ⟨u, h2, h3⟩ := h G
  rw [h1] at h2
  cases h2
  exact h3
abbrev sp_rows_at (K : PySem.W.Frag) (w : World) (c : Ad) : Sp := spOf (ι := BkO) (fun b => [MP.ts K (bkLines b.val)]) (fun b => MP.d K (rowsD b.val))
theorem len_rows_at {vs : List V} {H : Hp} {Q : VK} {E : XK} (h : sp_rows_at K w c vs H Q E) : vs.length = 1 := spOf_len (by intro i; rfl) vs H Q E h
def t_rows_at (K : PySem.W.Frag) (w : World) (c : Ad) : TS :=
  (tSeq (tAsg (tCall (sp_line_at K w c) [] E0 (tCons (tVar 0) (tCons (tC (.int 0)) tNil))) (gName 1))
    (tSeq (tIfS (tOr (tTest (tOp (rNeD K) (tOp (rIx K) (tVar 1) (tC (.int 0))) (tC (.str "rows")))) (tOr (tNot (tTest (tChain rLeI rLeI (tC (.int 2)) (tCB (rLenG K) (tCons (tVar 1) tNil)) (tOp (rAddG K) (tC (.int 2)) (tC (.int 1)))))) (tNot (tB (tCB (rAll K) (tCons (tLc (iSeq K (tSl (rSlG K) (tVar 1) (tPart (tC (.int 1))) tNoPart)) (gName 2) tYes (tOp (rInW K w) (tVar 2) (tC (.ref c.ROWS))) [2]) tNil)))))) tNever tNext)
    (tRet (tCB (rTupG K) (tCons (tLc (iSeq K (tSl (rSlG K) (tVar 1) (tPart (tC (.int 1))) tNoPart)) (gName 2) tYes (tOp (rIxW K w) (tC (.ref c.ROWS)) (tVar 2)) [2]) tNil)))))
theorem rd_rows_at (X : Axt K w c) {vs : List V} {H : Hp} {Q : VK} {E : XK} (h : sp_rows_at K w c vs H Q E) : t_rows_at K w c (Dn Q) (vs.map some ++ List.replicate (3 - vs.length) none) H := by
  obtain ⟨b, G, e, ha, q⟩ := h
  cases ha with
  | cons a1 ha =>
    cases ha
    rename_i x
    refine (b_asg (R := MP.ts K (("rows" : Str) :: b.val.rows.map rowT)) (c_line (line0 b) (c_var rfl a1) c_int) fun v G1 e1 p1 => ?_ : Cm (bd (t_rows_at K w c) [some x, none, none]) G (MP.d K (rowsD b.val))) H e Q q
    have hv : ∀ {G2 : Hp} {z : Option V}, Ex G1 G2 → Cm (tVar 1 [some x, some v, z]) G2 (MP.ts K (("rows" : Str) :: b.val.rows.map rowT)) := fun e2 => c_var rfl (Dp.up e2 _ _ p1)
    have hr : b.val.rows.length = 1 ∨ b.val.rows.length = 2 := b.property
    have hl9 : ((b.val.rows.map rowT).map PyData.str).length ≤ 90000 := by rw [List.length_map, List.length_map]; omega
    have hmem : ∀ {d : PyData}, d ∈ (b.val.rows.map rowT).map PyData.str → ∃ r, d = .str (rowT r) := fun h => by
      obtain ⟨s, hs, rfl⟩ := List.mem_map.mp h
      obtain ⟨r, _, rfl⟩ := List.mem_map.mp hs
      exact ⟨r, rfl⟩
    refine b_ifN (c_teq (c_tor (a := false) (b := false) (c_neSame (c_hd (hv (Ex.refl _))) c_str (by decide +kernel)) fun _ => c_teq (c_tor (a := false) (b := false) (c_teq (c_tnot (a := true) (c_test (c_to (c_chainI (g := fun i j => decide (i ≤ j)) (g' := fun i j => decide (i ≤ j)) c_int (c_lenL (hv (Ex.refl _))) (c_addI c_int c_int)) ?_))) rfl) fun _ => c_teq (c_tnot (a := true) (c_tB (c_to (c_allL inRows (c_tl (hv (Ex.refl _))) hl9 fun v2 d G2 e2 hd pd => ?_) ?_))) rfl) rfl) rfl) (b_ret ?_)
    · rw [List.length_map, List.length_cons, List.length_map]
      rcases hr with h | h <;> rw [h] <;> rfl
    · obtain ⟨r, rfl⟩ := hmem hd
      refine ct_name rfl c_yes fun _ => ?_
      obtain ⟨kvs, u, D, h1, _⟩ := X.rowAt r
      exact c_inW (c_var (P := MP.d K _) rfl pd) (c_c ⟨_, rfl, D⟩) (by rw [h1]; show true = inRows (.str (rowT r)); unfold inRows; simp only; rw [rowOf_T] <;> rfl)
    · refine congrArg PyData.bool (List.all_eq_true.mpr fun d hd => ?_)
      obtain ⟨r, rfl⟩ := hmem hd
      unfold inRows
      simp only
      rw [rowOf_T] <;> rfl
    · have e1 : b.val.rows.map rowD = (((b.val.rows.map rowT).map PyData.str).filter fun _ => true).map rowOf := by
        rw [filter_yes, List.map_map, List.map_map]
        refine List.map_congr_left fun r _ => ?_
        show _ = rowOf (.str (rowT r))
        unfold rowOf
        simp only
        rw [rowOf_T] <;> rfl
      show Cm _ G1 (MP.d K (.tuple (b.val.rows.map rowD)))
      rw [e1]
      refine c_tupL (l_d (c_lcL (c_tl (hv (Ex.refl _))) hl9 fun v2 d G2 e2 hd pd => ?_))
      obtain ⟨r, rfl⟩ := hmem hd
      refine ct_name rfl c_yes fun _ => ?_
      obtain ⟨kvs, u, D, h1, h2⟩ := X.rowAt r
      have e3 : rowOf (.str (rowT r)) = rowD r := by unfold rowOf; simp only; rw [rowOf_T] <;> rfl
      rw [e3]
      exact c_ixW (P := MP.d K (rowD r)) (c_c ⟨_, rfl, D⟩) (c_var (P := MP.d K _) rfl pd) h1 fun G' _ => h2 G'
/-! ### word_at -/
structure WdIn where
  b : BkO
  i : Nat
  q : Str × Str
  al : List Str
  at_ : b.val.rule.kvs[i]? = some q
  mem : q.2 ∈ al
  sh : SeqAt.shaped (.list (al.map PyData.str)) = true
abbrev sp_word_at (K : PySem.W.Frag) (w : World) (c : Ad) : Sp := spOf (ι := WdIn) (fun i => [MP.ts K (bkLines i.b.val), MP.d K (.int (i.i + 1 : Nat)), MP.d K (.str i.q.1), MP.d K (.tuple (i.al.map PyData.str))]) (fun i => MP.d K (.str i.q.2))
theorem len_word_at {vs : List V} {H : Hp} {Q : VK} {E : XK} (h : sp_word_at K w c vs H Q E) : vs.length = 4 := spOf_len (by intro i; rfl) vs H Q E h
def t_word_at (K : PySem.W.Frag) (w : World) (c : Ad) : TS :=
  (tSeq (tAsg (tCall (sp_line_at K w c) [] E0 (tCons (tVar 0) (tCons (tVar 1) tNil))) (gName 4))
    (tSeq (tIfS (tOr (tTest (tOp (rNeD K) (tCB (rLenG K) (tCons (tVar 4) tNil)) (tC (.int 2)))) (tOr (tTest (tOp (rNeD K) (tOp (rIx K) (tVar 4) (tC (.int 0))) (tVar 2))) (tTest (tOp (rInG K true) (tOp (rIx K) (tVar 4) (tC (.int 1))) (tVar 3))))) tNever tNext)
    (tRet (tOp (rIx K) (tVar 4) (tC (.int 1))))))
theorem any_mem {x : Str} : ∀ {al : List Str}, x ∈ al → (al.map PyData.str).any (fun z => PyData.eqv z (.str x)) = true
  | y :: al, h => by
    rw [List.map_cons, List.any_cons]
    rcases List.mem_cons.mp h with e | h
    · rw [← e, eqv_str, Bool.true_or]
    · rw [any_mem h, Bool.or_true]
theorem rd_word_at {vs : List V} {H : Hp} {Q : VK} {E : XK} (h : sp_word_at K w c vs H Q E) : t_word_at K w c (Dn Q) (vs.map some ++ List.replicate (5 - vs.length) none) H := by
  obtain ⟨⟨b, i, q1, al, hat, hm, sh⟩, G, e, ha, q⟩ := h
  cases ha with
  | cons a1 ha => cases ha with
    | cons a2 ha => cases ha with
      | cons a3 ha => cases ha with
        | cons a4 ha =>
          cases ha
          rename_i x0 x1 x2 x3
          refine (b_asg (R := MP.ts K [q1.1, q1.2]) (c_line (lineK b i q1 hat) (c_var rfl a1) (c_var rfl a2)) fun v G1 e1 p1 => ?_ : Cm (bd (t_word_at K w c) [some x0, some x1, some x2, some x3, none]) G (MP.d K (.str q1.2))) H e Q q
          have hv : Cm (tVar 4 [some x0, some x1, some x2, some x3, some v]) G1 (MP.ts K [q1.1, q1.2]) := c_var rfl p1
          have ok2 := okP_kv b.val.rule q1 (List.mem_of_getElem? hat)
          have s1 := okT.sh ((okP.and ok2).2.1 q1.1 (List.mem_cons_self ..))
          have s2 := okT.sh ((okP.and ok2).2.1 q1.2 (List.mem_cons_of_mem _ (List.mem_cons_self ..)))
          have h1 : Cm (tOp (rIx K) (tVar 4) (tC (.int 1)) [some x0, some x1, some x2, some x3, some v]) G1 (MP.d K (.str q1.2)) := c_ixL hv c_int rfl
          refine b_ifN (c_teq (c_tor (a := false) (b := false) (c_teq (c_test (c_ne (c_lenL hv) c_int rfl rfl)) rfl) fun _ => c_teq (c_tor (a := false) (b := false) (c_neSame (c_hd hv) (c_var rfl (Dp.up e1 _ _ a3)) s1) fun _ => c_teq (c_test (c_inT (n := true) h1 (c_var rfl (Dp.up e1 _ _ a4)) s2 sh)) ?_) rfl) rfl) (b_ret h1)
          rw [any_mem hm] <;> rfl
/-! ### words_at -/
abbrev sp_words_at (K : PySem.W.Frag) (w : World) (c : Ad) : Sp := spOf (ι := BkO) (fun b => [MP.ts K (bkLines b.val), MP.d K (.int 7)]) (fun b => MP.d K (wordsD b.val))
theorem len_words_at {vs : List V} {H : Hp} {Q : VK} {E : XK} (h : sp_words_at K w c vs H Q E) : vs.length = 2 := spOf_len (by intro i; rfl) vs H Q E h
def t_words_at (K : PySem.W.Frag) (w : World) (c : Ad) : TS :=
  (tSeq (tAsg (tCall (sp_line_at K w c) [] E0 (tCons (tVar 0) (tCons (tVar 1) tNil))) (gName 2))
    (tSeq (tIfS (tOr (tTest (tOp (rNeD K) (tOp (rIx K) (tVar 2) (tC (.int 0))) (tC (.str "words")))) (tTest (tOp (rNeD K) (tLc (iSeq K (tC (.ref c.WORDS))) (gName 3) (tTest (tOp (rInG K false) (tVar 3) (tSl (rSlG K) (tVar 2) (tPart (tC (.int 1))) tNoPart))) (tVar 3) [3]) (tSl (rSlG K) (tVar 2) (tPart (tC (.int 1))) tNoPart)))) tNever tNext)
    (tRet (tCB (rTupG K) (tCons (tSl (rSlG K) (tVar 2) (tPart (tC (.int 1))) tNoPart) tNil)))))
theorem rd_words_at (X : Ax K w c) {vs : List V} {H : Hp} {Q : VK} {E : XK} (h : sp_words_at K w c vs H Q E) : t_words_at K w c (Dn Q) (vs.map some ++ List.replicate (4 - vs.length) none) H := by
  obtain ⟨b, G, e, ha, q⟩ := h
  cases ha with
  | cons a1 ha => cases ha with
    | cons a2 ha =>
      cases ha
      rename_i x y
      refine (b_asg (R := MP.ts K (("words" : Str) :: b.val.words)) (c_line (line7 b) (c_var rfl a1) (c_var rfl a2)) fun v G1 e1 p1 => ?_ : Cm (bd (t_words_at K w c) [some x, some y, none, none]) G (MP.d K (wordsD b.val))) H e Q q
      have hv : ∀ {G2 : Hp} {z : Option V}, Ex G1 G2 → Cm (tVar 2 [some x, some y, some v, z]) G2 (MP.ts K (("words" : Str) :: b.val.words)) := fun e2 => c_var rfl (Dp.up e2 _ _ p1)
      refine b_ifN (c_teq (c_tor (a := false) (b := false) (c_neSame (c_hd (hv (Ex.refl _))) c_str (by decide +kernel)) fun _ => c_test (c_to (c_ne (l_d (c_lcT (K := K) (ds := [.str "join", .str "sweep"]) (t := fun d => (b.val.words.map PyData.str).any fun z => PyData.eqv z d) (F := fun d => d) (c_c (X.wds G1)) (by decide) fun v d G5 eG hm hw => ct_name rfl (c_test (c_to (c_inL (n := false) (c_var (P := MP.d K d) rfl hw) (c_tl (hv eG)) ?_ (words_shp b.val)) rfl)) fun _ => c_var (P := MP.d K d) rfl hw)) (c_tl (hv (Ex.refl _))) ?_ ?_) ?_)) rfl) (b_ret (c_tupL (c_tl (hv (Ex.refl _)))))
      · rcases List.mem_cons.mp hm with z | z
        · rw [z]; decide +kernel
        · rw [List.mem_singleton.mp z]; decide +kernel
      · exact words_all (M := fun l => SeqAt.shaped (.list (List.map (fun d => d) (List.filter (fun d => (l.map PyData.str).any fun z => PyData.eqv z d) [.str "join", .str "sweep"]))) = true) b.val (by decide +kernel) (by decide +kernel) (by decide +kernel) (by decide +kernel)
      · exact words_shp b.val
      · exact congrArg PyData.bool (words_all (M := fun l => (!PyData.eqv (.list (List.map (fun d => d) (List.filter (fun d => (l.map PyData.str).any fun z => PyData.eqv z d) [.str "join", .str "sweep"]))) (.list (l.map PyData.str))) = false) b.val (by decide +kernel) (by decide +kernel) (by decide +kernel) (by decide +kernel))
theorem take_put (r : Rule) {n : Nat} {q : Str × Str} (h : r.kvs[n]? = some q) : putS (r.kvs.take n) q.1 q.2 = r.kvs.take (n + 1) := by
  have hn := (List.getElem?_eq_some_iff.mp h).1
  have ok : okKvs (r.kvs.take n) := fun j z hz => by
    rw [List.getElem?_take] at hz
    split at hz
    · exact rule_word r j z hz
    · cases hz
  obtain ⟨p, hp, e1, e2⟩ := rule_word r n q h
  have hf := ok.fresh (i := n) (by rw [List.length_take]; omega) hp
  unfold putS
  rw [e1, hf, List.take_succ, h, ← e1] <;> rfl
theorem Nw.keep {H G G3 H3 : Hp} {p : Addr} {o : HO} (n : Nw H G G3 H3) (gp : G3 p = none) (hp : H p = none) (h3 : H3 p = some o) : Nw H G (upd G3 p o) H3 := by
  refine ⟨n.ex.trans (Ex.new gp), fun b u h => ?_, fun b hb hg => ?_⟩
  · by_cases hbp : b = p
    · subst hbp; rw [upd_same] at h; rw [h3, ← h]
    · rw [upd_ne hbp] at h; exact n.le b u h
  · rw [upd_ne (fun z => hb (by rw [z]; exact hp))]; exact n.old b hb hg
/-! ### read -/
abbrev sp_read (K : PySem.W.Frag) (w : World) (c : Ad) : Sp := spOf (ι := BkO) (fun b => [MP.d K (.str (bkText b.val))]) (fun b => MP.bk K c b.val)
theorem len_read {vs : List V} {H : Hp} {Q : VK} {E : XK} (h : sp_read K w c vs H Q E) : vs.length = 1 := spOf_len (by intro i; rfl) vs H Q E h
def t_read (K : PySem.W.Frag) (w : World) (c : Ad) : TS :=
  (tSeq (tPar3 1 2 3 (tCons (tM1 rSplit (tVar 0) (tC (.str "\n"))) (tCons tDNewK (tCons (tC (.int 1)) tNil))))
    (tSeq (tAsg (tCall (sp_rows_at K w c) [] E0 (tCons (tVar 1) tNil)) (gName 4))
    (tSeq (tFor (iItemsW K w (tC (.ref c.PARTS))) (gTup K 2 (gCons (gName 5) (gCons (gName 6) gNil)))
    (tSeq (sDPut (tVar 2) (tVar 5) (tCall (sp_word_at K w c) [] E0 (tCons (tVar 1) (tCons (tVar 3) (tCons (tVar 5) (tCons (tVar 6) tNil))))))
    (tAug 3 (tC (.int 1)) (ipI fun i j => i + j))))
    (tSeq (tAsg (tCall (sp_words_at K w c) [] E0 (tCons (tVar 1) (tCons (tVar 3) tNil))) (gName 7))
    (tSeq (tIfS (tTest (tOp rGtI (tCB (rLenG K) (tCons (tVar 1) tNil)) (tOp (rAddG K) (tVar 3) (tC (.int 1))))) tNever tNext)
    (tRet (tMake c.Book (sp_Book_init K w c) [] E0 (tCons (tVar 4) (tCons (tVar 2) (tCons (tVar 7) tNil))))))))))
theorem rd_read (X : Ax K w c) {vs : List V} {H : Hp} {Q : VK} {E : XK} (h : sp_read K w c vs H Q E) : t_read K w c (Dn Q) (vs.map some ++ List.replicate (8 - vs.length) none) H := by
  obtain ⟨b, G, e, ha, q⟩ := h
  cases ha with
  | cons a1 ha =>
    cases ha
    rename_i x
    obtain ⟨kvs, k1, D, k3⟩ := X.kd
    refine (c_split (K := K) (σ := [some x, none, none, none, none, none, none, none]) (a := bkText b.val) (b := "\n") (c_var rfl a1) c_str (by decide +kernel) (by have := text_len b.property; omega) : Cm _ G _) H e _ fun v1 G1 H1 e1 n1 p1 => ?_
    rw [split_text b.property] at p1
    obtain ⟨al, xl, rfl, hal, hxl⟩ := p1
    intro p hp
    refine ⟨_, _, _, rfl, ?_⟩
    have e2 := e1.trans (Ex.new (o := .dK []) hp)
    have n2 : Nw H G G1 (upd H1 p (.dK [])) := ⟨n1.ex, n1.le.trans (Ex.new hp), n1.old⟩
    have gp1 : G1 p = none := fresh_back n1.le hp
    have hp0 : H p = none := fresh_back e1 hp
    have hL : ∀ {G2 : Hp}, Ex G1 G2 → Dp K G2 (.ref al) (.list ((bkLines b.val).map PyData.str)) := fun e3 => .lst (SqL.of (e3 _ _ hal)) (DpAll.up e3 _ _ hxl)
    refine (c_call (args := fun b : BkO => [MP.ts K (bkLines b.val)]) (res := fun b => MP.d K (rowsD b.val)) b (c_cons (c_var rfl (hL (Ex.refl _))) c_nil)) _ n2.le _ fun v4 G3 H3 e3 n3 p3 => ?_
    have gp3 : G3 p = none := n3.old p (by rw [upd_same]; exact fun z => nomatch z) gp1
    refine ⟨_, kvs, rfl, D, for_itemsW (fun n σ' H' => (∃ x5 x6, σ' = [some x, some (.ref al), some (.ref p), some (.int (n + 1 : Nat)), some v4, x5, x6, none]) ∧ (∃ G', Nw H G G' H' ∧ Ex H H' ∧ Ex G3 G' ∧ G' p = none) ∧ H' p = some (.dK (kvD (b.val.rule.kvs.take n)))) ⟨⟨_, _, rfl⟩, ⟨G3, n2.trans e2 n3, e2.trans e3, Ex.refl _, gp3⟩, e3 _ _ upd_same⟩ ?_ ?_⟩
    · rintro n r T σ' H' hr ⟨⟨x5, x6, rfl⟩, ⟨G', n', e', x3, gp'⟩, hpd⟩ hT
      have hTp : T ≠ p := fun z => by rw [z, hpd] at hT; cases hT
      refine ⟨T, [.str r.1, r.2], rfl, SqT.of upd_same, rfl, _, _, rfl, _, _, rfl, rfl, ?_⟩
      have n4 := n'.trans e' (Nw.own (o := .tup [.str r.1, r.2]) n'.le hT)
      have e4 := e'.trans (Ex.new (o := .tup [.str r.1, r.2]) hT)
      obtain ⟨pt, hpt, er, hpr⟩ := k3 n r hr
      have hn6 : n < 6 := (List.getElem?_eq_some_iff.mp hpt).1
      obtain ⟨qq, hqq⟩ : ∃ qq, b.val.rule.kvs[n]? = some qq := ⟨_, List.getElem?_eq_getElem (by rw [rule_len]; exact hn6)⟩
      obtain ⟨pt', hpt', f1, f2⟩ := rule_word b.val.rule n qq hqq
      rw [hpt] at hpt'
      cases hpt'
      have i0 : WdIn := ⟨b, n, qq, pt.2, hqq, f2, parts_shaped pt (List.mem_of_getElem? hpt)⟩
      have er2 : r.1 = qq.1 := er.trans f1.symm
      refine (c_call (args := fun i : WdIn => [MP.ts K (bkLines i.b.val), MP.d K (.int (i.i + 1 : Nat)), MP.d K (.str i.q.1), MP.d K (.tuple (i.al.map PyData.str))]) (res := fun i => MP.d K (.str i.q.2)) ⟨b, n, qq, pt.2, hqq, f2, parts_shaped pt (List.mem_of_getElem? hpt)⟩
        (c_cons (c_var rfl (hL (n3.ex.trans x3))) (c_cons (c_var rfl (.int _)) (c_cons (c_var rfl (by rw [er2]; exact .str _)) (c_cons (c_var rfl (hpr G')) c_nil))))) _ n4.le _ fun u G5 H5 e5 n5 p5 => ?_
      have eu := dp_str p5
      subst eu
      have hp5 : H5 p = some (.dK (kvD (b.val.rule.kvs.take n))) := e5 _ _ (by rw [upd_ne (Ne.symm hTp)]; exact hpd)
      have gp5 : G5 p = none := n5.old p (by rw [upd_ne (Ne.symm hTp), hpd]; exact fun z => nomatch z) gp'
      have n6 := n4.trans e4 n5
      refine ⟨_, rfl, _, rfl, p, _, rfl, DPut.k (k := Sum.inr r.1) hp5 ?_, ?_⟩
      · unfold kvD
        rw [List.length_map, List.length_take]
        exact sz_lt (by omega)
      · refine ⟨_, rfl, _, _, rfl, rfl, ⟨some (.str r.1), some r.2, rfl⟩, ⟨G5, ⟨n6.ex, n6.le.mut gp5, n6.old⟩, Ex.mut (e4.trans e5) hp0, x3.trans n5.ex, gp5⟩, ?_⟩
        rw [upd_same, put_kv, er2]
        rw [take_put b.val.rule hqq]
    · rintro σ' H' ⟨⟨x5, x6, rfl⟩, ⟨G', n', e', x3, gp'⟩, hpd⟩
      have hk6 : kvs.length = 6 := by
        have := congrArg List.length k1
        rw [List.length_map, List.length_map] at this
        exact this
      rw [hk6] at hpd ⊢
      have n7 := Nw.keep n' gp' hp0 hpd
      have x7 : Ex G3 (upd G' p (.dK (kvD (b.val.rule.kvs.take 6)))) := x3.trans (Ex.new gp')
      generalize hG7 : upd G' p (.dK (kvD (b.val.rule.kvs.take 6))) = G7 at n7 x7
      have hp7 : G7 p = some (.dK (kvD b.val.rule.kvs)) := by rw [← hG7, upd_same] <;> rfl
      have key : Cm (bd (tSeq (tAsg (tCall (sp_words_at K w c) [] E0 (tCons (tVar 1) (tCons (tVar 3) tNil))) (gName 7)) (tSeq (tIfS (tTest (tOp rGtI (tCB (rLenG K) (tCons (tVar 1) tNil)) (tOp (rAddG K) (tVar 3) (tC (.int 1))))) tNever tNext)
          (tRet (tMake c.Book (sp_Book_init K w c) [] E0 (tCons (tVar 4) (tCons (tVar 2) (tCons (tVar 7) tNil))))))) [some x, some (.ref al), some (.ref p), some (.int ((6 + 1 : Nat) : Int)), some v4, x5, x6, none]) G7 (MP.bk K c b.val) := by
        refine b_asg (R := MP.d K (wordsD b.val)) (c_call (args := fun b : BkO => [MP.ts K (bkLines b.val), MP.d K (.int 7)]) (res := fun b => MP.d K (wordsD b.val)) b (c_cons (c_var rfl (hL (n3.ex.trans x7))) (c_cons (c_var rfl (.int 7)) c_nil))) fun v7 G8 e8 p8 => ?_
        have x8 : Ex G3 G8 := x7.trans e8
        refine b_ifN (c_test (c_to (c_I0 (z := .bool false) (c_lenL (c_var rfl (hL (n3.ex.trans x8)))) (c_addI (c_var rfl (.int 7)) c_int) fun G => ?_) rfl)) (b_ret (c_mkBook b.val b.property (c_var rfl (Dp.up x8 _ _ p3)) (c_var (P := MP.dk b.val.rule.kvs) rfl ⟨p, rfl, e8 _ _ hp7⟩) (c_var rfl p8)))
        exact .bl false
      exact key H' n7.le Q fun v G8 H8 e8 n8 p8 => q v G8 H8 (e'.trans e8) (n7.trans e' n8) p8
end
end Ah
/-! Ah20: the text that a law writes; the own == by its name; the law's end. -/
namespace Ah
open PySem PySem.Spec PyProof.Rows L2 Evl

theorem hu66 {A : Around} {k : Nat} (hr : Room k A) : A.units + 66 < cLine := by
  have h := hr.un
  omega
/-- the own == of a class -/
structure OwnQ (P : Program) (w : World) (K : PySem.W.Frag) (mg : Str → Option Value) (base : Heap) (k : Nat) (C : Addr) (sp : Sp) : Prop where
  ex : ∃ (f : Addr) (fd : FuncData) (ps : List Str), FnOk P w K mg base CX0 k f fd ps sp ∧ PySem.W.findIn K (.ref C) "__eq__" = some (some (.ref f)) ∧ PySem.W.isFn K (.ref f) = true ∧ PySem.W.notFirst K C (.type "list") = true ∧ Binds K fd ps []
theorem op_ownQ {X : Cx} {j k : Nat} {C : Addr} {sp : Sp} (c : OwnQ X.prog X.w X.K X.mg X.base k C sp) (hr : Room j X.A) (hk : k ≤ j) : OpR X (compareOp .Eq) (rEqO X.K C sp) := by
  obtain ⟨f, fd, ps, F, h1, h2, h3, b⟩ := c.ex
  exact op_own F (hr.mono hk) h1 h2 h3 b pass0
/-! ### texts that may be compared -/
theorem strok_app {x y : Str} (h1 : PyData.strOk x = true) (h2 : PyData.strOk y = true) : PyData.strOk (x ++ y) = true := by
  unfold PyData.strOk at *
  rw [Str.cps_append, Array.all_append, h1, h2] <;> rfl
theorem strok_join {y : Str} (hy : PyData.strOk y = true) : ∀ {l : List Str}, (∀ x ∈ l, PyData.strOk x = true) → PyData.strOk (Str.join y l) = true
  | [], _ => (by decide +kernel : PyData.strOk Str.empty = true)
  | [x], h => h x (List.mem_cons_self ..)
  | x :: z :: r, h => by
    show PyData.strOk (x ++ y ++ Str.join y (z :: r)) = true
    exact strok_app (strok_app (h x (List.mem_cons_self ..)) hy) (strok_join hy fun u hu => h u (List.mem_cons_of_mem _ hu))
theorem strok_shaped {s : Str} (h : PyData.strOk s = true) : SeqAt.shaped (.str s) = true := by
  show (PyData.strOk s && decide _) = true
  rw [h]; rfl
theorem shaped_strok {s : Str} (h : SeqAt.shaped (.str s) = true) : PyData.strOk s = true := (Bool.and_eq_true_iff.mp h).1
theorem line_strok {ps : List Str} (ok : okP ps = true) : PyData.strOk (lineT ps) = true := by
  unfold lineT
  rw [TL.join_eq]
  exact strok_join (by decide +kernel) fun x hx => shaped_strok (okT.and ((okP.and ok).2.1 x hx)).2.2
theorem text_shaped {b : Bk} (ok : b.ok) : SeqAt.shaped (.str (bkText b)) = true := by
  refine strok_shaped ?_
  unfold bkText
  rw [TL.join_eq]
  refine strok_join (by decide +kernel) fun x hx => ?_
  obtain ⟨ps, hps, rfl⟩ := List.mem_map.mp hx
  exact line_strok (okP_bk ok ps hps)
section
variable {K : PySem.W.Frag} {w : World} {c : Ad} {σ : L2.St} {G : Hp} {ta tb te td : TE} {b : Bk} {ds : List PyData}
theorem c_listTl (ha : Cm (ta σ) G (MP.d K (.tuple ds))) : Cm (tCB (rListG K) (tCons ta tNil) σ) G (MP.l K ds) :=
  c_cb1 ha fun x G1 e1 p => by
    obtain ⟨a, xs, rfl, h1, h2⟩ := dp_tup p
    exact c_newV (o := .lst xs) (fun H eh Q h => ⟨a, xs, rfl, .inr (ex_t eh h1), h⟩) fun p hp => ⟨p, xs, rfl, upd_same, DpAll.up (Ex.new hp) _ _ h2⟩
theorem lst1 {x : Str} : Cm (tLst (tCons (tC (.str x)) tNil) σ) G (MP.l K [.str x]) := c_lstl (c_dcons c_str c_dnil) (by show 1 ≤ 100000; decide)
/-- [' '.join(['rows'] + [..])] -/
theorem c_law0 {i j : Nat} {tl : TE} (ok : b.ok) (hl : Cm (tl σ) G (MP.d K (rowsD b))) (hw : ∀ x y, wipe (((wipe σ [i, j]).set i (some x)).set j (some y)) [i, j] = wipe σ [i, j]) (h1 : ∀ x y, (((wipe σ [i, j]).set i (some x)).set j (some y))[i]? = some (some x)) (h2 : ∀ x y, (((wipe σ [i, j]).set i (some x)).set j (some y))[j]? = some (some y)) :
    Cm (tLst (tCons (tM1 (rJoin K) (tC (.str " ")) (tOp (rAddG K) (tLst (tCons (tC (.str "rows")) tNil)) (tLc (iSeq K tl) (gTup K 2 (gCons (gName i) (gCons (gName j) gNil))) tYes (tOp (rAddG K) (tVar i) (tCB rStrI (tCons (tVar j) tNil))) [i, j]))) tNil) σ) G (MP.l K [.str (lineT (("rows" : Str) :: b.rows.map rowT))]) :=
  c_lstl (c_dcons (c_lineT (okP_row ok) (l_d (c_addL lst1 (c_rowsLl ok hl hw h1 h2) (by rw [List.length_map, List.length_map]; have := ok; unfold Bk.ok at this; show 1 + _ ≤ 100000; omega)))) c_dnil) (by show 1 ≤ 100000; decide)
def lineOf (r : Rule) : PyData → PyData
  | .list (.str k :: _) => .str (k ++ (" " : Str) ++ (r.kvs.lookup k).getD "")
  | _ => .none
theorem rule_lk (r : Rule) {q : Str × Str} (h : q ∈ r.kvs) : r.kvs.lookup q.1 = some q.2 := by
  obtain ⟨j, hj⟩ := List.getElem?_of_mem h
  exact rule_lookup r hj
theorem lines_of (r : Rule) : (partsL.map fun l => PyData.list (l.map PyData.str)).map (lineOf r) = (r.kvs.map fun q => lineT [q.1, q.2]).map PyData.str := by
  have e1 : (partsL.map fun l => PyData.list (l.map PyData.str)).map (lineOf r) = (r.kvs.map (·.1)).map fun k => PyData.str (k ++ (" " : Str) ++ (r.kvs.lookup k).getD "") := rfl
  rw [e1, List.map_map, List.map_map]
  refine List.map_congr_left fun q hq => ?_
  show PyData.str (q.1 ++ (" " : Str) ++ (r.kvs.lookup q.1).getD "") = PyData.str (lineT [q.1, q.2])
  rw [rule_lk r hq, ← line2] <;> rfl
/-- [part[0] + ' ' + rule[part[0]] for part in _law_parts()] -/
theorem c_law1 {i : Nat} (hr : ∀ {G1 : Hp} x, Ex G G1 → Cm (td ((wipe σ [i]).set i (some x))) G1 (MP.dk b.rule.kvs)) (hw : ∀ x, wipe ((wipe σ [i]).set i (some x)) [i] = wipe σ [i]) (h1 : ∀ x, ((wipe σ [i]).set i (some x))[i]? = some (some x)) :
    Cm (tLc (iSeq K (tCall (sp__law_parts K w c) [] E0 tNil)) (gName i) tYes (tOp (rAddG K) (tOp (rAddG K) (tOp (rIx K) (tVar i) (tC (.int 0))) (tC (.str " "))) (tDGet td (tOp (rIx K) (tVar i) (tC (.int 0))))) [i] σ) G (MP.l K ((b.rule.kvs.map fun q => lineT [q.1, q.2]).map PyData.str)) := by
  rw [← lines_of, ← filter_yes (partsL.map fun l => PyData.list (l.map PyData.str))]
  refine c_lcL (l_d (c_call (args := fun _ : Unit => []) (res := fun _ => MP.l K _) () c_nil)) (by show 6 ≤ 90000; decide) fun v d G1 e1 hd pd => ?_
  obtain ⟨n, hn⟩ := List.getElem?_of_mem hd
  obtain ⟨p, hp, rfl⟩ := parts_at hn
  obtain ⟨q, hq⟩ : ∃ q, b.rule.kvs[n]? = some q := ⟨_, List.getElem?_eq_getElem (by rw [rule_len]; exact (List.getElem?_eq_some_iff.mp hp).1)⟩
  obtain ⟨p', hp', f1, f2⟩ := rule_word b.rule n q hq
  rw [hp] at hp'
  cases hp'
  have hk : ∀ {G2 : Hp}, Ex G1 G2 → Cm (tOp (rIx K) (tVar i) (tC (.int 0)) ((wipe σ [i]).set i (some v))) G2 (MP.d K (.str p.1)) := fun e2 => c_ixL (c_var (h1 v) (Dp.up e2 _ _ pd)) c_int (atI_of (by decide) rfl rfl)
  have lk : b.rule.kvs.lookup p.1 = some q.2 := by rw [← f1]; exact rule_lk b.rule (List.mem_of_getElem? hq)
  have ok2 := okP_kv b.rule q (List.mem_of_getElem? hq)
  have l1 := (okT.and ((okP.and ok2).2.1 q.1 (List.mem_cons_self ..))).1
  have l2 := (okT.and ((okP.and ok2).2.1 q.2 (List.mem_cons_of_mem _ (List.mem_cons_self ..)))).1
  have l3 : (" " : Str).length = 1 := by decide +kernel
  rw [f1] at l1
  refine ct_name (hw v) c_yes fun _ => c_to (c_addS (c_addS (hk (Ex.refl _)) c_str (by omega)) (c_dget (hr v e1) (hk (Ex.refl _)) lk) (by rw [PySem.Str.length_append]; omega)) ?_
  show _ = PyData.str (p.1 ++ (" " : Str) ++ (b.rule.kvs.lookup p.1).getD "")
  rw [lk] <;> rfl
/-- the whole text -/
theorem c_law2 (ok : b.ok) (hl : Cm (ta σ) G (MP.l K (((lineT (("rows" : Str) :: b.rows.map rowT)) :: b.rule.kvs.map fun q => lineT [q.1, q.2]).map PyData.str))) (hw : Cm (td σ) G (MP.d K (wordsD b))) :
    Cm (tM1 (rJoin K) (tC (.str "\n")) (tOp (rAddG K) ta (tLst (tCons (tM1 (rJoin K) (tC (.str " ")) (tOp (rAddG K) (tLst (tCons (tC (.str "words")) tNil)) (tCB (rListG K) (tCons td tNil)))) tNil))) σ) G (MP.d K (.str (bkText b))) := by
  have hwl : (b.words.map PyData.str).length ≤ 2 := words_all (M := fun l => (l.map PyData.str).length ≤ 2) b (by decide) (by decide) (by decide) (by decide)
  refine c_text ok ?_
  have e : (bkLines b).map PyData.str = (((lineT (("rows" : Str) :: b.rows.map rowT)) :: b.rule.kvs.map fun q => lineT [q.1, q.2]).map PyData.str) ++ [.str (lineT (("words" : Str) :: b.words))] := rfl
  rw [e]
  exact l_d (c_addL hl (c_lstl (c_dcons (c_lineT (okP_words b) (l_d (c_addL lst1 (c_listTl hw) (by show 1 + _ ≤ 100000; omega)))) c_dnil) (by show 1 ≤ 100000; decide)) (by show 7 + 1 ≤ 100000; decide))
/-! ### a law: its promise, its source, its turns -/
def sp_law (K : PySem.W.Frag) (w : World) (c : Ad) : Sp := fun vs H Q _ => ∃ (a : Addr) (ns : List Int), vs = [.ref a] ∧ SqL K H a (ns.map V.int) ∧ ns.length ≤ 63 ∧ ∀ H', Q (.bl true) H'
theorem len_law {vs : List V} {H : Hp} {Q : VK} {E : XK} (h : sp_law K w c vs H Q E) : vs.length = 1 := by
  obtain ⟨a, ns, rfl, _⟩ := h
  rfl
theorem u_mix {a : Addr} {ns : List Int} {seed : Nat} {tr : TS} {D : Ends} {H : Hp} (h0 : σ[0]? = some (some (.ref a))) (hs : SqL K H a (ns.map V.int)) (hl : ns.length ≤ 63) (h2 : seed < 1000000)
    (k : ∀ h d H', Src H' h d → tr D (σ.set 1 (some (.ref h))) H') : tSeq (tAsg (tCall (sp__law_mix K w c) [] E0 (tCons (tVar 0) (tCons (tC (.int seed)) tNil))) (gName 1)) tr D σ H :=
  ⟨_, h0, a, ns, seed, rfl, hs, hl, by omega, by omega, fun h d H' _ _ _ S => k h d H' S⟩
theorem u_loop {h d : Addr} {n : Nat} {tb : TS} {D : Ends} {H : Hp} {j : Nat} (I : L2.St → Prop) (h0 : I σ) (S : Src H h d) (hn : n ≤ 1000000)
    (hb : ∀ (σ : L2.St) (v : V) (N : Ends), I σ → (∀ σ' H', I σ' → Src H' h d → N.nx σ' H') → St h d tb N (σ.set j (some v)) noH) (he : ∀ σ H, I σ → Src H h d → D.nx σ H) :
    tFor (iRng1 (tCons (tC (.int n)) tNil)) (gName j) tb D σ H := by
  refine ⟨n, rfl, by omega, by omega, ?_⟩
  refine for_range (lo := 0) (n := ((n : Nat) : Int).toNat) (fun _ σ H => I σ ∧ Src H h d) ⟨h0, S⟩ ?_ fun σ H p => he σ H p.1 p.2
  rintro i σ' H' _ ⟨p, S'⟩
  exact hb σ' _ { D with nx := fun σ H => I σ ∧ Src H h d, ct := fun σ H => I σ ∧ Src H h d, bk := D.nx } p (fun σ'' H'' q S'' => ⟨q, S''⟩) H' noH_ex S' rfl rfl
end
end Ah
/-! Ah21: own exceptions whose __init__ says super().__init__(text), and stores a field or none. -/
namespace PySem.AhX
open PySem PySem.W PySem.Calls PyProof.Rows PySem.HandSPX

section
variable {prog : Program} {w : World} {A : Around} {E : Value → Shared → Prop} {h : Heap} {g : Array GenState} {d : Drawn} {t : Nat} {os : OsState}
variable {nm q : Str} {C N : Addr} {bs bm : List Value} {hdct : Bool} {sn : List Str} {sub : List Value} {ab : Bool} {col : Option Bool} {dd : Option Addr} {k0 k1 k2 k3 k5 : Option Value}
theorem call_mw {u e t0 : Addr} {rest : List Value} {Q : Value → Shared → Prop}
    (hC : h.get? C = some (excClassObj nm q C N bs bm hdct sn sub ab col dd k0 k1 k2 k3 k5 "ValueError.__new__")) (he : h.get? e = some (excO C t0)) (hu : h.get? u = some (kxs_mw "ValueError.__init__" e)) (hz : rest.length ≤ sizeLine)
    (hq : ∀ h' t1, (∀ b o, b ≠ e → h.get? b = some o → h'.get? b = some o) → h'.get? e = some (excO C t1) → Q .none ⟨h', g, d, t, os⟩) :
    wpAny (model prog w) A (call (.ref u) rest) Q E ⟨h, g, d, t, os⟩ := by
  refine wpAny_call (codeAny_of_tree ?_)
  show wpAny _ A.in1 (callAny (.ref u) ⟨rest, []⟩) _ _ _
  simp only [callAny]
  refine wpAny_bind (wpAny_load hu ?_)
  simp only [kxs_mw, show (Value.type "method-wrapper" == Value.type "method" || Value.type "method-wrapper" == Value.type "builtin_function_or_method" || Value.type "method-wrapper" == Value.type "method-wrapper") = true by decide, if_true]
  refine KFB.if_so (by decide) ?_
  refine wpAny_bind (ESX.check_bound F.excBase_ValueError hC he rfl ?_)
  refine wpAny_bind (wpAny_pure (wpAny_pure ?_))
  refine ⟨Code.quiet_builtin _ (by decide +kernel), codeAny_builtin F.excBase_ValueError.initEntry ?_⟩
  rw [Around.under_plainId F.excBase_ValueError.init.plain _]
  wp_walk
  refine hq _ h.objs.size (fun b o hb ho => ?_) ?_
  · rw [Heap.get?_update_other _ _ (Ne.symm hb)]
    exact Heap.get?_push_of_some _ ho
  · rw [Heap.get?_update_self _ (Heap.get?_push_of_some _ he) rfl]
    rfl
end
/-- what the written part says of an own exception, its class at C, its __init__ at fI -/
structure SupTxt (P : Program) (K : Frag) (mg : Str → Option Value) (C fI : Addr) (x qual : Str) (st : Stmt) : Prop where
  gC : mg x = some (.ref C)
  cls : ∃ nm q N bs bm sn sub ab col dd k0 k1 k2 k3 k5, K.lookup C = some (excClassObj nm q C N bs bm true sn sub ab col dd k0 k1 k2 k3 k5 "ValueError.__new__") ∧ refsVE bm = true
  sa : findIn K (.ref C) "__setattr__" = some (some (.builtin "object.__setattr__"))
  iC : findIn K (.ref C) "__init__" = some (some (.ref fI))
  tC : typeIn K (.ref fI) = some (.type "function")
  kC : keepIn K (.ref C) = true
  exC : subIn K (.ref C) (.type "BaseException") = some true
  exV : subIn K (.ref C) (.type "ValueError") = some true
  tyC : typeIn K (.ref C) = some (.type "type")
  me : mroIn K C (.ref C) = some true
  up : ks_superIn K C C "__init__" = some (some (.builtin "ValueError.__init__"))
  opq : nsIn K cStatics "thirdparty.any" = some none
  fn : ∃ (oc : Value) (od : Option Addr) (doc pm : Value) (an : Option Addr) (cda cc : Addr) (ct : Value) (osl : Array (Option Value)) (vs : Array Value) (file : Str) (tf : Tok) (c1 c2 : Value) (d1 d2 : Option Addr) (s1 s2 : Array (Option Value)),
    K.lookup fI = some ⟨oc, od, .func (ksFn "__init__" qual (L2.defArgs st) (L2.defBody st) (L2.defScope st) .none .none doc pm an (.ref cda) ct cc), osl⟩ ∧ codeIn K (.ref cda) qual = true ∧
    K.lookup cda = some ⟨c1, d1, .fields vs, s1⟩ ∧ vs[2]? = some (.str file tf) ∧ ((P.main.file : Str) == file) = true ∧ K.lookup cc = some ⟨c2, d2, .cell (some (.ref C)), s2⟩
theorem one_size' (v : Value) : [v].length ≤ sizeLine := by
  rw [sizeLine_eq]
  exact (by decide : 1 ≤ 16777216)
theorem kept_but {K : Frag} {h h' : Heap} {x : Addr} (X : K.In h) (hx : K.lookup x = none) (k : ∀ b o, b ≠ x → h.get? b = some o → h'.get? b = some o) : K.In h' := fun a o e =>
  k a o (fun z => by rw [z, hx] at e; cases e) (X a o e)
/-- what super().__init__(text) leaves of a fresh exception at x -/
structure SupEnd (h h' : Heap) (x C t1 : Addr) : Prop where
  keep : ∀ b o, b ≠ x → h.get? b = some o → h'.get? b = some o
  obj : h'.get? x = some (excO C t1)
section
variable {prog : Program} {w : World} {A : Around} {E : Value → Shared → Prop} {s : Shared} {K : Frag} {mg : Str → Option Value} {C fI : Addr} {nm qual : Str} {st : Stmt}
/-- super().__init__(text), in the body of __init__ -/
theorem sup_expr (T : SupTxt prog K mg C fI nm qual st) {body : List Stmt} {cda cc L x t0 : Addr} {m : Str → Option Value} {msg : Str} {p0 p1 p2 p3 p4 : Pos} {j3 : Nat} {ar : Arg} {scope : Scope} {Q : Value → Shared → Prop}
    {oc : Value} {od : Option Addr} {doc pm : Value} {an : Option Addr} {ct : Value} {osl : Array (Option Value)} {vs : Array Value} {file : Str} {tf : Tok} {c1 c2 : Value} {d1 d2 : Option Addr} {s1 s2 : Array (Option Value)} {ps : Arguments}
    (X : K.In s.heap) (hg : s.heap.Ns mainGlobals mg) (hsup : mg "super" = none) (hb : ∃ mb, s.heap.Ns builtinsNs mb ∧ mb "super" = some (.type "super")) (hn : s.heap.Ns L m) (hx : s.heap.get? x = some (excO C t0)) (hv : m "self" = some (.ref x)) (hnx : K.lookup x = none)
    (hf : K.lookup fI = some ⟨oc, od, .func (ksFn "__init__" qual ps body scope .none .none doc pm an (.ref cda) ct cc), osl⟩) (hcode : K.lookup cda = some ⟨c1, d1, .fields vs, s1⟩) (hvs : vs[2]? = some (.str file tf)) (hfile : ((prog.main.file : Str) == file) = true)
    (hcell : K.lookup cc = some ⟨c2, d2, .cell (some (.ref C)), s2⟩) (hp : (ps.posonlyargs ++ ps.args).head? = some ar) (har : ar.arg = "self")
    (hks : scope.names.lookup ("super" : Str) = some .globalImplicit) (hkc : scope.names.lookup ("__class__" : Str) = some .free) (hka : scope.names.lookup ("self" : Str) = some .local) (hk : scope.kind = .function) (htop : (prog.main.scope.names.lookup ("super" : Str)).isSome = false)
    {pl : Sem Bool} (he : eval (.Call (.Attribute (.Call (.Name "super" p0) [] [] p1) "__init__" p2) [.Constant (.str msg) j3 p3] [] p4) (ksEnv qual scope L fI (.ref cda) cc) = (do
      let ov ← attributeBase (.Call (.Name "super" p0) [] [] p1) "__init__" (ksEnv qual scope L fI (.ref cda) cc) (eval (.Call (.Name "super" p0) [] [] p1) (ksEnv qual scope L fI (.ref cda) cc))
      standAt p2.atName
      let (f, first) ← holding [ov] (getMethod ov "__init__" pl)
      callWith p4 f first (backTo p4 (starEach [.Constant (.str msg) j3 p3] (ksEnv qual scope L fI (.ref cda) cc))) []))
    (hq : ∀ h' tk t1, SupEnd s.heap h' x C t1 → Q .none { s with heap := h', toks := tk }) :
    wpAt (model prog w) A (.func body (ksEnv qual scope L fI (.ref cda) cc)) (eval (.Call (.Attribute (.Call (.Name "super" p0) [] [] p1) "__init__" p2) [.Constant (.str msg) j3 p3] [] p4) (ksEnv qual scope L fI (.ref cda) cc)) Q E s := by
  obtain ⟨nmC, q, N, bs, bm, sn, sub, ab, col, dd, k0, k1, k2, k3, k5, hC, hbm⟩ := T.cls
  obtain ⟨mb, hb1, hb2⟩ := hb
  have hcl : clsIn K C = some { name := nmC, bases := bs, mro := .ref C :: bm, ns := N, qualname := q, hasDict := true, slotNames := sn, subclasses := sub, abstract := ab, collection := col, hasDel := false } := by unfold clsIn; rw [hC] <;> rfl
  have I : InstAt s.heap x (excO C t0) C none := ⟨hx, rfl, rfl, trivial⟩
  obtain ⟨hh, g, d, t, os⟩ := s
  refine ks_wpAt_MethodCall (pl := pl) ?_ he
  refine ks_wpAt_super_base (env := ksEnv qual scope L fI (.ref cda) cc) hks hkc (by decide +kernel) rfl (X _ _ hf) rfl hp rfl (X _ _ hcode) rfl hvs hfile htop ?_
  refine ks_loadName_global hk hks (loadGlobal_builtin (env := ksEnv qual scope L fI (.ref cda) cc) hg hsup hb1 hb2 ⟨rfl, ?_⟩)
  refine wpAny_loadName_free hk hkc rfl ⟨_, X _ _ hcell, rfl⟩ ?_
  rw [har]
  refine wpAny_loadName_local hk hka hn hv ?_
  refine ks_wpAny_isType_cls (X _ _ hC) rfl ⟨rfl, ?_⟩
  refine ks_wpAny_call_super (X _ _ hC) rfl I.at_ I.cls (fun c e => nomatch e) (looks_mroIn X T.me) (fun h1 e1 k1' => ?_)
  have X1 : K.In h1 := X.keeps k1'
  have I1 : InstAt h1 x (excO C t0) C none := ⟨k1' _ _ hx, rfl, rfl, trivial⟩
  have hI : Looks (model prog w) h1 (isInstance (.ref x) (.type "ValueError")) true := I1.type.andThen (looks_subIn X1 T.exV)
  have hup := T.up
  unfold ks_superIn at hup
  rw [hcl] at hup
  refine kxs_getMethod kxs_ValueError e1 (looks_opaque X1 T.opq) (l₀ := .ref C :: bm) (fun A Q E s k q => wpAny_bind ((looks_clsIn X1 hcl) A _ E s k (wpAny_pure q))) rfl X1 hup hI (ks_ne X1 I1 hcl) (by decide +kernel) ?_
  have k2' : ∀ b o, h1.get? b = some o → (h1.push (kxs_mw "ValueError.__init__" x)).get? b = some o := fun b o e => Heap.get?_push_of_some _ e
  have hu : (h1.push (kxs_mw "ValueError.__init__" x)).get? h1.objs.size = some (kxs_mw "ValueError.__init__" x) := Heap.get?_push_at rfl rfl
  show wpAny _ _ (callWith p4 (.ref h1.objs.size) [] (backTo p4 (starEach [.Constant (.str msg) j3 p3] (ksEnv qual scope L fI (.ref cda) cc))) []) _ _ _
  refine kxs_callWith (i := "ValueError.__init__") (x := x) (by rfl) ?_
  refine evalArgs_plain ?_
  refine PyProof.Rows.spliced_more (wpAny_Constant_str (PyProof.Rows.spliced_none ⟨?_, ?_⟩))
  · exact hu
  · refine call_mw (k2' _ _ (X1 _ _ hC)) (k2' _ _ I1.at_) hu (one_size' _) fun h3 t3 k3' e3 => ?_
    exact hq h3 _ t3 ⟨fun b o hb ho => k3' b o hb (k2' _ _ (k1' _ _ ho)), e3⟩
/-- what __init__ with a field leaves -/
structure InitEnd (h h' : Heap) (x C dx t1 : Addr) (f : Str) (v : Value) : Prop where
  keep : ∀ b o, b ≠ x → h.get? b = some o → h'.get? b = some o
  obj : h'.get? x = some { cls := .ref C, dict := some dx, data := .fields #[.ref t1, .none, .none, .none, .bool false, .none] }
  dbig : h.objs.size ≤ dx
  dne : dx ≠ x
  ns : h'.Ns1 dx (fun y => if y = f then some v else none)
/-- a made exception with a field -/
structure OwnMade (h h' : Heap) (e C d : Addr) (f : Str) (v : Value) : Prop where
  keep : ∀ b o, h.get? b = some o → h'.get? b = some o
  new : h.objs.size ≤ e
  obj : ∃ oe vs, h'.get? e = some oe ∧ oe.cls = .ref C ∧ oe.dict = some d ∧ oe.data = .fields vs ∧ vs[1]? = some .none
  dbig : h.objs.size ≤ d
  dne : d ≠ e
  ns : h'.Ns1 d (fun y => if y = f then some v else none)
/-- a made exception without one -/
structure OwnMade0 (h h' : Heap) (e C : Addr) : Prop where
  keep : ∀ b o, h.get? b = some o → h'.get? b = some o
  new : h.objs.size ≤ e
  obj : ∃ oe vs, h'.get? e = some oe ∧ oe.cls = .ref C ∧ oe.dict = none ∧ oe.data = .fields vs ∧ vs[1]? = some .none
theorem ldK {M : Model} {s : Shared} {name : Str} {scope : Scope} {L a cc : Addr} {cd : Value} {m : Str → Option Value} {x : Str} {pos : Pos} {v : Value} {Q : Value → Shared → Prop} {A : Around} {E : Value → Shared → Prop} (hn : s.heap.Ns L m) (hv : m x = some v) (h : Q v s)
    (hk : scope.kind = .function := by rfl) (hl : (ksEnv name scope L a cd cc).kindOf x = some .local := by rfl) (hd : (x == ("__debug__" : Str)) = false := by decide) :
    wpAny M A (eval (.Name x pos) (ksEnv name scope L a cd cc)) Q E s := wpAny_Name (wpAny_loadName_local hk hl hn hv h) hd
/-- self.f = f, the last statement of __init__ -/
theorem store_expr (T : SupTxt prog K mg C fI nm qual st) {L x t1 cc : Addr} {cd : Value} {scope : Scope} {m : Str → Option Value} {f : Str} {v : Value} {q1 q2 q3 q4 : Pos} {Q : Flow → Shared → Prop} (X : K.In s.heap) (hn : s.heap.Ns L m) (hL : L ≠ x) (hx : s.heap.get? x = some (excO C t1))
    (hs : m "self" = some (.ref x)) (hf : m f = some v) (no : findIn K (.ref C) f = some none) (hk : scope.kind = .function) (k1 : (ksEnv qual scope L fI cd cc).kindOf "self" = some .local) (k2 : (ksEnv qual scope L fI cd cc).kindOf f = some .local) (hd : (f == ("__debug__" : Str)) = false)
    (hsw : swapsWith (.Name f q3) (some (.Attribute (.Name "self" q1) f q2)) q4.line (ksEnv qual scope L fI cd cc) = pure false)
    (hq : ∀ h' tk dx, InitEnd s.heap h' x C dx t1 f v → Q .next { s with heap := h', toks := tk }) :
    wpAny (model prog w) A (exec (.Assign [.Attribute (.Name "self" q1) f q2] (.Name f q3) q4) (ksEnv qual scope L fI cd cc)) Q E s := by
  obtain ⟨nmC, q, N, bs, bm, sn, sub, ab, col, dd, k0, k1', k2', k3, k5, hC, hbm⟩ := T.cls
  have hcl : clsIn K C = some { name := nmC, bases := bs, mro := .ref C :: bm, ns := N, qualname := q, hasDict := true, slotNames := sn, subclasses := sub, abstract := ab, collection := col, hasDel := false } := by unfold clsIn; rw [hC] <;> rfl
  refine plainObj_wpAny_Assign_Attribute ?_ hsw
  refine ldK (v := v) hn hf (ldK (v := .ref x) hn hs ?_ hk k1) hk k2 hd
  refine set_plain X (ox := excO C t1) (od := none) ⟨hx, rfl, rfl, trivial⟩ T.sa ?_
  exact exc_osa X hx hcl (show refsVE (.ref C :: bm) = true from hbm) rfl no (fun h₃ tk₃ dx k₃ dn dne hx₃ hn₃ => hq h₃ tk₃ dx ⟨k₃, hx₃, dn, dne, hn₃⟩)
theorem ns_keep {h h' : Heap} {L x : Addr} {m : Str → Option Value} (n : h.Ns L m) (hL : L ≠ x) (k : ∀ b o, b ≠ x → h.get? b = some o → h'.get? b = some o) : h'.Ns L m ∧ L < h'.objs.size := by
  obtain ⟨oL, es, ep, h0, r⟩ := n
  have h1 := k _ _ hL h0
  exact ⟨⟨oL, es, ep, h1, r⟩, Heap.lt_size h1⟩
/-- what a class's __init__ with one field does -/
def InitOk (prog : Program) (w : World) (K : Frag) (mg : Str → Option Value) (C fI : Addr) (f : Str) : Prop :=
  ∀ {A : Around} {R : Result → Shared → Prop} {s : Shared} {x t0 : Addr} {v : Value}, K.In s.heap → s.heap.NoLimit → s.heap.Ns mainGlobals mg → (∃ mb, s.heap.Ns builtinsNs mb ∧ mb "super" = some (.type "super")) → s.heap.get? x = some (excO C t0) → K.lookup x = none → A.depth < recursionLimit →
    (∀ h' tk dx t1, InitEnd s.heap h' x C dx t1 f v → R (.ok (.ret .none)) { s with heap := h', toks := tk }) → codeAny (model prog w) A (.call (.ref fI) ⟨[.ref x, v], []⟩) R s
/-- and of one without -/
def InitOk0 (prog : Program) (w : World) (K : Frag) (mg : Str → Option Value) (C fI : Addr) : Prop :=
  ∀ {A : Around} {R : Result → Shared → Prop} {s : Shared} {x t0 : Addr}, K.In s.heap → s.heap.NoLimit → s.heap.Ns mainGlobals mg → (∃ mb, s.heap.Ns builtinsNs mb ∧ mb "super" = some (.type "super")) → s.heap.get? x = some (excO C t0) → K.lookup x = none → A.depth < recursionLimit →
    (∀ h' tk t1, SupEnd s.heap h' x C t1 → R (.ok (.ret .none)) { s with heap := h', toks := tk }) → codeAny (model prog w) A (.call (.ref fI) ⟨[.ref x], []⟩) R s
variable {R : Result → Shared → Prop}
theorem new_free {K : Frag} {hp : Heap} {us : List Value} {C : Addr} (X : K.In hp) : K.lookup (hp.objs.size + 1) = none := by
  cases e : K.lookup (hp.objs.size + 1) with
  | none => rfl
  | some o =>
    have z : hp.get? (hp.objs.size + 1) = some o := X _ _ e
    exact absurd (Nat.lt_of_succ_lt (Heap.lt_size z)) (Nat.lt_irrefl _)
theorem made (T : SupTxt prog K mg C fI nm qual st) {f : Str} (I : InitOk prog w K mg C fI f) {v : Value} (X : K.In s.heap) (hlim : s.heap.NoLimit) (hg : s.heap.Ns mainGlobals mg) (hb : ∃ mb, s.heap.Ns builtinsNs mb ∧ mb "super" = some (.type "super")) (hroom : A.depth + 1 < recursionLimit)
    (hq : ∀ h' tk e d, OwnMade s.heap h' e C d f v → R (.ok (.ret (.ref e))) { s with heap := h', toks := tk }) : codeAny (model prog w) A (.call (.ref C) ⟨[v], []⟩) R s := by
  obtain ⟨nmC, q, N, bs, bm, sn, sub, ab, col, dd, k0, k1, k2, k3, k5, hC, hbm⟩ := T.cls
  obtain ⟨hp, g, dr, tk, os⟩ := s
  have k : ∀ b o, hp.get? b = some o → ((hp.push (kdv_tup [v])).push (excO C hp.objs.size)).get? b = some o := fun b o e => Heap.get?_push_of_some _ (Heap.get?_push_of_some _ e)
  have hget : ((hp.push (kdv_tup [v])).push (excO C hp.objs.size)).get? (hp.objs.size + 1) = some (excO C hp.objs.size) := by heap_get
  have hnx : K.lookup (hp.objs.size + 1) = none := new_free (us := []) (C := C) X
  obtain ⟨mb, hb1, hb2⟩ := hb
  refine call_own F.excBase_ValueError (fun X => refsVE_contains X bm hbm) (X _ _ hC) (looks_findIn X T.iC) (fun self => bind_fn X self T.tC) (one_size' v) ?_
  refine I (s := ⟨(hp.push (kdv_tup [v])).push (excO C hp.objs.size), g, dr, tk, os⟩) (X.keeps k) (hlim.keeps k) (hg.keeps k) ⟨mb, hb1.keeps k, hb2⟩ hget hnx ?_ fun h' tk' dx t1 ⟨k', hx, dn, dne, hns⟩ => ?_
  · show A.depth + 1 < recursionLimit
    exact hroom
  · have old : ∀ b o, hp.get? b = some o → h'.get? b = some o := fun b o e => k' b o (Nat.ne_of_lt (Nat.lt_succ_of_lt (Heap.lt_size e))) (k b o e)
    have z : hp.objs.size + 1 + 1 ≤ dx := by
      first
        | (simpa only [Heap.size_push] using dn)
        | exact dn
        | (have q := dn; rw [Heap.size_push, Heap.size_push] at q; exact q)
    exact ⟨rfl, hq h' tk' (hp.objs.size + 1) dx ⟨old, Nat.le_succ _, ⟨_, _, hx, rfl, rfl, rfl, rfl⟩, Nat.le_trans (Nat.le_trans (Nat.le_succ _) (Nat.le_succ _)) z, dne, hns⟩⟩
theorem made0 (T : SupTxt prog K mg C fI nm qual st) (I : InitOk0 prog w K mg C fI) (X : K.In s.heap) (hlim : s.heap.NoLimit) (hg : s.heap.Ns mainGlobals mg) (hb : ∃ mb, s.heap.Ns builtinsNs mb ∧ mb "super" = some (.type "super")) (hroom : A.depth + 1 < recursionLimit)
    (hq : ∀ h' tk e, OwnMade0 s.heap h' e C → R (.ok (.ret (.ref e))) { s with heap := h', toks := tk }) : codeAny (model prog w) A (.call (.ref C) ⟨[], []⟩) R s := by
  obtain ⟨nmC, q, N, bs, bm, sn, sub, ab, col, dd, k0, k1, k2, k3, k5, hC, hbm⟩ := T.cls
  obtain ⟨hp, g, dr, tk, os⟩ := s
  have k : ∀ b o, hp.get? b = some o → ((hp.push (kdv_tup [])).push (excO C hp.objs.size)).get? b = some o := fun b o e => Heap.get?_push_of_some _ (Heap.get?_push_of_some _ e)
  have hget : ((hp.push (kdv_tup [])).push (excO C hp.objs.size)).get? (hp.objs.size + 1) = some (excO C hp.objs.size) := by heap_get
  have hnx : K.lookup (hp.objs.size + 1) = none := new_free (us := []) (C := C) X
  obtain ⟨mb, hb1, hb2⟩ := hb
  refine call_own F.excBase_ValueError (fun X => refsVE_contains X bm hbm) (X _ _ hC) (looks_findIn X T.iC) (fun self => bind_fn X self T.tC) (Nat.zero_le _) ?_
  refine I (s := ⟨(hp.push (kdv_tup [])).push (excO C hp.objs.size), g, dr, tk, os⟩) (X.keeps k) (hlim.keeps k) (hg.keeps k) ⟨mb, hb1.keeps k, hb2⟩ hget hnx ?_ fun h' tk' t1 ⟨k', hx⟩ => ?_
  · show A.depth + 1 < recursionLimit
    exact hroom
  · have old : ∀ b o, hp.get? b = some o → h'.get? b = some o := fun b o e => k' b o (Nat.ne_of_lt (Nat.lt_succ_of_lt (Heap.lt_size e))) (k b o e)
    exact ⟨rfl, hq h' tk' (hp.objs.size + 1) ⟨old, Nat.le_succ _, ⟨_, _, hx, rfl, rfl, rfl, rfl⟩⟩⟩
end
end PySem.AhX
namespace L2
open PySem PySem.Spec PyProof.Rows PySem.AhX
theorem relO_one {f0 : Str} {v : V} {v' : Value} (r : RelV v v') (f : Str) : RelO (List.lookup f [(f0, v)]) (if f = f0 then some v' else none) := by
  by_cases hw : f = f0
  · subst hw
    rw [if_pos rfl]
    have q : List.lookup f [(f, v)] = some v := by simp [List.lookup]
    rw [q]
    exact r
  · rw [if_neg hw]
    have qw : (f == f0) = false := by simpa using hw
    have q2 : List.lookup f [(f0, v)] = none := by simp [List.lookup, qw]
    rw [q2]
    trivial
/-- what stands written of an own exception with the field f -/
structure XcF (P : Program) (w : World) (K : PySem.W.Frag) (mg : Str → Option Value) (C : Addr) (x f : Str) : Prop where
  ex : ∃ (fI : Addr) (qual : Str) (st : Stmt), SupTxt P K mg C fI x qual st ∧ InitOk P w K mg C fI f
structure Xc0 (P : Program) (w : World) (K : PySem.W.Frag) (mg : Str → Option Value) (C : Addr) (x : Str) : Prop where
  ex : ∃ (fI : Addr) (qual : Str) (st : Stmt), SupTxt P K mg C fI x qual st ∧ InitOk0 P w K mg C fI
section
variable {X : Cx} {C : Addr} {x f : Str}
/-- x(e), an own exception with the field f -/
def tMkF (C : Addr) (f : Str) (ta : TA) : St → Hp → XK → Prop := fun σ H Q => ta σ H fun vs H1 => ∃ v, vs = [v] ∧ ∀ d, H1 d = none → Q (.ref C) (some d) (upd H1 d (.xd [(f, v)]))
theorem Inv.sup {pins : List (Addr × Obj)} {σ : St} {H : Hp} {s : Shared} (I : Inv X pins σ H s) : s.heap.Ns mainGlobals X.mg ∧ ∃ mb, s.heap.Ns builtinsNs mb ∧ mb "super" = some (.type "super") := by
  obtain ⟨mb, h1, h2⟩ := I.mod.blt
  exact ⟨I.mod.glob.keeps I.bk, mb, h1.keeps I.bk, (h2 "super" (by decide +kernel)).trans (by rfl)⟩
theorem pmk_fld {a : Expr} {ta : TA} {p pos : Pos} {k : Nat} (c : XcF X.prog X.w X.K X.mg C x f) (hr : Room k X.A) (ha : PA X [a] ta) (hg : Gl X x := by rfl) (hdb : (x == ("__debug__" : Str)) = false := by decide)
    (he : starEach (a :: []) X.env = (false, eval a X.env) :: starEach [] X.env := by rfl) (hpl : (backTo pos (starEach [] X.env)).any (·.1) = false := by rfl) :
    PMk X (.Call (.Name x p) [a] [] pos) (tMkF C f ta) := by
  obtain ⟨fI, qual, st, T, hI⟩ := c.ex
  intro pins s σ H Q I h
  refine wpAny_Call_Name_kw (ld_glob I hg T.gC ?_ hdb)
  refine PySem.W.callWith_K (h₀ := X.base) I.ok.mod.kin T.kC (thn (ha.run pos pins s σ H _ I h) fun us s1 hh => ?_) he hpl
  obtain ⟨vs, H1, I1, r1, v, ev, q1⟩ := hh
  subst ev
  refine ⟨I1.kIn, ?_⟩
  cases r1 with
  | cons rv rn =>
    rename_i v' us'
    cases rn
    show wpAny _ _ (call (.ref C) [v']) _ _ _
    have hlim := I1.nolimit
    obtain ⟨sg, sb⟩ := I1.sup
    obtain ⟨hp, g, dr, tk, os⟩ := s1
    refine wpAny_call (made T hI I1.kIn hlim sg sb (by have := hr.dp; omega) fun h' tk' e d M => ?_)
    show MkP X pins σ Q (.ref e) ⟨h', g, dr, tk', os⟩
    obtain ⟨oe, fv, hoe, hc, hd, hdat, h1⟩ := M.obj
    have hns := M.ns
    obtain ⟨G', g1, g2⟩ := restrict h' fun b => decide (b ≠ e)
    have gk : ∀ b, b ≠ e → G'.get? b = h'.get? b := fun b hb => g1 b (decide_eq_true hb)
    have ge : G'.get? e = none := g2 e (by simp)
    have old : ∀ b o, hp.get? b = some o → G'.get? b = some o := fun b o q => (gk b (Nat.ne_of_lt (Nat.lt_of_lt_of_le (Heap.lt_size q) M.new))).trans (M.keep b o q)
    have ob : ObjOk X.prog X.w (upd H1 d (.xd [(f, v)])) G' d (.xd [(f, v)]) := ⟨_, hns.at (fun o q => (gk d M.dne).trans q), fun y => relO_one rv y⟩
    have J : Inv X pins σ (upd H1 d (.xd [(f, v)])) ⟨G', g, dr, tk', os⟩ := I1.laid (t' := tk') old M.dbig ob
    refine ⟨e, oe, fv, ⟨G', g, dr, tk', os⟩, _, .ref C, some d, rfl, J, fun b o q => ?_, ge, hoe, ⟨hc, hd⟩, hdat, h1, ?_, rfl, I1.bare, raises_own T.exC T.tyC, q1 d (I1.hok.fresh M.dbig)⟩
    · by_cases hb : b = e
      · have q' : G'.get? b = some o := q
        rw [hb, ge] at q'; cases q'
      · exact (gk b hb).symm.trans q
    · rw [upd_ne (Ne.symm M.dne)]
      exact I1.hok.fresh M.new
def tMk0 (C : Addr) : St → Hp → XK → Prop := fun σ H Q => Q (.ref C) none H
theorem pmk_no {p pos : Pos} {k : Nat} (c : Xc0 X.prog X.w X.K X.mg C x) (hr : Room k X.A) (hg : Gl X x := by rfl) (hdb : (x == ("__debug__" : Str)) = false := by decide) : PMk X (.Call (.Name x p) [] [] pos) (tMk0 C) := by
  obtain ⟨fI, qual, st, T, hI⟩ := c.ex
  intro pins s σ H Q I h
  refine wpAny_Call_Name_kw (ld_glob I hg T.gC ?_ hdb)
  refine PySem.W.callWith_K0 I.kIn T.kC ?_
  have hlim := I.nolimit
  obtain ⟨sg, sb⟩ := I.sup
  obtain ⟨hp, g, dr, tk, os⟩ := s
  refine wpAny_call (made0 T hI I.kIn hlim sg sb (by have := hr.dp; omega) fun h' tk' e M => ?_)
  show MkP X pins σ Q (.ref e) ⟨h', g, dr, tk', os⟩
  obtain ⟨oe, fv, hoe, hc, hd, hdat, h1⟩ := M.obj
  obtain ⟨G', g1, g2⟩ := restrict h' fun b => decide (b ≠ e)
  have gk : ∀ b, b ≠ e → G'.get? b = h'.get? b := fun b hb => g1 b (decide_eq_true hb)
  have ge : G'.get? e = none := g2 e (by simp)
  have old : ∀ b o, hp.get? b = some o → G'.get? b = some o := fun b o q => (gk b (Nat.ne_of_lt (Nat.lt_of_lt_of_le (Heap.lt_size q) M.new))).trans (M.keep b o q)
  have J : Inv X pins σ H ⟨G', g, dr, tk', os⟩ := I.kept (t' := tk') old
  refine ⟨e, oe, fv, ⟨G', g, dr, tk', os⟩, _, .ref C, none, rfl, J, fun b o q => ?_, ge, hoe, ⟨hc, hd⟩, hdat, h1, I.hok.fresh M.new, rfl, I.bare, raises_own T.exC T.tyC, h⟩
  by_cases hb : b = e
  · have q' : G'.get? b = some o := q
    rw [hb, ge] at q'; cases q'
  · exact (gk b hb).symm.trans q
/-- raise x(e) -/
def tRaiseF (C : Addr) (f : Str) (W : WX) (ta : TA) : TS := fun _ σ H => tMkF C f ta σ H fun cls d H' => W cls d σ H'
theorem ps_raiseF {a : Expr} {ta : TA} {W : WX} {p pos pos2 : Pos} {k : Nat} (hc : X.calm = true) (c : XcF X.prog X.w X.K X.mg C x f) (hr : Room k X.A) (tk : Takes X W) (ha : PA X [a] ta) (hg : Gl X x := by rfl) (hdb : (x == ("__debug__" : Str)) = false := by decide)
    (he : starEach (a :: []) X.env = (false, eval a X.env) :: starEach [] X.env := by rfl) (hpl : (backTo pos (starEach [] X.env)).any (·.1) = false := by rfl) :
    PS X (.Raise (some (.Call (.Name x p) [a] [] pos)) none pos2) (tRaiseF C f W ta) := ps_raise hc tk (pmk_fld c hr ha hg hdb he hpl)
def tRaise0 (C : Addr) (W : WX) : TS := fun _ σ H => W (.ref C) none σ H
theorem ps_raise0 {W : WX} {p pos pos2 : Pos} {k : Nat} (hc : X.calm = true) (c : Xc0 X.prog X.w X.K X.mg C x) (hr : Room k X.A) (tk : Takes X W) (hg : Gl X x := by rfl) (hdb : (x == ("__debug__" : Str)) = false := by decide) :
    PS X (.Raise (some (.Call (.Name x p) [] [] pos)) none pos2) (tRaise0 C W) := ps_raise hc tk (pmk_no c hr hg hdb)
end
end L2
/-! Ah22: defs that raise; lines that are wrong. -/
namespace Ah
open PySem PySem.Spec PyProof.Rows L2 Evl

/-- what a def promises that raises an exception of the class C with the field f: for each i a value, for each j the exception -/
def spX {ι κ : Type} (args : ι → List (MP V)) (res : ι → MP V) (bad : κ → List (MP V)) (C : Addr) (f : Str) (z : κ → Int) : Sp := fun vs H Q E =>
  (∃ (i : ι) (G : Hp), Ex G H ∧ AllP vs (args i) G ∧ ∀ v G' H', Ex H H' → Nw H G G' H' → (res i).p v G' → Q v H') ∨
  (∃ (j : κ) (G : Hp), Ex G H ∧ AllP vs (bad j) G ∧ ∀ d H', Ex H H' → H' d = none → E (.ref C) (some d) (upd H' d (.xd [(f, .int (z j))])))
theorem spX_len {ι κ : Type} {args : ι → List (MP V)} {res : ι → MP V} {bad : κ → List (MP V)} {C : Addr} {f : Str} {z : κ → Int} {n : Nat} (hn : ∀ i, (args i).length = n) (hm : ∀ j, (bad j).length = n) : ∀ vs H Q E, spX args res bad C f z vs H Q E → vs.length = n := fun vs H Q E h => by
  rcases h with ⟨i, G, _, h, _⟩ | ⟨j, G, _, h, _⟩
  · rw [AllP.length h, hn i]
  · rw [AllP.length h, hm j]
/-- t raises: the class C, the field f, its value z -/
def Bad (E : XK) (C : Addr) (f : Str) (z : Int) (t : TS) (σ : L2.St) (G : Hp) : Prop := ∀ H, Ex G H → (∀ d H', Ex H H' → H' d = none → E (.ref C) (some d) (upd H' d (.xd [(f, .int z)]))) → ∀ D, t D σ H
def BadE (E : XK) (C : Addr) (f : Str) (z : Int) (t : TE) (σ : L2.St) (G : Hp) : Prop := ∀ H, Ex G H → (∀ d H', Ex H H' → H' d = none → E (.ref C) (some d) (upd H' d (.xd [(f, .int z)]))) → ∀ Q, t σ H Q
section
variable {K : PySem.W.Frag} {w : World} {c : Ad} {σ : L2.St} {G G1 : Hp} {ta tb te : TE} {tas : TA} {tt : TT} {t u tr : TS} {R P : MP V} {E : XK} {C : Addr} {f : Str} {z : Int} {b : Bool}
theorem Bad.up (h : Bad E C f z t σ G) (e : Ex G G1) : Bad E C f z t σ G1 := fun H eH k D => h H (e.trans eH) k D
theorem BadE.up (h : BadE E C f z te σ G) (e : Ex G G1) : BadE E C f z te σ G1 := fun H eH k D => h H (e.trans eH) k D
theorem x_asg {i : Nat} (h : Cm (te σ) G R) (k : ∀ v G1, Ex G G1 → R.p v G1 → Bad E C f z tr (σ.set i (some v)) G1) : Bad E C f z (tSeq (tAsg te (gName i)) tr) σ G :=
  fun H e q D => h H e _ fun v G1 H1 e1 n1 p1 => k v G1 n1.ex p1 H1 n1.le (fun d H' e2 => q d H' (e1.trans e2)) D
theorem x_asgE {i : Nat} (h : BadE E C f z te σ G) : Bad E C f z (tSeq (tAsg te (gName i)) tr) σ G := fun H e q D => h H e q _
theorem x_retE (h : BadE E C f z te σ G) : Bad E C f z (tRet te) σ G := fun H e q D => h H e q _
theorem x_dropE (h : BadE E C f z te σ G) : Bad E C f z (tSeq (tDrop te) tr) σ G := fun H e q D => h H e q _
theorem x_ifT (h : Cm (tt σ) G (MP.eq true)) (k : Bad E C f z t σ G) : Bad E C f z (tSeq (tIfS tt t u) tr) σ G :=
  fun H e q D => h H e _ fun v G1 H1 e1 n1 p1 => by
    have p1 : v = true := p1
    subst p1
    exact iteT (k H1 (e.trans e1) (fun d H' e2 => q d H' (e1.trans e2)) _)
theorem x_ifF (h : Cm (tt σ) G (MP.eq false)) (k : ∀ G1, Ex G G1 → Bad E C f z tr σ G1) : Bad E C f z (tSeq (tIfS tt t tNext) tr) σ G :=
  fun H e q D => h H e _ fun v G1 H1 e1 n1 p1 => by
    have p1 : v = false := p1
    subst p1
    exact iteF (k G1 n1.ex H1 n1.le (fun d H' e2 => q d H' (e1.trans e2)) _)
theorem x_raise (h : Cm (te σ) G (MP.d K (.int z))) : Bad E C f z (tRaiseF C f (fun cls d _ H => E cls d H) (tCons te tNil)) σ G :=
  fun H e q D => h H e _ fun v G1 H1 e1 n1 p1 => by
    rw [dp_int p1]
    exact ⟨_, rfl, fun d hd => q d H1 e1 hd⟩
/-- a test that is false, whatever the branch -/
theorem b_ifX (h : Cm (tt σ) G (MP.eq false)) (k : Cm (bd tr σ) G P) : Cm (bd (tSeq (tIfS tt t tNext) tr) σ) G P := b_if h (fun z => absurd z Bool.false_ne_true) fun _ => k
theorem u_ifX {D : Ends} {H : Hp} (h : Cm (tt σ) G (MP.eq false)) (e : Ex G H) (k : ∀ G' H', Ex H H' → Nw H G G' H' → tr D σ H') : tSeq (tIfS tt t tNext) tr D σ H :=
  h H e _ fun b G' H' e1 n1 p => by
    have p : b = false := p
    subst p
    exact iteF (k G' H' e1 n1)
variable {ι κ : Type} {args : ι → List (MP V)} {res : ι → MP V} {bad : κ → List (MP V)} {zz : κ → Int}
theorem c_callX (i : ι) (h : Cm (tas σ) G (MP.args (args i))) : Cm (tCall (spX args res bad C f zz) [] E tas σ) G (res i) :=
  Cm.bind (t := tas σ) (u := fun (vs : List V) (H : Hp) (Q : VK) => spX args res bad C f zz (vs ++ []) H Q E) h fun vs G1 e1 p => fun H eh Q hq => .inl ⟨i, G1, eh, by rw [List.append_nil]; exact p, hq⟩
theorem x_call (j : κ) (h : Cm (tas σ) G (MP.args (bad j))) : BadE E C f (zz j) (tCall (spX args res bad C f zz) [] E tas) σ G :=
  fun H e q Q => h H e _ fun vs G1 H1 e1 n1 p1 => .inr ⟨j, G1, n1.le, by rw [List.append_nil]; exact p1, fun d H' e2 => q d H' (e1.trans e2)⟩
/-- a body keeps such a promise -/
theorem spX_body {N : List Str} {vs : List V} {H : Hp} {Q : VK} (h : spX args res bad C f zz vs H Q E) (k : ∀ i G, AllP vs (args i) G → Cm (bd t (start N vs)) G (res i)) (kx : ∀ j G, AllP vs (bad j) G → Bad E C f (zz j) t (start N vs) G) :
    t { nx := fun _ H' => Q .non H', rt := Q } (start N vs) H := by
  rcases h with ⟨i, G, e, ha, q⟩ | ⟨j, G, e, ha, q⟩
  · exact k i G ha H e Q q
  · exact kx j G ha H e q _
end
/-! ### calls of such defs, in a def that lets the exception out -/
section
variable {X : Cx} {k j : Nat} {x : Str} {sp : Sp} {p pos : Pos} {e : Expr} {es : List Expr} {t : TA} {E : XK}
theorem pe_calX (c : Cal X.prog X.w X.K X.mg X.base (L2.CX X.prog X.w) k x sp) (hr : Room j X.A) (hk : k ≤ j) (tk : Takes X (fun cls d _ H => E cls d H)) (hg : Gl X x) (ha : PA X (e :: es) t)
    (hdb : (x == ("__debug__" : Str)) = false := by decide) (he : starEach (e :: es) X.env = (false, eval e X.env) :: starEach es X.env := by rfl) (hpl : (backTo pos (starEach es X.env)).any (·.1) = false := by rfl) :
    PE X (.Call (.Name x p) (e :: es) [] pos) (tCall sp [] E t) := by
  obtain ⟨f, fd, ps, F, hm, kp, b⟩ := c.ex
  exact pe_call F (hr.mono hk) hg hm kp b .nil (passes_call tk fun _ _ _ _ h => h) ha hdb he hpl
end
/-! ### isinstance of a caught exception that has a dict -/
section
def rIsD (K : PySem.W.Frag) (D a : Addr) (cls : Value) (d : Option Addr) : List V → Hp → VK → Prop := fun xs H Q => ∃ (c : V) (cv : Value) (b : Bool) (dd : Addr) (fs : List (Str × V)), xs = [.ref a, c] ∧ cls = .ref D ∧ d = some dd ∧ H dd = some (.xd fs) ∧ (∀ u, RelV c u → u = cv) ∧ PySem.W.kitOne K (.ref D) cv = some b ∧ Q (.bl b) H
theorem call_isD {X : Cx} {a D : Addr} {d : Option Addr} {oe : Obj} {pn : List (Addr × Obj)} (C : ExcC X.K D) (hcl : (PySem.W.clsIn X.K D).isSome = true) {cls : Value} (hz : Zc cls d oe) (hf : ∃ vs, oe.data = .fields vs) : CallR (X.suite a ((a, oe) :: pn)) (.builtin "isinstance") (rIsD X.K D a cls d) := by
  intro pins s σ H xs us Q I r h
  obtain ⟨c, cv, b, dd, fs, rfl, hcls, ed, ea, hcv, e, q⟩ := h
  cases r with
  | cons rx rr =>
    cases rr with
    | cons rt rr =>
      cases rr
      cases rx
      have ec := hcv _ rt
      subst ec hcls ed
      obtain ⟨hget, _⟩ := I.pin (a, oe) (List.mem_append.mpr (.inl List.mem_cons_self))
      obtain ⟨vs, hv⟩ := hf
      obtain ⟨mA, hns, _⟩ := (show ObjOk X.prog X.w H s.heap dd (.xd fs) from I.hok dd _ ea)
      obtain ⟨od, ho, _⟩ := lookIn_ns hns
      have J : PySem.W.InstAt s.heap a oe D (some od) := ⟨hget, hz.1, by unfold PySem.W.notCls; rw [hv] <;> rfl, by rw [hz.2]; exact ho⟩
      exact PySem.W.kia_one (PySem.W.kitx_exc hcl C.hg C.hk C.hs C.ha C.hn C.ht C.hm) I.kIn J e (fun z => nomatch z) fun tk => ⟨.bl b, H, I.kept (t' := tk) fun _ _ z => z, rfl, q⟩
end
end Ah
/-! Ah23: lines of a text, right or wrong. -/
namespace Ah
open PySem PySem.Spec PyProof.Rows L2 Evl

/-! ### what a line must be -/
def rowNames : List Str := ["a1", "a2", "b1", "b2"]
def wordNames : List Str := ["join", "sweep"]
/-- the program's look at a line, by its words -/
def badRows (ps : List Str) : Bool := !(decide (ps.headD "" = "rows")) || ((!(decide ((2 : Int) ≤ (ps.length : Int)) && decide ((ps.length : Int) ≤ 3))) || !((ps.drop 1).all fun x => decide (x ∈ rowNames)))
def badWord (part : Str) (al ps : List Str) : Bool := !(decide (ps.length = 2)) || (!(decide (ps.headD "" = part)) || !(decide ((ps.drop 1).headD "" ∈ al)))
def badWords (ps : List Str) : Bool := !(decide (ps.headD "" = "words")) || !(decide (wordNames.filter (fun x => decide (x ∈ ps.drop 1)) = ps.drop 1))
def badAt (k : Nat) (ps : List Str) : Bool :=
  if k = 0 then badRows ps else if k < 7 then badWord ((kvParts.getD (k - 1) ("", [])).1) ((kvParts.getD (k - 1) ("", [])).2) ps else if k = 7 then badWords ps else true
/-- the first line that is wrong, from line k on -/
def fw (k : Nat) : List (List Str) → Option Nat
  | [] => if k < 8 then some (k + 1) else none
  | ps :: r => if badAt k ps then some (k + 1) else fw (k + 1) r
theorem rows_of_good {ps : List Str} (ne : ps ≠ []) (h : badRows ps = false) : ∃ rows : List Row, ps = ("rows" : Str) :: rows.map rowT ∧ (rows.length = 1 ∨ rows.length = 2) := by
  unfold badRows at h
  simp only [Bool.or_eq_false_iff, Bool.not_eq_false', Bool.and_eq_true, decide_eq_true_eq] at h
  obtain ⟨h1, ⟨h2, h3⟩, h4⟩ := h
  match ps, ne with
  | p :: r, _ =>
    have h1 : p = "rows" := h1
    subst h1
    have hl : r.length = 1 ∨ r.length = 2 := by
      rw [List.length_cons] at h2 h3
      omega
    have : ∀ l : List Str, (l.all fun x => decide (x ∈ rowNames)) = true → ∃ rows : List Row, l = rows.map rowT := fun l => by
      induction l with
      | nil => exact fun _ => ⟨[], rfl⟩
      | cons x l ih =>
        intro hx
        rw [List.all_cons, Bool.and_eq_true] at hx
        obtain ⟨rows, e⟩ := ih hx.2
        have hm : x ∈ rowNames := of_decide_eq_true hx.1
        have : ∃ r : Row, x = rowT r := by
          unfold rowNames at hm
          simp only [List.mem_cons, List.not_mem_nil, or_false] at hm
          rcases hm with e | e | e | e
          · exact ⟨(false, false), by rw [e]; decide +kernel⟩
          · exact ⟨(false, true), by rw [e]; decide +kernel⟩
          · exact ⟨(true, false), by rw [e]; decide +kernel⟩
          · exact ⟨(true, true), by rw [e]; decide +kernel⟩
        obtain ⟨r, hr⟩ := this
        exact ⟨r :: rows, by rw [List.map_cons, ← hr, ← e]⟩
    obtain ⟨rows, e⟩ := this r h4
    refine ⟨rows, by rw [e], ?_⟩
    rw [e, List.length_map] at hl
    exact hl
theorem word_of_good {part : Str} {al ps : List Str} (h : badWord part al ps = false) : ∃ s, ps = [part, s] ∧ s ∈ al := by
  unfold badWord at h
  simp only [Bool.or_eq_false_iff, Bool.not_eq_false', decide_eq_true_eq] at h
  obtain ⟨h1, h2, h3⟩ := h
  match ps, h1 with
  | [a, b], _ => exact ⟨b, by rw [← (show a = part from h2)], h3⟩
theorem words_of_good {ps : List Str} (ne : ps ≠ []) (h : badWords ps = false) : ∃ j s : Bool, ∀ rs r, ps = ("words" : Str) :: (Bk.mk rs r j s).words := by
  unfold badWords at h
  simp only [Bool.or_eq_false_iff, Bool.not_eq_false', decide_eq_true_eq] at h
  obtain ⟨h1, h2⟩ := h
  match ps, ne with
  | p :: t, _ =>
    have h1 : p = "words" := h1
    subst h1
    have h2 : wordNames.filter (fun x => decide (x ∈ t)) = t := h2
    refine ⟨decide (("join" : Str) ∈ t), decide (("sweep" : Str) ∈ t), fun rs r => ?_⟩
    refine congrArg (fun l => ("words" : Str) :: l) ?_
    refine h2.symm.trans ?_
    unfold wordNames Bk.words
    simp only [List.filter_cons, List.filter_nil]
    by_cases a : ("join" : Str) ∈ t <;> by_cases b : ("sweep" : Str) ∈ t <;> simp [a, b]
/-- lines that are all right are a book's -/
theorem fw_suff : ∀ {pss : List (List Str)} {k : Nat}, fw k pss = none → ∀ i ps, pss[i]? = some ps → badAt (k + i) ps = false
  | [], _, _, i, ps, e => by simp at e
  | p :: r, k, h, i, ps, e => by
    unfold fw at h
    cases q : badAt k p with
    | true => rw [q] at h; cases h
    | false =>
      rw [q] at h
      cases i with
      | zero => cases e; exact q
      | succ i =>
        have z := fw_suff (k := k + 1) h i ps (by simpa using e)
        rwa [Nat.add_right_comm, Nat.add_assoc] at z
theorem fw_len : ∀ {pss : List (List Str)} {k : Nat}, fw k pss = none → 8 ≤ k + pss.length ∧ (k ≤ 8 → k + pss.length ≤ 8)
  | [], k, h => by
    unfold fw at h
    split at h
    · cases h
    · rw [List.length_nil]; omega
  | p :: r, k, h => by
    unfold fw at h
    cases q : badAt k p with
    | true => rw [q] at h; cases h
    | false =>
      rw [q] at h
      have z := fw_len (k := k + 1) h
      rw [List.length_cons]
      refine ⟨by omega, fun hk => ?_⟩
      by_cases h8 : k = 8
      · subst h8
        unfold badAt at q
        cases q
      · have := z.2 (by omega)
        omega
theorem kvs_good {pss : List (List Str)} (h : ∀ i, i < 6 → ∃ ps, pss[i + 1]? = some ps ∧ badAt (i + 1) ps = false) : ∃ r : Rule, ∀ i q, r.kvs[i]? = some q → pss[i + 1]? = some [q.1, q.2] := by
  have g : ∀ i p, kvParts[i]? = some p → ∃ s, pss[i + 1]? = some [p.1, s] ∧ s ∈ p.2 := fun i p hp => by
    have hi : i < 6 := (List.getElem?_eq_some_iff.mp hp).1
    obtain ⟨ps, h1, h2⟩ := h i hi
    unfold badAt at h2
    rw [if_neg (by omega), if_pos (by omega), Nat.add_sub_cancel, List.getD_eq_getElem?_getD, hp] at h2
    obtain ⟨s, e, hs⟩ := word_of_good h2
    exact ⟨s, by rw [h1, e] <;> rfl, hs⟩
  obtain ⟨s0, a0, b0⟩ := g 0 _ rfl
  obtain ⟨s1, a1, b1⟩ := g 1 _ rfl
  obtain ⟨s2, a2, b2⟩ := g 2 _ rfl
  obtain ⟨s3, a3, b3⟩ := g 3 _ rfl
  obtain ⟨s4, a4, b4⟩ := g 4 _ rfl
  obtain ⟨s5, a5, b5⟩ := g 5 _ rfl
  obtain ⟨t0, b0⟩ := bool_of b0
  obtain ⟨t1, b1⟩ := bool_of b1
  obtain ⟨t2, b2⟩ := bool_of b2
  obtain ⟨t3, b3⟩ := bool_of b3
  obtain ⟨t4, b4⟩ := mis_of b4
  obtain ⟨t5, b5⟩ := bool_of b5
  refine ⟨⟨t0, t1, t2, t3, t4, t5⟩, fun i q hq => ?_⟩
  match i, hq with
  | 0, hq => cases hq; rw [a0, b0]
  | 1, hq => cases hq; rw [a1, b1]
  | 2, hq => cases hq; rw [a2, b2]
  | 3, hq => cases hq; rw [a3, b3]
  | 4, hq => cases hq; rw [a4, b4]
  | 5, hq => cases hq; rw [a5, b5]
  | i + 6, hq => exact absurd hq (by show ¬ (([] : List (Str × Str))[i]? = some q); simp)
theorem book_of {pss : List (List Str)} (ok : ∀ ps ∈ pss, okP ps = true) (h : fw 0 pss = none) : ∃ b : BkO, pss = bkParts b.val := by
  have h1 := fw_suff h
  have h2 := fw_len h
  have hl : pss.length = 8 := by omega
  have at_ : ∀ i, i < 8 → ∃ ps, pss[i]? = some ps ∧ badAt i ps = false := fun i hi => by
    obtain ⟨ps, e⟩ : ∃ ps, pss[i]? = some ps := ⟨_, List.getElem?_eq_getElem (by omega)⟩
    refine ⟨ps, e, ?_⟩
    have := h1 i ps e
    rwa [Nat.zero_add] at this
  obtain ⟨p0, e0, g0⟩ := at_ 0 (by omega)
  obtain ⟨p7, e7, g7⟩ := at_ 7 (by omega)
  obtain ⟨rows, r1, r2⟩ := rows_of_good (okP.ne (ok _ (List.mem_of_getElem? e0))) g0
  obtain ⟨j, s, w1⟩ := words_of_good (okP.ne (ok _ (List.mem_of_getElem? e7))) g7
  obtain ⟨r, k1⟩ := kvs_good (pss := pss) fun i hi => at_ (i + 1) (by omega)
  refine ⟨⟨⟨rows, r, j, s⟩, r2⟩, List.ext_getElem? fun i => ?_⟩
  show pss[i]? = (bkParts ⟨rows, r, j, s⟩)[i]?
  match i with
  | 0 => rw [e0, r1] <;> rfl
  | 1 => exact k1 0 _ rfl
  | 2 => exact k1 1 _ rfl
  | 3 => exact k1 2 _ rfl
  | 4 => exact k1 3 _ rfl
  | 5 => exact k1 4 _ rfl
  | 6 => exact k1 5 _ rfl
  | 7 => rw [e7, w1 rows r] <;> rfl
  | i + 8 =>
    have a : pss[i + 8]? = none := List.getElem?_eq_none (by omega)
    have b : (bkParts ⟨rows, r, j, s⟩)[i + 8]? = none := List.getElem?_eq_none (by show 8 ≤ i + 8; omega)
    rw [a, b]
/-! ### readings -/
section
variable {K : PySem.W.Frag} {w : World} {c : Ad} {σ : L2.St} {G : Hp} {ta tb te td : TE} {ds : List PyData}
theorem eqv_strE (x y : Str) : PyData.eqv (.str x) (.str y) = decide (x = y) := rfl
theorem eqv_strs : ∀ (a b : List Str), PyData.eqvAll (a.map PyData.str) (b.map PyData.str) = decide (a = b)
  | [], [] => rfl
  | [], _ :: _ => rfl
  | _ :: _, [] => rfl
  | x :: a, y :: b => by
    show (decide (x = y) && PyData.eqvAll (a.map PyData.str) (b.map PyData.str)) = decide (x :: a = y :: b)
    rw [eqv_strs a b]
    by_cases h1 : x = y <;> by_cases h2 : a = b <;> simp [h1, h2]
theorem any_dec (x : Str) : ∀ (al : List Str), (al.map PyData.str).any (fun z => PyData.eqv z (.str x)) = decide (x ∈ al)
  | [] => rfl
  | y :: al => by
    rw [List.map_cons, List.any_cons, any_dec x al, eqv_strE]
    by_cases h1 : y = x
    · simp [h1]
    · by_cases h2 : x ∈ al <;> simp [h1, h2, Ne.symm h1]
/-! line_at -/
structure LineBad where
  lines : List Str
abbrev sp_line_atX (K : PySem.W.Frag) (w : World) (c : Ad) : Sp := spX (ι := LineIn) (κ := LineBad) (fun i => [MP.ts K i.lines, MP.d K (.int i.i)]) (fun i => MP.ts K i.ps) (fun j => [MP.ts K j.lines, MP.d K (.int j.lines.length)]) c.InvalidLine "line" (fun j => j.lines.length + 1)
theorem len_line_atX {vs : List V} {H : Hp} {Q : VK} {E : XK} (h : sp_line_atX K w c vs H Q E) : vs.length = 2 := spX_len (by intro i; rfl) (by intro i; rfl) vs H Q E h
def t_line_atX (K : PySem.W.Frag) (w : World) (c : Ad) (E : XK) : TS :=
  (tSeq (tIfS (tTest (tOp rGeI (tVar 1) (tCB (rLenG K) (tCons (tVar 0) tNil)))) (tRaiseF c.InvalidLine "line" (fun cls d _ H => E cls d H) (tCons (tOp (rAddG K) (tCB (rLenG K) (tCons (tVar 0) tNil)) (tC (.int 1))) tNil)) tNext)
    (tRet (tM1 rSplit (tOp (rIx K) (tVar 0) (tVar 1)) (tC (.str " ")))))
theorem rd_line_atX {vs : List V} {H : Hp} {Q : VK} {E : XK} (h : sp_line_atX K w c vs H Q E) : t_line_atX K w c E (Dn Q) (vs.map some ++ List.replicate (2 - vs.length) none) H := by
  have hlen := len_line_atX h
  match vs, hlen with
  | [x, y], _ =>
    refine spX_body (N := ["lines", "index"]) h (fun i G ha => ?_) (fun j G ha => ?_)
    · obtain ⟨lines, i, ps, hat, ok⟩ := i
      cases ha with
      | cons a1 ha => cases ha with
        | cons a2 ha =>
          cases ha
          have h1 : Cm (tVar 0 [some x, some y]) G (MP.ts K lines) := c_var rfl a1
          have h2 : Cm (tVar 1 [some x, some y]) G (MP.d K (.int i)) := c_var rfl a2
          have hi : i < lines.length := (List.getElem?_eq_some_iff.mp hat).1
          refine (b_ifX (c_test (c_to (c_I0 (z := .bool false) h2 (c_lenL h1) fun G => ?_) rfl)) (b_ret ?_) : Cm (bd (t_line_atX K w c E) [some x, some y]) G (MP.ts K ps))
          · have e1 : decide (((lines.map PyData.str).length : Int) ≤ (i : Int)) = false := decide_eq_false (by rw [List.length_map]; omega)
            rw [e1]
            exact .bl false
          · have hs := split_line ok
            rw [← hs]
            refine l_d (c_split (c_ixL h1 h2 (atI_of (by omega) rfl ?_)) c_str (by decide +kernel) ?_)
            · show (lines.map PyData.str)[((i : Nat) : Int).toNat]? = _
              rw [Int.toNat_natCast, List.getElem?_map, hat] <;> rfl
            · have := (okP.and ok).2.2.1
              omega
    · obtain ⟨lines⟩ := j
      cases ha with
      | cons a1 ha => cases ha with
        | cons a2 ha =>
          cases ha
          have h1 : Cm (tVar 0 [some x, some y]) G (MP.ts K lines) := c_var rfl a1
          have h2 : Cm (tVar 1 [some x, some y]) G (MP.d K (.int lines.length)) := c_var rfl a2
          have hL : Cm (tCB (rLenG K) (tCons (tVar 0) tNil) [some x, some y]) G (MP.d K (.int lines.length)) := c_to (c_lenL h1) (by rw [List.length_map])
          refine (x_ifT (c_test (c_to (c_I0 (z := .bool true) h2 hL fun G => ?_) rfl)) (x_raise (c_addI hL c_int)) : Bad E c.InvalidLine "line" (lines.length + 1) (t_line_atX K w c E) [some x, some y] G)
          rw [decide_eq_true (Int.le_refl _)]
          exact .bl true
theorem c_lineX {E : XK} (i : LineIn) (h1 : Cm (ta σ) G (MP.ts K i.lines)) (h2 : Cm (tb σ) G (MP.d K (.int i.i))) : Cm (tCall (sp_line_atX K w c) [] E (tCons ta (tCons tb tNil)) σ) G (MP.ts K i.ps) :=
  c_callX (args := fun i : LineIn => [MP.ts K i.lines, MP.d K (.int i.i)]) (res := fun i => MP.ts K i.ps) i (c_cons h1 (c_cons h2 c_nil))
theorem x_lineX {E : XK} (lines : List Str) (h1 : Cm (ta σ) G (MP.ts K lines)) (h2 : Cm (tb σ) G (MP.d K (.int lines.length))) : BadE E c.InvalidLine "line" (lines.length + 1) (tCall (sp_line_atX K w c) [] E (tCons ta (tCons tb tNil))) σ G :=
  x_call (bad := fun j : LineBad => [MP.ts K j.lines, MP.d K (.int j.lines.length)]) (zz := fun j : LineBad => (j.lines.length : Int) + 1) ⟨lines⟩ (c_cons h1 (c_cons h2 c_nil))
/-! the tests -/
theorem okP.sh {ps : List Str} (h : okP ps = true) : SeqAt.shaped (.list (ps.map PyData.str)) = true := (okP.and h).2.2.2.2
theorem c_hdP {ps : List Str} (ok : okP ps = true) (h : Cm (ta σ) G (MP.ts K ps)) : Cm (tOp (rIx K) ta (tC (.int 0)) σ) G (MP.d K (.str (ps.headD ""))) := by
  match ps, okP.ne ok with
  | p :: r, _ => exact c_hd h
theorem c_tlP {ps : List Str} (ok : okP ps = true) (h : Cm (ta σ) G (MP.ts K ps)) : Cm (tSl (rSlG K) ta (tPart (tC (.int 1))) tNoPart σ) G (MP.ts K (ps.drop 1)) := by
  match ps, okP.ne ok with
  | p :: r, _ => exact c_tl h
theorem okP.hd {ps : List Str} (ok : okP ps = true) : okT (ps.headD "") = true := by
  match ps, okP.ne ok with
  | p :: r, _ => exact (okP.and ok).2.1 p (List.mem_cons_self ..)
theorem okP.tlT {ps : List Str} (ok : okP ps = true) : ∀ x ∈ ps.drop 1, okT x = true := fun x hx => (okP.and ok).2.1 x (List.mem_of_mem_drop hx)
theorem c_neHd {ps : List Str} {x : Str} (ok : okP ps = true) (h : Cm (ta σ) G (MP.ts K ps)) (hb : Cm (tb σ) G (MP.d K (.str x))) (s2 : SeqAt.shaped (.str x) = true) : Cm (tTest (tOp (rNeD K) (tOp (rIx K) ta (tC (.int 0))) tb) σ) G (MP.eq (!(decide (ps.headD "" = x)))) :=
  c_neS (c_hdP ok h) hb (okT.sh (okP.hd ok)) s2
end
end Ah
/-! Ah24: texts read that may be wrong. -/
namespace Ah
open PySem PySem.Spec PyProof.Rows L2 Evl

theorem strs_canLay : ∀ (l : List Str), (∀ x ∈ l, PyData.strOk x = true) → PyData.canLayAll0 (l.map PyData.str) = true ∧ PyData.depthAll (l.map PyData.str) = 0
  | [], _ => ⟨rfl, rfl⟩
  | x :: l, h => by
    obtain ⟨h1, h2⟩ := strs_canLay l fun z hz => h z (List.mem_cons_of_mem _ hz)
    refine ⟨?_, ?_⟩
    · show (PyData.strOk x && PyData.canLayAll0 (l.map PyData.str)) = true
      rw [h x (List.mem_cons_self ..), h1] <;> rfl
    · show max 0 (PyData.depthAll (l.map PyData.str)) = 0
      rw [h2] <;> rfl
theorem strs_shaped {l : List Str} (h : ∀ x ∈ l, SeqAt.shaped (.str x) = true) : SeqAt.shaped (.list (l.map PyData.str)) = true := by
  obtain ⟨h1, h2⟩ := strs_canLay l fun x hx => shaped_strok (h x hx)
  show (PyData.canLayAll0 (l.map PyData.str) && decide (PyData.depthAll (l.map PyData.str) + 1 ≤ 64)) = true
  rw [h1, h2] <;> rfl
section
variable {K : PySem.W.Frag} {w : World} {c : Ad} {σ : L2.St} {G : Hp} {ta tb te td : TE} {ds : List PyData} {E : XK}
/-! ### rows_at -/
structure RowsIn where
  lines : List Str
  rows : List Row
  at_ : lines[0]? = some (lineT (("rows" : Str) :: rows.map rowT))
  len : rows.length = 1 ∨ rows.length = 2
structure RowsBad where
  lines : List Str
  ps : List Str
  at_ : lines[0]? = some (lineT ps)
  ok : okP ps = true
  bad : badRows ps = true
def rule0 : Rule := ⟨false, false, false, false, .none, false⟩
theorem rows_allL {M : List Row → Prop} {l : List Row} (ok : l.length = 1 ∨ l.length = 2) (h1 : ∀ k d, M [(k, d)]) (h2 : ∀ k d l e, M [(k, d), (l, e)]) : M l := rows_all (b := ⟨l, rule0, false, false⟩) ok h1 h2
theorem okP_rowL {l : List Row} (ok : l.length = 1 ∨ l.length = 2) : okP (("rows" : Str) :: l.map rowT) = true := okP_row (b := ⟨l, rule0, false, false⟩) ok
theorem good_rows {l : List Row} (ok : l.length = 1 ∨ l.length = 2) : badRows (("rows" : Str) :: l.map rowT) = false := rows_allL (M := fun l => badRows (("rows" : Str) :: l.map rowT) = false) ok (by decide +kernel) (by decide +kernel)
abbrev sp_rows_atX (K : PySem.W.Frag) (w : World) (c : Ad) : Sp := spX (ι := RowsIn) (κ := RowsBad) (fun i => [MP.ts K i.lines]) (fun i => MP.d K (.tuple (i.rows.map rowD))) (fun j => [MP.ts K j.lines]) c.InvalidLine "line" (fun _ => 1)
theorem len_rows_atX {vs : List V} {H : Hp} {Q : VK} {E : XK} (h : sp_rows_atX K w c vs H Q E) : vs.length = 1 := spX_len (by intro i; rfl) (by intro i; rfl) vs H Q E h
def t_rows_atX (K : PySem.W.Frag) (w : World) (c : Ad) (E : XK) : TS :=
  (tSeq (tAsg (tCall (sp_line_atX K w c) [] E (tCons (tVar 0) (tCons (tC (.int 0)) tNil))) (gName 1))
    (tSeq (tIfS (tOr (tTest (tOp (rNeD K) (tOp (rIx K) (tVar 1) (tC (.int 0))) (tC (.str "rows")))) (tOr (tNot (tTest (tChain rLeI rLeI (tC (.int 2)) (tCB (rLenG K) (tCons (tVar 1) tNil)) (tOp (rAddG K) (tC (.int 2)) (tC (.int 1)))))) (tNot (tB (tCB (rAll K) (tCons (tLc (iSeq K (tSl (rSlG K) (tVar 1) (tPart (tC (.int 1))) tNoPart)) (gName 2) tYes (tOp (rInW K w) (tVar 2) (tC (.ref c.ROWS))) [2]) tNil)))))) (tRaiseF c.InvalidLine "line" (fun cls d _ H => E cls d H) (tCons (tC (.int 1)) tNil)) tNext)
    (tRet (tCB (rTupG K) (tCons (tLc (iSeq K (tSl (rSlG K) (tVar 1) (tPart (tC (.int 1))) tNoPart)) (gName 2) tYes (tOp (rIxW K w) (tC (.ref c.ROWS)) (tVar 2)) [2]) tNil)))))
theorem rowsTab (x : Str) : (rowTab.lookup x).isSome = decide (x ∈ rowNames) := by
  unfold rowTab rowNames
  simp only [List.lookup_cons, List.lookup_nil, List.mem_cons, List.not_mem_nil, or_false]
  by_cases a : x = "a1"
  · subst a; rfl
  · by_cases b : x = "a2"
    · subst b; rfl
    · by_cases c : x = "b1"
      · subst c; rfl
      · by_cases d : x = "b2"
        · subst d; rfl
        · simp [a, b, c, d, beq_eq_false_iff_ne.mpr a, beq_eq_false_iff_ne.mpr b, beq_eq_false_iff_ne.mpr c, beq_eq_false_iff_ne.mpr d]
theorem Axt.rowK (X : Axt K w c) : ∃ kvs : List (Str × V), KD K w c.ROWS kvs ∧ ∀ x, (kvs.lookup x).isSome = decide (x ∈ rowNames) := by
  obtain ⟨vs, D, hl, hd⟩ := X.rows
  refine ⟨_, D, fun x => ?_⟩
  match vs, hl with
  | [a, b, c, d], _ =>
    rw [← rowsTab]
    show (List.lookup x [(("a1" : Str), a), ("a2", b), ("b1", c), ("b2", d)]).isSome = (List.lookup x [(("a1" : Str), _), ("a2", _), ("b1", _), ("b2", _)]).isSome
    simp only [List.lookup_cons, List.lookup_nil]
    cases x == ("a1" : Str) <;> cases x == ("a2" : Str) <;> cases x == ("b1" : Str) <;> cases x == ("b2" : Str) <;> rfl
theorem c_rowsTest (X : Axt K w c) {ps : List Str} {x v : V} (ok : okP ps = true) (hv : ∀ {G2 : Hp} {z : Option V}, Ex G G2 → Cm (tVar 1 [some x, some v, z]) G2 (MP.ts K ps)) :
    Cm (tOr (tTest (tOp (rNeD K) (tOp (rIx K) (tVar 1) (tC (.int 0))) (tC (.str "rows")))) (tOr (tNot (tTest (tChain rLeI rLeI (tC (.int 2)) (tCB (rLenG K) (tCons (tVar 1) tNil)) (tOp (rAddG K) (tC (.int 2)) (tC (.int 1)))))) (tNot (tB (tCB (rAll K) (tCons (tLc (iSeq K (tSl (rSlG K) (tVar 1) (tPart (tC (.int 1))) tNoPart)) (gName 2) tYes (tOp (rInW K w) (tVar 2) (tC (.ref c.ROWS))) [2]) tNil))))) [some x, some v, none]) G (MP.eq (badRows ps)) := by
  obtain ⟨kvs, D, hk⟩ := X.rowK
  have hl := (okP.and ok).1
  refine c_tor (c_neHd ok (hv (Ex.refl _)) c_str (by decide +kernel)) fun _ => c_tor (c_tnot (c_test (c_to (c_chainI (g := fun i j => decide (i ≤ j)) (g' := fun i j => decide (i ≤ j)) c_int (c_lenL (hv (Ex.refl _))) (c_addI c_int c_int)) ?_))) fun _ => c_tnot (c_tB (c_to (c_allL (fun d => match d with | .str s => decide (s ∈ rowNames) | _ => false) (c_tlP ok (hv (Ex.refl _))) (by rw [List.length_map, List.length_drop]; omega) fun v2 d G2 e2 hd pd => ?_) ?_))
  · rw [List.length_map] <;> rfl
  · obtain ⟨s, _, rfl⟩ := List.mem_map.mp hd
    exact ct_name rfl c_yes fun _ => c_inW (c_var (P := MP.d K _) rfl pd) (c_c ⟨_, rfl, D⟩) (hk s)
  · rw [List.all_map] <;> rfl
theorem c_rowsBack (X : Axt K w c) {rows : List Row} {x v : V} (len : rows.length = 1 ∨ rows.length = 2) (hv : ∀ {G2 : Hp} {z : Option V}, Ex G G2 → Cm (tVar 1 [some x, some v, z]) G2 (MP.ts K (("rows" : Str) :: rows.map rowT))) :
    Cm (tCB (rTupG K) (tCons (tLc (iSeq K (tSl (rSlG K) (tVar 1) (tPart (tC (.int 1))) tNoPart)) (gName 2) tYes (tOp (rIxW K w) (tC (.ref c.ROWS)) (tVar 2)) [2]) tNil) [some x, some v, none]) G (MP.d K (.tuple (rows.map rowD))) := by
  have hl9 : ((rows.map rowT).map PyData.str).length ≤ 90000 := by rw [List.length_map, List.length_map]; omega
  have e1 : rows.map rowD = (((rows.map rowT).map PyData.str).filter fun _ => true).map rowOf := by
    rw [filter_yes, List.map_map, List.map_map]
    refine List.map_congr_left fun r _ => ?_
    show _ = rowOf (.str (rowT r))
    unfold rowOf
    simp only
    rw [rowOf_T] <;> rfl
  rw [e1]
  refine c_tupL (l_d (c_lcL (c_tl (hv (Ex.refl _))) hl9 fun v2 d G2 e2 hd pd => ?_))
  obtain ⟨s, hs, rfl⟩ := List.mem_map.mp hd
  obtain ⟨r, _, rfl⟩ := List.mem_map.mp hs
  refine ct_name rfl c_yes fun _ => ?_
  obtain ⟨kvs, u, D, h1, h2⟩ := X.rowAt r
  have e3 : rowOf (.str (rowT r)) = rowD r := by unfold rowOf; simp only; rw [rowOf_T] <;> rfl
  rw [e3]
  exact c_ixW (P := MP.d K (rowD r)) (c_c ⟨_, rfl, D⟩) (c_var (P := MP.d K _) rfl pd) h1 fun G' _ => h2 G'
theorem rd_rows_atX (X : Axt K w c) {vs : List V} {H : Hp} {Q : VK} {E : XK} (h : sp_rows_atX K w c vs H Q E) : t_rows_atX K w c E (Dn Q) (vs.map some ++ List.replicate (3 - vs.length) none) H := by
  have hlen := len_rows_atX h
  match vs, hlen with
  | [x], _ =>
    refine spX_body (N := ["lines", "words", "word"]) h (fun i G ha => ?_) (fun j G ha => ?_)
    · obtain ⟨lines, rows, hat, len⟩ := i
      cases ha with
      | cons a1 ha =>
        cases ha
        refine (b_asg (R := MP.ts K (("rows" : Str) :: rows.map rowT)) (c_lineX ⟨lines, 0, _, hat, okP_rowL len⟩ (c_var rfl a1) c_int) fun v G1 e1 p1 => ?_ : Cm (bd (t_rows_atX K w c E) [some x, none, none]) G (MP.d K (.tuple (rows.map rowD))))
        have hv : ∀ {G2 : Hp} {z : Option V}, Ex G1 G2 → Cm (tVar 1 [some x, some v, z]) G2 (MP.ts K (("rows" : Str) :: rows.map rowT)) := fun e2 => c_var rfl (Dp.up e2 _ _ p1)
        exact b_ifX (c_teq (c_rowsTest X (okP_rowL len) hv) (good_rows len)) (b_ret (c_rowsBack X len hv))
    · obtain ⟨lines, ps, hat, ok, bad⟩ := j
      cases ha with
      | cons a1 ha =>
        cases ha
        refine (x_asg (R := MP.ts K ps) (c_lineX ⟨lines, 0, _, hat, ok⟩ (c_var rfl a1) c_int) fun v G1 e1 p1 => ?_ : Bad E c.InvalidLine "line" 1 (t_rows_atX K w c E) [some x, none, none] G)
        have hv : ∀ {G2 : Hp} {z : Option V}, Ex G1 G2 → Cm (tVar 1 [some x, some v, z]) G2 (MP.ts K ps) := fun e2 => c_var rfl (Dp.up e2 _ _ p1)
        exact x_ifT (c_teq (c_rowsTest X ok hv) bad) (x_raise (K := K) c_int)
/-! ### word_at -/
structure WdOk where
  lines : List Str
  i : Nat
  q : Str × Str
  al : List Str
  at_ : lines[i]? = some (lineT [q.1, q.2])
  ok : okP [q.1, q.2] = true
  mem : q.2 ∈ al
  sh : SeqAt.shaped (.list (al.map PyData.str)) = true
structure WdBad where
  lines : List Str
  i : Nat
  part : Str
  al : List Str
  bad : i = lines.length ∨ ∃ ps, lines[i]? = some (lineT ps) ∧ okP ps = true ∧ badWord part al ps = true
  shp : SeqAt.shaped (.str part) = true
  sh : SeqAt.shaped (.list (al.map PyData.str)) = true
abbrev sp_word_atX (K : PySem.W.Frag) (w : World) (c : Ad) : Sp := spX (ι := WdOk) (κ := WdBad) (fun i => [MP.ts K i.lines, MP.d K (.int i.i), MP.d K (.str i.q.1), MP.d K (.tuple (i.al.map PyData.str))]) (fun i => MP.d K (.str i.q.2))
  (fun j => [MP.ts K j.lines, MP.d K (.int j.i), MP.d K (.str j.part), MP.d K (.tuple (j.al.map PyData.str))]) c.InvalidLine "line" (fun j => j.i + 1)
theorem len_word_atX {vs : List V} {H : Hp} {Q : VK} {E : XK} (h : sp_word_atX K w c vs H Q E) : vs.length = 4 := spX_len (by intro i; rfl) (by intro i; rfl) vs H Q E h
def t_word_atX (K : PySem.W.Frag) (w : World) (c : Ad) (E : XK) : TS :=
  (tSeq (tAsg (tCall (sp_line_atX K w c) [] E (tCons (tVar 0) (tCons (tVar 1) tNil))) (gName 4))
    (tSeq (tIfS (tOr (tTest (tOp (rNeD K) (tCB (rLenG K) (tCons (tVar 4) tNil)) (tC (.int 2)))) (tOr (tTest (tOp (rNeD K) (tOp (rIx K) (tVar 4) (tC (.int 0))) (tVar 2))) (tTest (tOp (rInG K true) (tOp (rIx K) (tVar 4) (tC (.int 1))) (tVar 3))))) (tRaiseF c.InvalidLine "line" (fun cls d _ H => E cls d H) (tCons (tOp (rAddG K) (tVar 1) (tC (.int 1))) tNil)) tNext)
    (tRet (tOp (rIx K) (tVar 4) (tC (.int 1))))))
theorem c_wordTest {ps : List Str} {part : Str} {al : List Str} {tt : TE} (ok : okP ps = true) (hv : Cm (ta σ) G (MP.ts K ps)) (hp : Cm (tb σ) G (MP.d K (.str part))) (hal : Cm (td σ) G (MP.d K (.tuple (al.map PyData.str)))) (shp : SeqAt.shaped (.str part) = true) (sh : SeqAt.shaped (.list (al.map PyData.str)) = true) :
    Cm (tOr (tTest (tOp (rNeD K) (tCB (rLenG K) (tCons ta tNil)) (tC (.int 2)))) (tOr (tTest (tOp (rNeD K) (tOp (rIx K) ta (tC (.int 0))) tb)) (tTest (tOp (rInG K true) (tOp (rIx K) ta (tC (.int 1))) td))) σ) G (MP.eq (badWord part al ps)) := by
  refine c_tor (c_teq (c_test (c_ne (c_lenL hv) c_int rfl rfl)) ?_) fun h2 => c_tor (c_neHd ok hv hp shp) fun _ => ?_
  · rw [List.length_map]
    show (!(((ps.length : Nat) : Int) == 2)) = !(decide (ps.length = 2))
    by_cases h : ps.length = 2
    · rw [h]; rfl
    · rw [decide_eq_false h, beq_eq_false_iff_ne.mpr (by omega)]
  · have h2 : ps.length = 2 := by
      simpa using h2
    match ps, h2 with
    | [a, b], _ =>
      have hb : okT b = true := (okP.and ok).2.1 b (List.mem_cons_of_mem _ (List.mem_cons_self ..))
      refine c_teq (c_test (c_inT (n := true) (c_ixL (i := 1) (d := .str b) hv c_int rfl) hal (okT.sh hb) sh)) ?_
      rw [any_dec] <;> rfl
theorem rd_word_atX {vs : List V} {H : Hp} {Q : VK} {E : XK} (h : sp_word_atX K w c vs H Q E) : t_word_atX K w c E (Dn Q) (vs.map some ++ List.replicate (5 - vs.length) none) H := by
  have hlen := len_word_atX h
  match vs, hlen with
  | [x0, x1, x2, x3], _ =>
    refine spX_body (N := ["lines", "index", "part", "allowed", "words"]) h (fun i G ha => ?_) (fun j G ha => ?_)
    · obtain ⟨lines, i, q1, al, hat, ok, hm, sh⟩ := i
      cases ha with
      | cons a1 ha => cases ha with
        | cons a2 ha => cases ha with
          | cons a3 ha => cases ha with
            | cons a4 ha =>
              cases ha
              refine (b_asg (R := MP.ts K [q1.1, q1.2]) (c_lineX ⟨lines, i, _, hat, ok⟩ (c_var rfl a1) (c_var rfl a2)) fun v G1 e1 p1 => ?_ : Cm (bd (t_word_atX K w c E) [some x0, some x1, some x2, some x3, none]) G (MP.d K (.str q1.2)))
              have hv : Cm (tVar 4 [some x0, some x1, some x2, some x3, some v]) G1 (MP.ts K [q1.1, q1.2]) := c_var rfl p1
              have s1 := okT.sh ((okP.and ok).2.1 q1.1 (List.mem_cons_self ..))
              refine b_ifX (c_teq (c_wordTest (tt := tVar 0) ok hv (c_var rfl (Dp.up e1 _ _ a3)) (c_var rfl (Dp.up e1 _ _ a4)) s1 sh) ?_) (b_ret (c_ixL hv c_int rfl))
              unfold badWord
              simp [hm]
    · obtain ⟨lines, i, part, al, bad, shp, sh⟩ := j
      cases ha with
      | cons a1 ha => cases ha with
        | cons a2 ha => cases ha with
          | cons a3 ha => cases ha with
            | cons a4 ha =>
              cases ha
              rcases bad with e0 | ⟨ps, hat, ok, bad⟩
              · subst e0
                exact (x_asgE (x_lineX lines (c_var rfl a1) (c_var rfl a2)) : Bad E c.InvalidLine "line" (lines.length + 1) (t_word_atX K w c E) [some x0, some x1, some x2, some x3, none] G)
              · refine (x_asg (R := MP.ts K ps) (c_lineX ⟨lines, i, _, hat, ok⟩ (c_var rfl a1) (c_var rfl a2)) fun v G1 e1 p1 => ?_ : Bad E c.InvalidLine "line" (i + 1) (t_word_atX K w c E) [some x0, some x1, some x2, some x3, none] G)
                have hv : Cm (tVar 4 [some x0, some x1, some x2, some x3, some v]) G1 (MP.ts K ps) := c_var rfl p1
                exact x_ifT (c_teq (c_wordTest (tt := tVar 0) ok hv (c_var rfl (Dp.up e1 _ _ a3)) (c_var rfl (Dp.up e1 _ _ a4)) shp sh) bad) (x_raise (c_addI (c_var rfl (Dp.up e1 _ _ a2)) c_int))
/-! ### words_at -/
structure WsOk where
  lines : List Str
  b : Bk
  at_ : lines[7]? = some (lineT (("words" : Str) :: b.words))
structure WsBad where
  lines : List Str
  bad : lines.length = 7 ∨ ∃ ps, lines[7]? = some (lineT ps) ∧ okP ps = true ∧ badWords ps = true
abbrev sp_words_atX (K : PySem.W.Frag) (w : World) (c : Ad) : Sp := spX (ι := WsOk) (κ := WsBad) (fun i => [MP.ts K i.lines, MP.d K (.int 7)]) (fun i => MP.d K (wordsD i.b)) (fun j => [MP.ts K j.lines, MP.d K (.int 7)]) c.InvalidLine "line" (fun _ => 8)
theorem len_words_atX {vs : List V} {H : Hp} {Q : VK} {E : XK} (h : sp_words_atX K w c vs H Q E) : vs.length = 2 := spX_len (by intro i; rfl) (by intro i; rfl) vs H Q E h
def t_words_atX (K : PySem.W.Frag) (w : World) (c : Ad) (E : XK) : TS :=
  (tSeq (tAsg (tCall (sp_line_atX K w c) [] E (tCons (tVar 0) (tCons (tVar 1) tNil))) (gName 2))
    (tSeq (tIfS (tOr (tTest (tOp (rNeD K) (tOp (rIx K) (tVar 2) (tC (.int 0))) (tC (.str "words")))) (tTest (tOp (rNeD K) (tLc (iSeq K (tC (.ref c.WORDS))) (gName 3) (tTest (tOp (rInG K false) (tVar 3) (tSl (rSlG K) (tVar 2) (tPart (tC (.int 1))) tNoPart))) (tVar 3) [3]) (tSl (rSlG K) (tVar 2) (tPart (tC (.int 1))) tNoPart)))) (tRaiseF c.InvalidLine "line" (fun cls d _ H => E cls d H) (tCons (tOp (rAddG K) (tVar 1) (tC (.int 1))) tNil)) tNext)
    (tRet (tCB (rTupG K) (tCons (tSl (rSlG K) (tVar 2) (tPart (tC (.int 1))) tNoPart) tNil)))))
theorem filt_words (t : List Str) : (([("join" : Str), "sweep"].map PyData.str).filter (fun d => (t.map PyData.str).any fun z => PyData.eqv z d)).map (fun d => d) = (wordNames.filter fun x => decide (x ∈ t)).map PyData.str := by
  rw [List.map_id', List.filter_map]
  refine congrArg (List.map PyData.str) (List.filter_congr fun x _ => ?_)
  exact any_dec x t
theorem c_wordsTest (X : Ax K w c) {ps : List Str} {x y v : V} (ok : okP ps = true) (hv : ∀ {G2 : Hp} {z : Option V}, Ex G G2 → Cm (tVar 2 [some x, some y, some v, z]) G2 (MP.ts K ps)) :
    Cm (tOr (tTest (tOp (rNeD K) (tOp (rIx K) (tVar 2) (tC (.int 0))) (tC (.str "words")))) (tTest (tOp (rNeD K) (tLc (iSeq K (tC (.ref c.WORDS))) (gName 3) (tTest (tOp (rInG K false) (tVar 3) (tSl (rSlG K) (tVar 2) (tPart (tC (.int 1))) tNoPart))) (tVar 3) [3]) (tSl (rSlG K) (tVar 2) (tPart (tC (.int 1))) tNoPart))) [some x, some y, some v, none]) G (MP.eq (badWords ps)) := by
  have shT : SeqAt.shaped (.list ((ps.drop 1).map PyData.str)) = true := strs_shaped fun z hz => okT.sh (okP.tlT ok z hz)
  refine c_tor (c_neHd ok (hv (Ex.refl _)) c_str (by decide +kernel)) fun _ => c_teq (c_test (c_ne (l_d (c_lcT (K := K) (ds := [("join" : Str), "sweep"].map PyData.str) (t := fun d => ((ps.drop 1).map PyData.str).any fun z => PyData.eqv z d) (F := fun d => d) (c_c (X.wds G)) (by decide) fun v d G5 eG hm hw => ct_name rfl (c_test (c_to (c_inL (n := false) (c_var (P := MP.d K d) rfl hw) (c_tlP ok (hv eG)) ?_ shT) rfl)) fun _ => c_var (P := MP.d K d) rfl hw)) (c_tlP ok (hv (Ex.refl _))) ?_ shT)) ?_
  · rcases List.mem_cons.mp hm with z | z
    · rw [z]; decide +kernel
    · rw [List.mem_singleton.mp z]; decide +kernel
  · rw [filt_words]
    refine strs_shaped fun z hz => ?_
    have := (List.mem_filter.mp hz).1
    unfold wordNames at this
    rcases List.mem_cons.mp this with e | e
    · rw [e]; decide +kernel
    · rw [List.mem_singleton.mp e]; decide +kernel
  · rw [filt_words]
    show (!PyData.eqvAll _ _) = _
    rw [eqv_strs]
theorem good_words (b : Bk) : badWords (("words" : Str) :: b.words) = false := words_all (M := fun l => badWords (("words" : Str) :: l) = false) b (by decide +kernel) (by decide +kernel) (by decide +kernel) (by decide +kernel)
theorem rd_words_atX (X : Ax K w c) {vs : List V} {H : Hp} {Q : VK} {E : XK} (h : sp_words_atX K w c vs H Q E) : t_words_atX K w c E (Dn Q) (vs.map some ++ List.replicate (4 - vs.length) none) H := by
  have hlen := len_words_atX h
  match vs, hlen with
  | [x, y], _ =>
    refine spX_body (N := ["lines", "index", "words", "word"]) h (fun i G ha => ?_) (fun j G ha => ?_)
    · obtain ⟨lines, b, hat⟩ := i
      cases ha with
      | cons a1 ha => cases ha with
        | cons a2 ha =>
          cases ha
          refine (b_asg (R := MP.ts K (("words" : Str) :: b.words)) (c_lineX ⟨lines, 7, _, hat, okP_words b⟩ (c_var rfl a1) (c_var rfl a2)) fun v G1 e1 p1 => ?_ : Cm (bd (t_words_atX K w c E) [some x, some y, none, none]) G (MP.d K (wordsD b)))
          have hv : ∀ {G2 : Hp} {z : Option V}, Ex G1 G2 → Cm (tVar 2 [some x, some y, some v, z]) G2 (MP.ts K (("words" : Str) :: b.words)) := fun e2 => c_var rfl (Dp.up e2 _ _ p1)
          exact b_ifX (c_teq (c_wordsTest X (okP_words b) hv) (good_words b)) (b_ret (c_tupL (c_tl (hv (Ex.refl _)))))
    · obtain ⟨lines, bad⟩ := j
      cases ha with
      | cons a1 ha => cases ha with
        | cons a2 ha =>
          cases ha
          rcases bad with e0 | ⟨ps, hat, ok, bad⟩
          · have z := x_lineX (K := K) (w := w) (c := c) (E := E) (ta := tVar 0) (tb := tVar 1) (σ := [some x, some y, none, none]) lines (c_var rfl a1) (c_var rfl (by rw [e0]; exact a2))
            rw [e0] at z
            exact (x_asgE z : Bad E c.InvalidLine "line" 8 (t_words_atX K w c E) [some x, some y, none, none] G)
          · refine (x_asg (R := MP.ts K ps) (c_lineX ⟨lines, 7, _, hat, ok⟩ (c_var rfl a1) (c_var rfl a2)) fun v G1 e1 p1 => ?_ : Bad E c.InvalidLine "line" 8 (t_words_atX K w c E) [some x, some y, none, none] G)
            have hv : ∀ {G2 : Hp} {z : Option V}, Ex G1 G2 → Cm (tVar 2 [some x, some y, some v, z]) G2 (MP.ts K ps) := fun e2 => c_var rfl (Dp.up e2 _ _ p1)
            exact x_ifT (c_teq (c_wordsTest X ok hv) bad) (x_raise (c_addI (c_var rfl (Dp.up e1 _ _ a2)) c_int))
end
end Ah
/-! Ah25: a whole text read, that may be wrong. -/
namespace Ah
open PySem PySem.Spec PyProof.Rows L2 Evl

theorem split_pss {pss : List (List Str)} (ne : pss ≠ []) (ok : ∀ ps ∈ pss, okP ps = true) : Txt.split (Txt.join ("\n" : Str) (pss.map lineT)) ("\n" : Str) = pss.map lineT :=
  TL.split_join (s := 10) (S := []) (by decide +kernel) (by decide +kernel) (fun z => ne (List.map_eq_nil_iff.mp z)) fun p hp => by
    obtain ⟨ps, hps, rfl⟩ := List.mem_map.mp hp
    exact (okP.and (ok ps hps)).2.2.2.1
theorem pss_len {pss : List (List Str)} (hl : pss.length ≤ 100) (ok : ∀ ps ∈ pss, okP ps = true) : (Txt.join ("\n" : Str) (pss.map lineT)).length ≤ 10000 := by
  rw [TL.join_eq]
  have h := join_len 60 ("\n" : Str) (pss.map lineT) fun x hx => by
    obtain ⟨ps, hps, rfl⟩ := List.mem_map.mp hx
    exact (okP.and (ok ps hps)).2.2.1
  have e : ("\n" : Str).length = 1 := by decide +kernel
  rw [List.length_map, e] at h
  omega
theorem fw_at : ∀ {pss : List (List Str)} {k n : Nat}, fw k pss = some n → ∃ i, n = k + i + 1 ∧ (∀ j, j < i → ∃ ps, pss[j]? = some ps ∧ badAt (k + j) ps = false) ∧ ((pss.length = i ∧ k + i < 8) ∨ ∃ ps, pss[i]? = some ps ∧ badAt (k + i) ps = true)
  | [], k, n, h => by
    unfold fw at h
    split at h
    · exact ⟨0, (Option.some.inj h).symm, fun j hj => absurd hj (Nat.not_lt_zero _), .inl ⟨rfl, by omega⟩⟩
    · cases h
  | p :: r, k, n, h => by
    unfold fw at h
    cases q : badAt k p with
    | true =>
      rw [q] at h
      exact ⟨0, (Option.some.inj h).symm, fun j hj => absurd hj (Nat.not_lt_zero _), .inr ⟨p, rfl, q⟩⟩
    | false =>
      rw [q] at h
      obtain ⟨i, e, g, b⟩ := fw_at (k := k + 1) h
      refine ⟨i + 1, by omega, fun j hj => ?_, ?_⟩
      · cases j with
        | zero => exact ⟨p, rfl, q⟩
        | succ j =>
          obtain ⟨ps, e1, e2⟩ := g j (by omega)
          exact ⟨ps, by simpa using e1, by rw [show k + (j + 1) = k + 1 + j by omega]; exact e2⟩
      · rw [show k + (i + 1) = k + 1 + i by omega]
        rcases b with ⟨b1, b2⟩ | ⟨ps, b1, b2⟩
        · exact .inl ⟨by rw [List.length_cons]; omega, b2⟩
        · exact .inr ⟨ps, by simpa using b1, b2⟩
theorem take_putL {l : List (Str × Str)} (hk : okKvs l) {n : Nat} {q : Str × Str} (h : l[n]? = some q) : putS (l.take n) q.1 q.2 = l.take (n + 1) := by
  have hn := (List.getElem?_eq_some_iff.mp h).1
  have ok : okKvs (l.take n) := fun j z hz => by
    rw [List.getElem?_take] at hz
    split at hz
    · exact hk j z hz
    · cases hz
  obtain ⟨p, hp, e1, e2⟩ := hk n q h
  have hf := ok.fresh (i := n) (by rw [List.length_take]; omega) hp
  unfold putS
  rw [e1, hf, List.take_succ, h, ← e1] <;> rfl
section
variable {K : PySem.W.Frag} {w : World} {c : Ad} {σ : L2.St} {G : Hp} {ta tb te td : TE}
structure RdBad where
  pss : List (List Str)
  ok : ∀ ps ∈ pss, okP ps = true
  ne : pss ≠ []
  len : pss.length ≤ 100
  n : Nat
  bad : fw 0 pss = some n
abbrev textOf (pss : List (List Str)) : Str := Txt.join ("\n" : Str) (pss.map lineT)
abbrev sp_readX (K : PySem.W.Frag) (w : World) (c : Ad) : Sp := spX (ι := BkO) (κ := RdBad) (fun b => [MP.d K (.str (bkText b.val))]) (fun b => MP.bk K c b.val) (fun j => [MP.d K (.str (textOf j.pss))]) c.InvalidLine "line" (fun j => j.n)
theorem len_readX {vs : List V} {H : Hp} {Q : VK} {E : XK} (h : sp_readX K w c vs H Q E) : vs.length = 1 := spX_len (by intro i; rfl) (by intro i; rfl) vs H Q E h
def t_readB (K : PySem.W.Frag) (w : World) (c : Ad) (E : XK) : TS :=
    (tSeq (tAsg (tCall (sp_words_atX K w c) [] E (tCons (tVar 1) (tCons (tVar 3) tNil))) (gName 7))
    (tSeq (tIfS (tTest (tOp rGtI (tCB (rLenG K) (tCons (tVar 1) tNil)) (tOp (rAddG K) (tVar 3) (tC (.int 1))))) (tRaiseF c.InvalidLine "line" (fun cls d _ H => E cls d H) (tCons (tOp (rAddG K) (tVar 3) (tC (.int 2))) tNil)) tNext)
    (tRet (tMake c.Book (sp_Book_init K w c) [] E0 (tCons (tVar 4) (tCons (tVar 2) (tCons (tVar 7) tNil)))))))
def t_readX (K : PySem.W.Frag) (w : World) (c : Ad) (E : XK) : TS :=
  (tSeq (tPar3 1 2 3 (tCons (tM1 rSplit (tVar 0) (tC (.str "\n"))) (tCons tDNewK (tCons (tC (.int 1)) tNil))))
    (tSeq (tAsg (tCall (sp_rows_atX K w c) [] E (tCons (tVar 1) tNil)) (gName 4))
    (tSeq (tFor (iItemsW K w (tC (.ref c.PARTS))) (gTup K 2 (gCons (gName 5) (gCons (gName 6) gNil)))
    (tSeq (sDPut (tVar 2) (tVar 5) (tCall (sp_word_atX K w c) [] E (tCons (tVar 1) (tCons (tVar 3) (tCons (tVar 5) (tCons (tVar 6) tNil))))))
    (tAug 3 (tC (.int 1)) (ipI fun i j => i + j))))
    (t_readB K w c E))))
/-- what is read of the lines up to the first that is wrong -/
theorem read_go (X : Ax K w c) {E : XK} {pss : List (List Str)} (ok : ∀ ps ∈ pss, okP ps = true) (ne : pss ≠ []) (hlen : pss.length ≤ 100) {x : V} {H : Hp} {Q : VK} (hx : Dp K G x (.str (textOf pss))) (e : Ex G H)
    -- the first line
    (h0 : (∃ rows : List Row, pss[0]? = some (("rows" : Str) :: rows.map rowT) ∧ (rows.length = 1 ∨ rows.length = 2) ∧
      -- the parts' lines
      ∃ L : List (Str × Str), okKvs L ∧ L.length ≤ 6 ∧ (∀ n q, L[n]? = some q → pss[n + 1]? = some [q.1, q.2]) ∧
        ((L.length < 6 ∧ (∀ p, kvParts[L.length]? = some p → L.length + 1 = pss.length ∨ ∃ ps, pss[L.length + 1]? = some ps ∧ badWord p.1 p.2 ps = true) ∧ ∀ d H', Ex H H' → H' d = none → E (.ref c.InvalidLine) (some d) (upd H' d (.xd [("line", .int ((L.length : Int) + 2))])))
        ∨ (L.length = 6 ∧ ∀ (al p : Addr) (v4 : V) (G7 H7 : Hp) (x5 x6 : Option V), Ex H H7 → Nw H G G7 H7 → Dp K G7 v4 (.tuple (rows.map rowD)) → Dp K G7 (.ref al) (.list ((pss.map lineT).map PyData.str)) → G7 p = some (.dK (kvD L)) →
          t_readB K w c E (Dn Q) [some x, some (.ref al), some (.ref p), some (.int 7), some v4, x5, x6, none] H7)))
      ∨ (∃ ps, pss[0]? = some ps ∧ badRows ps = true ∧ ∀ d H', Ex H H' → H' d = none → E (.ref c.InvalidLine) (some d) (upd H' d (.xd [("line", .int 1)])))) :
    t_readX K w c E (Dn Q) [some x, none, none, none, none, none, none, none] H := by
  obtain ⟨kvs, k1, D, k3⟩ := X.kd
  refine (c_split (K := K) (σ := [some x, none, none, none, none, none, none, none]) (a := textOf pss) (b := "\n") (c_var rfl hx) c_str (by decide +kernel) (Nat.le_trans (pss_len hlen ok) (by decide)) : Cm _ G _) H e _ fun v1 G1 H1 e1 n1 p1 => ?_
  rw [split_pss ne ok] at p1
  obtain ⟨al, xl, rfl, hal, hxl⟩ := p1
  intro p hp
  refine ⟨_, _, _, rfl, ?_⟩
  have e2 := e1.trans (Ex.new (o := .dK []) hp)
  have n2 : Nw H G G1 (upd H1 p (.dK [])) := ⟨n1.ex, n1.le.trans (Ex.new hp), n1.old⟩
  have gp1 : G1 p = none := fresh_back n1.le hp
  have hp0 : H p = none := fresh_back e1 hp
  have hL : ∀ {G2 : Hp}, Ex G1 G2 → Dp K G2 (.ref al) (.list ((pss.map lineT).map PyData.str)) := fun e3 => .lst (SqL.of (e3 _ _ hal)) (DpAll.up e3 _ _ hxl)
  have hat : ∀ {i ps}, pss[i]? = some ps → (pss.map lineT)[i]? = some (lineT ps) := fun h => by rw [List.getElem?_map, h] <;> rfl
  rcases h0 with ⟨rows, r1, r2, L, hk, hl6, hLat, hend⟩ | ⟨ps, r1, bad, k⟩
  · refine (c_callX (args := fun i : RowsIn => [MP.ts K i.lines]) (res := fun i => MP.d K (.tuple (i.rows.map rowD))) ⟨pss.map lineT, rows, hat r1, r2⟩ (c_cons (c_var rfl (hL (Ex.refl _))) c_nil)) _ n2.le _ fun v4 G3 H3 e3 n3 p3 => ?_
    have gp3 : G3 p = none := n3.old p (by rw [upd_same]; exact fun z => nomatch z) gp1
    refine ⟨_, kvs, rfl, D, for_itemsW (fun n σ' H' => n ≤ L.length ∧ (∃ x5 x6, σ' = [some x, some (.ref al), some (.ref p), some (.int (n + 1 : Nat)), some v4, x5, x6, none]) ∧ (∃ G', Nw H G G' H' ∧ Ex H H' ∧ Ex G3 G' ∧ G' p = none) ∧ H' p = some (.dK (kvD (L.take n)))) ⟨Nat.zero_le _, ⟨_, _, rfl⟩, ⟨G3, n2.trans e2 n3, e2.trans e3, Ex.refl _, gp3⟩, e3 _ _ upd_same⟩ ?_ ?_⟩
    · rintro n r T σ' H' hr ⟨hnl, ⟨x5, x6, rfl⟩, ⟨G', n', e', x3, gp'⟩, hpd⟩ hT
      have hTp : T ≠ p := fun z => by rw [z, hpd] at hT; cases hT
      refine ⟨T, [.str r.1, r.2], rfl, SqT.of upd_same, rfl, _, _, rfl, _, _, rfl, rfl, ?_⟩
      have n4 := n'.trans e' (Nw.own (o := .tup [.str r.1, r.2]) n'.le hT)
      have e4 := e'.trans (Ex.new (o := .tup [.str r.1, r.2]) hT)
      obtain ⟨pt, hpt, er, hpr⟩ := k3 n r hr
      have hn6 : n < 6 := (List.getElem?_eq_some_iff.mp hpt).1
      have shal := parts_shaped pt (List.mem_of_getElem? hpt)
      by_cases hn : n < L.length
      · obtain ⟨qq, hqq⟩ : ∃ qq, L[n]? = some qq := ⟨_, List.getElem?_eq_getElem hn⟩
        obtain ⟨pt', hpt', f1, f2⟩ := hk n qq hqq
        rw [hpt] at hpt'
        cases hpt'
        have er2 : r.1 = qq.1 := er.trans f1.symm
        have hps := hLat n qq hqq
        refine (c_callX (args := fun i : WdOk => [MP.ts K i.lines, MP.d K (.int i.i), MP.d K (.str i.q.1), MP.d K (.tuple (i.al.map PyData.str))]) (res := fun i => MP.d K (.str i.q.2)) ⟨pss.map lineT, n + 1, qq, pt.2, hat hps, ok _ (List.mem_of_getElem? hps), f2, shal⟩
          (c_cons (c_var rfl (hL (n3.ex.trans x3))) (c_cons (c_var rfl (.int _)) (c_cons (c_var rfl (by rw [er2]; exact .str _)) (c_cons (c_var rfl (hpr G')) c_nil))))) _ n4.le _ fun u G5 H5 e5 n5 p5 => ?_
        have eu := dp_str p5
        subst eu
        have hp5 : H5 p = some (.dK (kvD (L.take n))) := e5 _ _ (by rw [upd_ne (Ne.symm hTp)]; exact hpd)
        have gp5 : G5 p = none := n5.old p (by rw [upd_ne (Ne.symm hTp), hpd]; exact fun z => nomatch z) gp'
        have n6 := n4.trans e4 n5
        refine ⟨_, rfl, _, rfl, p, _, rfl, DPut.k (k := Sum.inr r.1) hp5 ?_, ?_⟩
        · unfold kvD
          rw [List.length_map, List.length_take]
          exact sz_lt (by omega)
        · refine ⟨_, rfl, _, _, rfl, rfl, hn, ⟨some (.str r.1), some r.2, rfl⟩, ⟨G5, ⟨n6.ex, n6.le.mut gp5, n6.old⟩, Ex.mut (e4.trans e5) hp0, x3.trans n5.ex, gp5⟩, ?_⟩
          rw [upd_same, put_kv, er2]
          rw [take_putL hk hqq]
      · have hnL : n = L.length := by omega
        rcases hend with ⟨hl, hbad, k⟩ | ⟨hl, _⟩
        · have hb : n + 1 = (pss.map lineT).length ∨ ∃ ps, (pss.map lineT)[n + 1]? = some (lineT ps) ∧ okP ps = true ∧ badWord pt.1 pt.2 ps = true := by
            rcases hbad pt (by rw [← hnL]; exact hpt) with h | ⟨ps, h1, h2⟩
            · exact .inl (by rw [List.length_map, hnL]; exact h)
            · rw [← hnL] at h1
              exact .inr ⟨ps, hat h1, ok _ (List.mem_of_getElem? h1), h2⟩
          refine (x_call (bad := fun j : WdBad => [MP.ts K j.lines, MP.d K (.int j.i), MP.d K (.str j.part), MP.d K (.tuple (j.al.map PyData.str))]) (zz := fun j : WdBad => (j.i : Int) + 1) ⟨pss.map lineT, n + 1, pt.1, pt.2, hb, key_ok pt (List.mem_of_getElem? hpt), shal⟩
            (c_cons (c_var rfl (hL (n3.ex.trans x3))) (c_cons (c_var rfl (.int _)) (c_cons (c_var rfl (by rw [er]; exact .str _)) (c_cons (c_var rfl (hpr G')) c_nil))))) _ n4.le (fun d H8 e8 hd => ?_) _
          have z := k d H8 (e4.trans e8) hd
          rw [← hnL] at z
          have ez : (((n + 1 : Nat) : Int) + 1) = (n : Int) + 2 := by omega
          show E _ _ (upd H8 d (.xd [("line", .int (((n + 1 : Nat) : Int) + 1))]))
          rw [ez]
          exact z
        · exact absurd hn6 (by omega)
    · rintro σ' H' ⟨hnl, ⟨x5, x6, rfl⟩, ⟨G', n', e', x3, gp'⟩, hpd⟩
      have hk6 : kvs.length = 6 := by
        have := congrArg List.length k1
        rw [List.length_map, List.length_map] at this
        exact this
      rw [hk6] at hpd hnl ⊢
      rcases hend with ⟨hl, _⟩ | ⟨hl, k⟩
      · omega
      · rw [List.take_of_length_le (by omega)] at hpd
        have n7 := Nw.keep n' gp' hp0 hpd
        have x7 : Ex G3 (upd G' p (.dK (kvD L))) := x3.trans (Ex.new gp')
        exact k al p v4 _ H' x5 x6 e' n7 (Dp.up x7 _ _ p3) (hL (n3.ex.trans x7)) upd_same
  · exact (x_call (bad := fun j : RowsBad => [MP.ts K j.lines]) (zz := fun j : RowsBad => 1) ⟨pss.map lineT, ps, hat r1, ok _ (List.mem_of_getElem? r1), bad⟩ (c_cons (c_var rfl (hL (Ex.refl _))) c_nil)) _ n2.le (fun d H8 e8 hd => k d H8 (e2.trans e8) hd) _
theorem badAt_word {n : Nat} {ps : List Str} {p : Str × List Str} (hn : n < 6) (hp : kvParts[n]? = some p) : badAt (n + 1) ps = badWord p.1 p.2 ps := by
  unfold badAt
  rw [if_neg (by omega), if_pos (by omega), Nat.add_sub_cancel, List.getD_eq_getElem?_getD, hp] <;> rfl
/-- the parts' lines up to m -/
theorem words_upto {pss : List (List Str)} : ∀ (m : Nat), m ≤ 6 → (∀ j, j < m → ∃ ps, pss[j + 1]? = some ps ∧ badAt (j + 1) ps = false) → ∃ L : List (Str × Str), okKvs L ∧ L.length = m ∧ ∀ n q, L[n]? = some q → pss[n + 1]? = some [q.1, q.2]
  | 0, _, _ => ⟨[], fun j q h => by simp at h, rfl, fun n q h => by simp at h⟩
  | m + 1, hm, h => by
    obtain ⟨L, k, l, at_⟩ := words_upto m (by omega) fun j hj => h j (by omega)
    obtain ⟨ps, e1, e2⟩ := h m (by omega)
    obtain ⟨p, hp⟩ : ∃ p, kvParts[m]? = some p := ⟨_, List.getElem?_eq_getElem (by show m < 6; omega)⟩
    rw [badAt_word (by omega) hp] at e2
    obtain ⟨s, es, hs⟩ := word_of_good e2
    refine ⟨L ++ [(p.1, s)], k.snoc l hp hs, by rw [List.length_append, l] <;> rfl, fun n q hq => ?_⟩
    rw [List.getElem?_append] at hq
    split at hq
    · exact at_ n q hq
    · next hlt =>
      have : n = m := by
        have := (List.getElem?_eq_some_iff.mp hq).1
        simp at this
        omega
      subst this
      rw [l, Nat.sub_self] at hq
      cases hq
      rw [e1, es]
theorem rd_readX (X : Ax K w c) {vs : List V} {H : Hp} {Q : VK} {E : XK} (h : sp_readX K w c vs H Q E) : t_readX K w c E (Dn Q) (vs.map some ++ List.replicate (8 - vs.length) none) H := by
  rcases h with ⟨b, G, e, ha, q⟩ | ⟨j, G, e, ha, q⟩
  · cases ha with
    | cons a1 ha =>
      cases ha
      rename_i x
      refine read_go X (pss := bkParts b.val) (okP_bk b.property) (fun z => nomatch z) (by show 8 ≤ 100; decide) a1 e (.inl ⟨b.val.rows, rfl, b.property, b.val.rule.kvs, fun j z hz => rule_word b.val.rule j z hz, by show 6 ≤ 6; decide, fun n z hz => ?_, .inr ⟨rfl, fun al p v4 G7 H7 x5 x6 e7 n7 p4 pl hp => ?_⟩⟩)
      · have hi := (List.getElem?_eq_some_iff.mp hz).1
        unfold bkParts
        rw [List.getElem?_cons_succ, List.getElem?_append_left (by rw [List.length_map]; exact hi), List.getElem?_map, hz] <;> rfl
      · have key : Cm (bd (t_readB K w c E) [some x, some (.ref al), some (.ref p), some (.int 7), some v4, x5, x6, none]) G7 (MP.bk K c b.val) := by
          refine b_asg (R := MP.d K (wordsD b.val)) (c_callX (args := fun i : WsOk => [MP.ts K i.lines, MP.d K (.int 7)]) (res := fun i => MP.d K (wordsD i.b)) ⟨(bkParts b.val).map lineT, b.val, rfl⟩ (c_cons (c_var rfl pl) (c_cons (c_var rfl (.int 7)) c_nil))) fun v7 G8 e8 p8 => ?_
          refine b_ifX (c_test (c_to (c_I0 (z := .bool false) (c_lenL (c_var rfl (Dp.up e8 _ _ pl))) (c_addI (c_var rfl (.int 7)) c_int) fun G => ?_) rfl)) (b_ret (c_mkBook b.val b.property (c_var rfl (Dp.up e8 _ _ p4)) (c_var (P := MP.dk b.val.rule.kvs) rfl ⟨p, rfl, e8 _ _ hp⟩) (c_var rfl p8)))
          exact .bl false
        exact key H7 n7.le Q fun v G8 H8 e8 n8 p8 => q v G8 H8 (e7.trans e8) (n7.trans e7 n8) p8
  · obtain ⟨pss, ok, ne, hlen, n, bad⟩ := j
    obtain ⟨i, en, good, stop⟩ := fw_at bad
    cases ha with
    | cons a1 ha =>
      cases ha
      rename_i x
      refine read_go X ok ne hlen a1 e ?_
      have q : ∀ d H', Ex H H' → H' d = none → E (.ref c.InvalidLine) (some d) (upd H' d (.xd [("line", .int ((0 + i + 1 : Nat) : Int))])) := by rw [← en]; exact q
      cases i with
      | zero =>
        rcases stop with ⟨s1, s2⟩ | ⟨ps, s1, s2⟩
        · exact absurd (List.eq_nil_of_length_eq_zero s1) ne
        · exact .inr ⟨ps, s1, s2, q⟩
      | succ i =>
        obtain ⟨p0, g1, g2⟩ := good 0 (by omega)
        obtain ⟨rows, r1, r2⟩ := rows_of_good (okP.ne (ok _ (List.mem_of_getElem? g1))) g2
        have good' : ∀ j, j < i → ∃ ps, pss[j + 1]? = some ps ∧ badAt (j + 1) ps = false := fun j hj => by
          obtain ⟨ps, z1, z2⟩ := good (j + 1) (by omega)
          rw [Nat.zero_add] at z2
          exact ⟨ps, z1, z2⟩
        by_cases hi : i < 6
        · obtain ⟨L, k1, k2, k3⟩ := words_upto i (by omega) good'
          refine .inl ⟨rows, by rw [g1, r1], r2, L, k1, by omega, k3, .inl ⟨by omega, fun p hp => ?_, fun d H' e' hd => ?_⟩⟩
          · rcases stop with ⟨s1, s2⟩ | ⟨ps, s1, s2⟩
            · exact .inl (by omega)
            · refine .inr ⟨ps, by rw [k2]; exact s1, ?_⟩
              rw [Nat.zero_add, badAt_word hi (by rw [← k2]; exact hp)] at s2
              exact s2
          · have z := q d H' e' hd
            have ez : ((0 + (i + 1) + 1 : Nat) : Int) = (L.length : Int) + 2 := by omega
            rw [ez] at z
            exact z
        · obtain ⟨L, k1, k2, k3⟩ := words_upto 6 (by omega) fun j hj => good' j (by omega)
          refine .inl ⟨rows, by rw [g1, r1], r2, L, k1, by omega, k3, .inr ⟨k2, fun al p v4 G7 H7 x5 x6 e7 n7 p4 pl hp => ?_⟩⟩
          have hat : ∀ {i ps}, pss[i]? = some ps → (pss.map lineT)[i]? = some (lineT ps) := fun h => by rw [List.getElem?_map, h] <;> rfl
          by_cases h7 : i = 6
          · subst h7
            have hb : (pss.map lineT).length = 7 ∨ ∃ ps, (pss.map lineT)[7]? = some (lineT ps) ∧ okP ps = true ∧ badWords ps = true := by
              rcases stop with ⟨s1, s2⟩ | ⟨ps, s1, s2⟩
              · exact .inl (by rw [List.length_map]; exact s1)
              · exact .inr ⟨ps, hat s1, ok _ (List.mem_of_getElem? s1), s2⟩
            exact (x_asgE (x_call (bad := fun j : WsBad => [MP.ts K j.lines, MP.d K (.int 7)]) (zz := fun _ : WsBad => 8) ⟨_, hb⟩ (c_cons (c_var rfl pl) (c_cons (c_var rfl (.int 7)) c_nil))) : Bad E c.InvalidLine "line" 8 (t_readB K w c E) [some x, some (.ref al), some (.ref p), some (.int 7), some v4, x5, x6, none] G7) H7 n7.le (fun d H' e8 hd => q d H' (e7.trans e8) hd) _
          · have h8 : i = 7 := by
              by_cases h9 : i = 7
              · exact h9
              · obtain ⟨ps, z1, z2⟩ := good 8 (by omega)
                cases z2
            subst h8
            obtain ⟨p7, w1, w2⟩ := good 7 (by omega)
            obtain ⟨j, s, w3⟩ := words_of_good (okP.ne (ok _ (List.mem_of_getElem? w1))) w2
            have hlen9 : 9 ≤ pss.length := by
              rcases stop with ⟨s1, s2⟩ | ⟨ps, s1, s2⟩
              · omega
              · have := (List.getElem?_eq_some_iff.mp s1).1
                omega
            refine (x_asg (R := MP.d K (wordsD ⟨rows, rule0, j, s⟩)) (c_callX (args := fun i : WsOk => [MP.ts K i.lines, MP.d K (.int 7)]) (res := fun i => MP.d K (wordsD i.b)) ⟨_, ⟨rows, rule0, j, s⟩, by rw [hat w1, w3 rows rule0]⟩ (c_cons (c_var rfl pl) (c_cons (c_var rfl (.int 7)) c_nil))) fun v7 G8 e8 p8 => x_ifT (c_test (c_to (c_I0 (z := .bool true) (c_lenL (c_var rfl (Dp.up e8 _ _ pl))) (c_addI (c_var rfl (.int 7)) c_int) fun G => ?_) rfl)) (x_raise (c_addI (c_var rfl (.int 7)) c_int)) : Bad E c.InvalidLine "line" 9 (t_readB K w c E) [some x, some (.ref al), some (.ref p), some (.int 7), some v4, x5, x6, none] G7) H7 n7.le (fun d H' e8 hd => q d H' (e7.trans e8) hd) _
            have e9 : decide ((7 : Int) + 1 < (((pss.map lineT).map PyData.str).length : Int)) = true := decide_eq_true (by rw [List.length_map, List.length_map]; omega)
            rw [e9]
            exact .bl true
end
end Ah
/-! Ah26: the law k15's own looks. -/
namespace Ah
open PySem PySem.Spec PyProof.Rows L2 Evl

def oI : Option Int → PyData
  | none => .none
  | some i => .int i
section
variable {K : PySem.W.Frag} {w : World} {c : Ad} {σ : L2.St} {G : Hp} {ta tb te td : TE} {d : PyData} {E : XK}
/-! ### values -/
theorem c_isiT {T1 T2 : String} {b1 b2 : Bool} (ha : Cm (ta σ) G (MP.d K d)) (h1 : kitB (tyD d) T1 = some b1) (h2 : kitB (tyD d) T2 = some b2) : Cm (tCB (rIsiG K) (tCons ta (tCons (tTup (tCons (tC (.ty T1)) (tCons (tC (.ty T2)) tNil))) tNil)) σ) G (MP.d K (.bool (b1 || b2))) := fun H e Q k =>
  ha H e _ fun x G1 H1 e1 n1 p1 => by
    refine ⟨sz_of (n := 2) (by decide), fun p hp => .inr ⟨x, p, [.ty T1, .ty T2], _, [.type T1, .type T2], b1 || b2, rfl, upd_same, .cons (.ty T1) (.cons (.ty T2) .nil), ty_of (Dp.up (n1.le.trans (Ex.new hp)) _ _ p1), ?_, k _ G1 _ (e1.trans (Ex.new hp)) ⟨n1.ex, n1.le.trans (Ex.new hp), n1.old⟩ (.bl _)⟩⟩
    cases b1 with
    | true => exact kitAny_cons (r := true) (kit_ty h1) (fun hb => Bool.noConfusion hb) (fun _ => rfl)
    | false => exact kitAny_cons (r := b2) (kit_ty h1) (fun _ => kitAny_cons (r := b2) (kit_ty h2) (fun hb2 => by rw [hb2] <;> rfl) fun hb2 => hb2) (fun hb => Bool.noConfusion hb)
theorem kit_oi (x : Option Int) : kitB (tyD (oI x)) "dict" = some false ∧ kitB (tyD (oI x)) "tuple" = some false ∧ kitB (tyD (oI x)) "list" = some false ∧ kitB (tyD (oI x)) "str" = some false ∧ kitB (tyD (oI x)) "int" = some x.isSome ∧ kitB (tyD (oI x)) "bool" = some false := by
  cases x
  · decide +kernel
  · exact ⟨by rfl, by rfl, by rfl, by rfl, by rfl, by rfl⟩
theorem oi_shaped (x : Option Int) : SeqAt.shaped (oI x) = true := by cases x <;> rfl
theorem oi_eqv (x y : Option Int) : PyData.eqv (oI x) (oI y) = decide (x = y) := by
  cases x <;> cases y
  · rfl
  · rfl
  · rfl
  · rename_i i j
    show (i == j) = decide (some i = some j)
    by_cases h : i = j <;> simp [h]
abbrev sp__law_alike (K : PySem.W.Frag) (w : World) (c : Ad) : Sp := spOf (ι := Option Int × Option Int) (fun i => [MP.d K (oI i.1), MP.d K (oI i.2)]) (fun i => MP.d K (.bool (decide (i.1 = i.2))))
theorem len__law_alike {vs : List V} {H : Hp} {Q : VK} {E : XK} (h : sp__law_alike K w c vs H Q E) : vs.length = 2 := spOf_len (by intro i; rfl) vs H Q E h
def t__law_alike (K : PySem.W.Frag) (w : World) (c : Ad) : TS :=
  (tSeq (tIfS (tB (tCB (rIsiG K) (tCons (tVar 1) (tCons (tC (.ty "dict")) tNil)))) tNever tNext)
    (tSeq (tIfS (tB (tCB (rIsiG K) (tCons (tVar 1) (tCons (tTup (tCons (tC (.ty "tuple")) (tCons (tC (.ty "list")) tNil))) tNil)))) tNever tNext)
    (tSeq (tIfS (tOr (tTest (tOp rIsN (tVar 1) (tC .non))) (tB (tCB (rIsiG K) (tCons (tVar 1) (tCons (tC (.ty "str")) tNil))))) (tRet (tAndV (tOp (rEqD K) (tVar 0) (tVar 1)) (tOp (rEqD K) (tCB (rIsiG K) (tCons (tVar 0) (tCons (tC (.ty "str")) tNil))) (tCB (rIsiG K) (tCons (tVar 1) (tCons (tC (.ty "str")) tNil)))))) tNext)
    (tRet (tAndV (tCB (rIsiG K) (tCons (tVar 0) (tCons (tC (.ty "int")) tNil))) (tAndV (tOp (rEqD K) (tCB (rIsiG K) (tCons (tVar 0) (tCons (tC (.ty "bool")) tNil))) (tCB (rIsiG K) (tCons (tVar 1) (tCons (tC (.ty "bool")) tNil)))) (tOp (rEqD K) (tVar 0) (tVar 1))))))))
theorem rd__law_alike {vs : List V} {H : Hp} {Q : VK} {E : XK} (h : sp__law_alike K w c vs H Q E) : t__law_alike K w c (Dn Q) (vs.map some ++ List.replicate (3 - vs.length) none) H := by
  obtain ⟨⟨f, d⟩, G, e, ha, q⟩ := h
  cases ha with
  | cons a1 ha => cases ha with
    | cons a2 ha =>
      cases ha
      rename_i x y
      have h1 : Cm (tVar 0 [some x, some y, none]) G (MP.d K (oI f)) := c_var rfl a1
      have h2 : Cm (tVar 1 [some x, some y, none]) G (MP.d K (oI d)) := c_var rfl a2
      obtain ⟨f1, f2, f3, f4, f5, f6⟩ := kit_oi f
      obtain ⟨d1, d2, d3, d4, d5, d6⟩ := kit_oi d
      refine (b_ifN (c_tB (c_isi h2 d1)) (b_ifN (c_tB (c_isiT h2 d2 d3)) ?_) : Cm (bd (t__law_alike K w c) [some x, some y, none]) G (MP.d K (.bool (decide (f = d))))) H e Q q
      cases d with
      | none =>
        refine b_if (b := true) (c_teq (c_tor (a := true) (b := false) (c_test (c_isN h2)) fun z => absurd z.symm Bool.false_ne_true) rfl) (fun _ => b_rets ?_) fun z => absurd z.symm Bool.false_ne_true
        refine c_to (c_andV (c_eq h1 h2 (oi_shaped f) rfl) fun _ => c_eq (c_isi h1 f4) (c_isi h2 d4) rfl rfl) ?_
        rw [oi_eqv]
        cases decide (f = none) <;> rfl
      | some i =>
        refine b_if (b := false) (c_teq (c_tor (a := false) (c_test (c_isN h2)) fun _ => c_tB (c_isi h2 d4)) rfl) (fun z => absurd z Bool.false_ne_true) fun _ => b_nexts (b_ret ?_)
        refine c_to (c_andV (c_isi h1 f5) fun _ => c_andV (c_eq (c_isi h1 f6) (c_isi h2 d6) rfl rfl) fun _ => c_eq h1 h2 (oi_shaped f) rfl) ?_
        rw [oi_eqv]
        cases f with
        | none => rfl
        | some j => cases decide (some j = some i) <;> rfl
/-! ### _law_is_line -/
structure LnIn where
  ps : List Str
  k : Nat
  ok : okP ps = true
  hk : k ≤ 1000
abbrev sp__law_is_line (K : PySem.W.Frag) (w : World) (c : Ad) : Sp := spOf (ι := LnIn) (fun i => [MP.ts K i.ps, MP.d K (.int i.k)]) (fun i => MP.d K (.bool (!badAt i.k i.ps)))
theorem len__law_is_line {vs : List V} {H : Hp} {Q : VK} {E : XK} (h : sp__law_is_line K w c vs H Q E) : vs.length = 2 := spOf_len (by intro i; rfl) vs H Q E h
def t__law_is_line (K : PySem.W.Frag) (w : World) (c : Ad) : TS :=
  (tSeq (tIfS (tTest (tOp (rEqD K) (tVar 1) (tC (.int 0)))) (tSeq (tIfS (tOr (tTest (tOp (rNeD K) (tOp (rIx K) (tVar 0) (tC (.int 0))) (tC (.str "rows")))) (tTest (tOp (rInG K true) (tCB (rLenG K) (tCons (tVar 0) tNil)) (tLst (tCons (tC (.int 2)) (tCons (tC (.int 3)) tNil)))))) (tRet (tC (.bl false))) tNext)
    (tRet (tOp (rEqD K) (tLc (iSeq K (tSl (rSlG K) (tVar 0) (tPart (tC (.int 1))) tNoPart)) (gName 3) (tTest (tOp (rInG K true) (tVar 3) (tLst (tCons (tC (.str "a1")) (tCons (tC (.str "a2")) (tCons (tC (.str "b1")) (tCons (tC (.str "b2")) tNil))))))) (tVar 3) [3]) (tLst tNil)))) tNext)
    (tSeq (tIfS (tTest (tOp rLtI (tVar 1) (tC (.int 7)))) (tSeq (tAsg (tOp (rIx K) (tCall (sp__law_parts K w c) [] E0 tNil) (tOp rSubI (tVar 1) (tC (.int 1)))) (gName 2))
    (tRet (tAndV (tOp (rEqD K) (tCB (rLenG K) (tCons (tVar 0) tNil)) (tC (.int 2))) (tAndV (tOp (rEqD K) (tOp (rIx K) (tVar 0) (tC (.int 0))) (tOp (rIx K) (tVar 2) (tC (.int 0)))) (tOp (rInG K false) (tOp (rIx K) (tVar 0) (tC (.int 1))) (tSl (rSlG K) (tVar 2) (tPart (tC (.int 1))) tNoPart)))))) tNext)
    (tSeq (tIfS (tOr (tTest (tOp rGtI (tVar 1) (tC (.int 7)))) (tTest (tOp (rNeD K) (tOp (rIx K) (tVar 0) (tC (.int 0))) (tC (.str "words"))))) (tRet (tC (.bl false))) tNext)
    (tRet (tOp (rInG K false) (tSl (rSlG K) (tVar 0) (tPart (tC (.int 1))) tNoPart) (tLst (tCons (tLst tNil) (tCons (tLst (tCons (tC (.str "join")) tNil)) (tCons (tLst (tCons (tC (.str "sweep")) tNil)) (tCons (tLst (tCons (tC (.str "join")) (tCons (tC (.str "sweep")) tNil))) tNil))))))))))
theorem seq_ret {t1 : TE} {t : TS} {P : MP V} (h : Cm (bd (tRet t1) σ) G P) : Cm (bd (tSeq (tRet t1) t) σ) G P := h
theorem b_if2 {tt : TT} {t tr : TS} {P : MP V} {b : Bool} (h : Cm (tt σ) G (MP.eq b)) (h1 : b = true → Cm (bd (tSeq t tr) σ) G P) (h2 : b = false → Cm (bd tr σ) G P) : Cm (bd (tSeq (tIfS tt t tNext) tr) σ) G P := b_if h h1 fun z => b_nexts (h2 z)
theorem tail_words (t : List Str) : ([PyData.list [], .list [.str "join"], .list [.str "sweep"], .list [.str "join", .str "sweep"]].any fun z => PyData.eqv z (.list (t.map PyData.str))) = decide (wordNames.filter (fun x => decide (x ∈ t)) = t) := by
  have e1 : ∀ l : List Str, PyData.eqv (.list (l.map PyData.str)) (.list (t.map PyData.str)) = decide (l = t) := fun l => eqv_strs l t
  have a0 := e1 []
  have a1 := e1 ["join"]
  have a2 := e1 ["sweep"]
  have a3 := e1 ["join", "sweep"]
  simp only [List.map_cons, List.map_nil] at a0 a1 a2 a3
  simp only [List.any_cons, List.any_nil, a0, a1, a2, a3, Bool.or_false]
  unfold wordNames
  simp only [List.filter_cons, List.filter_nil]
  by_cases j : ("join" : Str) ∈ t <;> by_cases s : ("sweep" : Str) ∈ t <;> simp only [j, s, decide_true, decide_false, if_true, Bool.false_eq_true, if_false]
  · have n0 : ¬ ([] : List Str) = t := fun e => by rw [← e] at j; cases j
    have n1 : ¬ [("join" : Str)] = t := fun e => by rw [← e] at s; exact absurd (List.mem_singleton.mp s) (by decide +kernel)
    have n2 : ¬ [("sweep" : Str)] = t := fun e => by rw [← e] at j; exact absurd (List.mem_singleton.mp j) (by decide +kernel)
    simp [n0, n1, n2]
  · have n0 : ¬ ([] : List Str) = t := fun e => by rw [← e] at j; cases j
    have n2 : ¬ [("sweep" : Str)] = t := fun e => by rw [← e] at s; exact s (List.mem_singleton.mpr rfl)
    have n3 : ¬ [("join" : Str), "sweep"] = t := fun e => by rw [← e] at s; exact s (List.mem_cons_of_mem _ (List.mem_singleton.mpr rfl))
    simp [n0, n2, n3]
  · have n0 : ¬ ([] : List Str) = t := fun e => by rw [← e] at s; cases s
    have n1 : ¬ [("join" : Str)] = t := fun e => by rw [← e] at j; exact j (List.mem_singleton.mpr rfl)
    have n3 : ¬ [("join" : Str), "sweep"] = t := fun e => by rw [← e] at j; exact j (List.mem_cons_self ..)
    simp [n0, n1, n3]
  · have n1 : ¬ [("join" : Str)] = t := fun e => by rw [← e] at j; exact j (List.mem_singleton.mpr rfl)
    have n2 : ¬ [("sweep" : Str)] = t := fun e => by rw [← e] at s; exact s (List.mem_singleton.mpr rfl)
    have n3 : ¬ [("join" : Str), "sweep"] = t := fun e => by rw [← e] at j; exact j (List.mem_cons_self ..)
    simp [n1, n2, n3]
theorem rd__law_is_line {vs : List V} {H : Hp} {Q : VK} {E : XK} (h : sp__law_is_line K w c vs H Q E) : t__law_is_line K w c (Dn Q) (vs.map some ++ List.replicate (4 - vs.length) none) H := by
  obtain ⟨⟨ps, k, ok, hk⟩, G, e, ha, q⟩ := h
  cases ha with
  | cons a1 ha => cases ha with
    | cons a2 ha =>
      cases ha
      rename_i x y
      have h1 : ∀ {G2 : Hp} {a b : Option V}, Ex G G2 → Cm (tVar 0 [some x, some y, a, b]) G2 (MP.ts K ps) := fun e2 => c_var rfl (Dp.up e2 _ _ a1)
      have h2 : Cm (tVar 1 [some x, some y, none, none]) G (MP.d K (.int k)) := c_var rfl a2
      have hl := (okP.and ok).1
      have hl0 : 1 ≤ ps.length := by
        have := okP.ne ok
        cases ps with
        | nil => exact absurd rfl this
        | cons a r => simp
      refine (b_if2 (b := decide (k = 0)) (c_teq (c_test (c_eq h2 c_int rfl rfl)) ?_) (fun hz => ?_) (fun hz => ?_) : Cm (bd (t__law_is_line K w c) [some x, some y, none, none]) G (MP.d K (.bool (!badAt k ps)))) H e Q q
      · show (((k : Nat) : Int) == 0) = decide (k = 0)
        by_cases h : k = 0
        · rw [h]; rfl
        · rw [decide_eq_false h, beq_eq_false_iff_ne.mpr (by omega)]
      · have hz : k = 0 := of_decide_eq_true hz
        subst hz
        have eb : badAt 0 ps = badRows ps := rfl
        rw [eb]
        have hin : Cm (tTest (tOp (rInG K true) (tCB (rLenG K) (tCons (tVar 0) tNil)) (tLst (tCons (tC (.int 2)) (tCons (tC (.int 3)) tNil)))) [some x, some y, none, none]) G (MP.eq (!(decide ((2 : Int) ≤ (ps.length : Int)) && decide ((ps.length : Int) ≤ 3)))) := by
          refine c_teq (c_test (c_inL (n := true) (c_lenL (h1 (Ex.refl _))) (c_lst (c_dcons c_int (c_dcons c_int c_dnil)) (by show 2 ≤ 100000; decide)) rfl rfl)) ?_
          rw [List.length_map]
          match ps.length, hl, hl0 with
          | 1, _, _ => rfl
          | 2, _, _ => rfl
          | 3, _, _ => rfl
          | 4, _, _ => rfl
        refine b_seqA (b_if2 (c_tor (c_neHd ok (h1 (Ex.refl _)) c_str (by decide +kernel)) fun _ => hin) (fun hb => b_rets (c_to (c_bl (b := false)) ?_)) (fun hb => b_rets ?_))
        · refine congrArg PyData.bool ?_
          unfold badRows
          rw [← Bool.or_assoc, hb] <;> rfl
        · have hf : (((ps.drop 1).map PyData.str).filter (fun d => !([PyData.str "a1", .str "a2", .str "b1", .str "b2"].any fun z => PyData.eqv z d))).map (fun d => d) = ((ps.drop 1).filter fun x => !decide (x ∈ rowNames)).map PyData.str := by
            rw [List.map_id', List.filter_map]
            refine congrArg (List.map PyData.str) (List.filter_congr fun x _ => ?_)
            exact congrArg (fun b => !b) (any_dec x rowNames)
          have hc : Cm (tLc (iSeq K (tSl (rSlG K) (tVar 0) (tPart (tC (.int 1))) tNoPart)) (gName 3) (tTest (tOp (rInG K true) (tVar 3) (tLst (tCons (tC (.str "a1")) (tCons (tC (.str "a2")) (tCons (tC (.str "b1")) (tCons (tC (.str "b2")) tNil))))))) (tVar 3) [3] [some x, some y, none, none]) G (MP.d K (.list (((ps.drop 1).filter fun x => !decide (x ∈ rowNames)).map PyData.str))) := by
            rw [← hf]
            refine l_d (c_lcL (c_tlP ok (h1 (Ex.refl _))) (by rw [List.length_map, List.length_drop]; omega) fun v d G5 eG hm hw => ct_name rfl (c_test (c_to (c_inL (n := true) (c_var (P := MP.d K d) rfl hw) (c_lst (c_dcons c_str (c_dcons c_str (c_dcons c_str (c_dcons c_str c_dnil)))) (by show 4 ≤ 100000; decide)) ?_ (by decide +kernel)) rfl)) fun _ => c_var (P := MP.d K d) rfl hw)
            obtain ⟨z, hz, rfl⟩ := List.mem_map.mp hm
            exact okT.sh (okP.tlT ok z hz)
          refine c_to (c_eq hc (c_lst c_dnil (by show 0 ≤ 100000; decide)) (strs_shaped fun z hz => okT.sh (okP.tlT ok z (List.mem_filter.mp hz).1)) rfl) (congrArg PyData.bool ?_)
          have e2 : PyData.eqv (.list (((ps.drop 1).filter fun x => !decide (x ∈ rowNames)).map PyData.str)) (.list []) = decide (((ps.drop 1).filter fun x => !decide (x ∈ rowNames)) = []) := eqv_strs _ []
          rw [e2]
          unfold badRows
          rw [← Bool.or_assoc, hb, Bool.false_or, Bool.not_not]
          rw [Bool.eq_iff_iff, decide_eq_true_eq, List.filter_eq_nil_iff, List.all_eq_true]
          exact forall_congr' fun z => forall_congr' fun _ => by simp
      · have hz : ¬ k = 0 := of_decide_eq_false hz
        refine b_if2 (b := decide (k < 7)) (c_test (c_I0 (z := .bool (decide (k < 7))) h2 c_int fun G => ?_)) (fun h7 => ?_) (fun h7 => ?_)
        · have : decide ((k : Int) < 7) = decide (k < 7) := by
            by_cases h : k < 7
            · rw [decide_eq_true h, decide_eq_true (by omega)]
            · rw [decide_eq_false h, decide_eq_false (by omega)]
          rw [this]
          exact .bl _
        · have h7 : k < 7 := of_decide_eq_true h7
          obtain ⟨p, hp⟩ : ∃ p, kvParts[k - 1]? = some p := ⟨_, List.getElem?_eq_getElem (by show k - 1 < 6; omega)⟩
          have eb : badAt k ps = badWord p.1 p.2 ps := by
            have := badAt_word (n := k - 1) (ps := ps) (by omega) hp
            rwa [Nat.sub_add_cancel (by omega)] at this
          rw [eb]
          have hpm := List.mem_of_getElem? hp
          have hpd : (partsL.map fun l => PyData.list (l.map PyData.str))[k - 1]? = some (.list (.str p.1 :: p.2.map PyData.str)) := by
            have e : (partsL.map fun l => PyData.list (l.map PyData.str)) = kvParts.map fun p => .list (.str p.1 :: p.2.map PyData.str) := rfl
            rw [e, List.getElem?_map, hp] <;> rfl
          refine b_seqA (b_asg (R := MP.ts K (p.1 :: p.2)) (c_ixL (i := (k : Int) - 1) (d := .list (.str p.1 :: p.2.map PyData.str)) (l_d (c_call (args := fun _ : Unit => []) (res := fun _ => MP.l K _) () c_nil)) (c_I0 (z := .int ((k : Int) - 1)) h2 c_int fun G => .int _) (atI_of (by omega) rfl ?_)) fun v G3 e3 p3 => b_rets ?_)
          · rw [show ((k : Int) - 1).toNat = k - 1 by omega]
            exact hpd
          · have hv : Cm (tVar 2 [some x, some y, some v, none]) G3 (MP.ts K (p.1 :: p.2)) := c_var rfl p3
            have hx := h1 (a := some v) (b := none) e3
            refine c_to (c_andV (a := decide (ps.length = 2)) (c_to (c_eq (c_lenL hx) c_int rfl rfl) ?_) fun h => c_andV (c_eq (c_hdP ok hx) (c_hd hv) (okT.sh (okP.hd ok)) (key_ok p hpm)) fun _ => (?_ : Cm _ _ (MP.d K (.bool (decide ((ps.drop 1).headD "" ∈ p.2)))))) ?_
            · rw [List.length_map]
              refine congrArg PyData.bool ?_
              show (((ps.length : Nat) : Int) == 2) = decide (ps.length = 2)
              by_cases h : ps.length = 2
              · rw [h]; rfl
              · rw [decide_eq_false h, beq_eq_false_iff_ne.mpr (by omega)]
            · have h : ps.length = 2 := of_decide_eq_true h
              match ps, h with
              | [a, b], _ =>
                have hb : okT b = true := (okP.and ok).2.1 b (List.mem_cons_of_mem _ (List.mem_cons_self ..))
                refine c_to (c_inL (n := false) (c_ixL (i := 1) (d := .str b) hx c_int rfl) (c_tl hv) (okT.sh hb) (parts_shaped p hpm)) (congrArg PyData.bool ?_)
                show (List.any _ _) = _
                rw [any_dec] <;> rfl
            · refine congrArg PyData.bool ?_
              unfold badWord
              rw [eqv_strE]
              cases decide (ps.length = 2) <;> cases decide (ps.headD "" = p.1) <;> cases decide ((ps.drop 1).headD "" ∈ p.2) <;> rfl
        · have h7 : ¬ k < 7 := of_decide_eq_false h7
          refine b_if2 (b := decide (7 < k) || !(decide (ps.headD "" = "words"))) (c_tor (c_test (c_I0 (z := .bool (decide (7 < k))) h2 c_int fun G => ?_)) fun _ => c_neHd ok (h1 (Ex.refl _)) c_str (by decide +kernel)) (fun hb => b_rets (c_to (c_bl (b := false)) ?_)) (fun hb => b_ret ?_)
          · have : decide ((7 : Int) < (k : Int)) = decide (7 < k) := by
              by_cases h : 7 < k
              · rw [decide_eq_true h, decide_eq_true (by omega)]
              · rw [decide_eq_false h, decide_eq_false (by omega)]
            rw [this]
            exact .bl _
          · refine congrArg PyData.bool ?_
            unfold badAt
            rw [if_neg hz, if_neg h7]
            by_cases h8 : k = 7
            · subst h8
              rw [if_pos rfl]
              have hb : (!(decide (ps.headD "" = "words"))) = true := hb
              unfold badWords
              rw [hb] <;> rfl
            · rw [if_neg h8] <;> rfl
          · obtain ⟨hb1, hb2⟩ := Bool.or_eq_false_iff.mp hb
            have h8 : k = 7 := by
              have := of_decide_eq_false hb1
              omega
            subst h8
            have e3 : badAt 7 ps = badWords ps := rfl
            rw [e3]
            have shT : SeqAt.shaped (.list ((ps.drop 1).map PyData.str)) = true := strs_shaped fun z hz => okT.sh (okP.tlT ok z hz)
            refine c_to (c_inL (n := false) (c_tlP ok (h1 (Ex.refl _))) (c_lst (c_dcons (c_lst c_dnil (by show 0 ≤ 100000; decide)) (c_dcons (c_lst (c_dcons c_str c_dnil) (by show 1 ≤ 100000; decide)) (c_dcons (c_lst (c_dcons c_str c_dnil) (by show 1 ≤ 100000; decide)) (c_dcons (c_lst (c_dcons c_str (c_dcons c_str c_dnil)) (by show 2 ≤ 100000; decide)) c_dnil)))) (by show 4 ≤ 100000; decide)) shT (by decide +kernel)) (congrArg PyData.bool ?_)
            show (List.any _ _) = _
            rw [tail_words]
            unfold badWords
            rw [hb2, Bool.false_or, Bool.not_not]
end
end Ah
/-! Ah27: the first wrong line, by the law; what read answers. -/
namespace Ah
open PySem PySem.Spec PyProof.Rows L2 Evl

section
variable {K : PySem.W.Frag} {w : World} {c : Ad} {σ : L2.St} {G : Hp} {ta tb te td : TE} {d : PyData} {E : XK}
structure PsIn where
  pss : List (List Str)
  ok : ∀ ps ∈ pss, okP ps = true
  len : pss.length ≤ 100
def fwI (pss : List (List Str)) : Option Int := Option.map (fun n : Nat => (n : Int)) (fw 0 pss)
theorem fw_drop : ∀ (pss : List (List Str)) (k : Nat), (∀ j, j < k → ∃ ps, pss[j]? = some ps ∧ badAt j ps = false) → fw 0 pss = fw k (pss.drop k) := by
  have gen : ∀ (k : Nat) (pss : List (List Str)) (b : Nat), (∀ j, j < k → ∃ ps, pss[j]? = some ps ∧ badAt (b + j) ps = false) → fw b pss = fw (b + k) (pss.drop k) := fun k => by
    induction k with
    | zero => exact fun pss b _ => rfl
    | succ k ih =>
      intro pss b h
      match pss, h 0 (by omega) with
      | p :: r, ⟨ps, e1, e2⟩ =>
        cases e1
        have e2 : badAt b p = false := e2
        show (if badAt b p then some (b + 1) else fw (b + 1) r) = fw (b + (k + 1)) (r.drop k)
        rw [e2, if_neg Bool.false_ne_true, ih r (b + 1) fun j hj => ?_, Nat.add_right_comm b 1 k, Nat.add_assoc b k 1]
        obtain ⟨ps, z1, z2⟩ := h (j + 1) (by omega)
        exact ⟨ps, by simpa using z1, by rw [show b + 1 + j = b + (j + 1) by omega]; exact z2⟩
  intro pss k h
  have := gen k pss 0 fun j hj => by
    obtain ⟨ps, e1, e2⟩ := h j hj
    exact ⟨ps, e1, by rw [Nat.zero_add]; exact e2⟩
  rwa [Nat.zero_add] at this
abbrev sp__law_first_wrong (K : PySem.W.Frag) (w : World) (c : Ad) : Sp := spOf (ι := PsIn) (fun i => [MP.ts K (i.pss.map lineT)]) (fun i => MP.d K (oI (fwI i.pss)))
theorem len__law_first_wrong {vs : List V} {H : Hp} {Q : VK} {E : XK} (h : sp__law_first_wrong K w c vs H Q E) : vs.length = 1 := spOf_len (by intro i; rfl) vs H Q E h
def t__law_first_wrong (K : PySem.W.Frag) (w : World) (c : Ad) : TS :=
  (tSeq (tFor (iRng1 (tCons (tCB (rLenG K) (tCons (tVar 0) tNil)) tNil)) (gName 1)
    (tIfS (tNot (tB (tCall (sp__law_is_line K w c) [] E0 (tCons (tM1 rSplit (tOp (rIx K) (tVar 0) (tVar 1)) (tC (.str " "))) (tCons (tVar 1) tNil))))) (tRet (tOp (rAddG K) (tVar 1) (tC (.int 1)))) tNext))
    (tRet (tIf (tTest (tOp rLtI (tCB (rLenG K) (tCons (tVar 0) tNil)) (tC (.int 8)))) (tOp (rAddG K) (tCB (rLenG K) (tCons (tVar 0) tNil)) (tC (.int 1))) (tC .non))))
theorem rd__law_first_wrong {vs : List V} {H : Hp} {Q : VK} {E : XK} (h : sp__law_first_wrong K w c vs H Q E) : t__law_first_wrong K w c (Dn Q) (vs.map some ++ List.replicate (2 - vs.length) none) H := by
  obtain ⟨⟨pss, ok, len⟩, G, e, ha, q⟩ := h
  cases ha with
  | cons a1 ha =>
    cases ha
    rename_i x
    have h0 : ∀ {G2 : Hp} {v : Option V}, Ex G G2 → Cm (tVar 0 [some x, v]) G2 (MP.ts K (pss.map lineT)) := fun e2 => c_var rfl (Dp.up e2 _ _ a1)
    have hL : ∀ {G2 : Hp} {v : Option V}, Ex G G2 → Cm (tCB (rLenG K) (tCons (tVar 0) tNil) [some x, v]) G2 (MP.d K (.int pss.length)) := fun e2 => c_to (c_lenL (h0 e2)) (by rw [List.length_map, List.length_map])
    obtain ⟨ar, xs, rfl, hx, hxs⟩ := dp_lst a1
    have hxl : xs.length = pss.length := by rw [DpAll.length hxs, List.length_map, List.length_map]
    refine ⟨_, rfl, _, xs.length, rfl, .inl ⟨_, ex_l e hx, rfl⟩, xs.length, rfl, by omega, by omega, ?_⟩
    rw [hxl]
    have n1 : Nw H G G H := Nw.refl e
    generalize hxx : V.ref ar = x at *
    · skip
      refine for_range (lo := 0) (n := ((pss.length : Nat) : Int).toNat) (fun k σ H' => (∃ v, σ = [some x, v]) ∧ (∃ G', Nw H G G' H' ∧ Ex H H') ∧ ∀ j, j < k → ∃ ps, pss[j]? = some ps ∧ badAt j ps = false) ⟨⟨none, rfl⟩, ⟨G, n1, Ex.refl H⟩, fun j hj => absurd hj (Nat.not_lt_zero _)⟩ ?_ ?_
      · rintro k σ H' hk ⟨⟨v, rfl⟩, ⟨G', n', e'⟩, good⟩
        have hk : k < pss.length := by omega
        obtain ⟨ps, hps⟩ : ∃ ps, pss[k]? = some ps := ⟨_, List.getElem?_eq_getElem hk⟩
        have okps := ok _ (List.mem_of_getElem? hps)
        have e0 : (0 : Int) + (k : Int) = (k : Int) := Int.zero_add _
        rw [e0]
        have h1 : ∀ {G2 : Hp}, Cm (tVar 1 [some x, some (.int k)]) G2 (MP.d K (.int k)) := c_var rfl (.int _)
        have hs : Cm (tM1 rSplit (tOp (rIx K) (tVar 0) (tVar 1)) (tC (.str " ")) [some x, some (.int k)]) G' (MP.ts K ps) := by
          have hs := split_line okps
          rw [← hs]
          refine l_d (c_split (c_ixL (h0 n'.ex) h1 (atI_of (by omega) rfl ?_)) c_str (by decide +kernel) ?_)
          · rw [Int.toNat_natCast, List.getElem?_map, List.getElem?_map, hps] <;> rfl
          · have := (okP.and okps).2.2.1
            omega
        change tIfS _ _ _ _ _ _
        refine (c_tnot (c_tB (c_call (args := fun i : LnIn => [MP.ts K i.ps, MP.d K (.int i.k)]) (res := fun i => MP.d K (.bool (!badAt i.k i.ps))) ⟨ps, k, okps, by omega⟩ (c_cons hs (c_cons h1 c_nil)))) : Cm _ G' (MP.eq (!(!badAt k ps)))) H' n'.le _ fun b G3 H3 e3 n3 p3 => ?_
        have p3 : b = !(!badAt k ps) := p3
        rw [Bool.not_not] at p3
        subst p3
        cases hb : badAt k ps with
        | true =>
          refine iteT ?_
          have en : fwI pss = some ((k : Int) + 1) := by
            unfold fwI
            rw [fw_drop pss k good, List.drop_eq_getElem_cons hk]
            have ep : pss[k] = ps := by
              have := List.getElem?_eq_getElem hk
              rw [hps] at this
              exact (Option.some.inj this).symm
            rw [ep]
            show Option.map (fun n : Nat => (n : Int)) (if badAt k ps = true then some (k + 1) else _) = _
            rw [hb, if_pos rfl] <;> rfl
          refine ⟨_, rfl, u_addI (q _ G3 H3 (e'.trans e3) (n'.trans e' n3) ?_)⟩
          show Dp K G3 _ (oI (fwI pss))
          rw [en]
          exact .int _
        | false =>
          refine iteF ⟨⟨_, rfl⟩, ⟨G3, n'.trans e' n3, e'.trans e3⟩, fun j hj => ?_⟩
          by_cases hjk : j = k
          · subst hjk; exact ⟨ps, hps, hb⟩
          · exact good j (by omega)
      · rintro σ H' ⟨⟨v, rfl⟩, ⟨G', n', e'⟩, good⟩
        rw [Int.toNat_natCast] at good
        have en : fw 0 pss = fw pss.length [] := by rw [fw_drop pss _ good, List.drop_length]
        have key : Cm (tIf (tTest (tOp rLtI (tCB (rLenG K) (tCons (tVar 0) tNil)) (tC (.int 8)))) (tOp (rAddG K) (tCB (rLenG K) (tCons (tVar 0) tNil)) (tC (.int 1))) (tC .non) [some x, v]) G' (MP.d K (oI (fwI pss))) := by
          refine c_if (b := decide (pss.length < 8)) (c_test (c_I0 (z := .bool (decide (pss.length < 8))) (hL n'.ex) c_int fun G => ?_)) (fun h8 => ?_) (fun h8 => ?_)
          · have : decide ((pss.length : Int) < 8) = decide (pss.length < 8) := by
              by_cases h : pss.length < 8
              · rw [decide_eq_true h, decide_eq_true (by omega)]
              · rw [decide_eq_false h, decide_eq_false (by omega)]
            rw [this]
            exact .bl _
          · have h8 := of_decide_eq_true h8
            have : fwI pss = some ((pss.length : Int) + 1) := by
              unfold fwI
              rw [en]
              show Option.map (fun n : Nat => (n : Int)) (if pss.length < 8 then some (pss.length + 1) else none) = _
              rw [if_pos h8] <;> rfl
            rw [this]
            exact c_addI (hL n'.ex) c_int
          · have h8 := of_decide_eq_false h8
            have : fwI pss = none := by
              unfold fwI
              rw [en]
              show Option.map (fun n : Nat => (n : Int)) (if pss.length < 8 then some (pss.length + 1) else none) = _
              rw [if_neg h8] <;> rfl
            rw [this]
            exact c_non
        exact key H' n'.le _ fun v G3 H3 e3 n3 p3 => q v G3 H3 (e'.trans e3) (n'.trans e' n3) p3
/-! ### _law_answer -/
structure Axx (K : PySem.W.Frag) (w : World) (c : Ad) : Prop where
  ie : PySem.W.exmOne K (.ref c.InvalidLine) (.ref c.InvalidLine) = some true
  ik : PySem.W.kitOne K (.ref c.InvalidLine) (.ref c.AheadError) = some true
abbrev sp__law_answer (K : PySem.W.Frag) (w : World) (c : Ad) : Sp := spOf (ι := { i : PsIn // i.pss ≠ [] }) (fun i => [MP.d K (.str (textOf i.val.pss))]) (fun i => MP.d K (oI (fwI i.val.pss)))
theorem len__law_answer {vs : List V} {H : Hp} {Q : VK} {E : XK} (h : sp__law_answer K w c vs H Q E) : vs.length = 1 := spOf_len (by intro i; rfl) vs H Q E h
def t_suite (K : PySem.W.Frag) (w : World) (c : Ad) : Addr → Value → Option Addr → TS := fun a cls d =>
  tAsg (tIf (tB (tCB (rIsD K c.InvalidLine a cls d) (tCons (tVar 2) (tCons (tC (.ref c.AheadError)) tNil)))) (tXf a cls d c.InvalidLine "line" (tVar 2)) (tUn (rU fun i => .int (-i)) (tC (.int 1)))) (gName 1)
def t_try (K : PySem.W.Frag) (w : World) (c : Ad) : TS := fun D σ H => tDrop (tCallS (sp_readX K w c) (WE (wAs K (.ref c.InvalidLine) 2 (t_suite K w c) (fun _ _ _ _ => False) D)) (tCons (tVar 0) tNil)) D σ H
def t__law_answer (K : PySem.W.Frag) (w : World) (c : Ad) : TS :=
  (tSeq (tAsg (tC .non) (gName 1)) (tSeq (t_try K w c) (tRet (tVar 1))))
theorem rd__law_answer (X : Axx K w c) {vs : List V} {H : Hp} {Q : VK} {E : XK} (h : sp__law_answer K w c vs H Q E) : t__law_answer K w c (Dn Q) (vs.map some ++ List.replicate (3 - vs.length) none) H := by
  obtain ⟨⟨⟨pss, ok, len⟩, ne⟩, G, e, ha, q⟩ := h
  have ne : pss ≠ [] := ne
  cases ha with
  | cons a1 ha =>
    cases ha
    rename_i x
    refine ⟨_, rfl, ?_⟩
    cases hf : fw 0 pss with
    | none =>
      obtain ⟨b, hb⟩ := book_of ok hf
      have a1 : Dp K G x (.str (bkText b.val)) := by
        have : textOf pss = bkText b.val := by rw [hb] <;> rfl
        rw [← this]; exact a1
      refine .inl ⟨b, G, e, .cons a1 .nil, fun v G' H' e1 n1 p1 => ⟨_, rfl, q .non G' H' e1 n1 ?_⟩⟩
      show Dp K G' .non (oI (fwI pss))
      unfold fwI
      rw [hf]
      exact .non
    | some n =>
      refine .inr ⟨⟨pss, ok, ne, len, n, hf⟩, G, e, .cons a1 .nil, fun d H' e1 hd => ?_⟩
      refine ⟨true, X.ie, fun _ a ha => ?_, fun z => Bool.noConfusion z⟩
      refine ⟨_, rfl, ⟨_, _, true, d, _, rfl, rfl, rfl, upd_same, fun u r => ?_, X.ik, _, rfl, ?_⟩⟩
      · exact r
      · refine iteT ⟨_, rfl, rfl, rfl, d, _, .int n, rfl, upd_same, ?_, ?_⟩
        · rw [List.lookup_cons, beq_self_eq_true]
        · refine ⟨_, rfl, q (.int n) G _ (e1.trans (Ex.new hd)) ⟨Ex.refl G, e.trans (e1.trans (Ex.new hd)), fun _ _ z => z⟩ ?_⟩
          show Dp K G (.int n) (oI (fwI pss))
          unfold fwI
          rw [hf]
          exact .int _
end
end Ah
/-! Ah28: loops of a law, statement by statement. -/
namespace Ah
open PySem PySem.Spec PyProof.Rows L2 Evl

section
variable {K : PySem.W.Frag} {w : World} {c : Ad} {σ : L2.St} {G : Hp} {ta tb te tl : TE} {tas : TA} {ds es : List PyData} {h d : Addr} {P P1 P2 R : MP V} {i j : Nat} {tt : TT} {t u tr : TS} {D : Ends}
/-- to go on from here -/
def Go (h d : Addr) (nx : L2.St → Hp → Prop) (σ : L2.St) (G : Hp) : Prop := ∀ H, Ex G H → Src H h d → G h = none → G d = none → nx σ H
theorem s_end (k : Go h d D.nx σ G) : St h d tNext D σ G := k
theorem s_asgL (k : Dw h d (te σ) G R) (l : ∀ v G1, Ex G G1 → R.p v G1 → Go h d D.nx (σ.set i (some v)) G1) : St h d (tAsg te (gName i)) D σ G :=
  fun H e S gh gd => k H e S gh gd _ fun a G1 H1 p1 D1 => l a G1 D1.ex p1 H1 D1.le D1.src (D1.gh S gh) (D1.gd S gd)
theorem s_par (k : Dw h d (tas σ) G (MP.args [P1, P2])) (l : ∀ v u G1, Ex G G1 → P1.p v G1 → P2.p u G1 → St h d tr D ((σ.set i (some v)).set j (some u)) G1) : St h d (tSeq (tPar i j tas) tr) D σ G :=
  fun H e S gh gd => k H e S gh gd _ fun vs G1 H1 p1 D1 => by
    match vs, p1 with
    | [v, u], .cons a (.cons b .nil) => exact ⟨v, u, rfl, l v u G1 D1.ex a b H1 D1.le D1.src (D1.gh S gh) (D1.gd S gd)⟩
theorem s_ifb {b : Bool} (k : Cm (tt σ) G (MP.eq b)) (h1 : b = true → St h d t D σ G) (h2 : b = false → St h d u D σ G) : St h d (tIfS tt t u) D σ G :=
  fun H e S gh gd => k H e _ fun a G1 H1 e1 n1 p1 => by
    have p1 : a = b := p1
    subst p1
    cases a with
    | true => exact iteT (h1 rfl H1 (e.trans e1) (S.ext e1) gh gd)
    | false => exact iteF (h2 rfl H1 (e.trans e1) (S.ext e1) gh gd)
theorem s_ret (k : Cm (te σ) G P) (q : ∀ v G' H', P.p v G' → D.rt v H') : St h d (tRet te) D σ G := fun H e S gh gd => k H e _ fun v G' H' e1 n1 p1 => q v G' H' p1
/-- for x in range(..): body; rest -/
theorem s_loop {ta : TA} {ι : Type} {fn : ι → Nat} (I : Nat → L2.St → Hp → Prop) (hn : Dw h d (ta σ) G (MP.args [MP.ex fun i : ι => MP.d K (.int (fn i : Nat))])) (hb : ∀ i, fn i ≤ 90000) (h0 : ∀ G1, Ex G G1 → I 0 σ G1)
    (turn : ∀ (i : Nat) (k : ι) σ v N G1, i < fn k → Ex G G1 → I i σ G1 → (∀ σ' G2, Ex G1 G2 → I (i + 1) σ' G2 → Go h d N.nx σ' G2) → St h d t N (σ.set j (some v)) G1)
    (after : ∀ (k : ι) σ G1, Ex G G1 → I (fn k) σ G1 → St h d tr D σ G1) : St h d (tSeq (tFor (iRng1 ta) (gName j) t) tr) D σ G := fun H e S gh gd =>
  hn H e S gh gd _ fun xs G1 H1 p1 D1 => by
    match xs, p1 with
    | [a], .cons ⟨k, pa⟩ .nil =>
      rw [dp_int pa]
      have hk := hb k
      refine ⟨fn k, rfl, by omega, by omega, ?_⟩
      refine for_range (lo := 0) (n := ((fn k : Nat) : Int).toNat) (fun i σ H' => ∃ G2, Ex G1 G2 ∧ Ex G2 H' ∧ Src H' h d ∧ G2 h = none ∧ G2 d = none ∧ I i σ G2) ⟨G1, Ex.refl _, D1.le, D1.src, D1.gh S gh, D1.gd S gd, h0 G1 D1.ex⟩ ?_ ?_
      · rintro i σ' H' hi ⟨G2, e2, l2, S2, g1, g2, hI⟩
        exact turn i k σ' _ { D with nx := fun σ H' => ∃ G2, Ex G1 G2 ∧ Ex G2 H' ∧ Src H' h d ∧ G2 h = none ∧ G2 d = none ∧ I (i + 1) σ G2, ct := fun σ H' => ∃ G2, Ex G1 G2 ∧ Ex G2 H' ∧ Src H' h d ∧ G2 h = none ∧ G2 d = none ∧ I (i + 1) σ G2, bk := tr D } G2 (by omega) (D1.ex.trans e2) hI (fun σ'' G3 e3 hI3 H3 l3 S3 g3 g4 => ⟨G3, e2.trans e3, l3, S3, g3, g4, hI3⟩) H' l2 S2 g1 g2
      · rintro σ' H' ⟨G2, e2, l2, S2, g1, g2, hI⟩
        rw [Int.toNat_natCast] at hI
        exact after k σ' G2 (D1.ex.trans e2) hI H' l2 S2 g1 g2
/-! ### lists that grow -/
theorem v_cat {x y : V} (p : (MP.l K ds).p x G) (q : (MP.l K es).p y G) (hl : ds.length + es.length ≤ 100000) : Cm (rAddG K x y) G (MP.l K (ds ++ es)) := by
  obtain ⟨a, xs, rfl, h1, h2⟩ := p
  obtain ⟨b, ys, rfl, k1, k2⟩ := q
  exact c_newV (o := .lst (xs ++ ys)) (fun H eh Q h => u_cat (eh _ _ h1) (eh _ _ k1) (by rw [DpAll.length h2, DpAll.length k2]; exact hl) h) fun p hp => ⟨p, _, rfl, upd_same, DpAll.up (Ex.new hp) _ _ (DpAll.app h2 k2)⟩
theorem c_slLl {tl th : TO} {lo hi : Option Int} (ha : Cm (ta σ) G (MP.l K ds)) (h1 : Cm (tl σ) G (MP.eq lo)) (h2 : Cm (th σ) G (MP.eq hi)) : Cm (tSl (rSlG K) ta tl th σ) G (MP.l K (cutD ds lo hi)) :=
  c_sl ha h1 h2 fun x G1 e1 p => by
    obtain ⟨a, xs, rfl, h1, h2⟩ := p
    exact c_newV (o := .lst (cutV xs lo hi)) (fun H eh Q h => .inl ⟨a, xs, rfl, SqL.of (eh _ _ h1), h⟩) fun p hp => ⟨p, _, rfl, upd_same, DpAll.up (Ex.new hp) _ _ (cut_dp h2)⟩
theorem cut_to {r : Nat} (hr : r ≤ ds.length) : cutD ds none (some (r : Int)) = ds.take r := by
  unfold cutD
  have e1 : HT.sIx ds.length 0 none = 0 := rfl
  have e2 : HT.sIx ds.length ds.length (some (r : Int)) = r := by rw [HT.sIx_nat]; omega
  rw [e1, e2, List.drop_zero, Nat.sub_zero]
theorem cut_from {r : Nat} : cutD ds (some (r : Int)) none = ds.drop r := by
  unfold cutD
  have e2 : HT.sIx ds.length ds.length none = ds.length := rfl
  rw [e2]
  by_cases hr : r ≤ ds.length
  · have e1 : HT.sIx ds.length 0 (some (r : Int)) = r := by rw [HT.sIx_nat]; omega
    rw [e1]
    exact List.take_of_length_le (by simp)
  · have e1 : HT.sIx ds.length 0 (some (r : Int)) = ds.length := by rw [HT.sIx_nat]; omega
    rw [e1, List.drop_length, List.drop_eq_nil_of_le (by omega), List.take_nil]
theorem d_nextE {n : Nat} (hi : σ[i]? = some (some (.ref h))) (hc : Cm (te σ) G (MP.d K (.int n))) (h0 : 0 < n) (h1 : n < 1000000000) : Dw h d (tCall (sp__law_next K w c) [] E0 (tCons (tVar i) (tCons te tNil)) σ) G (MP.ex fun r : Fin n => MP.d K (.int r.val)) :=
  fun H e S gh gd Q q => ⟨_, hi, hc H e _ fun v G1 H1 e1 n1 p1 => by
    rw [dp_int p1]
    have D1 := Dr.of e1 n1 S
    refine ⟨h, d, n, rfl, D1.src, by omega, by omega, fun r H' r0 r1 S' f => ?_⟩
    refine q _ G1 H' ⟨⟨r.toNat, by omega⟩, ?_⟩ (D1.trans (Dr.drawn n1.le (D1.gh S gh) (D1.gd S gd) f S'))
    have : (r.toNat : Int) = r := by omega
    show Dp K G1 _ (.int (r.toNat : Int))
    rw [this]
    exact .int r⟩
theorem d_lst1 {S : PyData → Prop} (hx : Dw h d (te σ) G (MP.ex fun x : { x : PyData // S x } => MP.d K x.val)) : Dw h d (tLst (tCons te tNil) σ) G (MP.ex fun x : { x : PyData // S x } => MP.l K [x.val]) :=
  Dw.bind (t := (tCons te tNil) σ) (u := fun (xs : List V) (H : Hp) (Q : VK) => xs.length ≤ sizeLine ∧ ∀ p, H p = none → Q (V.ref p) (upd H p (.lst xs))) (d_cons hx d_nil) fun xs G1 e1 p1 => by
    match xs, p1 with
    | [v], .cons ⟨x, p⟩ .nil => exact .of (c_and (sz_of (n := 1) (by decide)) (c_new fun q hq => ⟨x, q, _, rfl, upd_same, .cons (Dp.up (Ex.new hq) _ _ p) .nil⟩))
end
end Ah
/-! Ah29: a call in a try's body. -/
namespace Ah
open PySem PySem.Spec PyProof.Rows L2 Evl
/-- statements that are never reached -/
theorem pss_never {X : Cx} {sts : List Stmt} : PSs X sts tNever := ⟨fun _ _ _ _ _ _ h => h.elim⟩
section
variable {X : Cx} {k j : Nat} {x : Str} {sp : Sp} {p pos : Pos} {e : Expr} {es : List Expr} {t : TA} {E : L2.St → XK}
theorem pe_calS (c : Cal X.prog X.w X.K X.mg X.base (L2.CX X.prog X.w) k x sp) (hr : Room j X.A) (hk : k ≤ j) (hx : ∀ σ, PassesAt (L2.CX X.prog X.w) X σ (E σ)) (hg : Gl X x) (ha : PA X (e :: es) t)
    (hdb : (x == ("__debug__" : Str)) = false := by decide) (he : starEach (e :: es) X.env = (false, eval e X.env) :: starEach es X.env := by rfl) (hpl : (backTo pos (starEach es X.env)).any (·.1) = false := by rfl) :
    PE X (.Call (.Name x p) (e :: es) [] pos) (tCallS sp E t) := by
  obtain ⟨f, fd, ps, F, hm, kp, b⟩ := c.ex
  exact pe_callS F (hr.mono hk) hg hm kp b hx ha hdb he hpl
end
end Ah
/-! Ah30: {**d, k: v}. -/
namespace PySem
section
variable {prog : Program} {w : World} {K : Type} [DecidableEq K] {knd : KeyKind prog w K} {A : Around} {E : Value → Shared → Prop} {s : Shared}
/-- an entry put into a dict of pairs -/
theorem ah_put {d : Addr} {kvs : List (K × Value)} {k : K} {key v : Value} {Q : Unit → Shared → Prop} (hkey : knd.is k key = true) (hm : s.heap.DictOf knd d kvs)
    (hQ : ∀ h', h'.DictOf knd d (stored kvs k v) → Heap.SameBut d s.heap h' → Q () { s with heap := h' }) (hsz : kvs.length ≤ sizeLine) :
    wpAny (model prog w) A (dictPut d (knd.hash k) key v) Q E s := by
  obtain ⟨o, es, ep, ho, hc, hd, hk, hp, hn⟩ := hm
  have hes : es.size ≤ sizeLine := by
    have e1 := hp.length
    have e2 : es.toList.length = es.size := by simp
    omega
  unfold dictPut
  refine wpAny_bind (wpAny_dictFind_of hkey ho hd hk ?_)
  have hidx : (es.findIdx? fun e => knd.is k e.key) = kvs.findIdx? fun kv => decide (kv.1 = k) := by
    rw [← hp.findIdx k]; obtain ⟨l⟩ := es; simp
  cases hi : es.findIdx? fun e => knd.is k e.key with
  | some i =>
    refine wpAny_updateDict ho hd (hQ _ ⟨_, _, ep, Heap.get?_update_self _ ho (Obj.isFreed_of_dict (Obj.data_mapDict hd _)), hc.mapDict _, Obj.data_mapDict hd _, hk.modify _ _, ?_, ?_⟩ (Heap.SameBut.update ..))
    · rw [stored, if_pos (any_of_findIdx_some (hidx ▸ hi))]
      have hl : (es.toList.findIdx? fun e => knd.is k e.key) = some i := by rw [← hi]; obtain ⟨l⟩ := es; simp
      have := hp.modify hn hl v
      obtain ⟨l⟩ := es
      simpa using this
    · rw [stored, if_pos (any_of_findIdx_some (hidx ▸ hi)), keys_map_store]; exact hn
  | none =>
    have hnot : k ∉ kvs.map (·.1) := not_mem_of_findIdx_none (hidx ▸ hi)
    have hany : ¬ (kvs.any fun kv => decide (kv.1 = k)) = true := by
      rw [List.any_eq_true]; rintro ⟨kv, hkv, he⟩
      exact hnot (List.mem_map.mpr ⟨kv, hkv, of_decide_eq_true he⟩)
    refine wpAny_updateDictKeys (hz := hes) ho hd (hQ _ ⟨_, _, ep + 1, Heap.get?_update_self _ ho (Obj.isFreed_of_dict (Obj.data_mapDictKeys hd _)), hc.mapDictKeys _, Obj.data_mapDictKeys hd _, hk.push hkey _, ?_, ?_⟩ (Heap.SameBut.update ..))
    · rw [stored, if_neg hany]
      have := hp.append hkey (knd.hash k) v
      obtain ⟨l⟩ := es
      simpa using this
    · rw [stored, if_neg hany, List.map_append, List.nodup_append]
      refine ⟨hn, by simp, ?_⟩
      intro a ha b hb
      simp only [List.map_cons, List.map_nil, List.mem_singleton] at hb
      subst hb
      exact fun e => hnot (e ▸ ha)
/-- one dict merged into another, the keys no objects -/
theorem ah_merge {d o : Addr} {kvs more : List (K × Value)} {Q : Unit → Shared → Prop} (hkr : ∀ k key a, knd.is k key = true → key ≠ .ref a) (hdo : d ≠ o) (hoS : (o == sysModules) = false) (hd : s.heap.DictOf knd d kvs) (ho : s.heap.DictOf knd o more)
    (hQ : ∀ h', h'.DictOf knd d (merged kvs more) → h'.DictOf knd o more → Heap.SameBut d s.heap h' → Q () { s with heap := h' }) (hsz : kvs.length + more.length ≤ sizeLine) :
    wpAny (model prog w) A (mergeMapping d (.ref o) false) Q E s := by
  obtain ⟨od, esd, epd, hod, hcd, hdd, hkd, hpd, hnd⟩ := id hd
  obtain ⟨oo, eso, epo, hoo, hco, hdo', hko, hpo, hno⟩ := id ho
  have hlen : more.length = eso.size := by rw [← hpo.length]; simp
  have loop : ∀ {Q : PUnit → Shared → Prop}, (∀ h', h'.DictOf knd d (merged kvs more) → h'.DictOf knd o more → Heap.SameBut d s.heap h' → Q PUnit.unit { s with heap := h' }) → wpAny (model prog w) A (forIn (List.range eso.size) PUnit.unit fun i (_ : PUnit) => (do
      let l ← dictEntries o
      match l[i]? with
      | some e => do
        holding [e.key, e.val] (dictPut d e.hash e.key e.val)
        let ep ← dictEpoch o
        if (ep != epo) = true then do
          (unsupported "dict.changed-during-merge" : Sem PUnit)
          pure (ForInStep.yield PUnit.unit)
        else pure (ForInStep.yield PUnit.unit)
      | _ => do
        (unsupported "dict.changed-during-merge" : Sem PUnit)
        pure (ForInStep.yield PUnit.unit) : Sem (ForInStep PUnit))) Q E s := by
    intro Q hQ
    rw [List.range_eq_range']
    refine wpAny_forIn_list _
      (fun rest _ s' => ∃ h' i, s' = { s with heap := h' } ∧ rest = List.range' i (eso.size - i) ∧ i ≤ eso.size ∧ h'.DictOf knd d (merged kvs (more.take i)) ∧ h'.get? o = some oo ∧ Heap.SameBut d s.heap h')
      _ ?_ ?_ _ _ ⟨s.heap, 0, rfl, by simp, Nat.zero_le _, by simpa [merged] using hd, hoo, Heap.SameBut.refl _ _⟩
    · rintro x rest b s' ⟨h', i, rfl, hr, hi, hd', hoo', hs'⟩
      have hlt : i < eso.size := by
        rcases Nat.lt_or_ge i eso.size with h | h
        · exact h
        · rw [Nat.sub_eq_zero_of_le h] at hr; simp at hr
      obtain ⟨rfl, hrest⟩ : x = i ∧ rest = List.range' (i + 1) (eso.size - (i + 1)) := by
        have e : eso.size - i = (eso.size - (i + 1)) + 1 := by omega
        rw [e, List.range'_succ] at hr
        injection hr with h1 h2
        exact ⟨h1, h2⟩
      refine wpAny_bind (wpAny_dictEntries hoo' hdo' ?_)
      rw [Array.getElem?_eq_getElem hlt]
      obtain ⟨kv, hkv⟩ : ∃ kv, more[x]? = some kv := ⟨more[x]'(by rw [hlen]; exact hlt), List.getElem?_eq_getElem _⟩
      obtain ⟨k, v⟩ := kv
      obtain ⟨hkey, hval⟩ := hpo.get? (e := eso[x]) (by simp [hlt]) hkv
      obtain ⟨k', hkey', hhash⟩ := hko eso[x] (Array.getElem_mem hlt)
      obtain rfl : k' = k := knd.inj _ _ _ hkey' hkey
      show wpAny _ _ (holding [eso[x].key, eso[x].val] (dictPut d eso[x].hash eso[x].key eso[x].val) >>= _) _ _ _
      rw [hhash, hval]
      have hmx : (merged kvs (more.take x)).length ≤ sizeLine := by
        have e1 := merged_length_le kvs (more.take x)
        have e2 : (more.take x).length ≤ more.length := by rw [List.length_take]; omega
        omega
      refine wpAny_bind (wpAny_holding (ah_put (hsz := hmx) hkey hd' fun h'' hd'' hs'' => ?_))
      have hoo'' : h''.get? o = some oo := (hs''.2 o (Ne.symm hdo)).trans hoo'
      refine wpAny_bind (wpAny_dictEpoch hoo'' hdo' ?_)
      rw [if_neg (by simp)]
      exact wpAny_pure ⟨h'', x + 1, rfl, hrest, hlt, by rw [merged_take_succ kvs more x (k', v) hkv]; exact hd'', hoo'', hs'.trans hs''⟩
    · rintro b s' ⟨h', i, rfl, hr, hi, hd', hoo', hs'⟩
      have hin : i = eso.size := by
        rcases Nat.lt_or_ge i eso.size with h | h
        · have e : eso.size - i = (eso.size - (i + 1)) + 1 := by omega
          rw [e, List.range'_succ] at hr; exact nomatch hr
        · exact Nat.le_antisymm hi h
      refine hQ h' ?_ ⟨oo, eso, epo, hoo', hco, hdo', hko, hpo, hno⟩ hs'
      rw [hin, ← hlen, List.take_length] at hd'; exact hd'
  unfold mergeMapping
  refine wpAny_bind (wpAny_isInstance ho.typeIs isSubtype_dict_dict ?_)
  rw [if_pos rfl]
  refine wpAny_bind (wpAny_specialOf ho.typeIs F.slot_dict_iter.lookup ?_)
  refine wpAny_bind (wpAny_pure ?_)
  rw [show ((some (Value.builtin "dict.__iter__") == some (Value.builtin "dict.__iter__")) = true) from by decide]
  dsimp only
  rw [hoS, if_neg Bool.false_ne_true]
  refine wpAny_bind (wpAny_dictEntries hod hdd ?_)
  have rest : wpAny (model prog w) A (do
      let l ← dictEntries o
      let size := l.size
      let epoch ← dictEpoch o
      forIn (List.range size) PUnit.unit fun i (_ : PUnit) => (do
        let l ← dictEntries o
        match l[i]? with
        | some e => do
          holding [e.key, e.val] (dictPut d e.hash e.key e.val)
          let ep ← dictEpoch o
          if (ep != epoch) = true then do
            (unsupported "dict.changed-during-merge" : Sem PUnit)
            pure (ForInStep.yield PUnit.unit)
          else pure (ForInStep.yield PUnit.unit)
        | _ => do
          (unsupported "dict.changed-during-merge" : Sem PUnit)
          pure (ForInStep.yield PUnit.unit) : Sem (ForInStep PUnit))
      pure ()) Q E s := by
    refine wpAny_bind (wpAny_dictEntries hoo hdo' ?_)
    refine wpAny_bind (wpAny_dictEpoch hoo hdo' ?_)
    exact wpAny_bind (loop fun h' a b c => wpAny_pure (hQ h' a b c))
  split
  · refine wpAny_bind (wpAny_dictEntries hoo hdo' ?_)
    refine wpAny_bind ?_
    rw [← Array.forIn_toList]
    refine wpAny_forIn_list _ (fun r _ s' => s' = s ∧ ∀ e ∈ r, e ∈ eso) _ ?_ ?_ _ _ ⟨rfl, fun e he => Array.mem_toList_iff.mp he⟩
    · rintro e r b s' ⟨rfl, hr⟩
      obtain ⟨k, hk, _⟩ := hko e (hr e (List.mem_cons_self ..))
      have hne := hkr k e.key
      split
      · next a ha => exact absurd ha (hne a hk)
      · exact wpAny_pure ⟨rfl, fun e he => hr e (List.mem_cons_of_mem _ he)⟩
    · rintro b s' ⟨rfl, _⟩
      exact rest
  · exact rest
end
end PySem
namespace L2
open PySem PySem.Spec PyProof.Rows
theorem keyIs_noref : ∀ (k : Key) (key : Value) (a : Addr), keyIs k key = true → key ≠ .ref a
  | .inl _, _, _, h => fun e => by subst e; cases h
  | .inr _, _, _, h => fun e => by subst e; cases h
/-- {**d, k: v} -/
def tMerge1 (td tk tv : TE) : TE := fun σ H Q => ∀ p, H p = none → td σ (upd H p (.dK [])) fun x H1 => ∃ (a : Addr) (l : List (Key × V)), x = .ref a ∧ p ≠ a ∧ l.length ≤ 1000 ∧ H1 a = some (.dK l) ∧ H1 p = some (.dK []) ∧
  ∀ q, (upd H1 p (.dK (mergeK [] l))) q = none → tk σ (upd (upd H1 p (.dK (mergeK [] l))) q (.dK [])) fun y H2 => tv σ H2 fun z H3 => ∃ kk : Key, y = kV kk ∧ H3 q = some (.dK []) ∧ H3 p = some (.dK (mergeK [] l)) ∧
    Q (.ref p) (upd (upd H3 q (.dK (mergeK [] [(kk, z)]))) p (.dK (mergeK (mergeK [] l) (mergeK [] [(kk, z)]))))
theorem pe_merge1 {X : Cx} {d k v : Expr} {td tk tv : TE} {pos : Pos} (hd : PE X d td) (hk : PE X k tk) (hv : PE X v tv) : PE X (.Dict [none, some k] [d, v] pos) (tMerge1 td tk tv) := by
  refine ⟨fun pins s σ H Q I q => ?_⟩
  have hn := I.hok.fresh (Nat.le_refl s.heap.objs.size)
  have I1 := I.laid (a := s.heap.objs.size) (o := .dK []) (h' := s.heap.push { cls := .type "dict", data := .dict #[] }) (t' := s.toks) (fun _ _ q => Heap.get?_push_of_some _ q) (Nat.le_refl _) (dk_empty s.heap I.big)
  rw [arm_eval_Dict]
  refine wpAny_bind (wpAny_standAt ?_)
  show wpAny _ _ (dictDisplay [(none, do let x ← eval d X.env; standAt pos; pure x), (some (eval k X.env), do let x ← eval v X.env; standAt pos; pure x)]) _ _ _
  unfold dictDisplay
  simp only [List.forIn_cons, List.forIn_nil, List.isEmpty_nil, if_true, pure_bind, bind_assoc, List.nil_append, List.length_cons, List.length_nil, List.isEmpty_cons, Bool.false_eq_true, if_false, show ((0 + 1 == 17) = true) = False from by simp]
  refine wpAny_bind (wpAny_alloc ?_)
  refine wpAny_bind (wpAny_holding (wpAny_bind (thn (hd.run pins _ σ _ _ I1 (q _ hn)) fun u s1 ⟨x, H1, I2, rx, a, l, ex, hpa, hl, ha, hp, k1⟩ => wpAny_bind (wpAny_standAt (wpAny_pure ?_)))))
  subst ex
  obtain rfl : u = Value.ref a := rx
  obtain ⟨za, hda, vsa, ra, dda⟩ := dk_of I2.hok ha
  obtain ⟨zp, hdp, vsp, rp, ddp⟩ := dk_of I2.hok hp
  cases rp
  have hlv : vsa.length = l.length := ra.length.symm
  have hl0 : (mergeK [] l).length ≤ l.length := by
    have := length_mergeK l []
    rw [List.length_nil] at this
    omega
  refine wpAny_bind (wpAny_onRaise (wpAny_tryCatch (wpAny_onRaise (wpAny_holding (ah_merge (knd := mixKind X.prog X.w) keyIs_noref hpa hda ddp dda (fun h1 dd1 _ hs1 => ?_) (by rw [List.length_nil, hlv, sizeLine_eq]; omega))))))
  have he1 : ∃ q, h1.get? s.heap.objs.size = some q := let ⟨q, _, _, hq, _⟩ := dd1; ⟨q, hq⟩
  have I3 : Inv X pins σ (upd H1 s.heap.objs.size (.dK (mergeK [] l))) { s1 with heap := h1, toks := s1.toks } := d_write I2 (by rw [hp]; exact True.intro) hs1 he1 (dk_new (by rw [sizeLine_eq]; omega) hdp (ra.merge .nil) dd1)
  have hnq := I3.hok.fresh (Nat.le_refl h1.objs.size)
  have I4 := I3.laid (a := h1.objs.size) (o := .dK []) (h' := h1.push { cls := .type "dict", data := .dict #[] }) (t' := s1.toks) (fun _ _ q => Heap.get?_push_of_some _ q) (Nat.le_refl _) (dk_empty h1 I3.big)
  refine wpAny_bind (wpAny_holding (wpAny_subDict (knd := mixKind X.prog X.w) (by show 1 ≤ 15; decide) ?_))
  refine evalPairs_cons (thn (hk.run pins _ σ _ _ I4 (k1 _ hnq)) fun uy s2 ⟨y, H2, I5, ry, q5⟩ => wpAny_bind (thn (hv.run pins s2 σ H2 _ I5 q5) fun uz s3 ⟨z, H3, I6, rz, kk, ey, hq3, hp3, q6⟩ => wpAny_bind (wpAny_standAt (wpAny_pure (evalPairs_nil ?_)))))
  subst ey
  obtain ⟨zq, hdq, vsq, rq, ddq⟩ := dk_of I6.hok hq3
  cases rq
  refine ⟨[(kk, uz)], ⟨kV_is ry, rfl, trivial⟩, ddq, fun h4 dd4 hs4 => ?_⟩
  have rm : KV (mergeK [] [(kk, z)]) (merged [] [(kk, uz)]) := KV.merge (.cons ⟨rfl, rz⟩ .nil) .nil
  have he4 : ∃ q, h4.get? h1.objs.size = some q := let ⟨q, _, _, hq, _⟩ := dd4; ⟨q, hq⟩
  have hne : s.heap.objs.size ≠ h1.objs.size := fun e => by rw [← e, upd_same] at hnq; cases hnq
  have I7 : Inv X pins σ (upd H3 h1.objs.size (.dK (mergeK [] [(kk, z)]))) { s3 with heap := h4, toks := s3.toks + 1 } := d_write I6 (by rw [hq3]; exact True.intro) hs4 he4 (dk_new (by rw [sizeLine_eq]; exact Nat.le_trans (length_mergeK [(kk, z)] []) (by show 1 ≤ 16777216; decide)) hdq rm dd4)
  obtain ⟨zp7, hdp7, vsp7, rp7, ddp7⟩ := dk_of I7.hok (show upd H3 h1.objs.size (.dK (mergeK [] [(kk, z)])) s.heap.objs.size = some (.dK (mergeK [] l)) by rw [upd_ne hne]; exact hp3)
  have h17 : (merged [] [(kk, uz)] : List (Key × Value)).length ≤ 1 := merged_length_le [] [(kk, uz)]
  have hl7 : vsp7.length = (mergeK [] l).length := rp7.length.symm
  refine wpAny_bind (wpAny_onRaise (wpAny_holding (ah_merge (knd := mixKind X.prog X.w) keyIs_noref hne hdq ddp7 dd4 (fun h5 dd5 _ hs5 => ?_) (by rw [hl7, sizeLine_eq]; omega))))
  have he5 : ∃ q, h5.get? s.heap.objs.size = some q := let ⟨q, _, _, hq, _⟩ := dd5; ⟨q, hq⟩
  have hlm : (mergeK (mergeK [] l) (mergeK [] [(kk, z)])).length ≤ sizeLine := by
    have e1 := length_mergeK (mergeK [] [(kk, z)]) (mergeK [] l)
    have e2 := length_mergeK [(kk, z)] []
    rw [sizeLine_eq]
    simp only [List.length_nil, List.length_cons] at e2
    omega
  have I8 := d_write (t' := s3.toks + 1) I7 (by rw [upd_ne hne, hp3]; exact True.intro) hs5 he5 (dk_new hlm hdp7 (KV.merge rm rp7) dd5)
  exact wpAny_pure ⟨.ref s.heap.objs.size, _, I8, rfl, q6⟩
end L2
namespace Ah
open PySem PySem.Spec PyProof.Rows L2 Evl
/-- repr(text) -/
def rReprS : List V → Hp → VK → Prop := fun xs H Q => ∃ x, xs = [.str x] ∧ (reprText x).length ≤ sizeLine ∧ Q (.str (reprText x)) H
theorem call_reprS {X : Cx} : CallR X (.builtin "repr") rReprS := by
  intro pins s σ H xs us Q I r h
  obtain ⟨x, rfl, hz, q⟩ := h
  obtain ⟨u, rfl, t, rfl⟩ := vals1 r
  exact PySem.P.repr_of_str ⟨.str _, H, I.tok _, ⟨_, rfl⟩, q⟩ hz
end Ah
/-! Ah31: try with several clauses, some of them with a name. -/
namespace L2
open PySem PySem.Spec PyProof.Rows
/-- what a clause does: its class, the slot of its name, its suite -/
structure Cls1 where
  c : Value
  n : Option Nat
  ts : Addr → Value → Option Addr → TS
def Ends.gone (D : Ends) (i : Nat) : Ends := { nx := fun σ' H' => D.nx (σ'.set i none) H', rt := D.rt, bk := fun σ' H' => D.bk (σ'.set i none) H', ct := fun σ' H' => D.ct (σ'.set i none) H' }
def wCls (K : PySem.W.Frag) (Wout : WX) (D : Ends) : List Cls1 → WX
  | [] => Wout
  | q :: r => fun cls d σ H => ∃ b, PySem.W.exmOne K cls q.c = some b ∧
      (b = true → ∀ a, H a = none → match q.n with
        | none => q.ts a cls d D σ H
        | some i => q.ts a cls d (D.gone i) (σ.set i (some (.ref a))) H) ∧
      (b = false → wCls K Wout D r cls d σ H)
inductive HdOk (X : Cx) : List ExceptHandler → List Cls1 → Prop
  | nil : HdOk X [] []
  | no {x : Str} {q : Cls1} {b₀ : Stmt} {suite : List Stmt} {np pos' : Pos} {hds : List ExceptHandler} {l : List Cls1} (hc : Names X x q.c) (hn : q.n = none)
      (hsu : ∀ (a : Addr) (oe : Obj) (cls : Value) (d : Option Addr) (pn : List (Addr × Obj)), Zc cls d oe → (∃ vs, oe.data = .fields vs) → PSs (X.suite a ((a, oe) :: pn)) (b₀ :: suite) (q.ts a cls d)) (r : HdOk X hds l) :
      HdOk X (.ExceptHandler (some (.Name x np)) none (b₀ :: suite) pos' :: hds) (q :: l)
  | as {x n : Str} {i : Nat} {q : Cls1} {b₀ : Stmt} {suite : List Stmt} {np pos' : Pos} {hds : List ExceptHandler} {l : List Cls1} (hc : Names X x q.c) (hn : q.n = some i) (hi : X.N[i]? = some n) (hln : X.env.kindOf n = some .local)
      (hsu : ∀ (a : Addr) (oe : Obj) (cls : Value) (d : Option Addr) (pn : List (Addr × Obj)), Zc cls d oe → (∃ vs, oe.data = .fields vs) → PSs (X.suite a ((a, oe) :: pn)) (b₀ :: suite) (q.ts a cls d)) (r : HdOk X hds l) :
      HdOk X (.ExceptHandler (some (.Name x np)) (some n) (b₀ :: suite) pos' :: hds) (q :: l)
section
variable {X : Cx}
/-- the class of a clause, evaluated in its test -/
theorem cls_test {pins : List (Addr × Obj)} {σ : St} {H : Hp} {s : Shared} {a : Addr} {oe : Obj} {pn : List (Addr × Obj)} {x : Str} {c : Value} {np : Pos} {Q E : Value → Shared → Prop} (hc : Names X x c) (S : Inv (X.suite a ((a, oe) :: pn)) pins σ H s) (q : Q c s) :
    wpAny (model X.prog X.w) (X.A.mark (some (.ref a))) (eval (.Name x np) X.env) Q E s := by
  obtain ⟨hg, hdbg, hm | ⟨hm, hv, hnn⟩⟩ := hc
  · exact ld_glob (X := X.suite a ((a, oe) :: pn)) S hg hm q hdbg
  · exact ld_blt (X := X.suite a ((a, oe) :: pn)) S hg hm hv q hnn hdbg
variable {body : List Stmt} {h₀ : ExceptHandler} {hds : List ExceptHandler} {l : List Cls1} {pos : Pos} {tb : WX → TS} {Wout : WX}
theorem ps_try_cls (hs : X.stack = X.env :: X.outer) (hf : X.env.frame = some X.env.locals) (hN : X.N.Nodup) (tk : Takes X Wout)
    (hb : ∀ (W : WX) (pn : List (Addr × Obj)) (xe : Value → Shared → Prop), Takes (X.tr pn xe) W → PassesOwn (model X.prog X.w) X.A X.env xe → PSs (X.tr pn xe) body (tb W))
    (hh : HdOk X (h₀ :: hds) l) : PS X (.Try body (h₀ :: hds) [] [] pos) (fun D σ H => tb (wCls X.K Wout D l) D σ H) := by
  refine ⟨fun pins s σ H D I h => ?_⟩
  have ok := I.ok
  have hfr : X.A.frames = some (X.env :: X.outer) := by rw [ok.frames, hs]
  refine wpAny_Try_except ?_
  -- a flow behind the body, behind a suite
  have flow : ∀ {pn : List (Addr × Obj)} {xe : Value → Shared → Prop} {f : Flow} {s1 : Shared}, SP (X.tr pn xe) [] D f s1 → pn = X.pn ++ pins → SP X pins D f s1 := fun {pn xe f s1} hsp e => by
    subst e
    cases f with
    | ret u =>
      obtain ⟨v, σ', H', J', r, q⟩ := hsp
      exact ⟨v, σ', H', J'.ofTry ok, r, q⟩
    | next =>
      obtain ⟨σ', H', J', q⟩ := hsp
      exact ⟨σ', H', J'.ofTry ok, q⟩
    | brk =>
      obtain ⟨σ', H', J', q⟩ := hsp
      exact ⟨σ', H', J'.ofTry ok, q⟩
    | cont =>
      obtain ⟨σ', H', J', q⟩ := hsp
      exact ⟨σ', H', J'.ofTry ok, q⟩
  refine wpAny_mono ((hb (wCls X.K Wout D l) (X.pn ++ pins) (fun e s₁ => wpAny (model X.prog X.w) X.A (noteFrame e X.env) (fun _ s₂ => wpAny (model X.prog X.w) X.A (setFlight e none) (fun _ s₃ =>
    wpAny (model X.prog X.w) X.A (handleBy e X.env (h₀ :: hds)) (SP X pins D) X.xe s₃) X.xe s₂) X.xe s₁) (fun u s' xx => ?_) PassesOwn.looking).run [] s σ H D (I.toTry _) h) (fun f s1 hsp => ?_) (fun e s1 he => he)
  · obtain ⟨a, B, sI, pins', σ', H', cls, d, rfl, J', nb, up, sky, na, os, ag, w⟩ := xx
    have J : Inv X pins σ' H' sI := J'.ofTry ok
    show wpAny (model X.prog X.w) X.A (noteFrame (.ref a) X.env) _ _ _
    refine Sky.land Zc.steady hfr hf (by rw [← hs]; exact sky) fun h3 fl3 up3 => ?_
    have J3 : Inv X pins σ' H' { s' with heap := h3 } := J.landed nb fl3.1 (up.trans up3) os ag
    obtain ⟨oe3, vs3, he3, hz3, hd3⟩ := fl3.there
    have nfr : a ∉ frs (X.env :: X.outer) := fun hm => by
      obtain ⟨_, o', e', hnf⟩ := fl3.2.2.1.mem hm
      rw [he3] at e'
      cases e'
      exact hnf _ hd3
    have nL : a ≠ X.env.locals := fun z => nfr (List.mem_filterMap.mpr ⟨X.env, List.mem_cons_self, by rw [hf, z]⟩)
    have nF : a ∉ X.fs := fun hm => by
      obtain ⟨e, he, q⟩ := List.mem_filterMap.mp hm
      exact nfr (List.mem_filterMap.mpr ⟨e, List.mem_cons_of_mem _ he, q⟩)
    have S3 := J3.suite he3 hd3 na nL nF
    have LT : PySem.W.Looks (model X.prog X.w) h3 (typeOf (.ref a)) cls := fun A Q E s k q => wpAny_typeOf_ref (k _ _ he3) (by rw [hz3.1]; exact q)
    have go : ∀ {hds' : List ExceptHandler} {l' : List Cls1}, HdOk X hds' l' → wCls X.K Wout D l' cls d σ' H' →
        wpAny (model X.prog X.w) X.A (handleBy (.ref a) X.env hds') (SP X pins D) X.xe { s' with heap := h3 } := by
      intro hds' l' hk
      induction hk with
      | nil =>
        intro w
        refine wpAny_handleBy_nil ?_
        obtain ⟨_, _, _, oe, vs, T, oT, ts', _, _, hd, h1, _⟩ := id fl3
        rename_i he _ _
        unfold PySem.passOn
        refine wpAny_bind (wpAny_field he hd h1 ?_)
        rw [if_neg (show ¬ ((Value.ref T == Value.none) = true) from by simp)]
        have fin : wpAny (model X.prog X.w) X.A (setFlight (.ref a) X.env.frame) (fun _ s4 => wpAny (model X.prog X.w) X.A (throw (.ref a) : Sem Flow) (SP X pins D) X.xe s4) X.xe { s' with heap := h3 } := by
          rw [hf]
          exact HandSPX.setFlight_upZ fl3 fun h4 hh4 up4 => wpAny_throw (tk _ _ ⟨a, B, sI, pins, σ', H', cls, d, rfl, J, nb, (up.trans up3).trans up4, .inr (.inr (by rw [hs]; exact hh4)), na, os, ag, w⟩)
        first
          | exact wpAny_bind (wpAny_pure (wpAny_bind fin))
          | exact wpAny_bind fin
      | no hc hn hsu r ih =>
        rintro ⟨b, hb1, hyes, hno⟩
        refine wpAny_handleBy_cons (codeAny_handlers_test ?_) (by intro q; cases q)
        refine cls_test hc S3 ((PySem.W.exm_one (M := model X.prog X.w) J3.kIn LT hb1).here ?_)
        cases b with
        | false => exact ih (hno rfl)
        | true =>
          refine codeAny_handlers_suite ?_
          refine HandSPX.lands_againZ fl3 fun h4 fl4 up4 => ?_
          obtain ⟨oe4, vs4, he4, hz4, hd4⟩ := fl4.there
          have S4 := (J.landed nb fl4.1 ((up.trans up3).trans up4) os ag : Inv X pins σ' H' { s' with heap := h4 }).suite he4 hd4 na nL nF
          have y := hyes rfl a na
          rw [hn] at y
          refine wpAny_mono ((hsu a oe4 cls d (X.pn ++ pins) hz4 ⟨_, hd4⟩).run [] _ _ H' _ S4 y) (fun f s6 hsp => ?_) (fun _ _ z => False.elim z)
          cases f with
          | ret u =>
            obtain ⟨v6, σ6, H6, S6, r6, q6⟩ := hsp
            exact ⟨_, _, _, S6.unsuite ok, r6, q6⟩
          | next =>
            obtain ⟨σ6, H6, S6, q6⟩ := hsp
            exact ⟨_, _, S6.unsuite ok, q6⟩
          | brk =>
            obtain ⟨σ6, H6, S6, q6⟩ := hsp
            exact ⟨_, _, S6.unsuite ok, q6⟩
          | cont =>
            obtain ⟨σ6, H6, S6, q6⟩ := hsp
            exact ⟨_, _, S6.unsuite ok, q6⟩
      | @as x n i q b₀ suite np pos' hds2 l2 hc hn hi hln hsu r ih =>
        rintro ⟨b, hb1, hyes, hno⟩
        refine wpAny_handleBy_cons (codeAny_handlers_test ?_) (by intro q; cases q)
        refine cls_test hc S3 ((PySem.W.exm_one (M := model X.prog X.w) J3.kIn LT hb1).here ?_)
        cases b with
        | false => exact ih (hno rfl)
        | true =>
          refine codeAny_handlers_suite_as ?_
          refine HandSPX.lands_againZ fl3 fun h4 fl4 up4 => ?_
          obtain ⟨oe4, vs4, he4, hz4, hd4⟩ := fl4.there
          have S4 := (J.landed nb fl4.1 ((up.trans up3).trans up4) os ag : Inv X pins σ' H' { s' with heap := h4 }).suite he4 hd4 na nL nF
          have y := hyes rfl a na
          rw [hn] at y
          refine store_ok (X := X.suite a ((a, oe4) :: (X.pn ++ pins))) (v := .ref a) S4 hN hi (.inl hln) rfl (fun s5 S5 => ?_) (.inr hln)
          refine wpAny_mono ((hsu a oe4 cls d (X.pn ++ pins) hz4 ⟨_, hd4⟩).run [] s5 _ H' _ S5 y) (fun f s6 hsp => ?_) (fun _ _ z => False.elim z)
          have gone : ∀ {σ6 : St} {H6 : Hp} {Q : Shared → Prop}, Inv (X.suite a ((a, oe4) :: (X.pn ++ pins))) [] σ6 H6 s6 → (∀ s7, Inv X pins (σ6.set i none) H6 s7 → Q s7) →
              wpAny (model X.prog X.w) X.A (do bindName X.env n .none; unbindBehindTheSuite X.env n pos') (fun _ s7 => Q s7) X.xe s6 := fun S6 hq => gone_ok (S6.unsuite ok) hN hi hln hq
          cases f with
          | ret u =>
            obtain ⟨v6, σ6, H6, S6, r6, q6⟩ := hsp
            exact gone S6 fun s7 J7 => ⟨_, _, _, J7, r6, q6⟩
          | next =>
            obtain ⟨σ6, H6, S6, q6⟩ := hsp
            exact gone S6 fun s7 J7 => ⟨_, _, J7, q6⟩
          | brk =>
            obtain ⟨σ6, H6, S6, q6⟩ := hsp
            exact gone S6 fun s7 J7 => ⟨_, _, J7, q6⟩
          | cont =>
            obtain ⟨σ6, H6, S6, q6⟩ := hsp
            exact gone S6 fun s7 J7 => ⟨_, _, J7, q6⟩
    exact go hh w
  · have z := flow hsp rfl
    cases f with
    | next => exact wpAny_execs_nil z
    | ret u => exact z
    | brk => exact z
    | cont => exact z
end
end L2
/-! Ah32: classes made, methods called, properties read, with exceptions let out. -/
namespace Ah
open PySem PySem.Spec PyProof.Rows L2 Evl
section
variable {X : Cx} {k j : Nat} {x : Str} {C : Addr} {sp : Sp} {p pos apos : Pos} {e o : Expr} {es : List Expr} {t : TA} {ta : TE} {E : XK}
theorem pe_makX (c : Mak X.prog X.w X.K X.mg X.base (L2.CX X.prog X.w) k x C sp) (hr : Room j X.A) (hk : k + 1 ≤ j) (tk : Takes X (fun cls d _ H => E cls d H)) (hg : Gl X x) (ha : PA X (e :: es) t)
    (hdb : (x == ("__debug__" : Str)) = false := by decide) (he : starEach (e :: es) X.env = (false, eval e X.env) :: starEach es X.env := by rfl) (hpl : (backTo pos (starEach es X.env)).any (·.1) = false := by rfl) :
    PE X (.Call (.Name x p) (e :: es) [] pos) (tMake C sp [] E t) := by
  obtain ⟨f, fd, ps, M, F, hm, b⟩ := c.ex
  exact pe_make M F (hr.mono hk) hg hm b .nil (passes_call tk fun _ _ _ _ h => h) ha hdb he hpl
/-- a method by its name -/
structure Pmt (P : Program) (w : World) (K : PySem.W.Frag) (mg : Str → Option Value) (base : Heap) (CX : CXT) (k : Nat) (C : Addr) (m : Str) (sp : Sp) : Prop where
  ex : ∃ (f : Addr) (fd : FuncData) (ps : List Str), FnOk P w K mg base CX k f fd ps sp ∧ Meth K C m f ∧ Cls K C ∧ Binds K fd ps []
/-- o.m(e, ..), in a try's body -/
def tMethS (C : Addr) (m : Str) (sp : Sp) (E : L2.St → XK) (ta : TE) (t : TA) : TE := fun σ H Q => ta σ H fun x H1 => ∃ a dx fs, x = .ref a ∧ H1 a = some (.ins C dx fs) ∧ fs.lookup m = none ∧ t σ H1 fun vs H2 => sp (.ref a :: vs) H2 Q (E σ)
theorem pe_metS {m : Str} {E : L2.St → XK} {pl : Sem Bool} (c : Pmt X.prog X.w X.K X.mg X.base (L2.CX X.prog X.w) k C m sp) (hr : Room j X.A) (hk : k ≤ j) (hx : ∀ σ, PassesAt (L2.CX X.prog X.w) X σ (E σ)) (he : PE X o ta) (ha : PA X (e :: es) t)
    (hst : starEach (e :: es) X.env = (false, eval e X.env) :: starEach es X.env := by rfl) (hpl : (backTo pos (starEach es X.env)).any (·.1) = false := by rfl)
    (ht : eval (.Call (.Attribute o m apos) (e :: es) [] pos) X.env = (do
      let ov ← eval o X.env
      standAt apos.atName
      let (f, first) ← holding [ov] (getMethod ov m pl)
      callWith pos f first (backTo pos (starEach (e :: es) X.env)) (backToKw pos (keywordEach [] X.env))) := by rfl) :
    PE X (.Call (.Attribute o m apos) (e :: es) [] pos) (tMethS C m sp E ta t) := by
  obtain ⟨f, fd, ps, F, hm, cl, b⟩ := c.ex
  refine ⟨fun pins s σ H Q I h => ?_⟩
  refine PySem.W.methodCall_KW (pl := pl) (thn (he.run pins s σ H _ I h) fun u s1 ⟨x, H1, I1, rx, a, dx, fs, ex, ea, l, q⟩ => ?_) ht
  subst ex
  obtain rfl : u = Value.ref a := rx
  refine getmeth_ok I1 ea cl hm l ?_
  refine PySem.W.callWith_K (first := [.ref a]) (h₀ := X.base) I.ok.mod.kin hm.kp (thn (ha.run pos pins s1 σ H1 _ I1 q) fun us s2 ⟨vs, H2, I2, r, q2⟩ => ⟨I2.kIn, ?_⟩) hst hpl
  exact run_fnS (us := .ref a :: us) (vs := .ref a :: vs) F (hr.mono hk) b (hx σ) I2 (.cons rfl r) q2
/-- a property by its name -/
structure Prp (P : Program) (w : World) (K : PySem.W.Frag) (mg : Str → Option Value) (base : Heap) (k : Nat) (C : Addr) (m : Str) (sp : Sp) : Prop where
  ex : ∃ (p f : Addr) (fd : FuncData) (ps : List Str), FnOk P w K mg base CX0 k f fd ps sp ∧ PropOf K C m p f ∧ Cls K C ∧ Binds K fd ps []
theorem pe_prp {m : Str} (c : Prp X.prog X.w X.K X.mg X.base k C m sp) (hr : Room j X.A) (hk : k + 1 ≤ j) (he : PE X e ta) (hab : attributeBase e m X.env (eval e X.env) = eval e X.env := by rfl) : PE X (.Attribute e m pos) (tProp C sp [] E0 ta) := by
  obtain ⟨p, f, fd, ps, F, hp, cl, b⟩ := c.ex
  exact pe_prop he cl hp F (hr.mono hk) b .nil pass0 hab
end
end Ah
/-! Ah33: dicts of any data; exceptions of any own class. -/
namespace Ah
open PySem PySem.Spec PyProof.Rows L2 Evl

/-! ### exceptions -/
inductive Xo where
  | fld (C : Addr) (f : Str) (z : V)
  | no (C : Addr)
def Xo.run (E : XK) (H : Hp) : Xo → Prop
  | .fld C f z => ∀ d H', Ex H H' → H' d = none → E (.ref C) (some d) (upd H' d (.xd [(f, z)]))
  | .no C => ∀ H', Ex H H' → E (.ref C) none H'
theorem Xo.up {E : XK} {H H1 : Hp} {x : Xo} (h : x.run E H) (e : Ex H H1) : x.run E H1 := by
  cases x with
  | fld C f z => exact fun d H' e2 => h d H' (e.trans e2)
  | no C => exact fun H' e2 => h H' (e.trans e2)
def spZ {ι κ : Type} (args : ι → List (MP V)) (res : ι → MP V) (bad : κ → List (MP V)) (xo : κ → Xo) : Sp := fun vs H Q E =>
  (∃ (i : ι) (G : Hp), Ex G H ∧ AllP vs (args i) G ∧ ∀ v G' H', Ex H H' → Nw H G G' H' → (res i).p v G' → Q v H') ∨ (∃ (j : κ) (G : Hp), Ex G H ∧ AllP vs (bad j) G ∧ (xo j).run E H)
theorem spZ_len {ι κ : Type} {args : ι → List (MP V)} {res : ι → MP V} {bad : κ → List (MP V)} {xo : κ → Xo} {n : Nat} (hn : ∀ i, (args i).length = n) (hm : ∀ j, (bad j).length = n) : ∀ vs H Q E, spZ args res bad xo vs H Q E → vs.length = n := fun vs H Q E h => by
  rcases h with ⟨i, G, _, h, _⟩ | ⟨j, G, _, h, _⟩
  · rw [AllP.length h, hn i]
  · rw [AllP.length h, hm j]
def BadZ (E : XK) (x : Xo) (t : TS) (σ : L2.St) (G : Hp) : Prop := ∀ H, Ex G H → x.run E H → ∀ D, t D σ H
def BadZE (E : XK) (x : Xo) (t : TE) (σ : L2.St) (G : Hp) : Prop := ∀ H, Ex G H → x.run E H → ∀ Q, t σ H Q
section
variable {K : PySem.W.Frag} {w : World} {c : Ad} {σ : L2.St} {G G1 : Hp} {ta tb te td : TE} {tas : TA} {tt : TT} {t u tr : TS} {R P : MP V} {E : XK} {x : Xo}
theorem z_asg {i : Nat} (h : Cm (te σ) G R) (k : ∀ v G1, Ex G G1 → R.p v G1 → BadZ E x tr (σ.set i (some v)) G1) : BadZ E x (tSeq (tAsg te (gName i)) tr) σ G :=
  fun H e q D => h H e _ fun v G1 H1 e1 n1 p1 => k v G1 n1.ex p1 H1 n1.le (Xo.up q e1) D
theorem z_drop (h : Cm (te σ) G R) (k : ∀ v G1, Ex G G1 → R.p v G1 → BadZ E x tr σ G1) : BadZ E x (tSeq (tDrop te) tr) σ G :=
  fun H e q D => h H e _ fun v G1 H1 e1 n1 p1 => k v G1 n1.ex p1 H1 n1.le (Xo.up q e1) D
theorem z_asgE {i : Nat} (h : BadZE E x te σ G) : BadZ E x (tSeq (tAsg te (gName i)) tr) σ G := fun H e q D => h H e q _
theorem z_retE (h : BadZE E x te σ G) : BadZ E x (tRet te) σ G := fun H e q D => h H e q _
theorem z_dropE (h : BadZE E x te σ G) : BadZ E x (tSeq (tDrop te) tr) σ G := fun H e q D => h H e q _
theorem z_ifT (h : Cm (tt σ) G (MP.eq true)) (k : BadZ E x t σ G) : BadZ E x (tSeq (tIfS tt t u) tr) σ G :=
  fun H e q D => h H e _ fun v G1 H1 e1 n1 p1 => by
    have p1 : v = true := p1
    subst p1
    exact iteT (k H1 (e.trans e1) (Xo.up q e1) _)
theorem z_ifF (h : Cm (tt σ) G (MP.eq false)) (k : BadZ E x tr σ G) : BadZ E x (tSeq (tIfS tt t tNext) tr) σ G :=
  fun H e q D => h H e _ fun v G1 H1 e1 n1 p1 => by
    have p1 : v = false := p1
    subst p1
    exact iteF (k H1 (e.trans e1) (Xo.up q e1) _)
theorem z_raise {C : Addr} {f : Str} {z : V} (h : Cm (te σ) G (MP.eq z)) : BadZ E (.fld C f z) (tRaiseF C f (fun cls d _ H => E cls d H) (tCons te tNil)) σ G :=
  fun H e q D => h H e _ fun v G1 H1 e1 n1 p1 => ⟨_, rfl, fun d hd => by
    have p1 : v = z := p1
    subst p1
    exact q d H1 e1 hd⟩
theorem z_raise0 {C : Addr} : BadZ E (.no C) (tRaise0 C (fun cls d _ H => E cls d H)) σ G := fun H e q D => q H (Ex.refl H)
variable {ι κ : Type} {args : ι → List (MP V)} {res : ι → MP V} {bad : κ → List (MP V)} {xo : κ → Xo}
theorem c_callZ (i : ι) (h : Cm (tas σ) G (MP.args (args i))) : Cm (tCall (spZ args res bad xo) [] E tas σ) G (res i) :=
  Cm.bind (t := tas σ) (u := fun (vs : List V) (H : Hp) (Q : VK) => spZ args res bad xo (vs ++ []) H Q E) h fun vs G1 e1 p => fun H eh Q hq => .inl ⟨i, G1, eh, by rw [List.append_nil]; exact p, hq⟩
theorem z_call (j : κ) (h : Cm (tas σ) G (MP.args (bad j))) : BadZE E (xo j) (tCall (spZ args res bad xo) [] E tas) σ G :=
  fun H e q Q => h H e _ fun vs G1 H1 e1 n1 p1 => .inr ⟨j, G1, n1.le, by rw [List.append_nil]; exact p1, Xo.up q e1⟩
theorem spZ_body {N : List Str} {vs : List V} {H : Hp} {Q : VK} (h : spZ args res bad xo vs H Q E) (k : ∀ i G, AllP vs (args i) G → Cm (bd t (start N vs)) G (res i)) (kx : ∀ j G, AllP vs (bad j) G → BadZ E (xo j) t (start N vs) G) :
    t { nx := fun _ H' => Q .non H', rt := Q } (start N vs) H := by
  rcases h with ⟨i, G, e, ha, q⟩ | ⟨j, G, e, ha, q⟩
  · exact k i G ha H e Q q
  · exact kx j G ha H e q _
end
/-! ### dicts from texts to data -/
inductive KvD (K : PySem.W.Frag) (G : Hp) : List (Key × V) → List (Str × PyData) → Prop
  | nil : KvD K G [] []
  | cons {x : Str} {v : V} {d : PyData} {l : List (Key × V)} {kvs : List (Str × PyData)} (h : Dp K G v d) (r : KvD K G l kvs) : KvD K G ((Sum.inr x, v) :: l) ((x, d) :: kvs)
theorem KvD.up {K : PySem.W.Frag} {G G' : Hp} (e : Ex G G') : ∀ {l : List (Key × V)} {kvs : List (Str × PyData)}, KvD K G l kvs → KvD K G' l kvs
  | _, _, .nil => .nil
  | _, _, .cons h r => .cons (Dp.up e _ _ h) (KvD.up e r)
theorem KvD.keys {K : PySem.W.Frag} {G : Hp} : ∀ {l : List (Key × V)} {kvs : List (Str × PyData)}, KvD K G l kvs → l.map (·.1) = (kvs.map (·.1)).map Sum.inr
  | _, _, .nil => rfl
  | _, _, .cons h r => by rw [List.map_cons, List.map_cons, List.map_cons, r.keys]
theorem KvD.length {K : PySem.W.Frag} {G : Hp} {l : List (Key × V)} {kvs : List (Str × PyData)} (h : KvD K G l kvs) : l.length = kvs.length := by
  have e := congrArg List.length h.keys
  simpa using e
theorem KvD.get {K : PySem.W.Frag} {G : Hp} {x : Str} {d : PyData} : ∀ {l : List (Key × V)} {kvs : List (Str × PyData)}, KvD K G l kvs → kvs.lookup x = some d → ∃ v, valV l (Sum.inr x) = some v ∧ Dp K G v d
  | _, _, .nil, e => nomatch e
  | _, _, .cons (x := y) (v := v) (d := d') (l := l) (kvs := kvs) h r, e => by
    rw [List.lookup_cons] at e
    by_cases hy : x = y
    · subst hy
      rw [beq_self_eq_true] at e
      cases e
      refine ⟨v, ?_, h⟩
      simp [valV]
    · rw [beq_eq_false_iff_ne.mpr hy] at e
      obtain ⟨u, e1, e2⟩ := KvD.get r e
      refine ⟨u, ?_, e2⟩
      have : ¬ ((Sum.inr y : Key) = Sum.inr x) := fun z => hy (Sum.inr.inj z).symm
      simp only [valV] at e1 ⊢
      simpa [this, Ne.symm] using e1
theorem KvD.of_dk {K : PySem.W.Frag} {G : Hp} : ∀ (l : List (Str × Str)), KvD K G (kvD l) (l.map fun q => (q.1, .str q.2))
  | [] => .nil
  | q :: l => .cons (.str _) (KvD.of_dk l)
theorem KvD.to_dk {K : PySem.W.Frag} {G : Hp} : ∀ {l : List (Str × Str)} {L : List (Key × V)}, KvD K G L (l.map fun q => (q.1, PyData.str q.2)) → L = kvD l
  | [], _, h => by cases h; rfl
  | q :: l, _, h => by
    cases h with
    | cons a r => rw [dp_str a, KvD.to_dk r] <;> rfl
abbrev MP.dv (K : PySem.W.Frag) (kvs : List (Str × PyData)) : MP V := ⟨fun v G => ∃ p l, v = .ref p ∧ G p = some (.dK l) ∧ KvD K G l kvs, fun e h => let ⟨p, l, h1, h2, h3⟩ := h; ⟨p, l, h1, e _ _ h2, h3.up e⟩⟩
inductive RuleX where
  | data (d : PyData)
  | dict (kvs : List (Str × PyData))
def MP.rx (K : PySem.W.Frag) : RuleX → MP V
  | .data d => MP.d K d
  | .dict kvs => MP.dv K kvs
section
variable {K : PySem.W.Frag} {w : World} {c : Ad} {σ : L2.St} {G : Hp} {ta tb te td tk : TE} {tt : TT} {kvs : List (Str × PyData)} {x : Str} {d : PyData}
theorem v_isi (h : Cm (te σ) G (MP.dv K kvs)) : Cm (tCB (rIsiG K) (tCons te (tCons (tC (.ty "dict")) tNil)) σ) G (MP.d K (.bool true)) :=
  c_cb2 (P2 := MP.eq (.ty "dict")) h (c_c rfl) fun x y G1 e1 p q => by
    have hy : y = .ty "dict" := q
    subst hy
    obtain ⟨a, l, rfl, ha, _⟩ := p
    exact c_valN (z := .bl true) (fun H eh Q h => .inl ⟨_, _, _, _, true, rfl, .ty "dict", .base (.dK (eh _ _ ha)), kit_ty (by decide +kernel), h⟩) (.bl _)
theorem v_len (h : Cm (td σ) G (MP.dv K kvs)) : Cm (tCB rLenD (tCons td tNil) σ) G (MP.d K (.int kvs.length)) :=
  c_cb1 h fun x G1 e1 p => by
    obtain ⟨p, l, rfl, hp, hk⟩ := p
    refine c_valN (z := .int l.length) (fun H eh Q h => ⟨p, _, rfl, eh _ _ hp, h⟩) ?_
    rw [hk.length]
    exact .int _
theorem v_get (h1 : Cm (td σ) G (MP.dv K kvs)) (h2 : Cm (tk σ) G (MP.d K (.str x))) (hl : kvs.lookup x = some d) : Cm (tDGet td tk σ) G (MP.d K d) :=
  Cm.bind (t := td σ) (u := fun (x : V) (H1 : Hp) (Q : VK) => tk σ H1 fun y H2 => ∃ a v, x = .ref a ∧ DGet H2 a y (some v) ∧ Q v H2) h1 fun v G1 e1 p1 =>
    Cm.bind (t := tk σ) (u := fun (y : V) (H2 : Hp) (Q : VK) => ∃ a z, v = .ref a ∧ DGet H2 a y (some z) ∧ Q z H2) (h2.up e1) fun u G2 e2 p2 => by
      obtain ⟨p, l, rfl, hp, hk⟩ := p1
      rw [dp_str p2]
      obtain ⟨z, hz, pz⟩ := hk.get hl
      intro H eh Q hq
      have hd := DGet.k (k := Sum.inr x) (eh _ _ (e2 _ _ hp))
      rw [hz] at hd
      exact ⟨p, z, rfl, hd, hq z G2 H (Ex.refl H) (Nw.refl eh) (Dp.up e2 _ _ pz)⟩
/-- [te for k in d] -/
theorem v_lcKeys {l : List (Key × V)} {ks : List Str} {j : Nat} {vs : List Nat} {F : Str → PyData} {d : Addr} (hk : l.map (·.1) = ks.map Sum.inr) (hn : ks.length ≤ 90000) (hG : G d = some (.dK l)) (htd : ∀ H1 (Q : VK), Ex (hide G d) H1 → Q (.ref d) H1 → td σ H1 Q)
    (turn : ∀ q G1, q ∈ ks → CTurn K σ vs (gName j) tt te true (F q) (.str q) G1) : Cm (tLockE (tLc (iKeys td) (gName j) tt te vs) σ) G (MP.l K (ks.map F)) := fun H e Q k => by
  have hll : l.length = ks.length := by
    have := congrArg List.length hk
    simpa using this
  refine ⟨d, .dK l, e _ _ hG, trivial, fun od => ?_⟩
  refine htd _ _ (hide_ex e) ⟨d, od, rfl, .inl ⟨l, upd_same, fun D hD => ?_⟩⟩
  have hdD : d ≠ D := ne_of_none upd_same hD
  have lk : ∀ {H'}, Ex (upd H d (.frz od (.dK l))) H' → H' d = some (.frz od (.dK l)) := fun x => x _ _ upd_same
  refine ⟨fun i m H' => m = ks.length - i ∧ i ≤ ks.length ∧ CW K (upd H d (.frz od (.dK l))) (hide G d) D (picked (fun _ => true) (fun i => F (ks.getD i "")) i) H', ⟨ks.length, rfl, Nat.zero_le _, cw_start (hide_ex e) hD⟩, ?_⟩
  rintro i m H' ⟨rfl, hi, w⟩
  by_cases hlt : i < ks.length
  · refine .inr ⟨⟨lk w.choose_spec.choose_spec.1, by rw [hll]; exact hlt⟩, fun H'' => CW K (upd H d (.frz od (.dK l))) (hide G d) D (picked (fun _ => true) (fun i => F (ks.getD i "")) (i + 1)) H'', fun H'' w' => ⟨_, by omega, rfl, hlt, w'⟩, fun x H'' y => ?_⟩
    obtain ⟨e1, kk, vv, hkv, e2⟩ := y
    subst e1
    have hq : ks[i]? = some (ks[i]) := List.getElem?_eq_getElem hlt
    have ek : kk = Sum.inr ks[i] := by
      have := congrArg (fun z => z[i]?) hk
      simp only [List.getElem?_map, hkv, hq, Option.map_some] at this
      exact Option.some.inj this
    subst ek
    have e2 : x = .str ks[i] := e2
    subst e2
    have eg : ks.getD i "" = ks[i] := by rw [List.getD_eq_getElem?_getD, hq] <;> rfl
    rw [picked_succ, eg]
    exact cw_turn hD w (by have := picked_len (fun _ => true) (fun i => F (ks.getD i "")) i; omega) fun G' _ => turn ks[i] G' (List.getElem_mem hlt)
  · have ei : i = ks.length := by omega
    subst ei
    rw [picked_map F ks _ fun i a h => by rw [List.getD_eq_getElem?_getD, h] <;> rfl] at w
    refine .inl ⟨⟨lk w.choose_spec.choose_spec.1, by rw [hll]; exact Nat.le_refl _⟩, lk w.choose_spec.choose_spec.1, ?_⟩
    obtain ⟨G', n, e1, p⟩ := cw_end hD (by rw [hide_ne (Ne.symm hdD)]; exact fresh_back e ((upd_ne (Ne.symm hdD)).symm.trans hD)) w
    obtain ⟨x1, x2, x3⟩ := unlock e hG e1 n
    exact k _ _ _ x1 x2 ((MP.l K (ks.map F)).mono x3 p)
end
end Ah
/-! Ah34: rules that may be wrong. -/
namespace Ah
open PySem PySem.Spec PyProof.Rows L2 Evl

theorem lookup_nd {α : Type} : ∀ {l : List (Str × α)} {i : Nat} {q : Str × α}, (l.map (·.1)).Nodup → l[i]? = some q → l.lookup q.1 = some q.2
  | [], _, _, _, h => nomatch h
  | p :: l, 0, q, _, h => by
    cases h
    rw [List.lookup_cons, beq_self_eq_true]
  | p :: l, i + 1, q, hn, h => by
    rw [List.map_cons, List.nodup_cons] at hn
    have h : l[i]? = some q := by simpa using h
    have hne : q.1 ≠ p.1 := fun e => hn.1 (by rw [← e]; exact List.mem_map.mpr ⟨q, List.mem_of_getElem? h, rfl⟩)
    rw [List.lookup_cons, beq_eq_false_iff_ne.mpr hne]
    exact lookup_nd hn.2 h
theorem kit_dict {K : PySem.W.Frag} {G : Hp} {v : V} {d : PyData} (h : Dp K G v d) : kitB (tyD d) "dict" = some false := by
  cases h <;> rfl
def fullKeys (kvs : List (Str × PyData)) : Prop := kvs.map (·.1) = kvParts.map (·.1)
/-- the first part of a full rule whose word is none of its words: from the i-th on -/
def wordFault : List (Str × List Str) → List (Str × PyData) → Option Str
  | p :: ps, q :: qs => if isWordD q.2 p.2 then wordFault ps qs else some p.1
  | _, _ => none
def ruleFault : RuleX → Option Str
  | .data _ => some ""
  | .dict kvs => if kvs.length = 6 then wordFault kvParts kvs else some ""
def RuleOk : RuleX → Prop
  | .data _ => True
  | .dict kvs => (kvs.length = 6 → fullKeys kvs) ∧ kvs.length ≤ 20 ∧ ∀ q ∈ kvs, okS q.2
theorem wordFault_at : ∀ {ps : List (Str × List Str)} {qs : List (Str × PyData)} {f : Str}, wordFault ps qs = some f → ∃ (i : Nat) (p : Str × List Str) (q : Str × PyData), ps[i]? = some p ∧ qs[i]? = some q ∧ isWordD q.2 p.2 = false ∧ f = p.1 ∧ ∀ j, j < i → ∃ (p : Str × List Str) (q : Str × PyData), ps[j]? = some p ∧ qs[j]? = some q ∧ isWordD q.2 p.2 = true
  | [], _, _, h => nomatch h
  | _ :: _, [], _, h => nomatch h
  | p :: ps, q :: qs, f, h => by
    unfold wordFault at h
    cases e : isWordD q.2 p.2 with
    | false =>
      rw [e] at h
      exact ⟨0, p, q, rfl, rfl, e, (Option.some.inj h).symm, fun j hj => absurd hj (Nat.not_lt_zero _)⟩
    | true =>
      rw [e] at h
      obtain ⟨i, p', q', h1, h2, h3, h4, h5⟩ := wordFault_at (ps := ps) (qs := qs) h
      refine ⟨i + 1, p', q', by simpa using h1, by simpa using h2, h3, h4, fun j hj => ?_⟩
      cases j with
      | zero => exact ⟨p, q, rfl, rfl, e⟩
      | succ j =>
        obtain ⟨a, b, c1, c2, c3⟩ := h5 j (by omega)
        exact ⟨a, b, by simpa using c1, by simpa using c2, c3⟩
theorem isWord_str {d : PyData} {ws : List Str} (h : isWordD d ws = true) : ∃ s, d = .str s ∧ s ∈ ws := by
  unfold isWordD at h
  split at h
  · next s =>
    obtain ⟨x, hx, e⟩ := List.any_eq_true.mp h
    exact ⟨s, rfl, by rw [← beq_iff_eq.mp e]; exact hx⟩
  · cases h
theorem rule_good : ∀ {ps : List (Str × List Str)} {qs : List (Str × PyData)}, qs.map (·.1) = ps.map (·.1) → wordFault ps qs = none → ∃ l : List (Str × Str), qs = l.map (fun q => (q.1, PyData.str q.2)) ∧ ∀ (j : Nat) (q : Str × Str), l[j]? = some q → ∃ p : Str × List Str, ps[j]? = some p ∧ q.1 = p.1 ∧ q.2 ∈ p.2
  | [], [], _, _ => ⟨[], rfl, fun j q h => by simp at h⟩
  | [], _ :: _, h, _ => nomatch h
  | _ :: _, [], h, _ => nomatch h
  | p :: ps, q :: qs, hk, h => by
    unfold wordFault at h
    cases e : isWordD q.2 p.2 with
    | false => rw [e] at h; cases h
    | true =>
      rw [e] at h
      have hk1 : q.1 = p.1 := by simpa using congrArg List.head? hk
      have hk2 : qs.map (·.1) = ps.map (·.1) := by simpa using congrArg List.tail hk
      obtain ⟨l, e1, e2⟩ := rule_good hk2 h
      obtain ⟨s, e3, e4⟩ := isWord_str e
      refine ⟨(p.1, s) :: l, by rw [List.map_cons, ← e1, ← e3, ← hk1], fun j z hz => ?_⟩
      cases j with
      | zero => cases hz; exact ⟨p, rfl, rfl, e4⟩
      | succ j =>
        obtain ⟨a, b1, b2, b3⟩ := e2 j z (by simpa using hz)
        exact ⟨a, by simpa using b1, b2, b3⟩
/-- a rule that is not wrong -/
theorem ruleX_of {x : RuleX} (ok : RuleOk x) (h : ruleFault x = none) : ∃ r : Rule, x = .dict (r.kvs.map fun q => (q.1, .str q.2)) := by
  cases x with
  | data d => cases h
  | dict kvs =>
    have h : (if kvs.length = 6 then wordFault kvParts kvs else some "") = none := h
    split at h
    · next h6 =>
      obtain ⟨l, e1, e2⟩ := rule_good (ok.1 h6) h
      have hl : l.length = 6 := by rw [← h6, e1, List.length_map]
      obtain ⟨r, e3⟩ := rule_of hl e2
      exact ⟨r, by rw [e1, e3]⟩
    · cases h
section
variable {K : PySem.W.Frag} {w : World} {c : Ad} {σ : L2.St} {G : Hp} {E : XK}
theorem rx_dk {r : Rule} {v : V} (h : (MP.rx K (.dict (r.kvs.map fun q => (q.1, .str q.2)))).p v G) : (MP.dk r.kvs).p v G := by
  obtain ⟨p, l, rfl, hp, hk⟩ := h
  rw [hk.to_dk] at hp
  exact ⟨p, rfl, hp⟩
structure RuleBad where
  x : RuleX
  part : Str
  ok : RuleOk x
  bad : ruleFault x = some part
abbrev sp_check_ruleX (K : PySem.W.Frag) (w : World) (c : Ad) : Sp := spZ (ι := Rule) (κ := RuleBad) (fun r => [MP.dk r.kvs]) (fun _ => MP.d K .none) (fun j => [MP.rx K j.x]) (fun j => .fld c.InvalidRule "part" (.str j.part))
theorem len_check_ruleX {vs : List V} {H : Hp} {Q : VK} {E : XK} (h : sp_check_ruleX K w c vs H Q E) : vs.length = 1 := spZ_len (by intro i; rfl) (by intro i; rfl) vs H Q E h
def t_check_ruleX (K : PySem.W.Frag) (w : World) (c : Ad) (E : XK) : TS :=
  (tSeq (tIfS (tOr (tNot (tB (tCB (rIsiG K) (tCons (tVar 0) (tCons (tC (.ty "dict")) tNil))))) (tOr (tTest (tOp (rNeD K) (tCB rLenD (tCons (tVar 0) tNil)) (tCB (rLenW K w) (tCons (tC (.ref c.PARTS)) tNil)))) (tNot (tB (tCB (rAll K) (tCons (tLockE (tLc (iKeys (tVar 0)) (gName 1) tYes (tCall (sp_is_word K w c) [] E0 (tCons (tVar 1) (tCons (tCB (rListW K w) (tCons (tC (.ref c.PARTS)) tNil)) tNil))) [1])) tNil)))))) (tRaiseF c.InvalidRule "part" (fun cls d _ H => E cls d H) (tCons (tC (.str "")) tNil)) tNext)
    (tFor (iItemsW K w (tC (.ref c.PARTS))) (gTup K 2 (gCons (gName 1) (gCons (gName 2) gNil)))
    (tIfS (tNot (tB (tCall (sp_is_word K w c) [] E0 (tCons (tDGet (tVar 0) (tVar 1)) (tCons (tVar 2) tNil))))) (tRaiseF c.InvalidRule "part" (fun cls d _ H => E cls d H) (tCons (tVar 1) tNil)) tNext)))
/-- the head of check_rule, for a full dict: nothing is wrong as yet -/
theorem c_fullTest (X : Ax K w c) {kvs : List (Str × PyData)} {p : Addr} {l : List (Key × V)} (hk : fullKeys kvs) (hp : G p = some (.dK l)) (hl : KvD K G l kvs) :
    Cm (tOr (tNot (tB (tCB (rIsiG K) (tCons (tVar 0) (tCons (tC (.ty "dict")) tNil))))) (tOr (tTest (tOp (rNeD K) (tCB rLenD (tCons (tVar 0) tNil)) (tCB (rLenW K w) (tCons (tC (.ref c.PARTS)) tNil)))) (tNot (tB (tCB (rAll K) (tCons (tLockE (tLc (iKeys (tVar 0)) (gName 1) tYes (tCall (sp_is_word K w c) [] E0 (tCons (tVar 1) (tCons (tCB (rListW K w) (tCons (tC (.ref c.PARTS)) tNil)) tNil))) [1])) tNil))))) [some (.ref p), none, none]) G (MP.eq false) := by
  obtain ⟨pk, k1, D, k3⟩ := X.kd
  have h0 : Cm (tVar 0 [some (.ref p), none, none]) G (MP.dv K kvs) := c_var rfl ⟨p, l, rfl, hp, hl⟩
  have hP : ∀ {G1 : Hp} {σ : L2.St}, Cm (tC (.ref c.PARTS) σ) G1 (MP.kd K w pk) := c_c ⟨_, rfl, D⟩
  have hlen : pk.length = 6 := by
    have : (pk.map (·.1)).length = 6 := by rw [k1]; decide
    rwa [List.length_map] at this
  have h6 : kvs.length = 6 := by
    have := congrArg List.length hk
    rw [List.length_map, List.length_map] at this
    exact this
  refine c_teq (c_tor (b := false) (c_tnot (c_tB (v_isi h0))) fun _ => c_teq (c_tor (a := false) (b := false) (c_test (c_to (c_ne (v_len h0) (c_lenW hP) (shp_int _) (shp_int _)) (by rw [hlen, h6]; rfl))) fun _ => c_teq (c_tnot (a := true) (c_tB (K := K) ?_)) rfl) rfl) rfl
  have z := v_lcKeys (K := K) (σ := [some (.ref p), none, none]) (G := G) (tt := tYes) (j := 1) (vs := [1]) (F := fun q : Str => .bool (isWordD (.str q) (kvParts.map (·.1)))) (l := l) (ks := kvParts.map (·.1)) (d := p) (td := tVar 0)
    (te := tCall (sp_is_word K w c) [] E0 (tCons (tVar 1) (tCons (tCB (rListW K w) (tCons (tC (.ref c.PARTS)) tNil)) tNil))) (by rw [hl.keys, hk]) (by decide) hp (fun H1 Q _ hq => ⟨_, rfl, hq⟩) fun q G1 hq => by
      refine ct_name rfl c_yes fun _ => c_isWord false (c_var (P := MP.d K (.str q)) rfl (.str _)) (l_strs (by rw [← k1]; exact c_listW hP)) ?_ keys_shaped
      obtain ⟨pr, hpr, e1⟩ := List.mem_map.mp hq
      show SeqAt.shaped (.str q) = true
      rw [← e1]
      exact key_ok pr hpr
  have e2 : ((kvParts.map (·.1)).map fun q : Str => PyData.bool (isWordD (.str q) (kvParts.map (·.1)))) = ((kvParts.map (·.1)).map fun q : Str => isWordD (.str q) (kvParts.map (·.1))).map PyData.bool := by rw [List.map_map] <;> rfl
  rw [e2] at z
  refine c_to (c_all z) (congrArg PyData.bool ?_)
  decide +kernel
theorem rd_check_ruleX (X : Ax K w c) {vs : List V} {H : Hp} {Q : VK} {E : XK} (h : sp_check_ruleX K w c vs H Q E) : t_check_ruleX K w c E (Dn Q) (vs.map some ++ List.replicate (3 - vs.length) none) H := by
  obtain ⟨pk, k1, D, k3⟩ := X.kd
  have hlen : pk.length = 6 := by
    have : (pk.map (·.1)).length = 6 := by rw [k1]; decide
    rwa [List.length_map] at this
  -- the loop over a full dict: quiet up to the i-th part
  have loop : ∀ {kvs : List (Str × PyData)} {G H : Hp} {p : Addr} {l : List (Key × V)} {D : Ends} (i : Nat), fullKeys kvs → (∀ q ∈ kvs, okS q.2) → G p = some (.dK l) → KvD K G l kvs → Ex G H → i ≤ 6 →
      (∀ j, j < i → ∃ p q, kvParts[j]? = some p ∧ kvs[j]? = some q ∧ isWordD q.2 p.2 = true) →
      (i = 6 → ∀ σ G' H', Ex H H' → Nw H G G' H' → D.nx σ H') →
      (∀ p q, kvParts[i]? = some p → kvs[i]? = some q → isWordD q.2 p.2 = false ∧ (Xo.fld c.InvalidRule "part" (.str p.1)).run E H) →
      tFor (iItemsW K w (tC (.ref c.PARTS))) (gTup K 2 (gCons (gName 1) (gCons (gName 2) gNil))) (tIfS (tNot (tB (tCall (sp_is_word K w c) [] E0 (tCons (tDGet (tVar 0) (tVar 1)) (tCons (tVar 2) tNil))))) (tRaiseF c.InvalidRule "part" (fun cls d _ H => E cls d H) (tCons (tVar 1) tNil)) tNext) D [some (.ref p), none, none] H := by
    intro kvs G H p l D' i hk hok hp hl e hi hg hend hbad
    refine ⟨_, pk, rfl, D, for_itemsW (fun n σ' H' => n ≤ i ∧ (∃ a b, σ' = [some (.ref p), a, b]) ∧ ∃ G', Nw H G G' H' ∧ Ex H H') ⟨Nat.zero_le _, ⟨_, _, rfl⟩, G, Nw.refl e, Ex.refl H⟩ ?_ ?_⟩
    · rintro n r T σ' H' hr ⟨hn, ⟨a, b, rfl⟩, G', n', e'⟩ hT
      refine ⟨T, [.str r.1, r.2], rfl, SqT.of upd_same, rfl, _, _, rfl, _, _, rfl, rfl, ?_⟩
      have n4 := n'.trans e' (Nw.own (o := .tup [.str r.1, r.2]) n'.le hT)
      have e4 := e'.trans (Ex.new (o := .tup [.str r.1, r.2]) hT)
      obtain ⟨pt, hpt, er, hpr⟩ := k3 n r hr
      have hn6 : n < 6 := (List.getElem?_eq_some_iff.mp hpt).1
      have h6 : kvs.length = 6 := by
        have := congrArg List.length hk
        rw [List.length_map, List.length_map] at this
        exact this
      obtain ⟨q, hq⟩ : ∃ q, kvs[n]? = some q := ⟨_, List.getElem?_eq_getElem (by omega)⟩
      have hq1 : q.1 = pt.1 := by
        have := congrArg (fun z => z[n]?) hk
        simp only [List.getElem?_map, hq, hpt, Option.map_some] at this
        exact Option.some.inj this
      have nd : (kvs.map (·.1)).Nodup := by rw [hk]; exact parts_nodup
      have lk : kvs.lookup pt.1 = some q.2 := by rw [← hq1]; exact lookup_nd nd hq
      change tIfS _ _ _ _ _ _
      have hx : n'.ex = n'.ex := rfl
      refine (c_tnot (c_tB (c_isWord (d := q.2) (ws := pt.2) true (v_get (kvs := kvs) (x := pt.1) (c_var rfl ⟨p, l, rfl, n'.ex _ _ hp, hl.up n'.ex⟩) (c_var rfl (by rw [er]; exact .str _)) lk) (c_var (P := MP.d K (.tuple (pt.2.map PyData.str))) rfl (hpr G')) (hok q (List.mem_of_getElem? hq)) (parts_shaped pt (List.mem_of_getElem? hpt)))) : Cm _ G' (MP.eq (!isWordD q.2 pt.2))) _ n4.le _ fun b G3 H3 e3 n3 p3 => ?_
      have p3 : b = !isWordD q.2 pt.2 := p3
      subst p3
      by_cases hni : n < i
      · obtain ⟨p', q', z1, z2, z3⟩ := hg n hni
        rw [hpt] at z1
        rw [hq] at z2
        cases z1
        cases z2
        rw [z3]
        exact iteF ⟨hni, ⟨_, _, rfl⟩, G3, n4.trans e4 n3, e4.trans e3⟩
      · have hne : n = i := by omega
        subst hne
        obtain ⟨z1, z2⟩ := hbad pt q hpt hq
        rw [z1]
        refine iteT ⟨_, rfl, ?_⟩
        refine ⟨_, rfl, fun d hd => ?_⟩
        rw [er]
        exact z2 d H3 (e4.trans e3) hd
    · rintro σ' H' ⟨hn, ⟨a, b, rfl⟩, G', n', e'⟩
      rw [hlen] at hn
      exact hend (by omega) _ G' H' e' n'
  have hvl := len_check_ruleX h
  match vs, hvl with
  | [x], _ =>
    rcases h with ⟨r, G, e, ha, q⟩ | ⟨⟨rx, part, ok, bad⟩, G, e, ha, q⟩
    · cases ha with
      | cons p1 ha =>
        cases ha
        obtain ⟨p, rfl, hp⟩ := p1
        have hkd := KvD.of_dk (K := K) (G := G) r.kvs
        have hfull : fullKeys (r.kvs.map fun q => (q.1, PyData.str q.2)) := by
          unfold fullKeys
          rw [List.map_map]
          exact rule_keys r
        have hokS : ∀ z ∈ r.kvs.map (fun q => (q.1, PyData.str q.2)), okS z.2 := fun z hz => by
          obtain ⟨q, hq, rfl⟩ := List.mem_map.mp hz
          obtain ⟨j, hj⟩ := List.getElem?_of_mem hq
          obtain ⟨pt, hpt, _, e2⟩ := rule_word r j q hj
          exact words_ok pt (List.mem_of_getElem? hpt) _ e2
        refine u_ifX (c_fullTest X hfull hp hkd) e fun G1 H1 e1 n1 => ?_
        refine loop 6 hfull hokS (n1.ex _ _ hp) (hkd.up n1.ex) n1.le (Nat.le_refl _) (fun j hj => ?_) (fun _ σ G' H' e2 n2 => q .non G' H' (e1.trans e2) (n1.trans e1 n2) .non) (fun p q z => ?_)
        · obtain ⟨pt, hpt⟩ : ∃ pt, kvParts[j]? = some pt := ⟨_, List.getElem?_eq_getElem hj⟩
          obtain ⟨qq, hqq⟩ : ∃ qq, r.kvs[j]? = some qq := ⟨_, List.getElem?_eq_getElem (by rw [rule_len]; exact hj)⟩
          obtain ⟨pt', hpt', e1, e2⟩ := rule_word r j qq hqq
          rw [hpt] at hpt'
          cases hpt'
          exact ⟨pt, _, hpt, by rw [List.getElem?_map, hqq] <;> rfl, isWord_mem e2⟩
        · have := (List.getElem?_eq_some_iff.mp z).1
          exact absurd this (by show ¬ 6 < 6; decide)
    · cases ha with
      | cons p1 ha =>
        cases ha
        cases rx with
        | data d =>
          have bad : some ("" : Str) = some part := bad
          cases bad
          have p1 : Dp K G x d := p1
          exact (z_ifT (c_teq (c_tor (a := true) (b := true) (c_tnot (a := false) (c_tB (c_isi (c_var rfl p1) (kit_dict p1)))) fun z => absurd z (by decide)) rfl) (z_raise (c_c rfl)) : BadZ E (.fld c.InvalidRule "part" (.str "")) (t_check_ruleX K w c E) [some x, none, none] G) H e q _
        | dict kvs =>
          obtain ⟨p, l, rfl, hp, hl⟩ := p1
          obtain ⟨o1, o2, o3⟩ := ok
          have h0 : Cm (tVar 0 [some (.ref p), none, none]) G (MP.dv K kvs) := c_var rfl ⟨p, l, rfl, hp, hl⟩
          have hP : ∀ {G1 : Hp} {σ : L2.St}, Cm (tC (.ref c.PARTS) σ) G1 (MP.kd K w pk) := c_c ⟨_, rfl, D⟩
          have bad : (if kvs.length = 6 then wordFault kvParts kvs else some "") = some part := bad
          split at bad
          · next h6 =>
            obtain ⟨i, pt, qq, z1, z2, z3, z4, z5⟩ := wordFault_at bad
            subst z4
            refine u_ifX (c_fullTest X (o1 h6) hp hl) e fun G1 H1 e1 n1 => ?_
            have hi6 : i < 6 := (List.getElem?_eq_some_iff.mp z1).1
            refine loop i (o1 h6) o3 (n1.ex _ _ hp) (hl.up n1.ex) n1.le (by omega) z5 (fun z => absurd z (by omega)) (fun p' q' y1 y2 => ?_)
            rw [z1] at y1
            rw [z2] at y2
            cases y1
            cases y2
            exact ⟨z3, Xo.up q e1⟩
          · next h6 =>
            cases bad
            refine (z_ifT (c_teq (c_tor (a := false) (b := true) (c_tnot (a := true) (c_tB (v_isi h0))) fun _ => c_teq (c_tor (a := true) (b := true) (c_test (c_to (c_ne (v_len h0) (c_lenW hP) (shp_int _) (shp_int _)) ?_)) fun z => absurd z (by decide)) rfl) rfl) (z_raise (c_c rfl)) : BadZ E (.fld c.InvalidRule "part" (.str "")) (t_check_ruleX K w c E) [some (.ref p), none, none] G) H e q _
            rw [hlen]
            refine congrArg PyData.bool ?_
            show (!(((kvs.length : Nat) : Int) == 6)) = true
            rw [beq_eq_false_iff_ne.mpr (by omega)] <;> rfl
end
end Ah
/-! Ah35: books refused. -/
namespace Ah
open PySem PySem.Spec PyProof.Rows L2 Evl

def goodRows : PyData → Bool
  | .tuple xs => (decide ((1 : Int) ≤ (xs.length : Int)) && decide ((xs.length : Int) ≤ 2)) && xs.all fun d => isEdD d 1
  | _ => false
def goodWords : PyData → Bool
  | .tuple xs => (xs.all fun d => isWordD d ["join", "sweep"]) && PyData.eqvAll (([PyData.str "join", .str "sweep"].filter fun d => xs.any fun z => PyData.eqv z d).map fun d => d) xs
  | _ => false
def okEls : PyData → Prop
  | .tuple xs => xs.length ≤ 1000 ∧ ∀ d ∈ xs, okS d ∧ ∀ x y, d = .tuple [x, y] → okS x
  | _ => True
inductive Flt where
  | rows
  | rule (p : Str)
  | words
structure RowX where
  rows : PyData
  rule : RuleX
  words : PyData
structure RowX.Ok (x : RowX) : Prop where
  r : okEls x.rows
  u : RuleOk x.rule
  w : okEls x.words
def RowX.fault (x : RowX) : Option Flt := if goodRows x.rows then (match ruleFault x.rule with
  | some p => some (.rule p)
  | none => if goodWords x.words then none else some .words) else some .rows
def Flt.xo (c : Ad) : Flt → Xo
  | .rows => .no c.InvalidRows
  | .rule p => .fld c.InvalidRule "part" (.str p)
  | .words => .no c.InvalidWords
theorem rows_goodX {d : PyData} (h : goodRows d = true) : ∃ l : List Row, d = .tuple (l.map rowD) ∧ (l.length = 1 ∨ l.length = 2) := by
  unfold goodRows at h
  split at h
  · next xs =>
    simp only [Bool.and_eq_true, decide_eq_true_eq] at h
    obtain ⟨⟨h1, h2⟩, h3⟩ := h
    obtain ⟨l, e⟩ := rows_of xs fun d hd => by
      have := List.all_eq_true.mp h3 d hd
      unfold isEdD at this
      split at this
      · next x y =>
        obtain ⟨a1, a2⟩ := Bool.and_eq_true_iff.mp this
        obtain ⟨s, rfl, hs⟩ := isWord_str a1
        unfold isIntIn at a2
        split at a2
        · next i =>
          obtain ⟨b1, b2⟩ := Bool.and_eq_true_iff.mp a2
          have b1 := of_decide_eq_true b1
          have b2 := of_decide_eq_true b2
          obtain ⟨k, hk⟩ := bool_of hs
          refine ⟨(k, decide (i = 2)), ?_⟩
          unfold rowD kS dI
          rw [← hk]
          by_cases hi : i = 2
          · rw [hi]; rfl
          · have : i = 1 := by omega
            rw [this]; rfl
        · cases a2
      · cases this
    subst e
    rw [List.length_map] at h1 h2
    exact ⟨l, rfl, by omega⟩
  · cases h
theorem words_goodX {d : PyData} (h : goodWords d = true) : ∃ j s : Bool, ∀ rs r, d = wordsD ⟨rs, r, j, s⟩ := by
  unfold goodWords at h
  split at h
  · next xs =>
    obtain ⟨h1, h2⟩ := Bool.and_eq_true_iff.mp h
    have : ∃ t : List Str, xs = t.map PyData.str := by
      clear h2 h
      induction xs with
      | nil => exact ⟨[], rfl⟩
      | cons x xs ih =>
        rw [List.all_cons, Bool.and_eq_true] at h1
        obtain ⟨t, e⟩ := ih h1.2
        obtain ⟨s, e2, _⟩ := isWord_str h1.1
        exact ⟨s :: t, by rw [e2, e] <;> rfl⟩
    obtain ⟨t, rfl⟩ := this
    have e3 := filt_words t
    simp only [List.map_cons, List.map_nil] at e3
    rw [e3, eqv_strs] at h2
    have h2 := of_decide_eq_true h2
    obtain ⟨j, s, e4⟩ := words_of_good (ps := ("words" : Str) :: t) (fun z => nomatch z) (by
      unfold badWords
      show (!(decide (("words" : Str) = "words")) || !(decide (wordNames.filter (fun x => decide (x ∈ t)) = t))) = false
      rw [decide_eq_true rfl, decide_eq_true h2] <;> rfl)
    refine ⟨j, s, fun rs r => ?_⟩
    have := e4 rs r
    unfold wordsD
    rw [(List.cons.inj this).2]
  · cases h
/-- what is not refused is a book -/
theorem rowX_of {x : RowX} (ok : x.Ok) (h : x.fault = none) : ∃ b : BkO, x.rows = rowsD b.val ∧ x.rule = .dict (b.val.rule.kvs.map fun q => (q.1, .str q.2)) ∧ x.words = wordsD b.val := by
  unfold RowX.fault at h
  split at h
  · next h1 =>
    split at h
    · cases h
    · next h2 =>
      split at h
      · next h3 =>
        obtain ⟨l, e1, hl⟩ := rows_goodX h1
        obtain ⟨r, e2⟩ := ruleX_of ok.u h2
        obtain ⟨j, s, e3⟩ := words_goodX h3
        exact ⟨⟨⟨l, r, j, s⟩, hl⟩, e1, e2, e3 l r⟩
      · cases h
  · cases h
section
variable {K : PySem.W.Frag} {w : World} {c' : Ad} {σ : L2.St} {G : Hp} {E : XK} {ta tb te td : TE} {d : PyData} {ds : List PyData}
theorem kit_noT {d : PyData} (h : ∀ xs, d ≠ .tuple xs) : kitB (tyD d) "tuple" = some false := by
  cases d with
  | tuple xs => exact absurd rfl (h xs)
  | _ => rfl
theorem tup_or (d : PyData) : (∃ xs, d = .tuple xs) ∨ ∀ xs, d ≠ .tuple xs := by
  cases d with
  | tuple xs => exact .inl ⟨xs, rfl⟩
  | _ => exact .inr fun xs e => by cases e
def badR1 : PyData → Bool
  | .tuple xs => !(decide ((1 : Int) ≤ (xs.length : Int)) && decide ((xs.length : Int) ≤ 2))
  | _ => true
def badR2 : PyData → Bool
  | .tuple xs => !(xs.all fun d => isEdD d 1)
  | _ => true
def badW1 : PyData → Bool
  | .tuple xs => !(xs.all fun d => isWordD d ["join", "sweep"])
  | _ => true
def badW2 : PyData → Bool
  | .tuple xs => !(PyData.eqvAll (([PyData.str "join", .str "sweep"].filter fun d => xs.any fun z => PyData.eqv z d).map fun d => d) xs)
  | _ => true
theorem badR1_no {d : PyData} (h : ∀ xs, d ≠ .tuple xs) : badR1 d = true := by
  cases d with
  | tuple xs => exact absurd rfl (h xs)
  | _ => rfl
theorem badW1_no {d : PyData} (h : ∀ xs, d ≠ .tuple xs) : badW1 d = true := by
  cases d with
  | tuple xs => exact absurd rfl (h xs)
  | _ => rfl
theorem c_rT1 (h : Cm (ta σ) G (MP.d K d)) : Cm (tOr (tNot (tB (tCB (rIsiG K) (tCons ta (tCons (tC (.ty "tuple")) tNil))))) (tNot (tTest (tChain rLeI rLeI (tC (.int 1)) (tCB (rLenG K) (tCons ta tNil)) (tC (.int 2))))) σ) G (MP.eq (badR1 d)) := by
  rcases tup_or d with ⟨xs, rfl⟩ | hn
  · exact c_teq (c_tor (a := false) (c_tnot (c_tB (c_isi h (kit_tup _)))) fun _ => c_tnot (c_test (c_chainI (g := fun i j => decide (i ≤ j)) (g' := fun i j => decide (i ≤ j)) c_int (c_lenT h) c_int))) rfl
  · rw [badR1_no hn]
    exact c_teq (c_tor (a := true) (b := true) (c_tnot (a := false) (c_tB (c_isi h (kit_noT hn)))) fun z => absurd z (by decide)) rfl
theorem c_rT2 {a b c d e : Option V} {x vr : V} (X : Ax K w c') {xs : List PyData} (hl : xs.length ≤ 1000) (hok : ∀ d ∈ xs, ∀ x y, d = .tuple [x, y] → okS x) (h : Cm (tVar 1 [a, b, c, d, none, none, none]) G (MP.d K (.tuple xs))) :
    Cm (tNot (tB (tCB (rAll K) (tCons (tLc (iSeq K (tVar 1)) (gName 4) tYes (tCall (sp_is_edition K w c') [] E0 (tCons (tVar 4) (tCons (tC (.int 1)) tNil))) [4]) tNil))) [a, b, c, d, none, none, none]) G (MP.eq (badR2 (.tuple xs))) :=
  c_tnot (c_tB (c_allT (K := K) (fun d => isEdD d 1) h (by omega) fun v d G2 eG hm hv => ct_name rfl c_yes fun _ => c_isEd (c_var (P := MP.d K d) rfl hv) c_int (hok d hm)))
theorem c_wT1 {a b c d : Option V} (X : Ax K w c') {dw : PyData} (ok : okEls dw) (h : Cm (tVar 3 [a, b, c, d, none, none, none]) G (MP.d K dw)) :
    Cm (tOr (tNot (tB (tCB (rIsiG K) (tCons (tVar 3) (tCons (tC (.ty "tuple")) tNil))))) (tNot (tB (tCB (rAll K) (tCons (tLc (iSeq K (tVar 3)) (gName 5) tYes (tCall (sp_is_word K w c') [] E0 (tCons (tVar 5) (tCons (tC (.ref c'.WORDS)) tNil))) [5]) tNil)))) [a, b, c, d, none, none, none]) G (MP.eq (badW1 dw)) := by
  rcases tup_or dw with ⟨xs, rfl⟩ | hn
  · exact c_teq (c_tor (a := false) (c_tnot (c_tB (c_isi h (kit_tup _)))) fun _ => c_tnot (c_tB (c_allT (K := K) (fun d => isWordD d ["join", "sweep"]) h (by have := ok.1; omega) fun v d G4 eG hm hv => ct_name rfl c_yes fun _ => c_isWord (d := d) (ws := ["join", "sweep"]) true (c_var (P := MP.d K d) rfl hv) (c_c (X.wds G4)) (ok.2 d hm).1 (by decide +kernel)))) rfl
  · rw [badW1_no hn]
    exact c_teq (c_tor (a := true) (b := true) (c_tnot (a := false) (c_tB (c_isi h (kit_noT hn)))) fun z => absurd z (by decide)) rfl
theorem words_strs : ∀ {xs : List PyData}, (xs.all fun d => isWordD d ["join", "sweep"]) = true → ∃ t : List Str, xs = t.map PyData.str ∧ ∀ s ∈ t, s ∈ wordNames
  | [], _ => ⟨[], rfl, fun _ h => nomatch h⟩
  | x :: xs, h => by
    rw [List.all_cons, Bool.and_eq_true] at h
    obtain ⟨t, e, ht⟩ := words_strs h.2
    obtain ⟨s, e2, hs⟩ := isWord_str h.1
    refine ⟨s :: t, by rw [e2, e] <;> rfl, fun z hz => ?_⟩
    rcases List.mem_cons.mp hz with hz | hz
    · rw [hz]; exact hs
    · exact ht z hz
theorem word_sh {s : Str} (h : s ∈ wordNames) : SeqAt.shaped (.str s) = true := by
  rcases List.mem_cons.mp h with e | e
  · rw [e]; decide +kernel
  · rw [List.mem_singleton.mp e]; decide +kernel
theorem c_wT2 {a b c d : Option V} (X : Ax K w c') {xs : List PyData} (hw : badW1 (.tuple xs) = false) (h : ∀ {G2 : Hp} {e f g : Option V}, Ex G G2 → Cm (tVar 3 [a, b, c, d, e, f, g]) G2 (MP.d K (.tuple xs))) :
    Cm (tTest (tOp (rNeD K) (tLc (iSeq K (tC (.ref c'.WORDS))) (gName 5) (tTest (tOp (rInG K false) (tVar 5) (tVar 3))) (tVar 5) [5]) (tCB (rListG K) (tCons (tVar 3) tNil))) [a, b, c, d, none, none, none]) G (MP.eq (badW2 (.tuple xs))) := by
  obtain ⟨t, rfl, ht⟩ := words_strs (xs := xs) (by simpa [badW1] using hw)
  have sh : SeqAt.shaped (.list (t.map PyData.str)) = true := strs_shaped fun z hz => word_sh (ht z hz)
  have e3 := filt_words t
  simp only [List.map_cons, List.map_nil] at e3
  refine c_test (c_ne (l_d (c_lcT (K := K) (ds := [.str "join", .str "sweep"]) (t := fun d => (t.map PyData.str).any fun z => PyData.eqv z d) (F := fun d => d) (c_c (X.wds G)) (by decide) fun v d G5 eG hm hv => ct_name rfl (c_test (c_to (c_inT (n := false) (c_var (P := MP.d K d) rfl hv) (h eG) ?_ sh) rfl)) fun _ => c_var (P := MP.d K d) rfl hv)) (c_listT (h (Ex.refl _))) ?_ sh)
  · rcases List.mem_cons.mp hm with z | z
    · rw [z]; decide +kernel
    · rw [List.mem_singleton.mp z]; decide +kernel
  · rw [e3]
    exact strs_shaped fun z hz => word_sh (List.mem_filter.mp hz).1
def t_stores (K : PySem.W.Frag) (w : World) (c : Ad) : TS :=
    (tSeq (sFld K (tVar 0) (tVar 1) "wanted")
    (tSeq (sFld K (tVar 0) (tDc (iKeysW K w (tC (.ref c.PARTS))) (gName 6) tYes (tVar 6) (tDGet (tVar 2) (tVar 6)) [6]) "terms")
    (sFld K (tVar 0) (tVar 3) "kinds")))
theorem book_stores (X : Ax K w c') {x dx pd : Addr} {vr vw : V} {b : Bk} {G5 H H5 : Hp} {Q : VK} (e05 : Ex H H5) (n05 : Nw H G G5 H5) (gx : G x = none) (hx : H x = some (.ins c'.Book dx [])) (hd : G5 pd = some (.dK (kvD b.rule.kvs)))
    (k : ∀ pt G' H', (∀ q o, H q = some o → q ≠ x → H' q = some o) → Nw H G G' H' → G' pt = some (.dK (kvD b.rule.kvs)) → H' x = some (.ins c'.Book dx (bkF vr pt vw)) → Q .non H') :
    t_stores K w c' (Dn Q) [some (.ref x), some vr, some (.ref pd), some vw, none, none, none] H5 := by
  obtain ⟨kvs, k1, D, k3⟩ := X.kd
  have c2 : ∀ {G1 : Hp} {a1 a2 a3 : Option V}, Ex G5 G1 → Cm (tVar 2 [some (.ref x), some vr, some (.ref pd), some vw, a1, a2, a3]) G1 (MP.dk b.rule.kvs) := fun eG => c_var rfl ⟨pd, rfl, eG _ _ hd⟩
  have gx5 : G5 x = none := n05.old x (by rw [hx]; exact fun z => nomatch z) gx
  -- self.wanted = rows
  refine ⟨_, rfl, _, rfl, x, c'.Book, dx, [], rfl, e05 _ _ hx, X.cl, X.nW, by show 0 < 1000; decide, ?_⟩
  -- self.terms = {..}
  have eU : Ex G5 (upd H5 x (.ins c'.Book dx (putF "wanted" vr []))) := n05.le.mut gx5
  change sFld K (tVar 0) (tDc (iKeysW K w (tC (.ref c'.PARTS))) (gName 6) tYes (tVar 6) (tDGet (tVar 2) (tVar 6)) [6]) "terms" _ _ _
  unfold sFld
  refine (c_dcW (K := K) (w := w) (G := G5) (σ := [some (.ref x), some vr, some (.ref pd), some vw, none, none, none]) (j := 6) (vs := [6]) (tk := tVar 6) (tv := tDGet (tVar 2) (tVar 6)) (td := tC (.ref c'.PARTS)) (kvs := kvs) (f := fun y => (b.rule.kvs.lookup y).getD "") (c_c ⟨_, rfl, D⟩) fun q G6 hq eG => ⟨_, rfl, rfl, c_var rfl (.str _), c_dget (c2 eG) (c_var (P := MP.d K (.str q.1)) rfl (.str _)) ?_⟩) _ eU _ fun v G6 H6 e6 n6 p6 => ?_
  · have hm : q.1 ∈ b.rule.kvs.map (·.1) := by rw [rule_keys, ← k1]; exact List.mem_map.mpr ⟨q, hq, rfl⟩
    obtain ⟨r, hr', er⟩ := List.mem_map.mp hm
    obtain ⟨j, hj⟩ := List.getElem?_of_mem hr'
    have := rule_lookup b.rule hj
    rw [er] at this
    rw [this] <;> rfl
  rw [map_fst_eq (f := fun y => (b.rule.kvs.lookup y).getD "") b.rule k1 fun q hq => by
    obtain ⟨j, hj⟩ := List.getElem?_of_mem hq
    rw [rule_lookup b.rule hj] <;> rfl] at p6
  obtain ⟨pt, rfl, hpt⟩ := p6
  have hx6 : H6 x = some (.ins c'.Book dx (putF "wanted" vr [])) := e6 _ _ upd_same
  refine ⟨_, rfl, x, c'.Book, dx, _, rfl, hx6, X.cl, X.nT, ?_, ?_⟩
  · have := length_putF "wanted" vr []
    simp only [List.length_nil] at this
    omega
  -- self.kinds = words
  refine ⟨_, rfl, _, rfl, x, c'.Book, dx, _, rfl, upd_same, X.cl, X.nK, ?_, ?_⟩
  · have h1 := length_putF "wanted" vr []
    have h2 := length_putF "terms" (.ref pt) (putF "wanted" vr [])
    simp only [List.length_nil] at h1
    omega
  rw [upd_upd]
  have gx6 : G6 x = none := n6.old x (by rw [upd_same]; exact fun z => nomatch z) gx5
  have hne : ∀ q o, H q = some o → q ≠ x → upd H6 x (.ins c'.Book dx (bkF vr pt vw)) q = some o := fun q o hq hqx => by
    rw [upd_ne hqx]
    exact e6 _ _ (by rw [upd_ne hqx]; exact e05 _ _ hq)
  refine k pt G6 _ hne ⟨n05.ex.trans n6.ex, n6.le.mut gx6, fun q hq hg => ?_⟩ hpt upd_same
  by_cases hqx : q = x
  · rw [hqx]; exact gx6
  · exact n6.old q (by rw [upd_ne hqx]; exact ne_ex e05 hq) (n05.old q hq hg)
structure BookBad where
  x : RowX
  ok : x.Ok
  f : Flt
  bad : x.fault = some f
def sp_Book_initX (K : PySem.W.Frag) (w : World) (c : Ad) : Sp := fun vs H Q E => sp_Book_init K w c vs H Q E ∨
  ∃ (x dx : Addr) (vr vd vw : V) (j : BookBad) (G : Hp), vs = [.ref x, vr, vd, vw] ∧ Ex G H ∧ Dp K G vr j.x.rows ∧ (MP.rx K j.x.rule).p vd G ∧ Dp K G vw j.x.words ∧ (j.f.xo c).run E H
theorem len_Book_initX {c : Ad} {vs : List V} {H : Hp} {Q : VK} {E : XK} (h : sp_Book_initX K w c vs H Q E) : vs.length = 4 := by
  rcases h with h | ⟨x, dx, vr, vd, vw, j, G, rfl, _⟩
  · exact len_Book_init h
  · rfl
def t_Book_initX (K : PySem.W.Frag) (w : World) (c : Ad) (E : XK) : TS :=
  (tSeq (tIfS (tOr (tNot (tB (tCB (rIsiG K) (tCons (tVar 1) (tCons (tC (.ty "tuple")) tNil))))) (tNot (tTest (tChain rLeI rLeI (tC (.int 1)) (tCB (rLenG K) (tCons (tVar 1) tNil)) (tC (.int 2)))))) (tRaise0 c.InvalidRows (fun cls d _ H => E cls d H)) tNext)
    (tSeq (tIfS (tNot (tB (tCB (rAll K) (tCons (tLc (iSeq K (tVar 1)) (gName 4) tYes (tCall (sp_is_edition K w c) [] E0 (tCons (tVar 4) (tCons (tC (.int 1)) tNil))) [4]) tNil)))) (tRaise0 c.InvalidRows (fun cls d _ H => E cls d H)) tNext)
    (tSeq (tDrop (tCall (sp_check_ruleX K w c) [] E (tCons (tVar 2) tNil)))
    (tSeq (tIfS (tOr (tNot (tB (tCB (rIsiG K) (tCons (tVar 3) (tCons (tC (.ty "tuple")) tNil))))) (tNot (tB (tCB (rAll K) (tCons (tLc (iSeq K (tVar 3)) (gName 5) tYes (tCall (sp_is_word K w c) [] E0 (tCons (tVar 5) (tCons (tC (.ref c.WORDS)) tNil))) [5]) tNil))))) (tRaise0 c.InvalidWords (fun cls d _ H => E cls d H)) tNext)
    (tSeq (tIfS (tTest (tOp (rNeD K) (tLc (iSeq K (tC (.ref c.WORDS))) (gName 5) (tTest (tOp (rInG K false) (tVar 5) (tVar 3))) (tVar 5) [5]) (tCB (rListG K) (tCons (tVar 3) tNil)))) (tRaise0 c.InvalidWords (fun cls d _ H => E cls d H)) tNext)
    (t_stores K w c))))))
theorem good_split {d : PyData} : goodRows d = (!badR1 d && !badR2 d) := by
  rcases tup_or d with ⟨xs, rfl⟩ | hn
  · simp only [goodRows, badR1, badR2, Bool.not_not]
  · rw [badR1_no hn]
    cases d with
    | tuple xs => exact absurd rfl (hn xs)
    | _ => rfl
theorem goodW_split {d : PyData} : goodWords d = (!badW1 d && !badW2 d) := by
  rcases tup_or d with ⟨xs, rfl⟩ | hn
  · simp only [goodWords, badW1, badW2, Bool.not_not]
  · rw [badW1_no hn]
    cases d with
    | tuple xs => exact absurd rfl (hn xs)
    | _ => rfl
theorem fault_book {b : Bk} (ok : b.ok) : goodRows (rowsD b) = true ∧ goodWords (wordsD b) = true ∧ okEls (rowsD b) ∧ okEls (wordsD b) := by
  refine ⟨rows_all (M := fun l => goodRows (.tuple (l.map rowD)) = true) ok (by decide +kernel) (by decide +kernel), words_all (M := fun l => goodWords (.tuple (l.map PyData.str)) = true) b (by decide +kernel) (by decide +kernel) (by decide +kernel) (by decide +kernel), ⟨?_, fun d hd => ?_⟩, ⟨?_, fun d hd => ?_⟩⟩
  · rw [List.length_map]; rcases ok with h | h <;> omega
  · obtain ⟨r, _, rfl⟩ := List.mem_map.mp hd
    refine ⟨trivial, fun x y e => ?_⟩
    injection e with e
    injection e with e _
    subst e
    exact ks_ok _
  · exact words_all (M := fun l => (l.map PyData.str).length ≤ 1000) b (by decide) (by decide) (by decide) (by decide)
  · obtain ⟨s, hs, rfl⟩ := List.mem_map.mp hd
    refine ⟨?_, fun x y e => nomatch e⟩
    exact words_all (M := fun l => s ∈ l → SeqAt.shaped (.str s) = true) b (fun z => nomatch z) (by intro z; rw [List.mem_singleton.mp z]; decide +kernel) (by intro z; rw [List.mem_singleton.mp z]; decide +kernel)
      (by intro z; rcases List.mem_cons.mp z with z | z; · rw [z]; decide +kernel
          · rw [List.mem_singleton.mp z]; decide +kernel) hs
theorem rd_Book_initX (X : Ax K w c') {vs : List V} {H : Hp} {Q : VK} {E : XK} (h : sp_Book_initX K w c' vs H Q E) : t_Book_initX K w c' E (Dn Q) (vs.map some ++ List.replicate (7 - vs.length) none) H := by
  rcases h with ⟨x, dx, vr, vd, vw, b, G, rfl, e, gx, hx, hr, ⟨pd, rfl, hd⟩, hw, ok, k⟩ | ⟨x, dx, vr, vd, vw, ⟨j, okj, f, bad⟩, G, rfl, e, hr, hd, hw, q⟩
  · obtain ⟨g1, g2, o1, o2⟩ := fault_book ok
    rw [good_split, Bool.and_eq_true, Bool.not_eq_true', Bool.not_eq_true'] at g1
    rw [goodW_split, Bool.and_eq_true, Bool.not_eq_true', Bool.not_eq_true'] at g2
    have c1 : ∀ {G1 : Hp} {a1 a2 a3 : Option V}, Ex G G1 → Cm (tVar 1 [some (.ref x), some vr, some (.ref pd), some vw, a1, a2, a3]) G1 (MP.d K (rowsD b)) := fun eG => c_var rfl (Dp.up eG _ _ hr)
    have c2 : ∀ {G1 : Hp} {a1 a2 a3 : Option V}, Ex G G1 → Cm (tVar 2 [some (.ref x), some vr, some (.ref pd), some vw, a1, a2, a3]) G1 (MP.dk b.rule.kvs) := fun eG => c_var rfl ⟨pd, rfl, eG _ _ hd⟩
    have c3 : ∀ {G1 : Hp} {a1 a2 a3 : Option V}, Ex G G1 → Cm (tVar 3 [some (.ref x), some vr, some (.ref pd), some vw, a1, a2, a3]) G1 (MP.d K (wordsD b)) := fun eG => c_var rfl (Dp.up eG _ _ hw)
    refine u_ifX (c_teq (c_rT1 (c1 (Ex.refl G))) g1.1) e fun G1 H1 e1 n1 => ?_
    refine u_ifX (c_teq (c_rT2 (e := none) (x := .non) (vr := .non) X o1.1 (fun d hd => (o1.2 d hd).2) (c1 n1.ex)) g1.2) n1.le fun G2 H2 e2 n2 => ?_
    have x2 : Ex G G2 := n1.ex.trans n2.ex
    refine u_drop (c_callZ (args := fun r : Rule => [MP.dk r.kvs]) (res := fun _ => MP.d K .none) b.rule (c_cons (c2 x2) c_nil)) n2.le fun G3 H3 e3 n3 => ?_
    have x3 : Ex G G3 := x2.trans n3.ex
    refine u_ifX (c_teq (c_wT1 X o2 (c3 x3)) g2.1) n3.le fun G4 H4 e4 n4 => ?_
    have x4 : Ex G G4 := x3.trans n4.ex
    refine u_ifX (c_teq (c_wT2 X g2.1 (fun eG => c3 (x4.trans eG))) g2.2) n4.le fun G5 H5 e5 n5 => ?_
    have n05 : Nw H G G5 H5 := (((n1.trans e1 n2).trans (e1.trans e2) n3).trans ((e1.trans e2).trans e3) n4).trans (((e1.trans e2).trans e3).trans e4) n5
    have e05 : Ex H H5 := (((e1.trans e2).trans e3).trans e4).trans e5
    exact book_stores X e05 n05 gx hx ((x4.trans n5.ex) _ _ hd) k
  · have c1 : ∀ {G1 : Hp} {a1 a2 a3 : Option V}, Ex G G1 → Cm (tVar 1 [some (.ref x), some vr, some vd, some vw, a1, a2, a3]) G1 (MP.d K j.rows) := fun eG => c_var rfl (Dp.up eG _ _ hr)
    have c3 : ∀ {G1 : Hp} {a1 a2 a3 : Option V}, Ex G G1 → Cm (tVar 3 [some (.ref x), some vr, some vd, some vw, a1, a2, a3]) G1 (MP.d K j.words) := fun eG => c_var rfl (Dp.up eG _ _ hw)
    have c2 : ∀ {G1 : Hp} {a1 a2 a3 : Option V}, Ex G G1 → Cm (tVar 2 [some (.ref x), some vr, some vd, some vw, a1, a2, a3]) G1 (MP.rx K j.rule) := fun eG => c_var rfl ((MP.rx K j.rule).mono eG hd)
    unfold RowX.fault at bad
    cases hg : goodRows j.rows with
    | false =>
      rw [hg, if_neg Bool.false_ne_true] at bad
      cases bad
      rw [good_split] at hg
      cases h1 : badR1 j.rows with
      | true => exact (z_ifT (c_teq (c_rT1 (c1 (Ex.refl G))) h1) z_raise0 : BadZ E (.no c'.InvalidRows) (t_Book_initX K w c' E) [some (.ref x), some vr, some vd, some vw, none, none, none] G) H e q _
      | false =>
        rw [h1] at hg
        have h2 : badR2 j.rows = true := by simpa using hg
        rcases tup_or j.rows with ⟨xs, ex⟩ | hn
        · have okr := okj.r
          rw [ex] at okr c1 h2 h1
          refine (z_ifF (c_teq (c_rT1 (c1 (Ex.refl G))) h1) ?_ : BadZ E (.no c'.InvalidRows) (t_Book_initX K w c' E) [some (.ref x), some vr, some vd, some vw, none, none, none] G) H e q _
          exact z_ifT (c_teq (c_rT2 (e := none) (x := .non) (vr := .non) X okr.1 (fun d hd => (okr.2 d hd).2) (c1 (Ex.refl _))) h2) z_raise0
        · rw [badR1_no hn] at h1; cases h1
    | true =>
      rw [hg, if_pos rfl] at bad
      have g1 := hg
      rw [good_split, Bool.and_eq_true, Bool.not_eq_true', Bool.not_eq_true'] at g1
      obtain ⟨xs, ex⟩ : ∃ xs, j.rows = .tuple xs := by
        rcases tup_or j.rows with h | hn
        · exact h
        · rw [badR1_no hn] at g1; cases g1.1
      have okr := okj.r
      rw [ex] at okr c1 g1
      have hZ : ∀ {xo : Xo} {t}, BadZ E xo t [some (.ref x), some vr, some vd, some vw, none, none, none] G → BadZ E xo (tSeq (tIfS (tOr (tNot (tB (tCB (rIsiG K) (tCons (tVar 1) (tCons (tC (.ty "tuple")) tNil))))) (tNot (tTest (tChain rLeI rLeI (tC (.int 1)) (tCB (rLenG K) (tCons (tVar 1) tNil)) (tC (.int 2)))))) (tRaise0 c'.InvalidRows (fun cls d _ H => E cls d H)) tNext)
          (tSeq (tIfS (tNot (tB (tCB (rAll K) (tCons (tLc (iSeq K (tVar 1)) (gName 4) tYes (tCall (sp_is_edition K w c') [] E0 (tCons (tVar 4) (tCons (tC (.int 1)) tNil))) [4]) tNil)))) (tRaise0 c'.InvalidRows (fun cls d _ H => E cls d H)) tNext) t)) [some (.ref x), some vr, some vd, some vw, none, none, none] G := fun hb =>
        z_ifF (c_teq (c_rT1 (c1 (Ex.refl G))) g1.1) (z_ifF (c_teq (c_rT2 (e := none) (x := .non) (vr := .non) X okr.1 (fun d hd => (okr.2 d hd).2) (c1 (Ex.refl _))) g1.2) hb)
      cases hf : ruleFault j.rule with
      | some p =>
        rw [hf] at bad
        cases bad
        exact hZ (z_dropE (z_call (bad := fun j : RuleBad => [MP.rx K j.x]) (xo := fun j : RuleBad => Xo.fld c'.InvalidRule "part" (.str j.part)) ⟨j.rule, p, okj.u, hf⟩ (c_cons (c2 (Ex.refl _)) c_nil))) H e q _
      | none =>
        rw [hf] at bad
        obtain ⟨r, er⟩ := ruleX_of okj.u hf
        have c2' : ∀ {G1 : Hp} {a1 a2 a3 : Option V}, Ex G G1 → Cm (tVar 2 [some (.ref x), some vr, some vd, some vw, a1, a2, a3]) G1 (MP.dk r.kvs) := fun eG => c_var rfl ((MP.dk r.kvs).mono eG (rx_dk (by rw [← er]; exact hd)))
        cases hw' : goodWords j.words with
        | true => rw [hw', if_pos rfl] at bad; cases bad
        | false =>
          rw [hw', if_neg Bool.false_ne_true] at bad
          cases bad
          refine hZ (z_drop (c_callZ (args := fun r : Rule => [MP.dk r.kvs]) (res := fun _ => MP.d K .none) r (c_cons (c2' (Ex.refl _)) c_nil)) fun v G1 e1 _ => ?_) H e q _
          rw [goodW_split] at hw'
          cases h1 : badW1 j.words with
          | true => exact z_ifT (c_teq (c_wT1 X okj.w (c3 e1)) h1) z_raise0
          | false =>
            rw [h1] at hw'
            have h2 : badW2 j.words = true := by simpa using hw'
            obtain ⟨ws, ew⟩ : ∃ xs, j.words = .tuple xs := by
              rcases tup_or j.words with h | hn
              · exact h
              · rw [badW1_no hn] at h1; cases h1
            refine z_ifF (c_teq (c_wT1 X okj.w (c3 e1)) h1) ?_
            rw [ew] at h1 h2 c3
            exact z_ifT (c_teq (c_wT2 X h1 (fun eG => c3 (e1.trans eG))) h2) z_raise0
end
end Ah
/-! Ah36: a book's parts; a book changed; a book built of any row. -/
namespace Ah
open PySem PySem.Spec PyProof.Rows L2 Evl

/-! ### entries put into dicts of data -/
def putD (l : List (Str × PyData)) (x : Str) (d : PyData) : List (Str × PyData) := if l.any (fun q => decide (q.1 = x)) then l.map (fun q => if q.1 = x then (q.1, d) else q) else l ++ [(x, d)]
theorem putD_keys {l : List (Str × PyData)} {x : Str} {d : PyData} (h : x ∈ l.map (·.1)) : (putD l x d).map (·.1) = l.map (·.1) := by
  unfold putD
  have e : (l.any fun q => decide (q.1 = x)) = true := by
    obtain ⟨q, hq, e⟩ := List.mem_map.mp h
    exact List.any_eq_true.mpr ⟨q, hq, decide_eq_true e⟩
  rw [if_pos e, List.map_map]
  refine List.map_congr_left fun q _ => ?_
  show (if q.1 = x then (q.1, d) else q).1 = q.1
  split <;> rfl
theorem putD_len {l : List (Str × PyData)} {x : Str} {d : PyData} : (putD l x d).length ≤ l.length + 1 := by
  unfold putD
  split
  · rw [List.length_map]; omega
  · rw [List.length_append] <;> exact Nat.le_refl _
theorem putD_mem {l : List (Str × PyData)} {x : Str} {d : PyData} {q : Str × PyData} (h : q ∈ putD l x d) : q ∈ l ∨ q = (x, d) := by
  unfold putD at h
  split at h
  · obtain ⟨r, hr, e⟩ := List.mem_map.mp h
    by_cases hx : r.1 = x
    · rw [if_pos hx, hx] at e; exact .inr e.symm
    · rw [if_neg hx] at e; rw [← e]; exact .inl hr
  · rcases List.mem_append.mp h with h | h
    · exact .inl h
    · exact .inr (List.mem_singleton.mp h)
theorem KvD.any {K : PySem.W.Frag} {G : Hp} {x : Str} : ∀ {l : List (Key × V)} {kvs : List (Str × PyData)}, KvD K G l kvs → (l.any fun kv => decide (kv.1 = Sum.inr x)) = kvs.any fun q => decide (q.1 = x)
  | _, _, .nil => rfl
  | _, _, .cons (x := y) h r => by
    rw [List.any_cons, List.any_cons, r.any]
    congr 1
    show decide ((Sum.inr y : Key) = Sum.inr x) = decide (y = x)
    by_cases e : y = x
    · rw [e, decide_eq_true rfl, decide_eq_true rfl]
    · rw [decide_eq_false e, decide_eq_false fun z => e (Sum.inr.inj z)]
theorem KvD.app {K : PySem.W.Frag} {G : Hp} : ∀ {l m : List (Key × V)} {kvs us : List (Str × PyData)}, KvD K G l kvs → KvD K G m us → KvD K G (l ++ m) (kvs ++ us)
  | _, _, _, _, .nil, h => h
  | _, _, _, _, .cons a r, h => .cons a (r.app h)
theorem KvD.mapPut {K : PySem.W.Frag} {G : Hp} {x : Str} {v : V} {d : PyData} (hv : Dp K G v d) : ∀ {l : List (Key × V)} {kvs : List (Str × PyData)}, KvD K G l kvs →
    KvD K G (l.map fun kv => if kv.1 = Sum.inr x then (kv.1, v) else kv) (kvs.map fun q => if q.1 = x then (q.1, d) else q)
  | _, _, .nil => .nil
  | _, _, .cons (x := y) (v := u) (d := d') h r => by
    rw [List.map_cons, List.map_cons]
    by_cases e : y = x
    · subst e
      rw [if_pos rfl, if_pos rfl]
      exact .cons hv (r.mapPut hv)
    · rw [if_neg (fun z : (Sum.inr y : Key) = Sum.inr x => e (Sum.inr.inj z)), if_neg e]
      exact .cons h (r.mapPut hv)
theorem KvD.put {K : PySem.W.Frag} {G : Hp} {x : Str} {v : V} {d : PyData} {l : List (Key × V)} {kvs : List (Str × PyData)} (h : KvD K G l kvs) (hv : Dp K G v d) : KvD K G (putK l (Sum.inr x) v) (putD kvs x d) := by
  unfold putK putD
  rw [h.any]
  split
  · exact h.mapPut hv
  · exact h.app (.cons hv .nil)
theorem merge_new : ∀ (l acc : List (Key × V)), (∀ q ∈ l, q.1 ∉ acc.map (·.1)) → (l.map (·.1)).Nodup → mergeK acc l = acc ++ l
  | [], acc, _, _ => (List.append_nil acc).symm
  | q :: l, acc, h, hn => by
    rw [List.map_cons, List.nodup_cons] at hn
    have e : putK acc q.1 q.2 = acc ++ [q] := by
      unfold putK
      rw [if_neg]
      intro ha
      obtain ⟨r, hr, e⟩ := List.any_eq_true.mp ha
      exact h q (List.mem_cons_self ..) (List.mem_map.mpr ⟨r, hr, of_decide_eq_true e⟩)
    show mergeK (putK acc q.1 q.2) l = acc ++ q :: l
    rw [e, merge_new l (acc ++ [q]) (fun r hr hm => ?_) hn.2, List.append_assoc] <;> try rfl
    rw [List.map_append] at hm
    rcases List.mem_append.mp hm with hm | hm
    · exact h r (List.mem_cons_of_mem _ hr) hm
    · have : r.1 = q.1 := List.mem_singleton.mp hm
      exact hn.1 (List.mem_map.mpr ⟨r, hr, this⟩)
theorem KvD.nodup {K : PySem.W.Frag} {G : Hp} {l : List (Key × V)} {kvs : List (Str × PyData)} (h : KvD K G l kvs) (hn : (kvs.map (·.1)).Nodup) : (l.map (·.1)).Nodup := by
  rw [h.keys]
  unfold List.Nodup at hn ⊢
  rw [List.pairwise_map]
  exact hn.imp fun a z => a (Sum.inr.inj z)
section
variable {K : PySem.W.Frag} {w : World} {c : Ad} {σ : L2.St} {G : Hp} {ta tb te td tk tv : TE} {b : Bk} {kvs : List (Str × PyData)} {x : Str} {d : PyData}
theorem dk_dv {l : List (Str × Str)} {v : V} (h : (MP.dk l).p v G) : (MP.dv K (l.map fun q => (q.1, .str q.2))).p v G := by
  obtain ⟨p, rfl, hp⟩ := h
  exact ⟨p, _, rfl, hp, KvD.of_dk l⟩
/-- {**d, k: v} -/
theorem c_merge1 (h1 : Cm (td σ) G (MP.dv K kvs)) (hn : (kvs.map (·.1)).Nodup) (hl : kvs.length ≤ 1000) (h2 : Cm (tk σ) G (MP.d K (.str x))) (h3 : Cm (tv σ) G (MP.d K d)) : Cm (tMerge1 td tk tv σ) G (MP.dv K (putD kvs x d)) := by
  intro H e Q k p hp
  have gp := fresh_back e hp
  refine h1 _ (e.trans (Ex.new hp)) _ fun v G1 H1 e1 n1 p1 => ?_
  obtain ⟨a, l, rfl, ha, hk⟩ := p1
  have gp1 : G1 p = none := n1.old p (by rw [upd_same]; exact fun z => nomatch z) gp
  have hpa : p ≠ a := fun z => by rw [← z, gp1] at ha; cases ha
  have hp1 : H1 p = some (.dK []) := e1 _ _ upd_same
  have em : mergeK [] l = l := merge_new l [] (fun _ _ z => absurd z List.not_mem_nil) (hk.nodup hn)
  refine ⟨a, l, rfl, hpa, by rw [hk.length]; exact hl, n1.le _ _ ha, hp1, fun q hq => ?_⟩
  rw [em] at hq ⊢
  have l1 : Ex G1 (upd H1 p (.dK l)) := n1.le.mut gp1
  have gq1 : G1 q = none := fresh_back l1 hq
  have hqp : q ≠ p := fun z => by rw [z, upd_same] at hq; cases hq
  refine (h2.up n1.ex) _ (l1.trans (Ex.new hq)) _ fun y G2 H2 e2 n2 p2 => ?_
  rw [dp_str p2]
  refine (h3.up (n1.ex.trans n2.ex)) H2 n2.le _ fun z G3 H3 e3 n3 p3 => ?_
  have gp2 : G2 p = none := n2.old p (by rw [upd_ne (Ne.symm hqp), upd_same]; exact fun z => nomatch z) gp1
  have hp2 : H2 p = some (.dK l) := e2 _ _ (by rw [upd_ne (Ne.symm hqp), upd_same])
  have hp3 := e3 _ _ hp2
  have gp3 : G3 p = none := n3.old p (by rw [hp2]; exact fun z => nomatch z) gp2
  have hq2 : H2 q = some (.dK []) := e2 _ _ upd_same
  have gq2 : G2 q = none := n2.old q (by rw [upd_same]; exact fun z => nomatch z) gq1
  have hq3 := e3 _ _ hq2
  have gq3 : G3 q = none := n3.old q (by rw [hq2]; exact fun z => nomatch z) gq2
  refine ⟨Sum.inr x, rfl, hq3, hp3, ?_⟩
  show Q (.ref p) (upd (upd H3 q _) p (.dK (putK l (Sum.inr x) z)))
  have x3 : Ex G1 G3 := n2.ex.trans n3.ex
  have hH : ∀ b o, H b = some o → H3 b = some o ∧ b ≠ p ∧ b ≠ q := fun b o hb => by
    have hbp : b ≠ p := fun z => by rw [z, hp] at hb; cases hb
    have hb1 : H1 b = some o := e1 _ _ (by rw [upd_ne hbp]; exact hb)
    have hbq : b ≠ q := fun z => by rw [← z, upd_ne hbp, hb1] at hq; cases hq
    exact ⟨e3 _ _ (e2 _ _ (by rw [upd_ne hbq, upd_ne hbp]; exact hb1)), hbp, hbq⟩
  refine k _ (upd G3 p (.dK (putK l (Sum.inr x) z))) _ (fun b o hb => ?_) ⟨?_, fun b o hb => ?_, fun b hb hg => ?_⟩ ⟨p, _, rfl, upd_same, (hk.up (x3.trans (Ex.new gp3))).put (Dp.up (Ex.new gp3) _ _ p3)⟩
  · obtain ⟨z1, z2, z3⟩ := hH b o hb
    rw [upd_ne z2, upd_ne z3]; exact z1
  · exact (n1.ex.trans x3).trans (Ex.new gp3)
  · by_cases hbp : b = p
    · subst hbp; rw [upd_same] at hb ⊢; exact hb
    · rw [upd_ne hbp] at hb ⊢
      rw [upd_ne (fun z => by rw [z, gq3] at hb; cases hb)]
      exact n3.le _ _ hb
  · obtain ⟨o, ho⟩ : ∃ o, H b = some o := by
      cases z : H b with
      | none => exact absurd z hb
      | some o => exact ⟨o, rfl⟩
    obtain ⟨z1, z2, z3⟩ := hH b o ho
    rw [upd_ne z2]
    have hb1 : H1 b ≠ none := by rw [e1 b o (by rw [upd_ne z2]; exact ho)]; exact fun z => nomatch z
    have g1 : G1 b = none := n1.old b (by rw [upd_ne z2]; exact hb) hg
    have g2 : G2 b = none := n2.old b (by rw [upd_ne z3, upd_ne z2]; exact hb1) g1
    exact n3.old b (by rw [e2 b o (by rw [upd_ne z3, upd_ne z2]; exact e1 b o (by rw [upd_ne z2]; exact ho))]; exact fun z => nomatch z) g2
/-! ### a book's parts -/
abbrev sp_Book_rows (K : PySem.W.Frag) (w : World) (c : Ad) : Sp := spOf (ι := Bk) (fun b => [MP.bk K c b]) (fun b => MP.d K (rowsD b))
theorem len_Book_rows {vs : List V} {H : Hp} {Q : VK} {E : XK} (h : sp_Book_rows K w c vs H Q E) : vs.length = 1 := spOf_len (by intro i; rfl) vs H Q E h
def t_Book_rows (K : PySem.W.Frag) (w : World) (c : Ad) : TS := (tRet (tFld K (tVar 0) "wanted"))
theorem rd_Book_rows (X : Ax K w c) {vs : List V} {H : Hp} {Q : VK} {E : XK} (h : sp_Book_rows K w c vs H Q E) : t_Book_rows K w c (Dn Q) (vs.map some ++ List.replicate (1 - vs.length) none) H := by
  obtain ⟨b, G, e, ha, q⟩ := h
  match vs, ha with
  | [x], .cons p .nil => exact (b_ret (c_bkw X (c_var (P := MP.bk K c b) rfl p)) : Cm (bd (t_Book_rows K w c) [some x]) G (MP.d K (rowsD b))) H e Q q
abbrev sp_Book_rule (K : PySem.W.Frag) (w : World) (c : Ad) : Sp := spOf (ι := Bk) (fun b => [MP.bk K c b]) (fun b => MP.dk b.rule.kvs)
theorem len_Book_rule {vs : List V} {H : Hp} {Q : VK} {E : XK} (h : sp_Book_rule K w c vs H Q E) : vs.length = 1 := spOf_len (by intro i; rfl) vs H Q E h
def t_Book_rule (K : PySem.W.Frag) (w : World) (c : Ad) : TS := (tRet (tCB rDictK (tCons (tFld K (tVar 0) "terms") tNil)))
theorem rd_Book_rule (X : Ax K w c) {vs : List V} {H : Hp} {Q : VK} {E : XK} (h : sp_Book_rule K w c vs H Q E) : t_Book_rule K w c (Dn Q) (vs.map some ++ List.replicate (1 - vs.length) none) H := by
  obtain ⟨b, G, e, ha, q⟩ := h
  match vs, ha with
  | [x], .cons p .nil => exact (b_ret (c_dictK (c_bkt X (c_var (P := MP.bk K c b) rfl p))) : Cm (bd (t_Book_rule K w c) [some x]) G (MP.dk b.rule.kvs)) H e Q q
abbrev sp_Book_words (K : PySem.W.Frag) (w : World) (c : Ad) : Sp := spOf (ι := Bk) (fun b => [MP.bk K c b]) (fun b => MP.d K (wordsD b))
theorem len_Book_words {vs : List V} {H : Hp} {Q : VK} {E : XK} (h : sp_Book_words K w c vs H Q E) : vs.length = 1 := spOf_len (by intro i; rfl) vs H Q E h
def t_Book_words (K : PySem.W.Frag) (w : World) (c : Ad) : TS := (tRet (tFld K (tVar 0) "kinds"))
theorem rd_Book_words (X : Ax K w c) {vs : List V} {H : Hp} {Q : VK} {E : XK} (h : sp_Book_words K w c vs H Q E) : t_Book_words K w c (Dn Q) (vs.map some ++ List.replicate (1 - vs.length) none) H := by
  obtain ⟨b, G, e, ha, q⟩ := h
  match vs, ha with
  | [x], .cons p .nil => exact (b_ret (c_bkk X (c_var (P := MP.bk K c b) rfl p)) : Cm (bd (t_Book_words K w c) [some x]) G (MP.d K (wordsD b))) H e Q q
theorem c_prop {ι : Type} {args : ι → List (MP V)} {res : ι → MP V} (i : ι) (hi : args i = [MP.bk K c b]) (h : Cm (ta σ) G (MP.bk K c b)) : Cm (tProp c.Book (spOf args res) [] E0 ta σ) G (res i) := fun H e Q k =>
  h H e _ fun v G1 H1 e1 n1 p1 => by
    have p0 := p1
    obtain ⟨x, dx, vr, pt, vw, rfl, hx, _⟩ := p1
    refine ⟨x, dx, _, rfl, n1.le _ _ hx, i, G1, n1.le, ?_, fun v G' H' e2 n2 q => k v G' H' (e1.trans e2) (n1.trans e1 n2) q⟩
    rw [hi]
    exact .cons p0 .nil
/-! ### rows of any kind -/
abbrev MP.rwX (K : PySem.W.Frag) (x : RowX) : MP V := ⟨fun v G => ∃ a v0 v1 v2, v = .ref a ∧ G a = some (.lst [v0, v1, v2]) ∧ Dp K G v0 x.rows ∧ (MP.rx K x.rule).p v1 G ∧ Dp K G v2 x.words,
  fun e h => let ⟨a, v0, v1, v2, h1, h2, h3, h4, h5⟩ := h; ⟨a, v0, v1, v2, h1, e _ _ h2, Dp.up e _ _ h3, (MP.rx K x.rule).mono e h4, Dp.up e _ _ h5⟩⟩
def Bk.rx (b : Bk) : RowX := ⟨rowsD b, .dict (b.rule.kvs.map fun q => (q.1, .str q.2)), wordsD b⟩
theorem rw_rwX {v : V} (h : (MP.rw K b).p v G) : (MP.rwX K b.rx).p v G := by
  obtain ⟨a, v0, v1, v2, h1, h2, h3, h4, h5⟩ := h
  exact ⟨a, v0, v1, v2, h1, h2, h3, dk_dv h4, h5⟩
theorem rwX_rw {v : V} (h : (MP.rwX K b.rx).p v G) : (MP.rw K b).p v G := by
  obtain ⟨a, v0, v1, v2, h1, h2, h3, h4, h5⟩ := h
  exact ⟨a, v0, v1, v2, h1, h2, h3, rx_dk h4, h5⟩
variable {y : RowX} {E : XK}
theorem c_rwX0 (h1 : Cm (ta σ) G (MP.rwX K y)) : Cm (tOp (rIx K) ta (tC (.int 0)) σ) G (MP.d K y.rows) :=
  c_op (P2 := MP.eq (.int 0)) h1 (c_c rfl) fun x u G1 e1 p q => by
    obtain ⟨a, v0, v1, v2, rfl, ha, h0, h1, h2⟩ := p
    have q : u = .int 0 := q
    subst q
    exact c_val (z := v0) (fun H eh Q h => u_ixL (SqL.of (eh _ _ ha)) rfl h) h0
theorem c_rwX1 (h1 : Cm (ta σ) G (MP.rwX K y)) : Cm (tOp (rIx K) ta (tC (.int 1)) σ) G (MP.rx K y.rule) :=
  c_op (P2 := MP.eq (.int 1)) h1 (c_c rfl) fun x u G1 e1 p q => by
    obtain ⟨a, v0, v1, v2, rfl, ha, h0, h1, h2⟩ := p
    have q : u = .int 1 := q
    subst q
    exact c_val (z := v1) (fun H eh Q h => u_ixL (SqL.of (eh _ _ ha)) rfl h) h1
theorem c_rwX2 (h1 : Cm (ta σ) G (MP.rwX K y)) : Cm (tOp (rIx K) ta (tC (.int 2)) σ) G (MP.d K y.words) :=
  c_op (P2 := MP.eq (.int 2)) h1 (c_c rfl) fun x u G1 e1 p q => by
    obtain ⟨a, v0, v1, v2, rfl, ha, h0, h1, h2⟩ := p
    have q : u = .int 2 := q
    subst q
    exact c_val (z := v2) (fun H eh Q h => u_ixL (SqL.of (eh _ _ ha)) rfl h) h2
/-- Book(rows, rule, words), not refused -/
theorem c_mkBookX (b : Bk) (ok : b.ok) (h1 : Cm (ta σ) G (MP.d K (rowsD b))) (h2 : Cm (tb σ) G (MP.dk b.rule.kvs)) (h3 : Cm (td σ) G (MP.d K (wordsD b))) :
    Cm (tMake c.Book (sp_Book_initX K w c) [] E (tCons ta (tCons tb (tCons td tNil))) σ) G (MP.bk K c b) := fun H e Q k =>
  c_cons h1 (c_cons h2 (c_cons h3 c_nil)) H e _ fun vs G1 H1 e1 n1 p1 => by
    cases p1 with
    | cons a1 p1 => cases p1 with
      | cons a2 p1 => cases p1 with
        | cons a3 p1 =>
          cases p1
          rename_i vr vd vw
          intro x dx nx ndx hne
          have e2 : Ex H1 (upd (upd H1 dx (.own x)) x (.ins c.Book dx [])) := (Ex.new ndx).trans (Ex.new (by rw [upd_ne (Ne.symm hne)]; exact nx))
          have gx := fresh_back n1.le nx
          refine .inl ⟨x, dx, _, _, _, b, G1, rfl, n1.le.trans e2, gx, upd_same, a1, a2, a3, ok, fun pt G' H' f n hpt hx => ⟨rfl, ?_⟩⟩
          have gx' : G' x = none := n.old x (by rw [upd_same]; exact fun z => nomatch z) gx
          have e3 : Ex H1 H' := fun q o hq => f q o (e2 q o hq) (ne_of_none hq nx)
          have n3 : Nw H1 G1 (upd G' x (.ins c.Book dx (bkF vr pt vw))) H' := by
            refine ⟨n.ex.trans (Ex.new gx'), fun q o hq => ?_, fun q hq hg => ?_⟩
            · by_cases hqx : q = x
              · subst hqx; rw [upd_same] at hq; rw [hx, ← hq]
              · rw [upd_ne hqx] at hq; exact n.le q o hq
            · have hqx : q ≠ x := fun z => hq (by rw [z]; exact nx)
              rw [upd_ne hqx]
              exact n.old q (ne_ex e2 hq) hg
          exact k _ _ H' (e1.trans e3) (n1.trans e1 n3) ⟨x, dx, _, pt, _, rfl, upd_same, Dp.up (n.ex.trans (Ex.new gx')) _ _ a1, (Ex.new gx') _ _ hpt, Dp.up (n.ex.trans (Ex.new gx')) _ _ a3⟩
/-- refused -/
theorem z_mkBook (j : BookBad) (h1 : Cm (ta σ) G (MP.d K j.x.rows)) (h2 : Cm (tb σ) G (MP.rx K j.x.rule)) (h3 : Cm (td σ) G (MP.d K j.x.words)) :
    BadZE E (j.f.xo c) (tMake c.Book (sp_Book_initX K w c) [] E (tCons ta (tCons tb (tCons td tNil)))) σ G := fun H e q Q =>
  c_cons h1 (c_cons h2 (c_cons h3 c_nil)) H e _ fun vs G1 H1 e1 n1 p1 => by
    match vs, p1 with
    | [vr, vd, vw], .cons a1 (.cons a2 (.cons a3 .nil)) =>
      intro x dx nx ndx hne
      have e2 : Ex H1 (upd (upd H1 dx (.own x)) x (.ins c.Book dx [])) := (Ex.new ndx).trans (Ex.new (by rw [upd_ne (Ne.symm hne)]; exact nx))
      exact .inr ⟨x, dx, _, _, _, j, G1, rfl, n1.le.trans e2, a1, a2, a3, Xo.up (Xo.up q e1) e2⟩
/-! ### _law_built -/
abbrev sp__law_builtX (K : PySem.W.Frag) (w : World) (c : Ad) : Sp := spZ (ι := BkO) (κ := BookBad) (fun b => [MP.rw K b.val]) (fun b => MP.bk K c b.val) (fun j => [MP.rwX K j.x]) (fun j => j.f.xo c)
theorem len__law_builtX {vs : List V} {H : Hp} {Q : VK} {E : XK} (h : sp__law_builtX K w c vs H Q E) : vs.length = 1 := spZ_len (by intro i; rfl) (by intro i; rfl) vs H Q E h
def t__law_builtX (K : PySem.W.Frag) (w : World) (c : Ad) (E : XK) : TS :=
  (tRet (tMake c.Book (sp_Book_initX K w c) [] E (tCons (tOp (rIx K) (tVar 0) (tC (.int 0))) (tCons (tOp (rIx K) (tVar 0) (tC (.int 1))) (tCons (tOp (rIx K) (tVar 0) (tC (.int 2))) tNil)))))
theorem rd__law_builtX {vs : List V} {H : Hp} {Q : VK} {E : XK} (h : sp__law_builtX K w c vs H Q E) : t__law_builtX K w c E (Dn Q) (vs.map some ++ List.replicate (1 - vs.length) none) H := by
  have hl := len__law_builtX h
  match vs, hl with
  | [x], _ =>
    rcases h with ⟨⟨b, ok⟩, G, e, ha, q⟩ | ⟨j, G, e, ha, q⟩
    · cases ha with
      | cons p ha =>
        cases ha
        have hx : Cm (tVar 0 [some x]) G (MP.rw K b) := c_var (P := MP.rw K b) rfl p
        exact (b_ret (c_mkBookX b ok (c_rw0 hx) (c_rw1 hx) (c_rw2 hx)) : Cm (bd (t__law_builtX K w c E) [some x]) G (MP.bk K c b)) H e Q q
    · cases ha with
      | cons p ha =>
        cases ha
        have hx : Cm (tVar 0 [some x]) G (MP.rwX K j.x) := c_var (P := MP.rwX K j.x) rfl p
        exact (z_retE (z_mkBook j (c_rwX0 hx) (c_rwX1 hx) (c_rwX2 hx)) : BadZ E (j.f.xo c) (t__law_builtX K w c E) [some x] G) H e q _
end
/-! ### a book changed -/
def kvX (r : Rule) : List (Str × PyData) := r.kvs.map fun q => (q.1, .str q.2)
theorem kvX_keys (r : Rule) : (kvX r).map (·.1) = kvParts.map (·.1) := by
  unfold kvX
  rw [List.map_map]
  exact rule_keys r
theorem kvX_okS (r : Rule) : ∀ z ∈ kvX r, okS z.2 := fun z hz => by
  obtain ⟨q, hq, rfl⟩ := List.mem_map.mp hz
  obtain ⟨j, hj⟩ := List.getElem?_of_mem hq
  obtain ⟨pt, hpt, _, e2⟩ := rule_word r j q hj
  exact words_ok pt (List.mem_of_getElem? hpt) _ e2
theorem put_ok (r : Rule) {s : Str} {d : PyData} (hs : s ∈ kvParts.map (·.1)) (hd : okS d) : RuleOk (.dict (putD (kvX r) s d)) := by
  have hk : (putD (kvX r) s d).map (·.1) = kvParts.map (·.1) := by rw [putD_keys (by rw [kvX_keys]; exact hs), kvX_keys]
  refine ⟨fun _ => hk, ?_, fun q hq => ?_⟩
  · have := congrArg List.length hk
    rw [List.length_map, List.length_map] at this
    rw [this]
    decide
  · rcases putD_mem hq with h | h
    · exact kvX_okS r q h
    · rw [h]; exact hd
theorem rowOk_put {b : Bk} (ok : b.ok) {x : RuleX} (hx : RuleOk x) : RowX.Ok ⟨rowsD b, x, wordsD b⟩ := by
  obtain ⟨g1, g2, o1, o2⟩ := fault_book ok
  exact ⟨o1, hx, o2⟩
theorem fault_put {b : Bk} (ok : b.ok) {x : RuleX} {p : Str} (hx : ruleFault x = some p) : RowX.fault ⟨rowsD b, x, wordsD b⟩ = some (.rule p) := by
  obtain ⟨g1, g2, o1, o2⟩ := fault_book ok
  unfold RowX.fault
  show (if goodRows (rowsD b) = true then _ else _) = _
  rw [if_pos g1]
  show (match ruleFault x with | some p => some (Flt.rule p) | none => _) = _
  rw [hx]
def chgFault (b : Bk) (part word : PyData) : Option Str := if isWordD part (kvParts.map (·.1)) then (match part with
  | .str s => ruleFault (.dict (putD (kvX b.rule) s word))
  | _ => none) else some ""
structure ChgOk where
  b : Bk
  ok : b.ok
  s : Str
  y : Str
  r : Rule
  hs : s ∈ kvParts.map (·.1)
  hy : okS (.str y)
  e : putD (kvX b.rule) s (.str y) = kvX r
structure ChgBad where
  b : Bk
  ok : b.ok
  part : PyData
  word : PyData
  o1 : okS part
  o2 : okS word
  p : Str
  bad : chgFault b part word = some p
section
variable {K : PySem.W.Frag} {w : World} {c : Ad} {σ : L2.St} {G : Hp} {ta tb te td tk tv : TE} {E : XK}
abbrev sp_Book_changedX (K : PySem.W.Frag) (w : World) (c : Ad) : Sp := spZ (ι := ChgOk) (κ := ChgBad) (fun i => [MP.bk K c i.b, MP.d K (.str i.s), MP.d K (.str i.y)]) (fun i => MP.bk K c { i.b with rule := i.r }) (fun j => [MP.bk K c j.b, MP.d K j.part, MP.d K j.word]) (fun j => .fld c.InvalidRule "part" (.str j.p))
theorem len_Book_changedX {vs : List V} {H : Hp} {Q : VK} {E : XK} (h : sp_Book_changedX K w c vs H Q E) : vs.length = 3 := spZ_len (by intro i; rfl) (by intro i; rfl) vs H Q E h
def t_Book_changedX (K : PySem.W.Frag) (w : World) (c : Ad) (E : XK) : TS :=
  (tSeq (tIfS (tNot (tB (tCall (sp_is_word K w c) [] E0 (tCons (tVar 1) (tCons (tCB (rListW K w) (tCons (tC (.ref c.PARTS)) tNil)) tNil))))) (tRaiseF c.InvalidRule "part" (fun cls d _ H => E cls d H) (tCons (tC (.str "")) tNil)) tNext)
    (tRet (tMake c.Book (sp_Book_initX K w c) [] E (tCons (tFld K (tVar 0) "wanted") (tCons (tMerge1 (tFld K (tVar 0) "terms") (tVar 1) (tVar 2)) (tCons (tFld K (tVar 0) "kinds") tNil))))))
theorem c_isPart (X : Ax K w c) {d : PyData} (h : Cm (ta σ) G (MP.d K d)) (ok : okS d) : Cm (tCall (sp_is_word K w c) [] E0 (tCons ta (tCons (tCB (rListW K w) (tCons (tC (.ref c.PARTS)) tNil)) tNil)) σ) G (MP.d K (.bool (isWordD d (kvParts.map (·.1))))) := by
  obtain ⟨pk, k1, D, k3⟩ := X.kd
  exact c_isWord false h (l_strs (by rw [← k1]; exact c_listW (c_c ⟨_, rfl, D⟩))) ok keys_shaped
theorem nd_kvX (r : Rule) : ((kvX r).map (·.1)).Nodup := by rw [kvX_keys]; exact parts_nodup
theorem len_kvX (r : Rule) : (kvX r).length ≤ 1000 := by
  have := congrArg List.length (kvX_keys r)
  rw [List.length_map, List.length_map] at this
  rw [this]
  decide
theorem rd_Book_changedX (X : Ax K w c) {vs : List V} {H : Hp} {Q : VK} {E : XK} (h : sp_Book_changedX K w c vs H Q E) : t_Book_changedX K w c E (Dn Q) (vs.map some ++ List.replicate (3 - vs.length) none) H := by
  have hl := len_Book_changedX h
  match vs, hl with
  | [x, u, v], _ =>
    rcases h with ⟨i, G, e, ha, q⟩ | ⟨j, G, e, ha, q⟩
    · match ha with
      | .cons p0 (.cons p1 (.cons p2 .nil)) =>
        have h0 : ∀ {G1 : Hp}, Ex G G1 → Cm (tVar 0 [some x, some u, some v]) G1 (MP.bk K c i.b) := fun e1 => c_var rfl ((MP.bk K c i.b).mono e1 p0)
        have h1 : ∀ {G1 : Hp}, Ex G G1 → Cm (tVar 1 [some x, some u, some v]) G1 (MP.d K (.str i.s)) := fun e1 => c_var rfl (Dp.up e1 _ _ p1)
        have h2 : ∀ {G1 : Hp}, Ex G G1 → Cm (tVar 2 [some x, some u, some v]) G1 (MP.d K (.str i.y)) := fun e1 => c_var rfl (Dp.up e1 _ _ p2)
        have os : okS (.str i.s) := by
          obtain ⟨pr, hpr, e1⟩ := List.mem_map.mp i.hs
          rw [← e1]
          exact key_ok pr hpr
        refine (b_if (b := false) (c_teq (c_tnot (a := true) (c_tB (c_to (c_isPart X (h1 (Ex.refl _)) os) (congrArg PyData.bool (isWord_mem i.hs))))) rfl) (fun z => absurd z Bool.false_ne_true) fun _ => b_nexts (b_ret ?_) : Cm (bd (t_Book_changedX K w c E) [some x, some u, some v]) G (MP.bk K c { i.b with rule := i.r })) H e Q q
        refine c_mkBookX { i.b with rule := i.r } i.ok (c_bkw (b := i.b) X (h0 (Ex.refl _))) ?_ (c_bkk (b := i.b) X (h0 (Ex.refl _)))
        refine (c_merge1 (kvs := kvX i.b.rule) ((c_bkt X (h0 (Ex.refl _))).imp fun _ _ _ z => dk_dv z) (nd_kvX _) (len_kvX _) (h1 (Ex.refl _)) (h2 (Ex.refl _))).imp fun v' G' _ z => ?_
        rw [i.e] at z
        exact rx_dk z
    · match ha with
      | .cons p0 (.cons p1 (.cons p2 .nil)) =>
        have h0 : ∀ {G1 : Hp}, Ex G G1 → Cm (tVar 0 [some x, some u, some v]) G1 (MP.bk K c j.b) := fun e1 => c_var rfl ((MP.bk K c j.b).mono e1 p0)
        have h1 : ∀ {G1 : Hp}, Ex G G1 → Cm (tVar 1 [some x, some u, some v]) G1 (MP.d K j.part) := fun e1 => c_var rfl (Dp.up e1 _ _ p1)
        have h2 : ∀ {G1 : Hp}, Ex G G1 → Cm (tVar 2 [some x, some u, some v]) G1 (MP.d K j.word) := fun e1 => c_var rfl (Dp.up e1 _ _ p2)
        have bad := j.bad
        unfold chgFault at bad
        cases hw : isWordD j.part (kvParts.map (·.1)) with
        | false =>
          rw [hw, if_neg Bool.false_ne_true] at bad
          have q : Xo.run E H (Xo.fld c.InvalidRule "part" (.str j.p)) := q
          rw [← Option.some.inj bad] at q
          exact (z_ifT (c_teq (c_tnot (c_tB (c_isPart X (h1 (Ex.refl _)) j.o1))) (by rw [hw]; rfl)) (z_raise (c_c rfl)) : BadZ E (.fld c.InvalidRule "part" (.str "")) (t_Book_changedX K w c E) [some x, some u, some v] G) H e q _
        | true =>
          rw [hw, if_pos rfl] at bad
          obtain ⟨s, es, hs⟩ := isWord_str hw
          rw [es] at bad h1
          have bad : ruleFault (.dict (putD (kvX j.b.rule) s j.word)) = some j.p := bad
          refine (z_ifF (c_teq (c_tnot (a := true) (c_tB (c_to (c_isPart X (h1 (Ex.refl _)) (by rw [← es]; exact j.o1)) (congrArg PyData.bool (isWord_mem hs))))) rfl) (z_retE ?_) : BadZ E (.fld c.InvalidRule "part" (.str j.p)) (t_Book_changedX K w c E) [some x, some u, some v] G) H e q _
          exact z_mkBook ⟨_, rowOk_put j.ok (put_ok j.b.rule hs j.o2), _, fault_put j.ok bad⟩ (c_bkw X (h0 (Ex.refl _))) (c_merge1 (kvs := kvX j.b.rule) ((c_bkt X (h0 (Ex.refl _))).imp fun _ _ _ z => dk_dv z) (nd_kvX _) (len_kvX _) (h1 (Ex.refl _)) (h2 (Ex.refl _))) (c_bkk X (h0 (Ex.refl _)))
end
end Ah
/-! Ah37: loops in pure defs; sorted texts. -/
namespace Ah
open PySem PySem.Spec PyProof.Rows L2 Evl

/-! ### a statement within a loop's body -/
/-- t goes on with N, or answers a P -/
def Bt (t : TS) (σ : L2.St) (G : Hp) (N : L2.St → Hp → Prop) (P : MP V) : Prop := ∀ H, Ex G H → ∀ D : Ends, (∀ σ' G' H', Ex H H' → Nw H G G' H' → N σ' G' → D.nx σ' H') → (∀ σ' G' H', Ex H H' → Nw H G G' H' → N σ' G' → D.ct σ' H') →
  (∀ v G' H', Ex H H' → Nw H G G' H' → P.p v G' → D.rt v H') → t D σ H
section
variable {K : PySem.W.Frag} {w : World} {c : Ad} {σ : L2.St} {G : Hp} {ta tb te tl : TE} {tt : TT} {t u tr : TS} {P R : MP V} {N : L2.St → Hp → Prop} {ds : List PyData} {d : PyData} {i j : Nat}
theorem bt_next (h : N σ G) : Bt tNext σ G N P := fun H e D n ct rt => n σ G H (Ex.refl H) (Nw.refl e) h
theorem bt_cont (h : N σ G) : Bt tCont σ G N P := fun H e D n ct rt => ct σ G H (Ex.refl H) (Nw.refl e) h
theorem bt_ret (h : Cm (te σ) G P) : Bt (tRet te) σ G N P := fun H e D n ct rt => h H e _ fun v G' H' e1 n1 p => rt v G' H' e1 n1 p
theorem bt_asg (h : Cm (te σ) G R) (k : ∀ v G1, Ex G G1 → R.p v G1 → Bt tr (σ.set i (some v)) G1 N P) : Bt (tSeq (tAsg te (gName i)) tr) σ G N P := fun H e D n ct rt =>
  h H e _ fun v G1 H1 e1 n1 p => k v G1 n1.ex p H1 n1.le _ (fun σ' G' H' e2 n2 => n σ' G' H' (e1.trans e2) (n1.trans e1 n2)) (fun σ' G' H' e2 n2 => ct σ' G' H' (e1.trans e2) (n1.trans e1 n2)) (fun v G' H' e2 n2 => rt v G' H' (e1.trans e2) (n1.trans e1 n2))
theorem bt_asgL (h : Cm (te σ) G R) (k : ∀ v G1, Ex G G1 → R.p v G1 → N (σ.set i (some v)) G1) : Bt (tAsg te (gName i)) σ G N P := fun H e D n ct rt =>
  h H e _ fun v G1 H1 e1 n1 p => n _ G1 H1 e1 n1 (k v G1 n1.ex p)
theorem bt_if {b : Bool} (h : Cm (tt σ) G (MP.eq b)) (h1 : b = true → ∀ G1, Ex G G1 → Bt t σ G1 N P) (h2 : b = false → ∀ G1, Ex G G1 → Bt u σ G1 N P) : Bt (tIfS tt t u) σ G N P := fun H e D n ct rt =>
  h H e _ fun v G1 H1 e1 n1 p => by
    have p : v = b := p
    subst p
    cases v with
    | true => exact iteT (h1 rfl G1 n1.ex H1 n1.le _ (fun σ' G' H' e2 n2 => n σ' G' H' (e1.trans e2) (n1.trans e1 n2)) (fun σ' G' H' e2 n2 => ct σ' G' H' (e1.trans e2) (n1.trans e1 n2)) (fun v G' H' e2 n2 => rt v G' H' (e1.trans e2) (n1.trans e1 n2)))
    | false => exact iteF (h2 rfl G1 n1.ex H1 n1.le _ (fun σ' G' H' e2 n2 => n σ' G' H' (e1.trans e2) (n1.trans e1 n2)) (fun σ' G' H' e2 n2 => ct σ' G' H' (e1.trans e2) (n1.trans e1 n2)) (fun v G' H' e2 n2 => rt v G' H' (e1.trans e2) (n1.trans e1 n2)))
/-- if without else, then the rest -/
theorem bt_ifs {b : Bool} (h : Cm (tt σ) G (MP.eq b)) (h1 : b = true → ∀ G1, Ex G G1 → Bt (tSeq t tr) σ G1 N P) (h2 : b = false → ∀ G1, Ex G G1 → Bt (tSeq u tr) σ G1 N P) : Bt (tSeq (tIfS tt t u) tr) σ G N P := fun H e D n ct rt =>
  h H e _ fun v G1 H1 e1 n1 p => by
    have p : v = b := p
    subst p
    cases v with
    | true => exact iteT (h1 rfl G1 n1.ex H1 n1.le D (fun σ' G' H' e2 n2 => n σ' G' H' (e1.trans e2) (n1.trans e1 n2)) (fun σ' G' H' e2 n2 => ct σ' G' H' (e1.trans e2) (n1.trans e1 n2)) (fun v G' H' e2 n2 => rt v G' H' (e1.trans e2) (n1.trans e1 n2)))
    | false => exact iteF (h2 rfl G1 n1.ex H1 n1.le D (fun σ' G' H' e2 n2 => n σ' G' H' (e1.trans e2) (n1.trans e1 n2)) (fun σ' G' H' e2 n2 => ct σ' G' H' (e1.trans e2) (n1.trans e1 n2)) (fun v G' H' e2 n2 => rt v G' H' (e1.trans e2) (n1.trans e1 n2)))
theorem bt_nexts (h : Bt tr σ G N P) : Bt (tSeq tNext tr) σ G N P := h
theorem bt_rets (h : Cm (te σ) G P) : Bt (tSeq (tRet te) tr) σ G N P := fun H e D n ct rt => h H e _ fun v G' H' e1 n1 p => rt v G' H' e1 n1 p
/-- for x in a list of data: body; rest -/
theorem b_forL (hl : Cm (tl σ) G (MP.d K (.list ds))) (I : Nat → L2.St → Hp → Prop) (h0 : ∀ G1, Ex G G1 → I 0 σ G1)
    (turn : ∀ i d v σ' G1, ds[i]? = some d → Dp K G1 v d → Ex G G1 → I i σ' G1 → Bt t (σ'.set j (some v)) G1 (I (i + 1)) P) (after : ∀ σ' G1, Ex G G1 → I ds.length σ' G1 → Cm (bd tr σ') G1 P) :
    Cm (bd (tSeq (tFor (iSeq K tl) (gName j) t) tr) σ) G P := fun H e Q k => hl H e _ fun x G1 H1 e1 n1 p1 => by
  obtain ⟨a, xs, rfl, h1, h2⟩ := dp_lst p1
  refine .inl ⟨a, rfl, ⟨xs, ex_l n1.le h1⟩, ?_⟩
  have hlen := DpAll.length h2
  refine for_list (xs := xs) (fun i σ' H' => ∃ G', Nw H G G' H' ∧ Ex H H' ∧ Ex G1 G' ∧ I i σ' G') ⟨G1, n1, e1, Ex.refl _, h0 _ n1.ex⟩ ?_ ?_ ?_
  · rintro i σ' H' _ ⟨G', n', _, x', _⟩
    exact ex_l (x'.trans n'.le) h1
  · rintro i x σ' H' hx ⟨G', n', e', x', hI⟩
    obtain ⟨d, hd, pd⟩ := DpAll.at_ h2 hx
    exact turn i d x σ' G' hd (Dp.up x' _ _ pd) n'.ex hI H' n'.le _ (fun σ'' G'' H'' e2 n2 hN => ⟨G'', n'.trans e' n2, e'.trans e2, x'.trans n2.ex, hN⟩) (fun σ'' G'' H'' e2 n2 hN => ⟨G'', n'.trans e' n2, e'.trans e2, x'.trans n2.ex, hN⟩)
      (fun v G'' H'' e2 n2 p => k v G'' H'' (e'.trans e2) (n'.trans e' n2) p)
  · rintro σ' H' ⟨G', n', e', x', hI⟩
    rw [hlen] at hI
    exact after σ' G' n'.ex hI H' n'.le _ fun v G'' H'' e2 n2 p => k v G'' H'' (e'.trans e2) (n'.trans e' n2) p
end
/-! ### sorted texts -/
theorem rises_rank {xs : List Str} {rk : Str → Nat} (hr : ∀ a ∈ xs, ∀ b ∈ xs, ltCps b.cps.toList a.cps.toList = false → rk a ≤ rk b) : ∀ (l : List Str) (p : Str), p ∈ xs → (∀ y ∈ l, y ∈ xs) → risingS p l = true → (p :: l).Pairwise fun a b => rk a ≤ rk b
  | [], p, _, _, _ => List.pairwise_singleton ..
  | x :: r, p, hp, hl, h => by
    have h : (!ltCps x.cps.toList p.cps.toList && risingS x r) = true := h
    obtain ⟨h1, h2⟩ := Bool.and_eq_true_iff.mp h
    have hx := hl x (List.mem_cons_self ..)
    have ih := rises_rank hr r x hx (fun y hy => hl y (List.mem_cons_of_mem _ hy)) h2
    have hpx := hr p hp x hx (by simpa using h1)
    refine List.pairwise_cons.mpr ⟨fun y hy => ?_, ih⟩
    rcases List.mem_cons.mp hy with e | hy
    · rw [e]; exact hpx
    · exact Nat.le_trans hpx (List.rel_of_pairwise_cons ih hy)
/-- a sorted list of known texts is the known one -/
theorem sorted_uniq {xs ys : List Str} {rk : Str → Nat} (hr : ∀ a ∈ xs, ∀ b ∈ xs, ltCps b.cps.toList a.cps.toList = false → rk a ≤ rk b) (hi : ∀ a ∈ xs, ∀ b ∈ xs, rk a = rk b → a = b) (hp : ys.Perm xs) (h1 : sortedS ys = true) (h2 : sortedS xs = true) : ys = xs := by
  have key : ∀ zs : List Str, (∀ y ∈ zs, y ∈ xs) → sortedS zs = true → zs.Pairwise fun a b => rk a ≤ rk b := by
    intro zs hz hs
    cases zs with
    | nil => exact .nil
    | cons z r => exact rises_rank hr r z (hz z (List.mem_cons_self ..)) (fun y hy => hz y (List.mem_cons_of_mem _ hy)) hs
  refine List.Perm.eq_of_pairwise (fun a b ha hb x y => ?_) (key ys (fun y hy => hp.mem_iff.mp hy) h1) (key xs (fun y hy => hy) h2) hp
  exact hi a (hp.mem_iff.mp ha) b hb (Nat.le_antisymm x y)
def partReprs : List Str := kvParts.map fun p => reprText p.1
theorem reprs_uniq {ys : List Str} (hp : ys.Perm partReprs) (h1 : sortedS ys = true) : ys = partReprs :=
  sorted_uniq (rk := fun s => partReprs.idxOf s) (by decide +kernel) (by decide +kernel) hp h1 (by decide +kernel)
end Ah
/-! Ah38: what k01's own rules find wrong. -/
namespace Ah
open PySem PySem.Spec PyProof.Rows L2 Evl

/-! ### _law_is_row -/
def elD : PyData → Bool
  | .tuple [x, y] => SeqAt.shaped x && SeqAt.shaped y
  | _ => true
theorem in_words (ws : List Str) (x : PyData) : ((ws.map PyData.str).any fun z => PyData.eqv z x) = isWordD x ws := by
  cases x with
  | str s =>
    rw [any_dec]
    show _ = ws.any fun x => x == s
    rw [Bool.eq_iff_iff, decide_eq_true_eq, List.any_eq_true]
    exact ⟨fun h => ⟨s, h, beq_self_eq_true s⟩, fun ⟨y, hy, e⟩ => by rw [← beq_iff_eq.mp e]; exact hy⟩
  | _ =>
    refine List.any_eq_false.mpr fun z hz => ?_
    obtain ⟨y, _, rfl⟩ := List.mem_map.mp hz
    exact Bool.false_ne_true
theorem in_12 (y : PyData) (h : isBoolD y = false) : ([PyData.int 1, .int 2].any fun z => PyData.eqv z y) = isIntIn y 1 2 := by
  cases y with
  | bool b => cases h
  | int i =>
    show ((1 == i) || ((2 == i) || false)) = (decide (1 ≤ i) && decide (i ≤ 2))
    by_cases h1 : i = 1
    · rw [h1]; rfl
    · by_cases h2 : i = 2
      · rw [h2]; rfl
      · rw [beq_eq_false_iff_ne.mpr (Ne.symm h1), beq_eq_false_iff_ne.mpr (Ne.symm h2)]
        by_cases h3 : 1 ≤ i
        · rw [decide_eq_true h3, decide_eq_false (by omega)] <;> rfl
        · rw [decide_eq_false h3] <;> rfl
  | _ => rfl
section
variable {K : PySem.W.Frag} {w : World} {c : Ad} {σ : L2.St} {G : Hp} {ta tb te td : TE}
abbrev sp__law_is_row (K : PySem.W.Frag) (w : World) (c : Ad) : Sp := spOf (ι := { d : PyData // elD d = true }) (fun i => [MP.d K i.val]) (fun i => MP.d K (.bool (isEdD i.val 1)))
theorem len__law_is_row {vs : List V} {H : Hp} {Q : VK} {E : XK} (h : sp__law_is_row K w c vs H Q E) : vs.length = 1 := spOf_len (by intro i; rfl) vs H Q E h
def t__law_is_row (K : PySem.W.Frag) (w : World) (c : Ad) : TS :=
  (tSeq (tIfS (tOr (tNot (tB (tCB (rIsiG K) (tCons (tVar 0) (tCons (tC (.ty "tuple")) tNil))))) (tOr (tTest (tOp (rNeD K) (tCB (rLenG K) (tCons (tVar 0) tNil)) (tC (.int 2)))) (tTest (tOp (rInG K true) (tOp (rIx K) (tVar 0) (tC (.int 0))) (tLst (tCons (tC (.str "a")) (tCons (tC (.str "b")) tNil))))))) (tRet (tC (.bl false))) tNext)
    (tRet (tAndV (tNotV (tCB (rIsiG K) (tCons (tOp (rIx K) (tVar 0) (tC (.int 1))) (tCons (tC (.ty "bool")) tNil)))) (tOp (rInG K false) (tOp (rIx K) (tVar 0) (tC (.int 1))) (tLst (tCons (tC (.int 1)) (tCons (tC (.int 2)) tNil)))))))
theorem isEd_no {d : PyData} (h : ∀ x y, d ≠ .tuple [x, y]) : isEdD d 1 = false := by
  unfold isEdD
  split
  · next x y => exact absurd rfl (h x y)
  · rfl
theorem rd__law_is_row {vs : List V} {H : Hp} {Q : VK} {E : XK} (h : sp__law_is_row K w c vs H Q E) : t__law_is_row K w c (Dn Q) (vs.map some ++ List.replicate (1 - vs.length) none) H := by
  obtain ⟨⟨d, ok⟩, G, e, ha, q⟩ := h
  match vs, ha with
  | [x], .cons p .nil =>
    have h0 : ∀ {G1 : Hp}, Ex G G1 → Cm (tVar 0 [some x]) G1 (MP.d K d) := fun e1 => c_var rfl (Dp.up e1 _ _ p)
    suffices key : Cm (bd (t__law_is_row K w c) [some x]) G (MP.d K (.bool (isEdD d 1))) from key H e Q q
    rcases tup_or d with ⟨xs, rfl⟩ | hn
    · have hne : Cm (tTest (tOp (rNeD K) (tCB (rLenG K) (tCons (tVar 0) tNil)) (tC (.int 2))) [some x]) G (MP.eq (!decide (xs.length = 2))) := by
        refine c_teq (c_test (c_ne (c_lenT (h0 (Ex.refl _))) c_int (shp_int _) rfl)) ?_
        show (!(((xs.length : Nat) : Int) == 2)) = !decide (xs.length = 2)
        by_cases h2 : xs.length = 2
        · rw [h2]; rfl
        · rw [decide_eq_false h2, beq_eq_false_iff_ne.mpr (by omega)]
      by_cases h2 : xs.length = 2
      · match xs, h2 with
        | [a, b], _ =>
          have ok : (SeqAt.shaped a && SeqAt.shaped b) = true := ok
          obtain ⟨sa, sb⟩ := Bool.and_eq_true_iff.mp ok
          have ha : Cm (tOp (rIx K) (tVar 0) (tC (.int 0)) [some x]) G (MP.d K a) := c_ixT (h0 (Ex.refl _)) c_int (atI_of (by decide) rfl rfl)
          have hb : ∀ {G1 : Hp}, Ex G G1 → Cm (tOp (rIx K) (tVar 0) (tC (.int 1)) [some x]) G1 (MP.d K b) := fun e1 => c_ixT (h0 e1) c_int (atI_of (by decide) rfl rfl)
          refine b_if2 (b := !isWordD a ["a", "b"]) (c_teq (c_tor (a := false) (c_teq (c_tnot (a := true) (c_tB (c_isi (h0 (Ex.refl _)) (kit_tup _)))) rfl) fun _ => c_tor (a := false) (c_teq hne rfl) fun _ => c_test (c_to (c_inL (n := true) ha (c_lst (c_dcons c_str (c_dcons c_str c_dnil)) (by show 2 ≤ 100000; decide)) sa (by decide +kernel)) (congrArg PyData.bool (congrArg (fun z => !z) (in_words ["a", "b"] a))))) rfl) (fun hw => b_rets (c_to (c_bl (b := false)) ?_)) (fun hw => b_ret (c_to (c_andV (c_notV (c_isi (hb (Ex.refl _)) (kit_bool b))) fun _ => c_inL (n := false) (hb (Ex.refl _)) (c_lst (c_dcons c_int (c_dcons c_int c_dnil)) (by show 2 ≤ 100000; decide)) sb (by decide +kernel)) ?_))
          · refine congrArg PyData.bool ?_
            show false = (isWordD a ["a", "b"] && isIntIn b 1 2)
            have : isWordD a ["a", "b"] = false := by simpa using hw
            rw [this] <;> rfl
          · refine congrArg PyData.bool ?_
            show (!isBoolD b && ([PyData.int 1, .int 2].any fun z => PyData.eqv z b)) = (isWordD a ["a", "b"] && isIntIn b 1 2)
            have : isWordD a ["a", "b"] = true := by simpa using hw
            rw [this, Bool.true_and]
            cases hB : isBoolD b with
            | true => cases b with
              | bool z => rfl
              | _ => cases hB
            | false => rw [in_12 b hB] <;> rfl
      · refine b_if2 (b := true) (c_teq (c_tor (a := false) (b := true) (c_teq (c_tnot (a := true) (c_tB (c_isi (h0 (Ex.refl _)) (kit_tup _)))) rfl) fun _ => c_teq (c_tor (a := true) (b := true) (c_teq hne (by rw [decide_eq_false h2] <;> rfl)) fun z => absurd z.symm Bool.false_ne_true) rfl) rfl) (fun _ => b_rets (c_to (c_bl (b := false)) ?_)) (fun z => absurd z.symm Bool.false_ne_true)
        refine congrArg PyData.bool (isEd_no fun a b z => h2 ?_).symm
        injection z with z
        rw [z] <;> rfl
    · refine b_if2 (b := true) (c_teq (c_tor (a := true) (b := true) (c_teq (c_tnot (a := false) (c_tB (c_isi (h0 (Ex.refl _)) (kit_noT hn)))) rfl) fun z => absurd z.symm Bool.false_ne_true) rfl) (fun _ => b_rets (c_to (c_bl (b := false)) ?_)) (fun z => absurd z.symm Bool.false_ne_true)
      exact congrArg PyData.bool (isEd_no fun a b => hn _).symm
/-! ### _law_rule_fault -/
def oS : Option Str → PyData
  | none => .none
  | some s => .str s
def keysIn : RuleX → Prop
  | .data _ => True
  | .dict kvs => ∀ q ∈ kvs, q.1 ∈ kvParts.map (·.1)
theorem part_repr : ∀ p ∈ kvParts, (reprText p.1).length ≤ 100 ∧ SeqAt.shaped (.str (reprText p.1)) = true := by decide +kernel
theorem v_ne {x y : V} {d e : PyData} (p : Dp K G x d) (q : Dp K G y e) (sd : SeqAt.shaped d = true) (se : SeqAt.shaped e = true) : Cm (rNeD K x y) G (MP.d K (.bool (!PyData.eqv d e))) :=
  c_val (z := .bl (!PyData.eqv d e)) (fun H eh Q h => ⟨d, e, Dp.up eh _ _ p, Dp.up eh _ _ q, sd, se, h⟩) (.bl _)
/-- sorted(..) of a list of texts -/
theorem c_sortedS {xs : List Str} (h : Cm (ta σ) G (MP.l K (xs.map PyData.str))) (hn : xs.length < 64) : Cm (tCB (rSortedS K) (tCons ta tNil) σ) G (MP.ex fun ys : { ys : List Str // ys.Perm xs ∧ sortedS ys = true } => MP.l K (ys.val.map PyData.str)) :=
  c_cb1 h fun x G1 e1 p => by
    obtain ⟨a, vs, rfl, ha, hv⟩ := p
    rw [strs_of hv] at ha
    intro H eh Q k
    refine ⟨a, xs, rfl, SqL.of (eh _ _ ha), hn, fun ys p hp hs hn2 => ?_⟩
    exact k _ (upd G1 p (.lst (ys.map V.str))) _ (Ex.new hn2) (Nw.new eh hn2) ⟨⟨ys, hp, hs⟩, p, _, rfl, upd_same, dps_str _ _⟩
theorem c_reprS {x : Str} (h : Cm (ta σ) G (MP.d K (.str x))) (hl : (reprText x).length ≤ 100) : Cm (tCB rReprS (tCons ta tNil) σ) G (MP.d K (.str (reprText x))) :=
  c_cb1 h fun v G1 e1 p => by
    rw [dp_str p]
    exact c_valN (z := .str (reprText x)) (fun H eh Q h => ⟨x, rfl, sz_of (by omega), h⟩) (.str _)
structure RfIn where
  x : RuleX
  ok : RuleOk x
  ks : keysIn x
abbrev sp__law_rule_fault (K : PySem.W.Frag) (w : World) (c : Ad) : Sp := spOf (ι := RfIn) (fun i => [MP.rx K i.x]) (fun i => MP.d K (oS (ruleFault i.x)))
theorem len__law_rule_fault {vs : List V} {H : Hp} {Q : VK} {E : XK} (h : sp__law_rule_fault K w c vs H Q E) : vs.length = 1 := spOf_len (by intro i; rfl) vs H Q E h
def t__law_rule_fault (K : PySem.W.Frag) (w : World) (c : Ad) : TS :=
  (tSeq (tAsg (tLc (iSeq K (tCall (sp__law_parts K w c) [] E0 tNil)) (gName 2) tYes (tCB rReprS (tCons (tOp (rIx K) (tVar 2) (tC (.int 0))) tNil)) [2]) (gName 1))
    (tSeq (tIfS (tOr (tNot (tB (tCB (rIsiG K) (tCons (tVar 0) (tCons (tC (.ty "dict")) tNil))))) (tTest (tOp (rNeD K) (tCB (rSortedS K) (tCons (tLockE (tLc (iKeys (tVar 0)) (gName 3) tYes (tCB rReprS (tCons (tVar 3) tNil)) [3])) tNil)) (tVar 1)))) (tRet (tC (.str ""))) tNext)
    (tSeq (tFor (iSeq K (tCall (sp__law_parts K w c) [] E0 tNil)) (gName 2)
    (tIfS (tOr (tNot (tB (tCB (rIsiG K) (tCons (tDGet (tVar 0) (tOp (rIx K) (tVar 2) (tC (.int 0)))) (tCons (tC (.ty "str")) tNil))))) (tTest (tOp (rInG K true) (tDGet (tVar 0) (tOp (rIx K) (tVar 2) (tC (.int 0)))) (tSl (rSlG K) (tVar 2) (tPart (tC (.int 1))) tNoPart)))) (tRet (tOp (rIx K) (tVar 2) (tC (.int 0)))) tNext))
    (tRet (tC .non)))))
def reprOf : PyData → PyData
  | .list (.str k :: _) => .str (reprText k)
  | _ => .none
theorem wordFault_drop : ∀ (i : Nat) {ps : List (Str × List Str)} {qs : List (Str × PyData)}, (∀ j, j < i → ∃ p q, ps[j]? = some p ∧ qs[j]? = some q ∧ isWordD q.2 p.2 = true) → wordFault ps qs = wordFault (ps.drop i) (qs.drop i)
  | 0, _, _, _ => rfl
  | i + 1, [], qs, h => by
    obtain ⟨p, q, z, _⟩ := h 0 (Nat.succ_pos _)
    cases z
  | i + 1, p :: ps, [], h => by
    obtain ⟨_, q, _, z, _⟩ := h 0 (Nat.succ_pos _)
    cases z
  | i + 1, p :: ps, q :: qs, h => by
    obtain ⟨p', q', z1, z2, z3⟩ := h 0 (Nat.succ_pos _)
    cases z1
    cases z2
    show (if isWordD q.2 p.2 then wordFault ps qs else some p.1) = wordFault (ps.drop i) (qs.drop i)
    rw [z3, if_pos rfl]
    exact wordFault_drop i fun j hj => by
      obtain ⟨a, b, c1, c2, c3⟩ := h (j + 1) (by omega)
      exact ⟨a, b, by simpa using c1, by simpa using c2, c3⟩
theorem isWord_noStr {d : PyData} {ws : List Str} (h : isStrD d = false) : isWordD d ws = false := by
  cases d with
  | str s => cases h
  | _ => rfl
theorem rd__law_rule_fault {vs : List V} {H : Hp} {Q : VK} {E : XK} (h : sp__law_rule_fault K w c vs H Q E) : t__law_rule_fault K w c (Dn Q) (vs.map some ++ List.replicate (4 - vs.length) none) H := by
  obtain ⟨⟨rx, ok, ks⟩, G, e, ha, q⟩ := h
  match vs, ha with
  | [x], .cons p .nil =>
    suffices key : Cm (bd (t__law_rule_fault K w c) [some x, none, none, none]) G (MP.d K (oS (ruleFault rx))) from key H e Q q
    have er : ((partsL.map fun l => PyData.list (l.map PyData.str)).filter fun _ => true).map reprOf = partReprs.map PyData.str := rfl
    refine b_asg (R := MP.l K (partReprs.map PyData.str)) ?_ fun v G1 e1 p1 => ?_
    · rw [← er]
      refine c_lcL (l_d (c_call (args := fun _ : Unit => []) (res := fun _ => MP.l K _) () c_nil)) (by show 6 ≤ 90000; decide) fun v d G1 e1 hd pd => ?_
      obtain ⟨n, hn⟩ := List.getElem?_of_mem hd
      obtain ⟨pt, hp, rfl⟩ := parts_at hn
      exact ct_name rfl c_yes fun _ => c_reprS (c_ixL (c_var (P := MP.d K _) rfl pd) c_int (atI_of (by decide) rfl rfl)) (part_repr pt (List.mem_of_getElem? hp)).1
    have sp1 : SeqAt.shaped (.list (partReprs.map PyData.str)) = true := strs_shaped fun z hz => by
      obtain ⟨pt, hpt, rfl⟩ := List.mem_map.mp hz
      exact (part_repr pt hpt).2
    have p0 := (MP.rx K rx).mono e1 p
    cases rx with
    | data d =>
      have p0 : Dp K G1 x d := p0
      exact b_if2 (b := true) (c_teq (c_tor (a := true) (b := true) (c_teq (c_tnot (a := false) (c_tB (c_isi (c_var rfl p0) (kit_dict p0)))) rfl) fun z => absurd z.symm Bool.false_ne_true) rfl) (fun _ => b_rets c_str) (fun z => absurd z.symm Bool.false_ne_true)
    | dict kvs =>
      have p0' := p0
      obtain ⟨pa, l, rfl, hp, hk⟩ := p0
      obtain ⟨o1, o2, o3⟩ := ok
      have h0 : ∀ {G2 : Hp} {a b d : Option V}, Ex G1 G2 → Cm (tVar 0 [some (.ref pa), a, b, d]) G2 (MP.dv K kvs) := fun e2 => c_var rfl ((MP.dv K kvs).mono e2 p0')
      have hks : Cm (tLockE (tLc (iKeys (tVar 0)) (gName 3) tYes (tCB rReprS (tCons (tVar 3) tNil)) [3]) [some (.ref pa), some v, none, none]) G1 (MP.l K (((kvs.map (·.1)).map reprText).map PyData.str)) := by
        rw [List.map_map (f := reprText)]
        refine v_lcKeys (F := fun q => .str (reprText q)) (d := pa) hk.keys (by rw [List.length_map]; omega) hp (fun H1 Q _ hq => ⟨_, rfl, hq⟩) fun k G2 hkm => ?_
        obtain ⟨q, hq, rfl⟩ := List.mem_map.mp hkm
        obtain ⟨pt, hpt, e2⟩ := List.mem_map.mp (ks q hq)
        exact ct_name rfl c_yes fun _ => c_reprS (c_var (P := MP.d K _) rfl (.str _)) (by rw [← e2]; exact (part_repr pt hpt).1)
      have htest : Cm (tTest (tOp (rNeD K) (tCB (rSortedS K) (tCons (tLockE (tLc (iKeys (tVar 0)) (gName 3) tYes (tCB rReprS (tCons (tVar 3) tNil)) [3])) tNil)) (tVar 1)) [some (.ref pa), some v, none, none]) G1 (MP.eq (!decide (kvs.length = 6))) := by
        refine c_test (K := K) (c_op (P2 := MP.l K (partReprs.map PyData.str)) (c_sortedS hks (by rw [List.length_map, List.length_map]; omega)) (c_var rfl p1) fun a b G2 e2 ⟨⟨ys, hy, hs⟩, pa'⟩ pb => ?_)
        have da : Dp K G2 a (.list (ys.map PyData.str)) := by
          obtain ⟨_, xs, rfl, z1, z2⟩ := pa'
          exact .lst (SqL.of z1) z2
        have db : Dp K G2 b (.list (partReprs.map PyData.str)) := by
          obtain ⟨_, xs, rfl, z1, z2⟩ := pb
          exact .lst (SqL.of z1) z2
        have sy : SeqAt.shaped (.list (ys.map PyData.str)) = true := strs_shaped fun z hz => by
          obtain ⟨k, hk', rfl⟩ := List.mem_map.mp (hy.mem_iff.mp hz)
          obtain ⟨q, hq, rfl⟩ := List.mem_map.mp hk'
          obtain ⟨pt, hpt, e2⟩ := List.mem_map.mp (ks q hq)
          rw [← e2]
          exact (part_repr pt hpt).2
        refine c_to (v_ne da db sy sp1) (congrArg PyData.bool (congrArg (fun z => !z) ?_))
        show PyData.eqvAll (ys.map PyData.str) (partReprs.map PyData.str) = _
        rw [eqv_strs]
        by_cases h6 : kvs.length = 6
        · have e3 : (kvs.map (·.1)).map reprText = partReprs := by
            have : kvs.map (·.1) = kvParts.map (·.1) := o1 h6
            rw [this, List.map_map] <;> rfl
          rw [e3] at hy
          rw [decide_eq_true h6, decide_eq_true (reprs_uniq hy hs)]
        · rw [decide_eq_false h6, decide_eq_false fun z => h6 ?_]
          have := hy.length_eq
          rw [z, List.length_map, List.length_map] at this
          exact this.symm
      have ef : ruleFault (.dict kvs) = if kvs.length = 6 then wordFault kvParts kvs else some "" := rfl
      refine b_if2 (b := !decide (kvs.length = 6)) (c_teq (c_tor (a := false) (c_teq (c_tnot (a := true) (c_tB (v_isi (h0 (Ex.refl _))))) rfl) fun _ => htest) rfl) (fun h6 => b_rets (c_to c_str ?_)) (fun h6 => ?_)
      · have h6 : ¬ kvs.length = 6 := by simpa using h6
        rw [ef, if_neg h6] <;> rfl
      · have h6 : kvs.length = 6 := by simpa using h6
        have hfull : kvs.map (·.1) = kvParts.map (·.1) := o1 h6
        rw [ef, if_pos h6]
        refine b_forL (ds := partsL.map fun l => PyData.list (l.map PyData.str)) (l_d (c_call (args := fun _ : Unit => []) (res := fun _ => MP.l K _) () c_nil)) (fun i σ _ => (∃ a, σ = [some (.ref pa), some v, a, none]) ∧ ∀ j, j < i → ∃ p q, kvParts[j]? = some p ∧ kvs[j]? = some q ∧ isWordD q.2 p.2 = true)
          (fun _ _ => ⟨⟨_, rfl⟩, fun j hj => absurd hj (Nat.not_lt_zero _)⟩) ?_ ?_
        · rintro i d u σ' G2 hd pd e2 ⟨⟨a, rfl⟩, good⟩
          obtain ⟨pt, hpt, rfl⟩ := parts_at hd
          have hi6 : i < 6 := (List.getElem?_eq_some_iff.mp hpt).1
          obtain ⟨qq, hqq⟩ : ∃ q, kvs[i]? = some q := ⟨_, List.getElem?_eq_getElem (by omega)⟩
          have hq1 : qq.1 = pt.1 := by
            have := congrArg (fun z => z[i]?) hfull
            simp only [List.getElem?_map, hqq, hpt, Option.map_some] at this
            exact Option.some.inj this
          have nd : (kvs.map (·.1)).Nodup := by rw [hfull]; exact parts_nodup
          have lk : kvs.lookup pt.1 = some qq.2 := by rw [← hq1]; exact lookup_nd nd hqq
          have hu : ∀ {G3 : Hp}, Ex G2 G3 → Cm (tVar 2 [some (.ref pa), some v, some u, none]) G3 (MP.d K (.list (.str pt.1 :: pt.2.map PyData.str))) := fun e3 => c_var rfl (Dp.up e3 _ _ pd)
          have hk0 : ∀ {G3 : Hp}, Ex G2 G3 → Cm (tOp (rIx K) (tVar 2) (tC (.int 0)) [some (.ref pa), some v, some u, none]) G3 (MP.d K (.str pt.1)) := fun e3 => c_ixL (hu e3) c_int (atI_of (by decide) rfl rfl)
          have hg : ∀ {G3 : Hp}, Ex G2 G3 → Cm (tDGet (tVar 0) (tOp (rIx K) (tVar 2) (tC (.int 0))) [some (.ref pa), some v, some u, none]) G3 (MP.d K qq.2) := fun e3 => v_get (h0 (e2.trans e3)) (hk0 e3) lk
          have hsl : Cm (tSl (rSlG K) (tVar 2) (tPart (tC (.int 1))) tNoPart [some (.ref pa), some v, some u, none]) G2 (MP.d K (.list (pt.2.map PyData.str))) := by
            refine c_to (c_slL (hu (Ex.refl _)) (c_part (K := K) c_int) c_nopart) (congrArg PyData.list ?_)
            unfold cutD
            simp [HT.sIx]
            exact List.take_of_length_le (by rw [List.length_map] <;> exact Nat.le_refl _)
          refine bt_if (b := !isWordD qq.2 pt.2) ?_ (fun hb G3 e3 => bt_ret (c_to (hk0 e3) ?_)) (fun hb G3 e3 => bt_next ⟨⟨_, rfl⟩, fun j hj => ?_⟩)
          · cases hS : isStrD qq.2 with
            | false => exact c_teq (c_tor (a := true) (b := true) (c_teq (c_tnot (a := false) (c_tB (c_isi (hg (Ex.refl _)) (by rw [kit_str, hS])))) rfl) fun z => absurd z.symm Bool.false_ne_true) (by rw [isWord_noStr hS] <;> rfl)
            | true =>
              have hsh : SeqAt.shaped qq.2 = true := by
                have := o3 qq (List.mem_of_getElem? hqq)
                cases hq2 : qq.2 with
                | str s => rw [hq2] at this; exact this
                | _ => rw [hq2] at hS; cases hS
              exact c_teq (c_tor (a := false) (c_teq (c_tnot (a := true) (c_tB (c_isi (hg (Ex.refl _)) (by rw [kit_str, hS])))) rfl) fun _ => c_test (c_to (c_inL (n := true) (hg (Ex.refl _)) hsl hsh (parts_shaped pt (List.mem_of_getElem? hpt))) (congrArg PyData.bool (congrArg (fun z => !z) (in_words pt.2 qq.2))))) rfl
          · rw [wordFault_drop i good, List.drop_eq_getElem_cons (l := kvParts) (i := i) hi6, List.drop_eq_getElem_cons (l := kvs) (i := i) (by omega)]
            have ep : kvParts[i] = pt := by
              have := List.getElem?_eq_getElem (l := kvParts) hi6
              rw [hpt] at this
              exact (Option.some.inj this).symm
            have eq : kvs[i]'(by omega) = qq := by
              have := List.getElem?_eq_getElem (l := kvs) (i := i) (by omega)
              rw [hqq] at this
              exact (Option.some.inj this).symm
            rw [ep, eq]
            show _ = oS (if isWordD qq.2 pt.2 then _ else some pt.1)
            have hb : isWordD qq.2 pt.2 = false := by simpa using hb
            rw [hb, if_neg Bool.false_ne_true] <;> rfl
          · by_cases hji : j < i
            · exact good j hji
            · have : j = i := by omega
              subst this
              exact ⟨pt, qq, hpt, hqq, by simpa using hb⟩
        · rintro σ' G2 e2 ⟨⟨a, rfl⟩, good⟩
          have : wordFault kvParts kvs = none := by
            rw [wordFault_drop 6 good]
            rfl
          rw [this]
          exact b_ret c_non
end
end Ah
/-! Ah39: what k01 finds wrong with a row. -/
namespace Ah
open PySem PySem.Spec PyProof.Rows L2 Evl

theorem shaped_list_iff {l : List PyData} : SeqAt.shaped (.list l) = true ↔ PyData.canLayAll0 l = true ∧ PyData.depthAll l + 1 ≤ 64 := by
  show (PyData.canLayAll0 l && decide (PyData.depthAll l + 1 ≤ 64)) = true ↔ _
  rw [Bool.and_eq_true, decide_eq_true_eq]
theorem filter_lay (p : PyData → Bool) : ∀ l : List PyData, PyData.canLayAll0 l = true → PyData.canLayAll0 (l.filter p) = true ∧ PyData.depthAll (l.filter p) ≤ PyData.depthAll l
  | [], _ => ⟨rfl, Nat.le_refl _⟩
  | x :: l, h => by
    have h : (PyData.canLay0 x && PyData.canLayAll0 l) = true := h
    obtain ⟨h1, h2⟩ := Bool.and_eq_true_iff.mp h
    obtain ⟨i1, i2⟩ := filter_lay p l h2
    have ed : ∀ r, PyData.depthAll (x :: r) = max (PyData.depth x) (PyData.depthAll r) := fun r => rfl
    rw [List.filter_cons]
    split
    · refine ⟨?_, ?_⟩
      · show (PyData.canLay0 x && PyData.canLayAll0 (l.filter p)) = true
        rw [h1, i1] <;> rfl
      · rw [ed, ed]; omega
    · exact ⟨i1, by rw [ed]; omega⟩
theorem shaped_filter {p : PyData → Bool} {l : List PyData} (h : SeqAt.shaped (.list l) = true) : SeqAt.shaped (.list (l.filter p)) = true := by
  obtain ⟨h1, h2⟩ := shaped_list_iff.mp h
  obtain ⟨i1, i2⟩ := filter_lay p l h1
  exact shaped_list_iff.mpr ⟨i1, by omega⟩
theorem eqv_str_only {x : Str} {d : PyData} (h : PyData.eqv (.str x) d = true) : d = .str x := by
  cases d with
  | str y => rw [eqv_strE] at h; rw [of_decide_eq_true h]
  | _ => exact absurd h Bool.false_ne_true
theorem eqvAll_str_only : ∀ {l : List Str} {ds : List PyData}, PyData.eqvAll (l.map PyData.str) ds = true → ds = l.map PyData.str
  | [], [], _ => rfl
  | [], _ :: _, h => nomatch h
  | _ :: _, [], h => nomatch h
  | x :: l, d :: ds, h => by
    have h : (PyData.eqv (.str x) d && PyData.eqvAll (l.map PyData.str) ds) = true := h
    obtain ⟨h1, h2⟩ := Bool.and_eq_true_iff.mp h
    rw [eqv_str_only h1, eqvAll_str_only h2] <;> rfl
def fourWords : List PyData := [.tuple [], .tuple [.str "join"], .tuple [.str "sweep"], .tuple [.str "join", .str "sweep"]]
theorem four_words (xs : List PyData) : (fourWords.any fun z => PyData.eqv z (.tuple xs)) = goodWords (.tuple xs) := by
  rw [Bool.eq_iff_iff]
  refine ⟨fun h => ?_, fun h => ?_⟩
  · obtain ⟨z, hz, e⟩ := List.any_eq_true.mp h
    have key : ∀ l : List Str, PyData.eqv (.tuple (l.map PyData.str)) (.tuple xs) = true → goodWords (.tuple (l.map PyData.str)) = true → goodWords (.tuple xs) = true := fun l h1 h2 => by
      have h1 : PyData.eqvAll (l.map PyData.str) xs = true := h1
      rw [eqvAll_str_only h1]; exact h2
    unfold fourWords at hz
    simp only [List.mem_cons, List.not_mem_nil, or_false] at hz
    rcases hz with rfl | rfl | rfl | rfl
    · exact key [] e (by decide +kernel)
    · exact key ["join"] e (by decide +kernel)
    · exact key ["sweep"] e (by decide +kernel)
    · exact key ["join", "sweep"] e (by decide +kernel)
  · obtain ⟨j, s, e⟩ := words_goodX h
    rw [e [] rule0]
    cases j <;> cases s <;> decide +kernel
def fD : Option Flt → PyData
  | none => .none
  | some .rows => .str "rows"
  | some (.rule p) => .tuple [.str "rule", .str p]
  | some .words => .str "words"
structure FxIn where
  x : RowX
  ok : x.Ok
  ks : keysIn x.rule
  rs : ∀ xs, x.rows = .tuple xs → SeqAt.shaped (.list xs) = true ∧ ∀ z ∈ xs, elD z = true
  ws : SeqAt.shaped x.words = true
section
variable {K : PySem.W.Frag} {w : World} {c : Ad} {σ : L2.St} {G : Hp} {ta tb te td : TE}
abbrev sp__law_fault (K : PySem.W.Frag) (w : World) (c : Ad) : Sp := spOf (ι := FxIn) (fun i => [MP.rwX K i.x]) (fun i => MP.d K (fD i.x.fault))
theorem len__law_fault {vs : List V} {H : Hp} {Q : VK} {E : XK} (h : sp__law_fault K w c vs H Q E) : vs.length = 1 := spOf_len (by intro i; rfl) vs H Q E h
def t__law_fault (K : PySem.W.Frag) (w : World) (c : Ad) : TS :=
  (tSeq (tIfS (tOr (tNot (tB (tCB (rIsiG K) (tCons (tOp (rIx K) (tVar 0) (tC (.int 0))) (tCons (tC (.ty "tuple")) tNil))))) (tTest (tOp (rInG K true) (tCB (rLenG K) (tCons (tOp (rIx K) (tVar 0) (tC (.int 0))) tNil)) (tLst (tCons (tC (.int 1)) (tCons (tC (.int 2)) tNil)))))) (tRet (tC (.str "rows"))) tNext)
    (tSeq (tIfS (tTest (tOp (rNeD K) (tLc (iSeq K (tOp (rIx K) (tVar 0) (tC (.int 0)))) (gName 1) (tNot (tB (tCall (sp__law_is_row K w c) [] E0 (tCons (tVar 1) tNil)))) (tVar 1) [1]) (tLst tNil))) (tRet (tC (.str "rows"))) tNext)
    (tSeq (tIfS (tTest (tOp rNotN (tCall (sp__law_rule_fault K w c) [] E0 (tCons (tOp (rIx K) (tVar 0) (tC (.int 1))) tNil)) (tC .non))) (tRet (tTup (tCons (tC (.str "rule")) (tCons (tCall (sp__law_rule_fault K w c) [] E0 (tCons (tOp (rIx K) (tVar 0) (tC (.int 1))) tNil)) tNil)))) tNext)
    (tSeq (tIfS (tOr (tNot (tB (tCB (rIsiG K) (tCons (tOp (rIx K) (tVar 0) (tC (.int 2))) (tCons (tC (.ty "tuple")) tNil))))) (tTest (tOp (rInG K true) (tOp (rIx K) (tVar 0) (tC (.int 2))) (tLst (tCons (tTup tNil) (tCons (tTup (tCons (tC (.str "join")) tNil)) (tCons (tTup (tCons (tC (.str "sweep")) tNil)) (tCons (tTup (tCons (tC (.str "join")) (tCons (tC (.str "sweep")) tNil))) tNil)))))))) (tRet (tC (.str "words"))) tNext)
    (tRet (tC .non))))))
theorem c_notNon {d : PyData} (h : Cm (ta σ) G (MP.d K d)) : Cm (tTest (tOp rNotN ta (tC .non)) σ) G (MP.eq (match d with | .none => false | _ => true)) :=
  c_test (K := K) (c_op (P2 := MP.eq .non) h (c_c rfl) fun x y G1 e1 p q => by
    have q : y = .non := q
    subst q
    refine c_val (z := .bl (!decide (x = .non))) (fun H eh Q h => ⟨rfl, h⟩) ?_
    cases p <;> exact .bl _)
theorem good_len (xs : List PyData) : (!([PyData.int 1, .int 2].any fun z => PyData.eqv z (.int xs.length))) = !(decide ((1 : Int) ≤ (xs.length : Int)) && decide ((xs.length : Int) ≤ 2)) := by
  rw [in_12 _ rfl]
  rfl
theorem rows_eq (xs : List PyData) : goodRows (.tuple xs) = ((decide ((1 : Int) ≤ (xs.length : Int)) && decide ((xs.length : Int) ≤ 2)) && xs.all fun d => isEdD d 1) := rfl
theorem rd__law_fault {vs : List V} {H : Hp} {Q : VK} {E : XK} (h : sp__law_fault K w c vs H Q E) : t__law_fault K w c (Dn Q) (vs.map some ++ List.replicate (2 - vs.length) none) H := by
  obtain ⟨⟨rx, ok, ks, rs, ws⟩, G, e, ha, q⟩ := h
  match vs, ha with
  | [x], .cons p .nil =>
    suffices key : Cm (bd (t__law_fault K w c) [some x, none]) G (MP.d K (fD rx.fault)) from key H e Q q
    have h0 : ∀ {G1 : Hp} {a : Option V}, Ex G G1 → Cm (tVar 0 [some x, a]) G1 (MP.rwX K rx) := fun e1 => c_var rfl ((MP.rwX K rx).mono e1 p)
    have hr : ∀ {G1 : Hp} {a : Option V}, Ex G G1 → Cm (tOp (rIx K) (tVar 0) (tC (.int 0)) [some x, a]) G1 (MP.d K rx.rows) := fun e1 => c_rwX0 (h0 e1)
    have hw : ∀ {G1 : Hp} {a : Option V}, Ex G G1 → Cm (tOp (rIx K) (tVar 0) (tC (.int 2)) [some x, a]) G1 (MP.d K rx.words) := fun e1 => c_rwX2 (h0 e1)
    have hf : ∀ {G1 : Hp} {a : Option V}, Ex G G1 → Cm (tCall (sp__law_rule_fault K w c) [] E0 (tCons (tOp (rIx K) (tVar 0) (tC (.int 1))) tNil) [some x, a]) G1 (MP.d K (oS (ruleFault rx.rule))) := fun e1 =>
      c_call (args := fun i : RfIn => [MP.rx K i.x]) (res := fun i => MP.d K (oS (ruleFault i.x))) ⟨rx.rule, ok.u, ks⟩ (c_cons (c_rwX1 (h0 e1)) c_nil)
    rcases tup_or rx.rows with ⟨xs, ex⟩ | hn
    · obtain ⟨rs1, rs2⟩ := rs xs ex
      have okr := ok.r
      rw [ex] at hr okr
      have ef : rx.fault = if goodRows (.tuple xs) then (match ruleFault rx.rule with
        | some p => some (.rule p)
        | none => if goodWords rx.words then none else some .words) else some .rows := by
        unfold RowX.fault
        rw [ex] <;> rfl
      refine b_if2 (b := !(decide ((1 : Int) ≤ (xs.length : Int)) && decide ((xs.length : Int) ≤ 2))) (c_teq (c_tor (a := false) (c_teq (c_tnot (a := true) (c_tB (c_isi (hr (Ex.refl _)) (kit_tup _)))) rfl) fun _ => c_test (c_to (c_inL (n := true) (c_lenT (hr (Ex.refl _))) (c_lst (c_dcons c_int (c_dcons c_int c_dnil)) (by show 2 ≤ 100000; decide)) (shp_int _) (by decide +kernel)) (congrArg PyData.bool (good_len xs)))) rfl) (fun hl => b_rets (c_to c_str ?_)) (fun hl => ?_)
      · have hl : (decide ((1 : Int) ≤ (xs.length : Int)) && decide ((xs.length : Int) ≤ 2)) = false := by rwa [Bool.not_eq_true'] at hl
        rw [ef, rows_eq, hl, Bool.false_and, if_neg Bool.false_ne_true] <;> rfl
      · have hl : (decide ((1 : Int) ≤ (xs.length : Int)) && decide ((xs.length : Int) ≤ 2)) = true := by rwa [Bool.not_eq_false'] at hl
        refine b_if2 (b := !(xs.all fun d => isEdD d 1)) (c_test (K := K) (c_to (c_ne (l_d (c_lcT (t := fun d => !isEdD d 1) (F := fun d => d) (hr (Ex.refl _)) (by have := okr.1; omega) fun v d G2 e2 hd pd => ct_name rfl (c_tnot (c_tB (c_call (args := fun i : { d : PyData // elD d = true } => [MP.d K i.val]) (res := fun i => MP.d K (.bool (isEdD i.val 1))) ⟨d, rs2 d hd⟩ (c_cons (c_var (P := MP.d K d) rfl pd) c_nil)))) fun _ => c_var (P := MP.d K d) rfl pd)) (c_lst c_dnil (by show 0 ≤ 100000; decide)) ?_ rfl) ?_)) (fun hb => b_rets (c_to c_str ?_)) (fun hb => ?_)
        · rw [List.map_id']
          exact shaped_filter rs1
        · rw [List.map_id']
          refine congrArg PyData.bool (congrArg (fun z => !z) ?_)
          cases hfl : xs.filter (fun d => !isEdD d 1) with
          | nil =>
            have := List.filter_eq_nil_iff.mp hfl
            rw [List.all_eq_true.mpr fun d hd => by simpa using this d hd]
            rfl
          | cons a r =>
            have ha : a ∈ xs.filter (fun d => !isEdD d 1) := by rw [hfl]; exact List.mem_cons_self ..
            obtain ⟨a1, a2⟩ := List.mem_filter.mp ha
            have : (xs.all fun d => isEdD d 1) = false := List.all_eq_false.mpr ⟨a, a1, by simpa using a2⟩
            rw [this]
            rfl
        · have hb : (xs.all fun d => isEdD d 1) = false := by rwa [Bool.not_eq_true'] at hb
          rw [ef, rows_eq, hl, hb, Bool.and_false, if_neg Bool.false_ne_true] <;> rfl
        · have hb : (xs.all fun d => isEdD d 1) = true := by rwa [Bool.not_eq_false'] at hb
          rw [ef, rows_eq, hl, hb, Bool.and_true, if_pos rfl]
          cases hrf : ruleFault rx.rule with
          | some pt =>
            rw [hrf] at hf
            exact b_if2 (b := true) (c_notNon (hf (Ex.refl _))) (fun _ => b_rets (c_tup (c_dcons c_str (c_dcons (hf (Ex.refl _)) c_dnil)) (by show 2 ≤ 100000; decide))) (fun z => absurd z.symm Bool.false_ne_true)
          | none =>
            rw [hrf] at hf
            refine b_if2 (b := false) (c_notNon (hf (Ex.refl _))) (fun z => absurd z Bool.false_ne_true) fun _ => ?_
            have eg : ∀ b : Bool, goodWords rx.words = b → fD (if goodWords rx.words = true then none else some .words) = if b then .none else .str "words" := fun b hb => by rw [hb]; cases b <;> rfl
            show Cm _ _ (MP.d K (fD (if goodWords rx.words = true then none else some .words)))
            rcases tup_or rx.words with ⟨us, eu⟩ | hn
            · refine b_if2 (b := !goodWords rx.words) (c_teq (c_tor (a := false) (c_teq (c_tnot (a := true) (c_tB (c_isi (hw (Ex.refl _)) (by rw [eu]; exact kit_tup _)))) rfl) fun _ => c_test (c_to (c_inL (n := true) (ds := fourWords) (hw (Ex.refl _)) (c_lst (c_dcons (c_tup c_dnil (by show 0 ≤ 100000; decide)) (c_dcons (c_tup (c_dcons c_str c_dnil) (by show 1 ≤ 100000; decide)) (c_dcons (c_tup (c_dcons c_str c_dnil) (by show 1 ≤ 100000; decide)) (c_dcons (c_tup (c_dcons c_str (c_dcons c_str c_dnil)) (by show 2 ≤ 100000; decide)) c_dnil)))) (by show 4 ≤ 100000; decide)) ws (by decide +kernel)) (congrArg PyData.bool (congrArg (fun z => !z) (by rw [eu]; exact four_words us))))) rfl) (fun hb => b_rets (c_to c_str ?_)) (fun hb => b_ret (c_to c_non ?_))
              · rw [eg false (by rwa [Bool.not_eq_true'] at hb)] <;> rfl
              · rw [eg true (by rwa [Bool.not_eq_false'] at hb)] <;> rfl
            · refine b_if2 (b := true) (c_teq (c_tor (a := true) (b := true) (c_teq (c_tnot (a := false) (c_tB (c_isi (hw (Ex.refl _)) (kit_noT hn)))) rfl) fun z => absurd z.symm Bool.false_ne_true) rfl) (fun _ => b_rets (c_to c_str ?_)) (fun z => absurd z.symm Bool.false_ne_true)
              rw [eg false ?_]
              · rfl
              · cases hd : rx.words with
                | tuple us => exact absurd hd (hn us)
                | _ => rfl
    · refine b_if2 (b := true) (c_teq (c_tor (a := true) (b := true) (c_teq (c_tnot (a := false) (c_tB (c_isi (hr (Ex.refl _)) (kit_noT hn)))) rfl) fun z => absurd z.symm Bool.false_ne_true) rfl) (fun _ => b_rets (c_to c_str ?_)) (fun z => absurd z.symm Bool.false_ne_true)
      unfold RowX.fault
      cases hd : rx.rows with
      | tuple us => exact absurd hd (hn us)
      | _ => rfl
end
end Ah
/-! Ah40: a row or a change tried. -/
namespace Ah
open PySem PySem.Spec PyProof.Rows L2 Evl

/-- isinstance(e, c) in a suite, e an exception without fields -/
def rIsE2 (K : PySem.W.Frag) (D a : Addr) (cls : Value) (d : Option Addr) : List V → Hp → VK → Prop := fun xs H Q => cls = .ref D ∧ d = none ∧ rIsE K D a xs H Q
theorem call_isE2 {X : Cx} {a D : Addr} {d : Option Addr} {oe : Obj} {pn : List (Addr × Obj)} {cls : Value} (C : ExcC X.K D) (hz : Zc cls d oe) (hf : ∃ vs, oe.data = .fields vs) : CallR (X.suite a ((a, oe) :: pn)) (.builtin "isinstance") (rIsE2 X.K D a cls d) := by
  intro pins s σ H xs us Q I r h
  obtain ⟨h1, h2, h⟩ := h
  subst h1 h2
  exact call_isE C hz hf pins s σ H xs us Q I r h
/-- what is known of the three classes -/
structure Axk1 (K : PySem.W.Frag) (c : Ad) : Prop where
  rr : PySem.W.exmOne K (.ref c.InvalidRows) (.ref c.InvalidRows) = some true
  ur : PySem.W.exmOne K (.ref c.InvalidRule) (.ref c.InvalidRows) = some false
  uu : PySem.W.exmOne K (.ref c.InvalidRule) (.ref c.InvalidRule) = some true
  wr : PySem.W.exmOne K (.ref c.InvalidWords) (.ref c.InvalidRows) = some false
  wu : PySem.W.exmOne K (.ref c.InvalidWords) (.ref c.InvalidRule) = some false
  ww : PySem.W.exmOne K (.ref c.InvalidWords) (.ref c.InvalidWords) = some true
  ik : PySem.W.kitOne K (.ref c.InvalidRows) (.ref c.AheadError) = some true
inductive TryIn where
  | good (b : BkO)
  | bad (j : BookBad)
  | chg (i : ChgOk)
  | chgX (j : ChgBad)
def TryIn.args (K : PySem.W.Frag) (c : Ad) : TryIn → List (MP V)
  | .good b => [MP.d K .none, MP.rw K b.val, MP.d K .none, MP.d K .none]
  | .bad j => [MP.d K .none, MP.rwX K j.x, MP.d K .none, MP.d K .none]
  | .chg i => [MP.bk K c i.b, MP.d K .none, MP.d K (.str i.s), MP.d K (.str i.y)]
  | .chgX j => [MP.bk K c j.b, MP.d K .none, MP.d K j.part, MP.d K j.word]
def TryIn.res (K : PySem.W.Frag) (c : Ad) : TryIn → MP V
  | .good b => MP.bk K c b.val
  | .bad j => MP.d K (fD (some j.f))
  | .chg i => MP.bk K c { i.b with rule := i.r }
  | .chgX j => MP.d K (fD (some (.rule j.p)))
section
variable {K : PySem.W.Frag} {w : World} {c : Ad} {σ : L2.St} {G : Hp} {ta tb te td : TE}
abbrev sp__law_tried (K : PySem.W.Frag) (w : World) (c : Ad) : Sp := spOf (ι := TryIn) (TryIn.args K c) (TryIn.res K c)
theorem len__law_tried {vs : List V} {H : Hp} {Q : VK} {E : XK} (h : sp__law_tried K w c vs H Q E) : vs.length = 4 := spOf_len (by intro i; cases i <;> rfl) vs H Q E h
def t_suite1 (K : PySem.W.Frag) (w : World) (c : Ad) : Addr → Value → Option Addr → TS := fun a cls d =>
  tAsg (tIf (tB (tCB (rIsE2 K c.InvalidRows a cls d) (tCons (tVar 5) (tCons (tC (.ref c.AheadError)) tNil)))) (tC (.str "rows")) (tC .non)) (gName 4)
def t_suite2 (K : PySem.W.Frag) (w : World) (c : Ad) : Addr → Value → Option Addr → TS := fun a cls d =>
  tAsg (tTup (tCons (tC (.str "rule")) (tCons (tXf a cls d c.InvalidRule "part" (tVar 5)) tNil))) (gName 4)
def t_suite3 (K : PySem.W.Frag) (w : World) (c : Ad) : Addr → Value → Option Addr → TS := fun a cls d => tAsg (tC (.str "words")) (gName 4)
def l_tried (K : PySem.W.Frag) (w : World) (c : Ad) : List Cls1 := [⟨.ref c.InvalidRows, some 5, t_suite1 K w c⟩, ⟨.ref c.InvalidRule, some 5, t_suite2 K w c⟩, ⟨.ref c.InvalidWords, none, t_suite3 K w c⟩]
def t_tried (K : PySem.W.Frag) (w : World) (c : Ad) (W : WX) : TS :=
  tAsg (tIf (tTest (tOp rIsN (tVar 0) (tC .non))) (tCallS (sp__law_builtX K w c) (WE W) (tCons (tVar 1) tNil)) (tMethS c.Book "changed" (sp_Book_changedX K w c) (WE W) (tVar 0) (tCons (tVar 2) (tCons (tVar 3) tNil)))) (gName 4)
def t_tryk1 (K : PySem.W.Frag) (w : World) (c : Ad) : TS := fun D σ H => t_tried K w c (wCls K (fun _ _ _ _ => False) D (l_tried K w c)) D σ H
def t__law_tried (K : PySem.W.Frag) (w : World) (c : Ad) : TS :=
  (tSeq (tAsg (tC .non) (gName 4)) (tSeq (t_tryk1 K w c) (tRet (tVar 4))))
theorem bkF_chg (vr : V) (pt : Addr) (vw : V) : (bkF vr pt vw).lookup ("changed" : Str) = none := by
  unfold bkF
  rw [lookup_putF, if_neg (by decide +kernel), lookup_putF, if_neg (by decide +kernel), lookup_putF, if_neg (by decide +kernel)] <;> rfl
/-- each of the three, caught -/
theorem caught (X : Axk1 K c) {f : Flt} {vs : List (Option V)} {G H : Hp} {Q : VK} (hv : vs.length = 4) (e : Ex G H) (q : ∀ v G' H', Ex H H' → Nw H G G' H' → (MP.d K (fD (some f))).p v G' → Q v H') (v4 : Option V) :
    (f.xo c).run (WE (wCls K (fun _ _ _ _ => False) { nx := tRet (tVar 4) (Dn Q), rt := Q } (l_tried K w c)) (vs ++ [v4, none])) H := by
  match vs, hv with
  | [a0, a1, a2, a3], _ =>
    have noEx : ∀ {H' : Hp}, Ex H H' → Nw H G G H' := fun e1 => ⟨Ex.refl G, e.trans e1, fun _ _ z => z⟩
    cases f with
    | rows =>
      intro H' e1
      refine ⟨true, X.rr, fun _ a ha => ?_, fun z => Bool.noConfusion z⟩
      refine ⟨_, rfl, ⟨rfl, rfl, _, _, true, rfl, fun u r => r, X.ik, _, rfl, iteT ?_⟩⟩
      exact ⟨_, rfl, q (.str "rows") G H' e1 (noEx e1) (.str _)⟩
    | rule p =>
      intro d H' e1 hd
      have e2 : Ex H (upd H' d (.xd [("part", .str p)])) := e1.trans (Ex.new hd)
      refine ⟨false, X.ur, fun z => Bool.noConfusion z, fun _ => ⟨true, X.uu, fun _ a ha => ?_, fun z => Bool.noConfusion z⟩⟩
      refine ⟨_, rfl, rfl, rfl, d, _, .str p, rfl, upd_same, by rw [List.lookup_cons, beq_self_eq_true], ?_⟩
      refine ⟨sz_of (n := 2) (by decide), fun t ht => ⟨_, rfl, ?_⟩⟩
      have gt : G t = none := fresh_back (e.trans e2) ht
      exact q _ (upd G t (.tup [.str "rule", .str p])) _ (e2.trans (Ex.new ht)) ((noEx e2).trans e2 (Nw.new (e.trans e2) ht)) (dp_new_tup gt (.cons (.str _) (.cons (.str _) .nil)))
    | words =>
      intro H' e1
      refine ⟨false, X.wr, fun z => Bool.noConfusion z, fun _ => ⟨false, X.wu, fun z => Bool.noConfusion z, fun _ => ⟨true, X.ww, fun _ a ha => ?_, fun z => Bool.noConfusion z⟩⟩⟩
      exact ⟨_, rfl, q (.str "words") G H' e1 (noEx e1) (.str _)⟩
theorem rd__law_tried (X : Axk1 K c) {vs : List V} {H : Hp} {Q : VK} {E : XK} (h : sp__law_tried K w c vs H Q E) : t__law_tried K w c (Dn Q) (vs.map some ++ List.replicate (6 - vs.length) none) H := by
  have hl := len__law_tried h
  match vs, hl with
  | [x0, x1, x2, x3], _ =>
    obtain ⟨i, G, e, ha, q⟩ := h
    refine ⟨_, rfl, ?_⟩
    cases i with
    | good b =>
      match ha with
      | .cons p0 (.cons p1 _) =>
        have e0 := dp_non p0
        subst e0
        refine ⟨rfl, true, rfl, iteT ⟨_, rfl, ?_⟩⟩
        exact .inl ⟨b, G, e, .cons p1 .nil, fun v G' H' e1 n1 p => ⟨_, rfl, q v G' H' e1 n1 p⟩⟩
    | bad j =>
      match ha with
      | .cons p0 (.cons p1 _) =>
        have e0 := dp_non p0
        subst e0
        refine ⟨rfl, true, rfl, iteT ⟨_, rfl, ?_⟩⟩
        exact .inr ⟨j, G, e, .cons p1 .nil, caught X (vs := [some .non, some x1, some x2, some x3]) rfl e (f := j.f) q (some .non)⟩
    | chg i =>
      match ha with
      | .cons p0 (.cons p1 (.cons p2 (.cons p3 _))) =>
        have p0' := p0
        obtain ⟨x, dx, vr, pt, vw, rfl, hx, _⟩ := p0
        refine ⟨rfl, false, rfl, iteF ⟨_, rfl, x, dx, _, rfl, e _ _ hx, bkF_chg _ _ _, _, rfl, _, rfl, ?_⟩⟩
        exact .inl ⟨i, G, e, .cons p0' (.cons p2 (.cons p3 .nil)), fun v G' H' e1 n1 p => ⟨_, rfl, q v G' H' e1 n1 p⟩⟩
    | chgX j =>
      match ha with
      | .cons p0 (.cons p1 (.cons p2 (.cons p3 _))) =>
        have p0' := p0
        obtain ⟨x, dx, vr, pt, vw, rfl, hx, _⟩ := p0
        refine ⟨rfl, false, rfl, iteF ⟨_, rfl, x, dx, _, rfl, e _ _ hx, bkF_chg _ _ _, _, rfl, _, rfl, ?_⟩⟩
        exact .inr ⟨j, G, e, .cons p0' (.cons p2 (.cons p3 .nil)), caught X (vs := [some (.ref x), some x1, some x2, some x3]) rfl e (f := .rule j.p) q (some .non)⟩
end
end Ah
/-! Ah50: values that are alike; dicts compared; a book and a list. -/
namespace Ah
open PySem PySem.Spec PyProof.Rows L2 Evl

/-! ### == and != of two dicts of texts -/
def dkEq (l m : List (Str × Str)) : Bool := l.length == m.length && l.all fun p => decide (m.lookup p.1 = some p.2)
theorem hits_kv {A : Around} {s : Shared} {m : List (Str × Str)} {vb : List (Key × Value)} (rb : KV (kvD m) vb) : ∀ {k : List (Str × Str)} {va : List (Key × Value)}, KV (kvD k) va → PySem.W.KeqHits A s vb va (k.all fun p => decide (m.lookup p.1 = some p.2))
  | [], _, h => by cases h; exact .nil
  | q :: r, _, h => by
    cases h with
    | @cons a b l1 l2 h1 h2 =>
      obtain ⟨bk, bv⟩ := b
      obtain ⟨h3, h4⟩ := h1
      have h3 : Sum.inr q.1 = bk := h3
      subst h3
      obtain ⟨t1, rfl⟩ := (show ∃ t, bv = Value.str q.2 t from h4)
      have r2 : RelO (valV (kvD m) (Sum.inr q.1)) (valueAt vb (Sum.inr q.1)) := rb.val _
      rw [valV_kv] at r2
      rw [List.all_cons]
      cases e2 : m.lookup q.1 with
      | none =>
        rw [e2] at r2
        rw [decide_eq_false (fun z => nomatch z), Bool.false_and]
        exact .miss r2.none_of
      | some x =>
        rw [e2] at r2
        obtain ⟨y, hy, ry⟩ := r2.some_of
        obtain ⟨t2, rfl⟩ := (show ∃ t, y = Value.str x t from ry)
        refine .hit hy (fun prog' w' E' Q' hq' => wpAny_eqBool_str ?_) (hits_kv rb h2)
        have e3 : decide (some x = some q.2) = decide (q.2 = x) := by simp [eq_comm]
        rw [e3] at hq'
        exact hq'
def rEqK : R2 := fun x y H Q => ∃ a b l m, x = .ref a ∧ y = .ref b ∧ H a = some (.dK (kvD l)) ∧ H b = some (.dK (kvD m)) ∧ Q (.bl (dkEq l m)) H
def rNeK : R2 := fun x y H Q => ∃ a b l m, x = .ref a ∧ y = .ref b ∧ H a = some (.dK (kvD l)) ∧ H b = some (.dK (kvD m)) ∧ Q (.bl (!dkEq l m)) H
theorem dkEq_len {l m : List (Str × Str)} {va vb : List (Key × Value)} (ra : KV (kvD l) va) (rb : KV (kvD m) vb) : (va.length == vb.length && l.all fun p => decide (m.lookup p.1 = some p.2)) = dkEq l m := by
  have h1 : (kvD l).length = va.length := Paired.length ra
  have h2 : (kvD m).length = vb.length := Paired.length rb
  unfold dkEq
  rw [← h1, ← h2]
  unfold kvD
  rw [List.length_map, List.length_map]
theorem op_eqK {X : Cx} (hu : X.A.units + 64 < cLine) : OpR X (compareOp .Eq) rEqK := by
  intro pins s σ H x y v u Q I rx ry h
  obtain ⟨a, b, l, m, rfl, rfl, ha, hb, k⟩ := h
  obtain rfl : v = Value.ref a := rx
  obtain rfl : u = Value.ref b := ry
  obtain ⟨_, ya, va, ra, da⟩ := (show ObjOk X.prog X.w H s.heap a (.dK (kvD l)) from I.hok a _ ha)
  obtain ⟨_, yb, vb, rb, db⟩ := (show ObjOk X.prog X.w H s.heap b (.dK (kvD m)) from I.hok b _ hb)
  refine PySem.W.keq_eq ya yb da db (by omega) (fun _ => hits_kv rb ra) ?_
  rw [dkEq_len ra rb]
  exact ⟨.bl _, H, I, rfl, k⟩
theorem op_neK {X : Cx} (hu : X.A.units + 64 < cLine) : OpR X (compareOp .NotEq) rNeK := by
  intro pins s σ H x y v u Q I rx ry h
  obtain ⟨a, b, l, m, rfl, rfl, ha, hb, k⟩ := h
  obtain rfl : v = Value.ref a := rx
  obtain rfl : u = Value.ref b := ry
  obtain ⟨_, ya, va, ra, da⟩ := (show ObjOk X.prog X.w H s.heap a (.dK (kvD l)) from I.hok a _ ha)
  obtain ⟨_, yb, vb, rb, db⟩ := (show ObjOk X.prog X.w H s.heap b (.dK (kvD m)) from I.hok b _ hb)
  refine PySem.W.keq_ne ya yb da db (by omega) (fun _ => hits_kv rb ra) ?_
  rw [dkEq_len ra rb]
  exact ⟨.bl _, H, I, rfl, k⟩
theorem dkEq_self {l : List (Str × Str)} (hn : (l.map (·.1)).Nodup) : dkEq l l = true := by
  unfold dkEq
  rw [beq_self_eq_true, Bool.true_and]
  refine List.all_eq_true.mpr fun q hq => ?_
  obtain ⟨j, hj⟩ := List.getElem?_of_mem hq
  rw [lookup_at hn hj, decide_eq_true rfl]
/-! ### values that are alike -/
inductive AV where
  | data (d : PyData)
  | dict (l : List (Str × Str))
  | row (b : Bk)
def AV.mp (K : PySem.W.Frag) : AV → MP V
  | .data d => MP.d K d
  | .dict l => MP.dk l
  | .row b => MP.rw K b
def AV.ty : AV → String
  | .data d => tyD d
  | .dict _ => "dict"
  | .row _ => "list"
def AV.ok : Nat → AV → Prop
  | n, .data d => SeqAt.shaped d = true ∧ PyData.depth d ≤ n ∧ d.depth ≤ 60
  | n, .dict l => 2 ≤ n ∧ (l.map (·.1)).Nodup ∧ l.length ≤ 1000 ∧ ∀ q ∈ l, SeqAt.shaped (.str q.1) = true
  | n, .row b => 3 ≤ n ∧ b.ok
section
variable {K : PySem.W.Frag} {w : World} {c : Ad} {σ : L2.St} {G : Hp} {ta tb te td : TE} {i : AV}
theorem AV.tyx {v : V} (h : (i.mp K).p v G) : TyX K G v (.type i.ty) := by
  cases i with
  | data d => exact ty_of h
  | dict l => obtain ⟨p, rfl, hp⟩ := h; exact .base (.dK hp)
  | row b => obtain ⟨a, v0, v1, v2, rfl, ha, _⟩ := h; exact .base (.lst ha)
theorem c_isiA {T : String} {b : Bool} (ha : Cm (ta σ) G (i.mp K)) (hk : kitB i.ty T = some b) : Cm (tCB (rIsiG K) (tCons ta (tCons (tC (.ty T)) tNil)) σ) G (MP.d K (.bool b)) :=
  c_cb2 (P2 := MP.eq (.ty T)) ha (c_c rfl) fun x y G1 e1 p q => by
    have hy : y = .ty T := q
    subst hy
    exact c_valN (z := .bl b) (fun H eh Q h => .inl ⟨x, _, _, _, b, rfl, .ty T, AV.tyx ((i.mp K).mono eh p), kit_ty hk, h⟩) (.bl _)
theorem c_isiTA {T1 T2 : String} {b1 b2 : Bool} (ha : Cm (ta σ) G (i.mp K)) (h1 : kitB i.ty T1 = some b1) (h2 : kitB i.ty T2 = some b2) : Cm (tCB (rIsiG K) (tCons ta (tCons (tTup (tCons (tC (.ty T1)) (tCons (tC (.ty T2)) tNil))) tNil)) σ) G (MP.d K (.bool (b1 || b2))) := fun H e Q k =>
  ha H e _ fun x G1 H1 e1 n1 p1 => by
    refine ⟨sz_of (n := 2) (by decide), fun p hp => .inr ⟨x, p, [.ty T1, .ty T2], _, [.type T1, .type T2], b1 || b2, rfl, upd_same, .cons (.ty T1) (.cons (.ty T2) .nil), AV.tyx ((i.mp K).mono (n1.le.trans (Ex.new hp)) p1), ?_, k _ G1 _ (e1.trans (Ex.new hp)) ⟨n1.ex, n1.le.trans (Ex.new hp), n1.old⟩ (.bl _)⟩⟩
    cases b1 with
    | true => exact kitAny_cons (r := true) (kit_ty h1) (fun hb => Bool.noConfusion hb) (fun _ => rfl)
    | false => exact kitAny_cons (r := b2) (kit_ty h1) (fun _ => kitAny_cons (r := b2) (kit_ty h2) (fun hb2 => by rw [hb2] <;> rfl) fun hb2 => hb2) (fun hb => Bool.noConfusion hb)
end
end Ah
/-! Ah51: _law_alike of equal values. -/
namespace Ah
open PySem PySem.Spec PyProof.Rows L2 Evl

def atomD : PyData → Bool
  | .none | .bool _ | .int _ | .str _ => true
  | _ => false
def okD : Nat → PyData → Bool
  | 0, d => SeqAt.shaped d && atomD d
  | n + 1, .tuple ds => SeqAt.shaped (.tuple ds) && (decide (ds.length ≤ 1000) && ds.all (okD n))
  | n + 1, .list ds => SeqAt.shaped (.list ds) && (decide (ds.length ≤ 1000) && ds.all (okD n))
  | _ + 1, d => SeqAt.shaped d && atomD d
theorem okD_sh : ∀ {n : Nat} {d : PyData}, okD n d = true → SeqAt.shaped d = true
  | 0, d, h => (Bool.and_eq_true_iff.mp h).1
  | n + 1, d, h => by cases d <;> exact (Bool.and_eq_true_iff.mp h).1
def AV.okN : Nat → AV → Prop
  | n, .data d => okD n d = true
  | n, .dict l => (l.map (·.1)).Nodup ∧ ∃ m, n = m + 1 ∧ okD m (.list ((l.map (·.1)).map PyData.str)) = true
  | n, .row b => b.ok ∧ ∃ m, n = m + 1 ∧ okD m (rowsD b) = true ∧ okD m (wordsD b) = true ∧ (b.rule.kvs.map (·.1)).Nodup ∧ ∃ k, m = k + 1 ∧ okD k (.list ((b.rule.kvs.map (·.1)).map PyData.str)) = true
def AV.parts : AV → Option (List AV)
  | .data (.tuple ds) => some (ds.map AV.data)
  | .data (.list ds) => some (ds.map AV.data)
  | .row b => some [.data (rowsD b), .dict b.rule.kvs, .data (wordsD b)]
  | _ => none
theorem AV.parts_ok {n : Nat} {i : AV} {ps : List AV} (h : i.okN n) (hp : i.parts = some ps) : ps.length ≤ 1000 ∧ ∃ m, n = m + 1 ∧ ∀ p ∈ ps, p.okN m := by
  cases i with
  | dict l => cases hp
  | row b =>
    cases hp
    obtain ⟨ok, m, rfl, h1, h2, h3, h4⟩ := h
    refine ⟨by show 3 ≤ 1000; decide, m, rfl, fun p hp => ?_⟩
    simp only [List.mem_cons, List.not_mem_nil, or_false] at hp
    rcases hp with rfl | rfl | rfl
    · exact h1
    · exact ⟨h3, h4⟩
    · exact h2
  | data d =>
    have key : ∀ (ds : List PyData) (m : Nat), ds.length ≤ 1000 → ds.all (okD m) = true → (ds.map AV.data).length ≤ 1000 ∧ ∃ k, m + 1 = k + 1 ∧ ∀ p ∈ ds.map AV.data, p.okN k := fun ds m hl ha => by
      refine ⟨by rw [List.length_map]; exact hl, m, rfl, fun p hp => ?_⟩
      obtain ⟨x, hx, rfl⟩ := List.mem_map.mp hp
      exact List.all_eq_true.mp ha x hx
    cases d with
    | tuple ds =>
      cases hp
      cases n with
      | zero => exact absurd (Bool.and_eq_true_iff.mp h).2 Bool.false_ne_true
      | succ m =>
        obtain ⟨_, h2⟩ := Bool.and_eq_true_iff.mp h
        obtain ⟨h3, h4⟩ := Bool.and_eq_true_iff.mp h2
        exact key ds m (of_decide_eq_true h3) h4
    | list ds =>
      cases hp
      cases n with
      | zero => exact absurd (Bool.and_eq_true_iff.mp h).2 Bool.false_ne_true
      | succ m =>
        obtain ⟨_, h2⟩ := Bool.and_eq_true_iff.mp h
        obtain ⟨h3, h4⟩ := Bool.and_eq_true_iff.mp h2
        exact key ds m (of_decide_eq_true h3) h4
    | _ => cases hp
def rEqDK (K : PySem.W.Frag) : R2 := fun x y H Q => rEqD K x y H Q ∨ rEqK x y H Q
theorem op_eqDK {X : Cx} (hu : X.A.units + 64 < cLine) : OpR X (compareOp .Eq) (rEqDK X.K) := (op_eqD hu).or (op_eqK hu)
def sp__law_alikeR (K : PySem.W.Frag) (w : World) (c : Ad) : Nat → Sp
  | 0 => fun _ _ _ _ => False
  | n + 1 => spOf (ι := { i : AV // i.okN n }) (fun i => [i.val.mp K, i.val.mp K]) (fun _ => MP.d K (.bool true))
theorem len__law_alikeR {K : PySem.W.Frag} {w : World} {c : Ad} {n : Nat} {vs : List V} {H : Hp} {Q : VK} {E : XK} (h : sp__law_alikeR K w c n vs H Q E) : vs.length = 2 := by
  cases n with
  | zero => exact h.elim
  | succ n => exact spOf_len (ι := { i : AV // i.okN n }) (args := fun i => [i.val.mp K, i.val.mp K]) (res := fun _ => MP.d K (.bool true)) (by intro i; rfl) vs H Q E h
def t__law_alikeR (K : PySem.W.Frag) (w : World) (c : Ad) (sp : Sp) : TS :=
  (tSeq (tIfS (tB (tCB (rIsiG K) (tCons (tVar 1) (tCons (tC (.ty "dict")) tNil)))) (tRet (tAndV (tCB (rIsiG K) (tCons (tVar 0) (tCons (tC (.ty "dict")) tNil))) (tAndV (tCall sp [] E0 (tCons (tCB rListD (tCons (tVar 0) tNil)) (tCons (tCB rListD (tCons (tVar 1) tNil)) tNil))) (tOp (rEqDK K) (tVar 0) (tVar 1))))) tNext)
    (tSeq (tIfS (tB (tCB (rIsiG K) (tCons (tVar 1) (tCons (tTup (tCons (tC (.ty "tuple")) (tCons (tC (.ty "list")) tNil))) tNil)))) (tSeq (tIfS (tOr (tNot (tB (tCB (rIsiG K) (tCons (tVar 0) (tCons (tTup (tCons (tC (.ty "tuple")) (tCons (tC (.ty "list")) tNil))) tNil))))) (tTest (tOp (rNeD K) (tCB (rIsiG K) (tCons (tVar 0) (tCons (tC (.ty "list")) tNil))) (tCB (rIsiG K) (tCons (tVar 1) (tCons (tC (.ty "list")) tNil)))))) (tRet (tC (.bl false))) tNext)
    (tSeq (tIfS (tTest (tOp (rNeD K) (tCB (rLenG K) (tCons (tVar 0) tNil)) (tCB (rLenG K) (tCons (tVar 1) tNil)))) (tRet (tC (.bl false))) tNext)
    (tRet (tOp (rEqD K) (tLc (iRng1 (tCons (tCB (rLenG K) (tCons (tVar 1) tNil)) tNil)) (gName 2) (tNot (tB (tCall sp [] E0 (tCons (tOp (rIx K) (tVar 0) (tVar 2)) (tCons (tOp (rIx K) (tVar 1) (tVar 2)) tNil))))) (tVar 2) [2]) (tLst tNil))))) tNext)
    (tSeq (tIfS (tOr (tTest (tOp rIsN (tVar 1) (tC .non))) (tB (tCB (rIsiG K) (tCons (tVar 1) (tCons (tC (.ty "str")) tNil))))) (tRet (tAndV (tOp (rEqDK K) (tVar 0) (tVar 1)) (tOp (rEqD K) (tCB (rIsiG K) (tCons (tVar 0) (tCons (tC (.ty "str")) tNil))) (tCB (rIsiG K) (tCons (tVar 1) (tCons (tC (.ty "str")) tNil)))))) tNext)
    (tRet (tAndV (tCB (rIsiG K) (tCons (tVar 0) (tCons (tC (.ty "int")) tNil))) (tAndV (tOp (rEqD K) (tCB (rIsiG K) (tCons (tVar 0) (tCons (tC (.ty "bool")) tNil))) (tCB (rIsiG K) (tCons (tVar 1) (tCons (tC (.ty "bool")) tNil)))) (tOp (rEqDK K) (tVar 0) (tVar 1))))))))
section
variable {K : PySem.W.Frag} {w : World} {c : Ad} {σ : L2.St} {G : Hp} {ta tb te td : TE} {i p : AV} {ps : List AV} {d e : PyData} {n : Nat}
theorem c_lenA (hp : i.parts = some ps) (h : Cm (ta σ) G (i.mp K)) : Cm (tCB (rLenG K) (tCons ta tNil) σ) G (MP.d K (.int ps.length)) := by
  cases i with
  | dict l => cases hp
  | row b =>
    cases hp
    exact c_cb1 h fun x G1 e1 p => by
      obtain ⟨a, v0, v1, v2, rfl, ha, _⟩ := p
      exact c_valN (z := .int 3) (fun H eh Q q => ⟨_, 3, rfl, .inl ⟨_, SqL.of (eh _ _ ha), rfl⟩, q⟩) (.int 3)
  | data d =>
    cases d with
    | tuple ds => cases hp; exact c_to (c_lenT h) (by rw [List.length_map])
    | list ds => cases hp; exact c_to (c_lenL h) (by rw [List.length_map])
    | _ => cases hp
theorem atI_map {α β : Type} {f : α → β} {xs : List α} {j : Nat} {y : β} (h : (xs.map f)[j]? = some y) : ∃ x, atI xs (j : Int) = some x ∧ y = f x := by
  rw [List.getElem?_map] at h
  cases q : xs[j]? with
  | none => rw [q] at h; cases h
  | some x => rw [q] at h; exact ⟨x, atI_nat q, (Option.some.inj h).symm⟩
theorem c_ixA {j : Nat} (hp : i.parts = some ps) (h : Cm (ta σ) G (i.mp K)) (hj : Cm (tb σ) G (MP.d K (.int j))) (hk : ps[j]? = some p) : Cm (tOp (rIx K) ta tb σ) G (p.mp K) := by
  cases i with
  | dict l => cases hp
  | row b =>
    cases hp
    exact c_op h hj fun x u G1 e1 r q => by
      obtain ⟨a, v0, v1, v2, rfl, ha, h0, h1, h2⟩ := r
      rw [dp_int q]
      match j, hk with
      | 0, hk => cases hk; exact c_val (z := v0) (fun H eh Q h => u_ixL (SqL.of (eh _ _ ha)) rfl h) h0
      | 1, hk => cases hk; exact c_val (z := v1) (fun H eh Q h => u_ixL (SqL.of (eh _ _ ha)) rfl h) h1
      | 2, hk => cases hk; exact c_val (z := v2) (fun H eh Q h => u_ixL (SqL.of (eh _ _ ha)) rfl h) h2
      | j + 3, hk => cases hk
  | data d =>
    cases d with
    | tuple ds =>
      cases hp
      obtain ⟨x, hx, rfl⟩ := atI_map hk
      exact c_ixT h hj hx
    | list ds =>
      cases hp
      obtain ⟨x, hx, rfl⟩ := atI_map hk
      exact c_ixL h hj hx
    | _ => cases hp
theorem c_eqDD (ha : Cm (ta σ) G (MP.d K d)) (hb : Cm (tb σ) G (MP.d K d)) (sd : SeqAt.shaped d = true) : Cm (tOp (rEqDK K) ta tb σ) G (MP.d K (.bool true)) :=
  c_op ha hb fun x y G1 e1 p q => c_val (z := .bl true) (fun H eh Q h => .inl ⟨d, d, Dp.up eh _ _ p, Dp.up eh _ _ q, sd, sd, by rw [SeqAt.eqv_refl d (SeqAt.canLay_of_shaped sd)]; exact h⟩) (.bl _)
theorem c_eqKK {l : List (Str × Str)} (hn : (l.map (·.1)).Nodup) (ha : Cm (ta σ) G (MP.dk l)) (hb : Cm (tb σ) G (MP.dk l)) : Cm (tOp (rEqDK K) ta tb σ) G (MP.d K (.bool true)) :=
  c_op ha hb fun x y G1 e1 ⟨a, ea, pa⟩ ⟨b, eb, pb⟩ => c_val (z := .bl true) (fun H eh Q h => .inr ⟨a, b, l, l, ea, eb, eh _ _ pa, eh _ _ pb, by rw [dkEq_self hn]; exact h⟩) (.bl _)
theorem c_listKd {l : List (Str × Str)} (h1 : Cm (td σ) G (MP.dk l)) : Cm (tCB rListD (tCons td tNil) σ) G (MP.l K ((l.map (·.1)).map PyData.str)) :=
  c_cb1 h1 fun x G1 e1 p => by
    obtain ⟨p, rfl, hp⟩ := p
    refine c_newV (o := .lst ((kvD l).map fun kv => kV kv.1)) (fun H eh Q h => ⟨p, kvD l, rfl, eh _ _ hp, h⟩) fun p hp => ⟨p, _, rfl, upd_same, ?_⟩
    have z := dps_str (K := K) (l.map (·.1)) (upd G1 p (.lst ((kvD l).map fun kv => kV kv.1)))
    have e : ((kvD l).map fun kv => kV kv.1) = (l.map (·.1)).map V.str := by
      unfold kvD
      rw [List.map_map, List.map_map] <;> rfl
    rw [e]
    rw [e] at z
    exact z
theorem c_alikeR (ha : Cm (ta σ) G (i.mp K)) (hb : Cm (tb σ) G (i.mp K)) (ok : i.okN n) : Cm (tCall (sp__law_alikeR K w c (n + 1)) [] E0 (tCons ta (tCons tb tNil)) σ) G (MP.d K (.bool true)) :=
  c_call (args := fun i : { i : AV // i.okN n } => [i.val.mp K, i.val.mp K]) (res := fun _ => MP.d K (.bool true)) ⟨i, ok⟩ (c_cons ha (c_cons hb c_nil))
theorem kit_parts {ps : List AV} (hp : i.parts = some ps) : ∃ a b, kitB i.ty "tuple" = some a ∧ kitB i.ty "list" = some b ∧ (a || b) = true ∧ kitB i.ty "dict" = some false := by
  cases i with
  | dict l => cases hp
  | row b => exact ⟨false, true, by rfl, by rfl, rfl, by rfl⟩
  | data d =>
    cases d with
    | tuple ds => exact ⟨true, false, by rfl, by rfl, rfl, by rfl⟩
    | list ds => exact ⟨false, true, by rfl, by rfl, rfl, by rfl⟩
    | _ => cases hp
theorem rd__law_alikeR {m : Nat} {vs : List V} {H : Hp} {Q : VK} {E : XK} (h : sp__law_alikeR K w c (m + 1) vs H Q E) : t__law_alikeR K w c (sp__law_alikeR K w c m) (Dn Q) (vs.map some ++ List.replicate (3 - vs.length) none) H := by
  have hl := len__law_alikeR h
  obtain ⟨⟨i, ok⟩, G, e, ha, q⟩ := h
  match vs, ha with
  | [x, y], .cons p1 (.cons p2 .nil) =>
    suffices key : Cm (bd (t__law_alikeR K w c (sp__law_alikeR K w c m)) [some x, some y, none]) G (MP.d K (.bool true)) from key H e Q q
    have h1 : ∀ {G1 : Hp} {a : Option V}, Ex G G1 → Cm (tVar 0 [some x, some y, a]) G1 (i.mp K) := fun e1 => c_var rfl ((i.mp K).mono e1 p1)
    have h2 : ∀ {G1 : Hp} {a : Option V}, Ex G G1 → Cm (tVar 1 [some x, some y, a]) G1 (i.mp K) := fun e1 => c_var rfl ((i.mp K).mono e1 p2)
    have hb1 : SeqAt.shaped (.bool true) = true := rfl
    cases hpp : i.parts with
    | some ps =>
      obtain ⟨a, b, k1, k2, k3, k4⟩ := kit_parts hpp
      obtain ⟨hlen, m', rfl, hok⟩ := AV.parts_ok ok hpp
      refine b_if2 (b := false) (c_tB (c_isiA (h2 (Ex.refl _)) k4)) (fun z => absurd z Bool.false_ne_true) fun _ => ?_
      refine b_if2 (b := true) (c_tB (c_to (c_isiTA (h2 (Ex.refl _)) k1 k2) (by rw [k3]))) (fun _ => ?_) (fun z => absurd z.symm Bool.false_ne_true)
      refine b_seqA (b_if2 (b := false) (c_teq (c_tor (a := false) (b := false) (c_teq (c_tnot (a := true) (c_tB (c_to (c_isiTA (h1 (Ex.refl _)) k1 k2) (by rw [k3])))) rfl) fun _ => c_test (c_to (c_ne (c_isiA (h1 (Ex.refl _)) k2) (c_isiA (h2 (Ex.refl _)) k2) rfl rfl) ?_)) rfl) (fun z => absurd z Bool.false_ne_true) fun _ => ?_)
      · cases b <;> rfl
      refine b_seqA (b_if2 (b := false) (c_test (c_to (c_ne (c_lenA hpp (h1 (Ex.refl _))) (c_lenA hpp (h2 (Ex.refl _))) rfl rfl) ?_)) (fun z => absurd z Bool.false_ne_true) fun _ => b_rets ?_)
      · show PyData.bool (!((ps.length : Int) == (ps.length : Int))) = _
        rw [beq_self_eq_true] <;> rfl
      have hlc : Cm (tLc (iRng1 (tCons (tCB (rLenG K) (tCons (tVar 1) tNil)) tNil)) (gName 2) (tNot (tB (tCall (sp__law_alikeR K w c (m' + 1)) [] E0 (tCons (tOp (rIx K) (tVar 0) (tVar 2)) (tCons (tOp (rIx K) (tVar 1) (tVar 2)) tNil))))) (tVar 2) [2] [some x, some y, none]) G (MP.l K (((List.range ps.length).filter fun _ => false).map fun j => PyData.int (j : Nat))) := by
        refine c_lcR (c_dcons (c_lenA hpp (h2 (Ex.refl _))) c_dnil) (by omega) fun j G1 e1 hj => ?_
        obtain ⟨p, hp⟩ : ∃ p, ps[j]? = some p := ⟨_, List.getElem?_eq_getElem hj⟩
        refine ct_name rfl (c_teq (c_tnot (a := true) (c_tB (c_alikeR (c_ixA hpp (h1 e1) (c_var (P := MP.d K (.int j)) rfl (.int _)) hp) (c_ixA hpp (h2 e1) (c_var (P := MP.d K (.int j)) rfl (.int _)) hp) (hok p (List.mem_of_getElem? hp))))) rfl) fun z => Bool.noConfusion z
      have hnil : (((List.range ps.length).filter fun _ => false).map fun j => PyData.int (j : Nat)) = [] := by
        rw [List.filter_eq_nil_iff.mpr fun _ _ => Bool.false_ne_true] <;> rfl
      rw [hnil] at hlc
      exact c_to (c_eq (l_d hlc) (c_lst c_dnil (by show 0 ≤ 100000; decide)) rfl rfl) rfl
    | none =>
      cases i with
      | row b => cases hpp
      | dict l =>
        obtain ⟨hn, m', rfl, hk⟩ := ok
        refine b_if2 (b := true) (c_tB (c_isiA (h2 (Ex.refl _)) (by rfl))) (fun _ => b_rets ?_) (fun z => absurd z.symm Bool.false_ne_true)
        refine c_to (c_andV (a := true) (b := true) (c_isiA (h1 (Ex.refl _)) (by rfl)) fun _ => c_to (c_andV (a := true) (b := true) (c_alikeR (i := .data (.list ((l.map fun q : Str × Str => q.1).map PyData.str))) (l_d (c_listKd (h1 (Ex.refl _)))) (l_d (c_listKd (h2 (Ex.refl _)))) hk) fun _ => c_eqKK hn (h1 (Ex.refl _)) (h2 (Ex.refl _))) rfl) rfl
      | data d =>
        have sd : SeqAt.shaped d = true := okD_sh ok
        have at1 : kitB (tyD d) "dict" = some false ∧ kitB (tyD d) "tuple" = some false ∧ kitB (tyD d) "list" = some false := by
          have p1 : Dp K G x d := p1
          cases p1 with
          | lst => cases hpp
          | tup => cases hpp
          | _ => exact ⟨rfl, rfl, rfl⟩
        obtain ⟨k1, k2, k3⟩ := at1
        refine b_if2 (b := false) (c_tB (c_isiA (h2 (Ex.refl _)) k1)) (fun z => absurd z Bool.false_ne_true) fun _ => ?_
        refine b_if2 (b := false) (c_tB (c_to (c_isiTA (h2 (Ex.refl _)) k2 k3) rfl)) (fun z => absurd z Bool.false_ne_true) fun _ => ?_
        have hd1 : Cm (tVar 0 [some x, some y, none]) G (MP.d K d) := h1 (Ex.refl _)
        have hd2 : Cm (tVar 1 [some x, some y, none]) G (MP.d K d) := h2 (Ex.refl _)
        have same : ∀ {b : Bool} {T : String}, kitB (tyD d) T = some b → Cm (tOp (rEqD K) (tCB (rIsiG K) (tCons (tVar 0) (tCons (tC (.ty T)) tNil))) (tCB (rIsiG K) (tCons (tVar 1) (tCons (tC (.ty T)) tNil))) [some x, some y, none]) G (MP.d K (.bool true)) := fun {b T} hk => c_to (c_eq (c_isi hd1 hk) (c_isi hd2 hk) rfl rfl) (by cases b <;> rfl)
        have str : ∀ b, kitB (tyD d) "str" = some b → (b = true ∨ d = .none) → Cm (bd (tSeq (tIfS (tOr (tTest (tOp rIsN (tVar 1) (tC .non))) (tB (tCB (rIsiG K) (tCons (tVar 1) (tCons (tC (.ty "str")) tNil))))) (tRet (tAndV (tOp (rEqDK K) (tVar 0) (tVar 1)) (tOp (rEqD K) (tCB (rIsiG K) (tCons (tVar 0) (tCons (tC (.ty "str")) tNil))) (tCB (rIsiG K) (tCons (tVar 1) (tCons (tC (.ty "str")) tNil)))))) tNext) (tRet (tAndV (tCB (rIsiG K) (tCons (tVar 0) (tCons (tC (.ty "int")) tNil))) (tAndV (tOp (rEqD K) (tCB (rIsiG K) (tCons (tVar 0) (tCons (tC (.ty "bool")) tNil))) (tCB (rIsiG K) (tCons (tVar 1) (tCons (tC (.ty "bool")) tNil)))) (tOp (rEqDK K) (tVar 0) (tVar 1)))))) [some x, some y, none]) G (MP.d K (.bool true)) := fun b hk hb => by
          refine b_if2 (b := true) (c_teq (c_tor (c_test (c_isN hd2)) fun _ => c_tB (c_isi hd2 hk)) ?_) (fun _ => b_rets (c_to (c_andV (a := true) (b := true) (c_eqDD hd1 hd2 sd) fun _ => same hk) rfl)) (fun z => absurd z.symm Bool.false_ne_true)
          rcases hb with rfl | rfl
          · exact Bool.or_true _
          · rfl
        have num : kitB (tyD d) "str" = some false → kitB (tyD d) "int" = some true → (∃ b, kitB (tyD d) "bool" = some b) → d ≠ .none → Cm (bd (tSeq (tIfS (tOr (tTest (tOp rIsN (tVar 1) (tC .non))) (tB (tCB (rIsiG K) (tCons (tVar 1) (tCons (tC (.ty "str")) tNil))))) (tRet (tAndV (tOp (rEqDK K) (tVar 0) (tVar 1)) (tOp (rEqD K) (tCB (rIsiG K) (tCons (tVar 0) (tCons (tC (.ty "str")) tNil))) (tCB (rIsiG K) (tCons (tVar 1) (tCons (tC (.ty "str")) tNil)))))) tNext) (tRet (tAndV (tCB (rIsiG K) (tCons (tVar 0) (tCons (tC (.ty "int")) tNil))) (tAndV (tOp (rEqD K) (tCB (rIsiG K) (tCons (tVar 0) (tCons (tC (.ty "bool")) tNil))) (tCB (rIsiG K) (tCons (tVar 1) (tCons (tC (.ty "bool")) tNil)))) (tOp (rEqDK K) (tVar 0) (tVar 1)))))) [some x, some y, none]) G (MP.d K (.bool true)) := fun hk hi ⟨b, hb⟩ hne => by
          refine b_if2 (b := false) (c_teq (c_tor (c_test (c_isN hd2)) fun _ => c_tB (c_isi hd2 hk)) ?_) (fun z => absurd z Bool.false_ne_true) (fun _ => b_ret (c_to (c_andV (a := true) (b := true) (c_isi hd1 hi) fun _ => c_to (c_andV (a := true) (b := true) (same hb) fun _ => c_eqDD hd1 hd2 sd) rfl) rfl))
          cases d with
          | none => exact absurd rfl hne
          | _ => rfl
        cases d with
        | none => exact str false rfl (.inr rfl)
        | str s => exact str true rfl (.inl rfl)
        | bool b => exact num rfl rfl ⟨true, rfl⟩ (fun z => nomatch z)
        | int j => exact num rfl rfl ⟨false, rfl⟩ (fun z => nomatch z)
        | tuple ds => cases hpp
        | list ds => cases hpp
        | dict kvs => have p1 : Dp K G x (.dict kvs) := p1; cases p1
end
end Ah
/-! Ah52: {k: v}; a law's row that is spoiled. -/
namespace Ah
open PySem PySem.Spec PyProof.Rows L2 Evl

/-- {k: v}, k an int or a text -/
def tKDisp1 (tk tv : TE) : TE := fun σ H Q => ∀ p, H p = none → tk σ (upd H p (.dK [])) fun y H1 => tv σ H1 fun v H2 => ∃ kk : Key, y = kV kk ∧ H2 p = some (.dK []) ∧ Q (.ref p) (upd H2 p (.dK (mergeK [] [(kk, v)])))
theorem pe_kdisp1 {X : Cx} {k v : Expr} {tk tv : TE} {pos : Pos} (hk : PE X k tk) (hv : PE X v tv) : PE X (.Dict [some k] [v] pos) (tKDisp1 tk tv) := by
  refine ⟨fun pins s σ H Q I q => ?_⟩
  have hn := I.hok.fresh (Nat.le_refl s.heap.objs.size)
  have I1 := I.laid (a := s.heap.objs.size) (o := .dK []) (h' := s.heap.push { cls := .type "dict", data := .dict #[] }) (t' := s.toks) (fun _ _ q => Heap.get?_push_of_some _ q) (Nat.le_refl _) (dk_empty s.heap I.big)
  refine wpAny_Dict_pairs (knd := mixKind X.prog X.w) (pairs := [(eval k X.env, do let x ← eval v X.env; standAt pos; pure x)]) rfl (fun z => nomatch z) (by show 1 ≤ 15; decide) ?_
  refine evalPairs_cons (thn (hk.run pins _ σ _ _ I1 (q _ hn)) fun uy s2 ⟨y, H2, I5, ry, q5⟩ => wpAny_bind (thn (hv.run pins s2 σ H2 _ I5 q5) fun uz s3 ⟨z, H3, I6, rz, kk, ey, hq3, q6⟩ => wpAny_bind (wpAny_standAt (wpAny_pure (evalPairs_nil ?_)))))
  subst ey
  obtain ⟨zq, hdq, vsq, rq, ddq⟩ := dk_of I6.hok hq3
  cases rq
  refine ⟨[(kk, uz)], ⟨kV_is ry, rfl, trivial⟩, ddq, fun h4 dd4 hs4 => ?_⟩
  have rm : KV (mergeK [] [(kk, z)]) (merged [] [(kk, uz)]) := KV.merge (.cons ⟨rfl, rz⟩ .nil) .nil
  have he4 : ∃ q, h4.get? s.heap.objs.size = some q := let ⟨q, _, _, hq, _⟩ := dd4; ⟨q, hq⟩
  exact ⟨.ref s.heap.objs.size, _, d_write I6 (by rw [hq3]; exact True.intro) hs4 he4 (dk_new (by rw [sizeLine_eq]; exact Nat.le_trans (length_mergeK [(kk, z)] []) (by show 1 ≤ 16777216; decide)) hdq rm dd4), rfl, q6⟩
/-! ### what a spoiled row is -/
def elsOk (d : PyData) : Prop := okEls d ∧ ∀ xs, d = .tuple xs → SeqAt.shaped (.list xs) = true ∧ ∀ z ∈ xs, elD z = true
def RuleP (n : Nat) : RuleX → Prop
  | .data _ => True
  | .dict kvs => (fullKeys kvs ∨ kvs.length ≤ n) ∧ (∀ q ∈ kvs, q.1 ∈ kvParts.map (·.1) ∧ okS q.2)
structure SpX (n : Nat) (x : RowX) : Prop where
  r : elsOk x.rows
  u : RuleP n x.rule
  w : okEls x.words
  s : SeqAt.shaped x.words = true
theorem RuleP.le {n m : Nat} {x : RuleX} (h : RuleP n x) (l : n ≤ m) : RuleP m x := by
  cases x with
  | data d => trivial
  | dict kvs =>
    obtain ⟨h1, h2⟩ := h
    exact ⟨h1.imp (fun z => z) fun z => Nat.le_trans z l, h2⟩
theorem SpX.le {n m : Nat} {x : RowX} (h : SpX n x) (l : n ≤ m) : SpX m x := ⟨h.r, h.u.le l, h.w, h.s⟩
theorem RuleP.ok {x : RuleX} (h : RuleP 3 x) : RuleOk x ∧ keysIn x := by
  cases x with
  | data d => exact ⟨trivial, trivial⟩
  | dict kvs =>
    obtain ⟨h1, h2⟩ := h
    refine ⟨⟨fun h6 => ?_, ?_, fun q hq => (h2 q hq).2⟩, fun q hq => (h2 q hq).1⟩
    · rcases h1 with h1 | h1
      · exact h1
      · omega
    · rcases h1 with h1 | h1
      · have := congrArg List.length h1
        rw [List.length_map, List.length_map] at this
        rw [this]; decide
      · omega
theorem RuleP.put {n : Nat} {kvs : List (Str × PyData)} {x : Str} {d : PyData} (h : RuleP n (.dict kvs)) (hx : x ∈ kvParts.map (·.1)) (hd : okS d) : RuleP (n + 1) (.dict (putD kvs x d)) := by
  obtain ⟨h1, h2⟩ := h
  refine ⟨?_, fun q hq => ?_⟩
  · rcases h1 with h1 | h1
    · exact .inl (by unfold fullKeys; rw [putD_keys (by rw [h1]; exact hx)]; exact h1)
    · exact .inr (Nat.le_trans putD_len (by omega))
  · rcases putD_mem hq with h | h
    · exact h2 q h
    · rw [h]; exact ⟨hx, hd⟩
def SpX.fx {x : RowX} (h : SpX 3 x) : FxIn := ⟨x, ⟨h.r.1, h.u.ok.1, h.w⟩, h.u.ok.2, h.r.2, h.s⟩
theorem book_sp {b : Bk} (ok : b.ok) : SpX 0 b.rx := by
  obtain ⟨g1, g2, o1, o2⟩ := fault_book ok
  refine ⟨⟨o1, fun xs e => ?_⟩, ⟨.inl (kvX_keys b.rule), fun q hq => ⟨?_, kvX_okS b.rule q hq⟩⟩, o2, words_shaped b⟩
  · have e : rowsD b = .tuple xs := e
    have := rows_all (M := fun l => SeqAt.shaped (.list (l.map rowD)) = true ∧ ∀ z ∈ l.map rowD, elD z = true) ok (by decide +kernel) (by decide +kernel)
    cases e
    exact this
  · rw [← kvX_keys b.rule]; exact List.mem_map.mpr ⟨q, hq, rfl⟩
end Ah
/-! Ah53: _law_spoiled. -/
namespace Ah
open PySem PySem.Spec PyProof.Rows L2 Evl

/-- the rule of a row that is still written -/
def RuleAt (K : PySem.W.Frag) (H0 G H : Hp) (p : Addr) (v : V) : RuleX → Prop
  | .data e => Dp K G v e
  | .dict kvs => ∃ q l, v = .ref q ∧ H q = some (.dK l) ∧ KvD K G l kvs ∧ G q = none ∧ (q = p ∨ H0 q = none)
/-- a row at a that is still written, its first rule at p; what stood in H0 stands but for the source, a, p -/
structure Sx (K : PySem.W.Frag) (h d a p : Addr) (H0 G0 : Hp) (n : Nat) (x : RowX) (G H : Hp) : Prop where
  src : Src H h d
  le : Ex G H
  gh : G h = none
  gd : G d = none
  ex : Ex G0 G
  fr : ∀ q o, H0 q = some o → q ≠ h → q ≠ d → q ≠ a → q ≠ p → H q = some o
  dom : ∀ q, H0 q ≠ none → H q ≠ none
  old : ∀ q, H0 q ≠ none → G0 q = none → G q = none
  ok : SpX n x
  ga : G a = none
  row : ∃ v0 v1 v2, H a = some (.lst [v0, v1, v2]) ∧ Dp K G v0 x.rows ∧ RuleAt K H0 G H p v1 x.rule ∧ Dp K G v2 x.words
section
variable {K : PySem.W.Frag} {w : World} {c : Ad} {h d a p : Addr} {H0 G0 G H G1 H1 : Hp} {n : Nat} {x : RowX} {σ : L2.St} {te ta : TE} {tas : TA} {tt : TT} {t u tr : TS} {R R1 R2 : MP V} {D : Ends} {j : Nat}
theorem src_dK {l : List (Key × V)} {q : Addr} (S : Src H h d) (hq : H q = some (.dK l)) : q ≠ h ∧ q ≠ d := by
  obtain ⟨s, i, cells, h1, h2, _⟩ := S.ex
  exact ⟨fun z => (by rw [z, h1] at hq; cases hq), fun z => (by rw [z, h2] at hq; cases hq)⟩
theorem Sx.draw (hah : a ≠ h) (had : a ≠ d) (S : Sx K h d a p H0 G0 n x G H) (D : Dr h d H G G1 H1) : Sx K h d a p H0 G0 n x G1 H1 := by
  obtain ⟨v0, v1, v2, ha, p0, p1, p2⟩ := S.row
  have haN : H a ≠ none := by rw [ha]; exact fun z => nomatch z
  refine ⟨D.src, D.le, D.gh S.src S.gh, D.gd S.src S.gd, S.ex.trans D.ex, fun q o hq h1 h2 h3 h4 => D.fr q o (S.fr q o hq h1 h2 h3 h4) h1 h2, fun q hq => D.fr.some D.src (S.dom q hq), fun q hq hg => D.old q (S.dom q hq) (S.old q hq hg), S.ok, D.old a haN S.ga, v0, v1, v2, D.fr a _ ha hah had, Dp.up D.ex _ _ p0, ?_, Dp.up D.ex _ _ p2⟩
  cases hr : x.rule with
  | data e => rw [hr] at p1; exact Dp.up D.ex _ _ p1
  | dict kvs =>
    rw [hr] at p1
    obtain ⟨q, l, rfl, hq, hk, gq, ho⟩ := p1
    obtain ⟨n1, n2⟩ := src_dK S.src hq
    exact ⟨q, l, rfl, D.fr q _ hq n1 n2, hk.up D.ex, D.old q (by rw [hq]; exact fun z => nomatch z) gq, ho⟩
/-- something of its own is changed -/
theorem Sx.mut {z : Addr} {o : HO} {m : Nat} {y : RowX} (S : Sx K h d a p H0 G0 n x G H) (gz : G z = none) (zz : z = a ∨ z = p ∨ H0 z = none) (zh : z ≠ h) (zd : z ≠ d) (ok : SpX m y) (row : ∃ v0 v1 v2, (upd H z o) a = some (.lst [v0, v1, v2]) ∧ Dp K G v0 y.rows ∧ RuleAt K H0 G (upd H z o) p v1 y.rule ∧ Dp K G v2 y.words) :
    Sx K h d a p H0 G0 m y G (upd H z o) := by
  refine ⟨S.src.upd zh zd, S.le.mut gz, S.gh, S.gd, S.ex, fun q o' hq h1 h2 h3 h4 => ?_, fun q hq => ?_, S.old, ok, S.ga, row⟩
  · rw [upd_ne]
    · exact S.fr q o' hq h1 h2 h3 h4
    · intro e
      rcases zz with e2 | e2 | e2
      · exact h3 (by rw [e, e2])
      · exact h4 (by rw [e, e2])
      · rw [e, e2] at hq; cases hq
  · by_cases e : q = z
    · rw [e, upd_same]; exact fun z => nomatch z
    · rw [upd_ne e]; exact S.dom q hq
theorem RuleAt.mut {z : Addr} {o : HO} {v : V} {r : RuleX} (h : RuleAt K H0 G H p v r) (hz : ∀ l, H z ≠ some (.dK l)) : RuleAt K H0 G (upd H z o) p v r := by
  cases r with
  | data e => exact h
  | dict kvs =>
    obtain ⟨q, l, e, hq, rest⟩ := h
    exact ⟨q, l, e, by rw [upd_ne (fun e2 => hz l (by rw [← e2]; exact hq))]; exact hq, rest⟩
variable (hah : a ≠ h) (had : a ≠ d)
include hah had
theorem sx_asg (S : Sx K h d a p H0 G0 n x G H) (k : Dw h d (te σ) G R) (l : ∀ v G1 H1, Ex G G1 → R.p v G1 → Sx K h d a p H0 G0 n x G1 H1 → tr D (σ.set j (some v)) H1) : tSeq (tAsg te (gName j)) tr D σ H :=
  k H S.le S.src S.gh S.gd _ fun v G1 H1 p1 D1 => l v G1 H1 D1.ex p1 (S.draw hah had D1)
theorem sx_par {i j : Nat} (S : Sx K h d a p H0 G0 n x G H) (k : Dw h d (tas σ) G (MP.args [R1, R2])) (l : ∀ v u G1 H1, Ex G G1 → R1.p v G1 → R2.p u G1 → Sx K h d a p H0 G0 n x G1 H1 → tr D ((σ.set i (some v)).set j (some u)) H1) : tSeq (tPar i j tas) tr D σ H :=
  k H S.le S.src S.gh S.gd _ fun vs G1 H1 p1 D1 => by
    match vs, p1 with
    | [v, u], .cons q1 (.cons q2 .nil) => exact ⟨v, u, rfl, l v u G1 H1 D1.ex q1 q2 (S.draw hah had D1)⟩
theorem sx_if {b : Bool} (S : Sx K h d a p H0 G0 n x G H) (k : Cm (tt σ) G (MP.eq b)) (l1 : b = true → ∀ G1 H1, Ex G G1 → Sx K h d a p H0 G0 n x G1 H1 → t D σ H1) (l2 : b = false → ∀ G1 H1, Ex G G1 → Sx K h d a p H0 G0 n x G1 H1 → u D σ H1) : tIfS tt t u D σ H :=
  k H S.le _ fun c G1 H1 e1 n1 p1 => by
    have p1 : c = b := p1
    subst p1
    have S1 := S.draw hah had (Dr.of e1 n1 S.src)
    cases c with
    | true => exact iteT (l1 rfl G1 H1 n1.ex S1)
    | false => exact iteF (l2 rfl G1 H1 n1.ex S1)
theorem ne_lst {z : Addr} {xs : List V} {H : Hp} (h : H z = some (.lst xs)) : ∀ l, H z ≠ some (.dK l) := fun l e => by rw [h] at e; cases e
/-- row[0] = .. -/
theorem sx_set0 (S : Sx K h d a p H0 G0 n x G H) (hi : σ[1]? = some (some (.ref a))) {ι : Type} {f : ι → PyData} (k : Dw h d (te σ) G (MP.ex fun i : ι => MP.d K (f i))) (ok : ∀ i, elsOk (f i)) (l : ∀ y G1 H1, Ex G G1 → Sx K h d a p H0 G0 n y G1 H1 → D.nx σ H1) : tAsg te (gSub (tVar 1) (tC (.int 0)) rSetL) D σ H :=
  k H S.le S.src S.gh S.gd _ fun v G1 H1 ⟨i, p1⟩ D1 => by
    have S1 := S.draw hah had D1
    obtain ⟨v0, v1, v2, ha, p0, pr, p2⟩ := S1.row
    refine ⟨_, hi, a, _, 0, 0, rfl, rfl, ha, rfl, l { x with rows := f i } G1 _ D1.ex (S1.mut S1.ga (.inl rfl) hah had ⟨ok i, S1.ok.u, S1.ok.w, S1.ok.s⟩ ⟨v, v1, v2, upd_same, p1, pr.mut (ne_lst hah had ha), p2⟩)⟩
theorem sx_set2 (S : Sx K h d a p H0 G0 n x G H) (hi : σ[1]? = some (some (.ref a))) {ι : Type} {f : ι → PyData} (k : Dw h d (te σ) G (MP.ex fun i : ι => MP.d K (f i))) (ok : ∀ i, okEls (f i) ∧ SeqAt.shaped (f i) = true) (l : ∀ y G1 H1, Ex G G1 → Sx K h d a p H0 G0 n y G1 H1 → D.nx σ H1) : tAsg te (gSub (tVar 1) (tC (.int 2)) rSetL) D σ H :=
  k H S.le S.src S.gh S.gd _ fun v G1 H1 ⟨i, p1⟩ D1 => by
    have S1 := S.draw hah had D1
    obtain ⟨v0, v1, v2, ha, p0, pr, p2⟩ := S1.row
    refine ⟨_, hi, a, _, 2, 2, rfl, rfl, ha, rfl, l { x with words := f i } G1 _ D1.ex (S1.mut S1.ga (.inl rfl) hah had ⟨S1.ok.r, S1.ok.u, (ok i).1, (ok i).2⟩ ⟨v0, v1, v, upd_same, p0, pr.mut (ne_lst hah had ha), p1⟩)⟩
/-- row[1] -/
theorem sx_row1 (S : Sx K h d a p H0 G0 n x G H) (hi : σ[1]? = some (some (.ref a))) {Q : VK} (k : ∀ v0 v1 v2, H a = some (.lst [v0, v1, v2]) → RuleAt K H0 G H p v1 x.rule → Q v1 H) : tOp (rIx K) (tVar 1) (tC (.int 1)) σ H Q := by
  obtain ⟨v0, v1, v2, ha, p0, pr, p2⟩ := S.row
  exact ⟨_, hi, u_ixL (SqL.of ha) rfl (k v0 v1 v2 ha pr)⟩
/-- row[1][name] = .. -/
theorem sx_put {kvs : List (Str × PyData)} {s : Str} {ι : Type} {f : ι → PyData} (S : Sx K h d a p H0 G0 n x G H) (hx : x.rule = .dict kvs) (hi : σ[1]? = some (some (.ref a))) (hs : s ∈ kvParts.map (·.1)) (hj : σ[j]? = some (some (.str s))) (hl : kvs.length ≤ 1000)
    (k : Dw h d (te σ) G (MP.ex fun i : ι => MP.d K (f i))) (ok : ∀ i, okS (f i)) (l : ∀ y G1 H1, Ex G G1 → Sx K h d a p H0 G0 (n + 1) y G1 H1 → D.nx σ H1) : sDPut (tOp (rIx K) (tVar 1) (tC (.int 1))) (tVar j) te D σ H :=
  k H S.le S.src S.gh S.gd _ fun v G1 H1 ⟨i, p1⟩ D1 => by
    have S1 := S.draw hah had D1
    refine sx_row1 hah had S1 hi fun v0 v1 v2 ha pr => ⟨_, hj, ?_⟩
    obtain ⟨v0', v1', v2', ha', p0, pr', p2⟩ := S1.row
    rw [ha] at ha'
    cases ha'
    rw [hx] at pr
    obtain ⟨q, L, rfl, hq, hk, gq, ho⟩ := pr
    obtain ⟨n1, n2⟩ := src_dK S1.src hq
    have hqa : a ≠ q := fun z => by rw [← z, ha] at hq; cases hq
    have u := S1.ok.u
    rw [hx] at u
    refine ⟨q, _, rfl, DPut.k (k := Sum.inr s) hq (by rw [hk.length, sizeLine_eq]; omega), l { x with rule := .dict (putD kvs s (f i)) } G1 _ D1.ex (S1.mut gq (.inr ho) n1 n2 ⟨S1.ok.r, u.put hs (ok i), S1.ok.w, S1.ok.s⟩ ⟨v0, .ref q, v2, by rw [upd_ne hqa]; exact ha, p0, ⟨q, _, rfl, upd_same, hk.put p1, gq, ho⟩, p2⟩)⟩
end
end Ah
/-! Ah54: _law_spoiled, its turns. -/
namespace Ah
open PySem PySem.Spec PyProof.Rows L2 Evl

def strB : PyData → Bool
  | .str s => SeqAt.shaped (.str s)
  | _ => true
theorem strB_ok {d : PyData} (h : strB d = true) : okS d := by
  cases d with
  | str s => exact h
  | _ => trivial
def elsB : PyData → Bool
  | .tuple xs => (decide (xs.length ≤ 1000) && SeqAt.shaped (.list xs)) && xs.all fun z => (strB z && elD z) && (match z with
    | .tuple [x, y] => strB x
    | _ => true)
  | _ => true
theorem elsB_ok {d : PyData} (h : elsB d = true) : elsOk d := by
  cases d with
  | tuple xs =>
    obtain ⟨h1, h2⟩ := Bool.and_eq_true_iff.mp h
    obtain ⟨h3, h4⟩ := Bool.and_eq_true_iff.mp h1
    have key : ∀ z ∈ xs, okS z ∧ elD z = true ∧ ∀ x y, z = .tuple [x, y] → okS x := fun z hz => by
      obtain ⟨k1, k2⟩ := Bool.and_eq_true_iff.mp (List.all_eq_true.mp h2 z hz)
      obtain ⟨k3, k4⟩ := Bool.and_eq_true_iff.mp k1
      refine ⟨strB_ok k3, k4, fun x y e => ?_⟩
      rw [e] at k2
      exact strB_ok k2
    refine ⟨⟨of_decide_eq_true h3, fun z hz => ⟨(key z hz).1, (key z hz).2.2⟩⟩, fun ys e => ?_⟩
    cases e
    exact ⟨h4, fun z hz => (key z hz).2.1⟩
  | _ => exact ⟨trivial, fun ys e => nomatch e⟩
def rD (k : Str) (i : Int) : PyData := .tuple [.str k, .int i]
def oddA : List PyData := [.tuple [], .none, .list [.tuple [.str "a", .int 1]], .tuple [.tuple [.str "a", .int 3]], .tuple [.tuple [.str "c", .int 1]], .tuple [.tuple [.str "a", .bool true]]]
def oddB : List PyData := [.tuple [.tuple [.str "a", .int 1], .tuple [.str "a", .int 1]], .tuple [.str "a", .int 1]]
def oddC : List PyData := [.tuple [.tuple [.str "a", .int 0]], .tuple [.tuple [.str "a", .int 1], .tuple [.str "b", .int 2], .tuple [.str "a", .int 2]], .tuple [.tuple [.str "a", .str "1"]], .tuple [.list [.str "a", .int 1]]]
def oddV : List PyData := [.str "moves", .str "none", .none, .bool true, .str "", .list [.str "all"], .str "waits", .int 0]
def oddW : List PyData := [.none, .list [.str "join"], .tuple [.str "sweep", .str "join"], .tuple [.str "join", .str "join"], .tuple [.str "row"], .str "join", .tuple [.str "sweep", .int 5]]
theorem oddR_ok : ∀ i : { x : PyData // x ∈ oddA ++ oddB ++ oddC }, elsOk i.val := fun ⟨x, hx⟩ => elsB_ok (List.all_eq_true.mp (by decide +kernel : (oddA ++ oddB ++ oddC).all elsB = true) x hx)
theorem oddV_ok : ∀ i : { x : PyData // x ∈ oddV }, okS i.val := fun ⟨x, hx⟩ => strB_ok (List.all_eq_true.mp (by decide +kernel : oddV.all strB = true) x hx)
theorem oddW_ok : ∀ i : { x : PyData // x ∈ oddW }, okEls i.val ∧ SeqAt.shaped i.val = true := fun ⟨x, hx⟩ => by
  obtain ⟨h1, h2⟩ := Bool.and_eq_true_iff.mp (List.all_eq_true.mp (by decide +kernel : oddW.all (fun x => elsB x && SeqAt.shaped x) = true) x hx)
  exact ⟨(elsB_ok h1).1, h2⟩
section
variable {K : PySem.W.Frag} {w : World} {c : Ad} {h d a p : Addr} {H0 G0 G H G1 H1 : Hp} {n : Nat} {x : RowX} {σ : L2.St} {te ta : TE} {tas : TA} {tt : TT} {t u tr : TS} {R R1 R2 : MP V} {D : Ends} {j : Nat}
theorem fresh_dom (S : Sx K h d a p H0 G0 n x G H) {q : Addr} (hq : H q = none) : H0 q = none := by
  cases z : H0 q with
  | none => rfl
  | some o => exact absurd hq (S.dom q (by rw [z]; exact fun z => nomatch z))
theorem sx_set1 (hah : a ≠ h) (had : a ≠ d) (S : Sx K h d a p H0 G0 n x G H) (hi0 : σ[0]? = some (some (.ref h))) (hi : σ[1]? = some (some (.ref a))) (l : ∀ y G1 H1, Ex G G1 → Sx K h d a p H0 G0 (n + 1) y G1 H1 → D.nx σ H1) :
    tAsg (tCall (sp__law_pick K w c) [] E0 (tCons (tVar 0) (tCons (tLst (tCons (tC .non) (tCons (tLst tNil) (tCons (tC (.str "rule")) (tCons tDNewK (tCons (tC (.int 5)) (tCons (tKDisp1 (tC (.str "again")) (tC (.str "skip"))) tNil))))))) tNil))) (gSub (tVar 1) (tC (.int 1)) rSetL) D σ H := by
  refine ⟨_, hi0, sz_of (n := 0) (by decide), fun l1 hl1 p1 hp1 p2 hp2 => ⟨Sum.inr "again", rfl, upd_same, ?_⟩⟩
  rw [upd_upd]
  refine ⟨sz_of (n := 6) (by decide), fun L hL => ?_⟩
  have em : mergeK [] [((Sum.inr "again" : Key), V.str "skip")] = [((Sum.inr "again" : Key), V.str "skip")] := rfl
  rw [em] at hL ⊢
  have e1 : Ex H (upd H l1 (.lst [])) := Ex.new hl1
  have e2 : Ex (upd H l1 (.lst [])) (upd (upd H l1 (.lst [])) p1 (.dK [])) := Ex.new hp1
  have e3 : Ex (upd (upd H l1 (.lst [])) p1 (.dK [])) (upd (upd (upd H l1 (.lst [])) p1 (.dK [])) p2 (.dK [((Sum.inr "again" : Key), V.str "skip")])) := Ex.new hp2
  generalize hH3 : upd (upd (upd H l1 (.lst [])) p1 (.dK [])) p2 (.dK [((Sum.inr "again" : Key), V.str "skip")]) = H3 at hL e3 ⊢
  have hl13 : H3 l1 = some (.lst []) := e3 _ _ (e2 _ _ upd_same)
  have hp13 : H3 p1 = some (.dK []) := e3 _ _ upd_same
  have hp23 : H3 p2 = some (.dK [((Sum.inr "again" : Key), V.str "skip")]) := by rw [← hH3, upd_same]
  have e03 : Ex H H3 := (e1.trans e2).trans e3
  have e4 : Ex H3 (upd H3 L (.lst [.non, .ref l1, .str "rule", .ref p1, .int 5, .ref p2])) := Ex.new hL
  generalize hH4 : upd H3 L (.lst [.non, .ref l1, .str "rule", .ref p1, .int 5, .ref p2]) = H4 at e4 ⊢
  have hL4 : H4 L = some (.lst [.non, .ref l1, .str "rule", .ref p1, .int 5, .ref p2]) := by rw [← hH4, upd_same]
  have h1 : H p1 = none := fresh_back e1 hp1
  have h2 : H p2 = none := fresh_back (e1.trans e2) hp2
  have hLH : H L = none := fresh_back e03 hL
  have gl1 : G l1 = none := fresh_back S.le hl1
  have gL : G L = none := fresh_back S.le hLH
  have n1 : l1 ≠ L := fun z => by rw [← z, hl13] at hL; cases hL
  have n2 : p1 ≠ l1 := fun z => by rw [z, hl13] at hp13; cases hp13
  have n3 : p2 ≠ l1 := fun z => by rw [z, hl13] at hp23; cases hp23
  have n4 : p1 ≠ L := fun z => by rw [← z, hp13] at hL; cases hL
  have n5 : p2 ≠ L := fun z => by rw [← z, hp23] at hL; cases hL
  have gL' : (upd G l1 (.lst [])) L = none := by rw [upd_ne (Ne.symm n1)]; exact gL
  have x1 : Ex G (upd G l1 (.lst [])) := Ex.new gl1
  have x2 : Ex (upd G l1 (.lst [])) (upd (upd G l1 (.lst [])) L (.lst [.non, .ref l1, .str "rule", .ref p1, .int 5, .ref p2])) := Ex.new gL'
  have hG' : Ex (upd (upd G l1 (.lst [])) L (.lst [.non, .ref l1, .str "rule", .ref p1, .int 5, .ref p2])) H4 := fun b o hb => by
    by_cases hbL : b = L
    · subst hbL; rw [upd_same] at hb; rw [hL4]; exact hb
    · rw [upd_ne hbL] at hb
      by_cases hbl : b = l1
      · subst hbl; rw [upd_same] at hb; rw [e4 _ _ hl13]; exact hb
      · rw [upd_ne hbl] at hb; exact e4 _ _ (e03 _ _ (S.le _ _ hb))
  have Gn : ∀ q, q ≠ l1 → q ≠ L → (upd (upd G l1 (.lst [])) L (.lst [.non, .ref l1, .str "rule", .ref p1, .int 5, .ref p2])) q = G q := fun q q1 q2 => by rw [upd_ne q2, upd_ne q1]
  have Gl1 : (upd (upd G l1 (.lst [])) L (.lst [.non, .ref l1, .str "rule", .ref p1, .int 5, .ref p2])) l1 = some (.lst []) := by rw [upd_ne n1, upd_same]
  have GL : (upd (upd G l1 (.lst [])) L (.lst [.non, .ref l1, .str "rule", .ref p1, .int 5, .ref p2])) L = some (.lst [.non, .ref l1, .str "rule", .ref p1, .int 5, .ref p2]) := upd_same
  generalize hGG : upd (upd G l1 (.lst [])) L (.lst [.non, .ref l1, .str "rule", .ref p1, .int 5, .ref p2]) = G' at x2 hG' Gn Gl1 GL
  have D1 : Dr h d H G G' H4 := ⟨Fr.of (e03.trans e4), x1.trans x2, hG', fun b hb hg => by
    rw [Gn b (fun z => hb (by rw [z]; exact hl1)) (fun z => hb (by rw [z]; exact hLH))]; exact hg, S.src.ext (e03.trans e4)⟩
  have S1 := S.draw hah had D1
  refine ⟨h, d, L, _, G', rfl, S1.src, S1.le, S1.gh, S1.gd, SqL.of GL, by show 0 < 6; decide, by show 6 ≤ 100000; decide, fun v H' hv S' f => ?_⟩
  have D2 : Dr h d H4 G' G' H' := Dr.drawn S1.le S1.gh S1.gd f S'
  have S2 := S1.draw hah had D2
  obtain ⟨v0, v1, v2, ha, q0, pr, q2⟩ := S2.row
  refine ⟨_, hi, a, _, 1, 1, rfl, rfl, ha, rfl, ?_⟩
  have fin : ∀ r : RuleX, RuleP (n + 1) r → RuleAt K H0 G' (upd H' a (.lst [v0, v, v2])) p v r → D.nx σ (upd H' a (.lst [v0, v, v2])) := fun r hr hat =>
    l { x with rule := r } G' _ (x1.trans x2) (S2.mut S2.ga (.inl rfl) hah had ⟨S2.ok.r, hr, S2.ok.w, S2.ok.s⟩ ⟨v0, v, v2, upd_same, q0, hat, q2⟩)
  have dict : ∀ (q : Addr) (L : List (Key × V)) (kvs : List (Str × PyData)), H4 q = some (.dK L) → KvD K G' L kvs → G' q = none → H0 q = none → RuleAt K H0 G' (upd H' a (.lst [v0, .ref q, v2])) p (.ref q) (.dict kvs) := fun q L kvs hq hk gq h0 => by
    obtain ⟨m1, m2⟩ := src_dK S1.src hq
    have hqH : H' q = some (.dK L) := f q _ hq m1 m2
    have hqa : q ≠ a := fun z => by rw [z, ha] at hqH; cases hqH
    exact ⟨q, L, rfl, by rw [upd_ne hqa]; exact hqH, hk, gq, .inr h0⟩
  simp only [List.mem_cons, List.not_mem_nil, or_false] at hv
  rcases hv with rfl | rfl | rfl | rfl | rfl | rfl
  · exact fin (.data .none) trivial .non
  · exact fin (.data (.list [])) trivial (.lst (SqL.of Gl1) .nil)
  · exact fin (.data (.str "rule")) trivial (.str _)
  · exact fin (.dict []) ⟨.inr (Nat.zero_le _), fun q hq => absurd hq List.not_mem_nil⟩ (dict p1 [] [] (e4 _ _ hp13) .nil (by rw [Gn p1 n2 n4]; exact fresh_back S.le h1) (fresh_dom S h1))
  · exact fin (.data (.int 5)) trivial (.int _)
  · refine fin (.dict [("again", .str "skip")]) ⟨.inr (by show 1 ≤ n + 1; omega), fun q hq => ?_⟩ (dict p2 _ _ (e4 _ _ hp23) (.cons (.str _) .nil) (by rw [Gn p2 n3 n5]; exact fresh_back S.le h2) (fresh_dom S h2))
    rw [List.mem_singleton.mp hq]
    exact ⟨by decide +kernel, (by decide +kernel : SeqAt.shaped (.str "skip") = true)⟩
end
end Ah
/-! Ah55: _law_spoiled, its promise. -/
namespace Ah
open PySem PySem.Spec PyProof.Rows L2 Evl

def sp__law_spoiled (K : PySem.W.Frag) (w : World) (c : Ad) : Sp := fun vs H Q _ => ∃ (h d a p : Addr) (v0 v2 : V) (b : Bk) (G : Hp), vs = [.ref h, .ref a] ∧ Src H h d ∧ Ex G H ∧ G h = none ∧ G d = none ∧ G a = none ∧ G p = none ∧ a ≠ h ∧ a ≠ d ∧
  H a = some (.lst [v0, .ref p, v2]) ∧ H p = some (.dK (kvD b.rule.kvs)) ∧ Dp K G v0 (rowsD b) ∧ Dp K G v2 (wordsD b) ∧ b.ok ∧
  ∀ (x : RowX) G' H', SpX 3 x → (MP.rwX K x).p (.ref a) G' → Ex G' H' → Src H' h d → (∀ q o, H q = some o → q ≠ h → q ≠ d → q ≠ a → q ≠ p → H' q = some o) → (∀ q, H q ≠ none → q ≠ a → q ≠ p → G q = none → G' q = none) → Q (.ref a) H'
theorem len__law_spoiled {K : PySem.W.Frag} {w : World} {c : Ad} {vs : List V} {H : Hp} {Q : VK} {E : XK} (h : sp__law_spoiled K w c vs H Q E) : vs.length = 2 := by
  obtain ⟨_, _, _, _, _, _, _, _, rfl, _⟩ := h
  rfl
def t__law_spoiled (K : PySem.W.Frag) (w : World) (c : Ad) : TS :=
  (tSeq (tFor (iRng1 (tCons (tCall (sp__law_next K w c) [] E0 (tCons (tVar 0) (tCons (tC (.int 3)) tNil))) tNil)) (gName 2)
    (tSeq (tAsg (tCall (sp__law_next K w c) [] E0 (tCons (tVar 0) (tCons (tC (.int 3)) tNil))) (gName 3))
    (tIfS (tTest (tOp (rEqD K) (tVar 3) (tC (.int 0)))) (tSeq (tAsg (tLst (tCons (tTup tNil) (tCons (tC .non) (tCons (tLst (tCons (tTup (tCons (tC (.str "a")) (tCons (tC (.int 1)) tNil))) tNil)) (tCons (tTup (tCons (tTup (tCons (tC (.str "a")) (tCons (tC (.int 3)) tNil))) tNil)) (tCons (tTup (tCons (tTup (tCons (tC (.str "c")) (tCons (tC (.int 1)) tNil))) tNil)) (tCons (tTup (tCons (tTup (tCons (tC (.str "a")) (tCons (tC (.bl true)) tNil))) tNil)) tNil))))))) (gName 4))
    (tSeq (tAsg (tOp (rAddG K) (tVar 4) (tLst (tCons (tTup (tCons (tTup (tCons (tC (.str "a")) (tCons (tC (.int 1)) tNil))) (tCons (tTup (tCons (tC (.str "a")) (tCons (tC (.int 1)) tNil))) tNil))) (tCons (tTup (tCons (tC (.str "a")) (tCons (tC (.int 1)) tNil))) tNil)))) (gName 4))
    (tAsg (tCall (sp__law_pick K w c) [] E0 (tCons (tVar 0) (tCons (tOp (rAddG K) (tVar 4) (tLst (tCons (tTup (tCons (tTup (tCons (tC (.str "a")) (tCons (tC (.int 0)) tNil))) tNil)) (tCons (tTup (tCons (tTup (tCons (tC (.str "a")) (tCons (tC (.int 1)) tNil))) (tCons (tTup (tCons (tC (.str "b")) (tCons (tC (.int 2)) tNil))) (tCons (tTup (tCons (tC (.str "a")) (tCons (tC (.int 2)) tNil))) tNil)))) (tCons (tTup (tCons (tTup (tCons (tC (.str "a")) (tCons (tC (.str "1")) tNil))) tNil)) (tCons (tTup (tCons (tLst (tCons (tC (.str "a")) (tCons (tC (.int 1)) tNil))) tNil)) tNil)))))) tNil))) (gSub (tVar 1) (tC (.int 0)) rSetL)))) (tIfS (tTest (tOp (rEqD K) (tVar 3) (tC (.int 1)))) (tSeq (tPar 5 6 (tCons (tCall (sp__law_next K w c) [] E0 (tCons (tVar 0) (tCons (tC (.int 3)) tNil))) (tCons (tOp (rIx K) (tCall (sp__law_pick K w c) [] E0 (tCons (tVar 0) (tCons (tCall (sp__law_parts K w c) [] E0 tNil) tNil))) (tC (.int 0))) tNil)))
    (tIfS (tTest (tOp (rEqD K) (tVar 5) (tC (.int 0)))) (tAsg (tCall (sp__law_pick K w c) [] E0 (tCons (tVar 0) (tCons (tLst (tCons (tC .non) (tCons (tLst tNil) (tCons (tC (.str "rule")) (tCons tDNewK (tCons (tC (.int 5)) (tCons (tKDisp1 (tC (.str "again")) (tC (.str "skip"))) tNil))))))) tNil))) (gSub (tVar 1) (tC (.int 1)) rSetL)) (tIfS (tB (tCB (rIsiG K) (tCons (tOp (rIx K) (tVar 1) (tC (.int 1))) (tCons (tC (.ty "dict")) tNil)))) (sDPut (tOp (rIx K) (tVar 1) (tC (.int 1))) (tVar 6) (tCall (sp__law_pick K w c) [] E0 (tCons (tVar 0) (tCons (tLst (tCons (tC (.str "moves")) (tCons (tC (.str "none")) (tCons (tC .non) (tCons (tC (.bl true)) (tCons (tC (.str "")) (tCons (tLst (tCons (tC (.str "all")) tNil)) (tCons (tC (.str "waits")) (tCons (tC (.int 0)) tNil))))))))) tNil)))) tNext))) (tAsg (tCall (sp__law_pick K w c) [] E0 (tCons (tVar 0) (tCons (tLst (tCons (tC .non) (tCons (tLst (tCons (tC (.str "join")) tNil)) (tCons (tTup (tCons (tC (.str "sweep")) (tCons (tC (.str "join")) tNil))) (tCons (tTup (tCons (tC (.str "join")) (tCons (tC (.str "join")) tNil))) (tCons (tTup (tCons (tC (.str "row")) tNil)) (tCons (tC (.str "join")) (tCons (tTup (tCons (tC (.str "sweep")) (tCons (tC (.int 5)) tNil))) tNil)))))))) tNil))) (gSub (tVar 1) (tC (.int 2)) rSetL))))))
    (tRet (tVar 1)))
section
variable {K : PySem.W.Frag} {w : World} {c : Ad} {h d a p : Addr} {H0 G0 G H G1 H1 : Hp} {n : Nat} {x : RowX} {σ : L2.St} {te ta : TE} {tas : TA} {tt : TT} {t u tr : TS} {R R1 R2 : MP V} {D : Ends} {j : Nat}
theorem c_pr {x y : TE} {dx dy : PyData} (h1 : Cm (x σ) G (MP.d K dx)) (h2 : Cm (y σ) G (MP.d K dy)) : Cm (tTup (tCons x (tCons y tNil)) σ) G (MP.d K (.tuple [dx, dy])) := c_tup (c_dcons h1 (c_dcons h2 c_dnil)) (by show 2 ≤ 100000; decide)
theorem c_tp1 {x : TE} {dx : PyData} (h1 : Cm (x σ) G (MP.d K dx)) : Cm (tTup (tCons x tNil) σ) G (MP.d K (.tuple [dx])) := c_tup (c_dcons h1 c_dnil) (by show 1 ≤ 100000; decide)
theorem c_ls1 {x : TE} {dx : PyData} (h1 : Cm (x σ) G (MP.d K dx)) : Cm (tLst (tCons x tNil) σ) G (MP.d K (.list [dx])) := c_lst (c_dcons h1 c_dnil) (by show 1 ≤ 100000; decide)
theorem d_partK {i : Nat} (hi : σ[i]? = some (some (.ref h))) : Dw h d (tOp (rIx K) (tCall (sp__law_pick K w c) [] E0 (tCons (tVar i) (tCons (tCall (sp__law_parts K w c) [] E0 tNil) tNil))) (tC (.int 0)) σ) G (MP.ex fun k : { k : Str // k ∈ kvParts.map (·.1) } => MP.d K (.str k.val)) := by
  refine d_op (P2 := MP.d K (.int 0)) (d_pick (ds := partsL.map fun l => PyData.list (l.map PyData.str)) hi (l_d (c_call (args := fun _ : Unit => []) (res := fun _ => MP.l K _) () c_nil)) (by decide) (by decide)) (.of c_int) fun u v G1 e1 ⟨⟨x, hx⟩, p1⟩ q => ?_
  obtain ⟨n, hn⟩ := List.getElem?_of_mem hx
  obtain ⟨pt, hpt, rfl⟩ := parts_at hn
  obtain ⟨b, xs, rfl, k1, k2⟩ := dp_lst p1
  rw [dp_int q]
  cases k2 with
  | cons k3 k4 =>
    rename_i z zs
    exact c_val (z := z) (fun H eh Q q => u_ixL (ex_l eh k1) (atI_of (j := 0) (by decide) rfl rfl) q) ⟨⟨pt.1, List.mem_map.mpr ⟨pt, List.mem_of_getElem? hpt, rfl⟩⟩, k3⟩
theorem c_eqN {i : Nat} {m n : Nat} (hi : σ[i]? = some (some (.int m))) : Cm (tTest (tOp (rEqD K) (tVar i) (tC (.int n))) σ) G (MP.eq (decide (m = n))) := by
  refine c_teq (c_test (c_eq (c_var (P := MP.d K (.int m)) hi (.int _)) c_int rfl rfl)) ?_
  show (((m : Nat) : Int) == (n : Int)) = decide (m = n)
  by_cases h : m = n
  · rw [h, decide_eq_true rfl, beq_self_eq_true]
  · rw [decide_eq_false h, beq_eq_false_iff_ne.mpr (by omega)]
/-- isinstance(row[1], dict) -/
theorem sx_isi (hah : a ≠ h) (had : a ≠ d) (S : Sx K h d a p H0 G0 n x G H) (hi : σ[1]? = some (some (.ref a))) (l1 : ∀ kvs, x.rule = .dict kvs → t D σ H) (l2 : u D σ H) :
    tIfS (tB (tCB (rIsiG K) (tCons (tOp (rIx K) (tVar 1) (tC (.int 1))) (tCons (tC (.ty "dict")) tNil)))) t u D σ H := by
  refine sx_row1 hah had S hi fun v0 v1 v2 ha pr => ?_
  cases hr : x.rule with
  | data e =>
    rw [hr] at pr
    exact .inl ⟨v1, _, _, _, false, rfl, .ty "dict", ty_of (Dp.up S.le _ _ pr), kit_ty (kit_dict pr), ⟨false, rfl, iteF l2⟩⟩
  | dict kvs =>
    rw [hr] at pr
    obtain ⟨q, L, rfl, hq, _⟩ := pr
    exact .inl ⟨_, _, _, _, true, rfl, .ty "dict", .base (.dK hq), kit_ty (by decide +kernel), ⟨true, rfl, iteT (l1 kvs hr)⟩⟩
theorem sx_loop (hah : a ≠ h) (had : a ≠ d) {ta : TA} {k : Nat} (I : Nat → L2.St → Hp → Prop) (S : Sx K h d a p H0 G0 n x G H) (hn : Dw h d (ta σ) G (MP.args [MP.ex fun r : Fin (k + 1) => MP.d K (.int r.val)])) (hk : k ≤ 1000) (h0 : ∀ G1 H1, Sx K h d a p H0 G0 n x G1 H1 → I 0 σ H1)
    (turn : ∀ i σ' H', i < k → I i σ' H' → ∀ N : Ends, (∀ σ H, I (i + 1) σ H → N.nx σ H) → t N (σ'.set j (some (.int (0 + i)))) H') (after : ∀ i σ' H', i ≤ k → I i σ' H' → tr D σ' H') : tSeq (tFor (iRng1 ta) (gName j) t) tr D σ H :=
  hn H S.le S.src S.gh S.gd _ fun xs G1 H1 p1 D1 => by
    match xs, p1 with
    | [v], .cons ⟨r, pa⟩ .nil =>
      rw [dp_int pa]
      refine ⟨r.val, rfl, by omega, by omega, ?_⟩
      refine for_range (lo := 0) (n := ((r.val : Nat) : Int).toNat) I (h0 G1 H1 (S.draw hah had D1)) ?_ ?_
      · intro i σ' H' hi hI
        exact turn i σ' H' (by omega) hI { D with nx := I (i + 1), ct := I (i + 1), bk := tr D } fun σ H q => q
      · intro σ' H' hI
        rw [Int.toNat_natCast] at hI
        exact after r.val σ' H' (by omega) hI
theorem rd__law_spoiled {vs : List V} {H : Hp} {Q : VK} {E : XK} (h : sp__law_spoiled K w c vs H Q E) : t__law_spoiled K w c (Dn Q) (vs.map some ++ List.replicate (7 - vs.length) none) H := by
  obtain ⟨h, d, a, p, v0, v2, b, G, rfl, S, e, gh, gd, ga, gp, hah, had, ha, hp, pr, pw, ok, k⟩ := h
  have S0 : Sx K h d a p H G 0 b.rx G H := ⟨S, e, gh, gd, Ex.refl G, fun q o hq _ _ _ _ => hq, fun q hq => hq, fun q _ hg => hg, book_sp ok, ga, v0, .ref p, v2, ha, pr, ⟨p, _, rfl, hp, KvD.of_dk _, gp, .inl rfl⟩, pw⟩
  have hn : Dw h d ((tCons (tCall (sp__law_next K w c) [] E0 (tCons (tVar 0) (tCons (tC (.int 3)) tNil))) tNil) [some (V.ref h), some (.ref a), none, none, none, none, none]) G (MP.args [MP.ex fun r : Fin 3 => MP.d K (.int r.val)]) := d_cons (d_next (n := 3) rfl (by decide) (by decide)) d_nil
  refine sx_loop hah had (k := 2) (fun i σ H' => ∃ G' x s2 s3 s4 s5 s6, σ = [some (.ref h), some (.ref a), s2, s3, s4, s5, s6] ∧ Sx K h d a p H G i x G' H') S0 hn (by decide) (fun G1 H1 S1 => ⟨G1, _, none, none, none, none, none, rfl, S1⟩) ?_ ?_
  · rintro i _ H2 hi ⟨G2, x, s2, s3, s4, s5, s6, rfl, S2⟩ N hN
    have nx0 : ∀ {m : Nat} {t2 t3 t4 t5 t6 : Option V} {G' H' : Hp} {y : RowX}, m ≤ i + 1 → Sx K h d a p H G m y G' H' → ∃ G' x s2 s3 s4 s5 s6, [some (V.ref h), some (.ref a), t2, t3, t4, t5, t6] = [some (.ref h), some (.ref a), s2, s3, s4, s5, s6] ∧ Sx K h d a p H G (i + 1) x G' H' :=
      fun hm S => ⟨_, _, _, _, _, _, _, rfl, ⟨S.src, S.le, S.gh, S.gd, S.ex, S.fr, S.dom, S.old, S.ok.le hm, S.ga, S.row⟩⟩
    have nx : ∀ {m : Nat} {t2 t3 t4 t5 t6 : Option V} {G' H' : Hp} {y : RowX}, m ≤ i + 1 → Sx K h d a p H G m y G' H' → N.nx [some (V.ref h), some (.ref a), t2, t3, t4, t5, t6] H' := fun hm S => hN _ _ (nx0 hm S)
    refine sx_asg hah had S2 (d_next (n := 3) rfl (by decide) (by decide)) fun vk G3 H3 e3 ⟨kd, pk⟩ S3 => ?_
    rw [dp_int pk]
    refine sx_if hah had S3 (c_eqN (n := 0) rfl) (fun _ G4 H4 e4 S4 => ?_) (fun _ G4 H4 e4 S4 => sx_if hah had S4 (c_eqN (n := 1) rfl) (fun _ G5 H5 e5 S5 => ?_) (fun _ G5 H5 e5 S5 => ?_))
    · refine sx_asg hah had S4 (R := MP.l K oddA) (.of (c_lstl (c_dcons (c_tup c_dnil (by show 0 ≤ 100000; decide)) (c_dcons c_non (c_dcons (c_ls1 (c_pr c_str c_int)) (c_dcons (c_tp1 (c_pr c_str c_int)) (c_dcons (c_tp1 (c_pr c_str c_int)) (c_dcons (c_tp1 (c_pr c_str c_bl)) c_dnil)))))) (by decide))) fun u1 G5 H5 e5 q1 S5 => ?_
      refine sx_asg hah had S5 (R := MP.l K (oddA ++ oddB)) (.of (c_addL (c_var (P := MP.l K oddA) rfl q1) (c_lstl (c_dcons (c_pr (c_pr c_str c_int) (c_pr c_str c_int)) (c_dcons (c_pr c_str c_int) c_dnil)) (by decide)) (by decide))) fun u2 G6 H6 e6 q2 S6 => ?_
      refine sx_set0 hah had S6 rfl (f := fun i : { x : PyData // x ∈ oddA ++ oddB ++ oddC } => i.val) (d_pick rfl (l_d (c_addL (c_var (P := MP.l K (oddA ++ oddB)) rfl q2) (c_lstl (c_dcons (c_tp1 (c_pr c_str c_int)) (c_dcons (c_tup (c_dcons (c_pr c_str c_int) (c_dcons (c_pr c_str c_int) (c_dcons (c_pr c_str c_int) c_dnil))) (by show 3 ≤ 100000; decide)) (c_dcons (c_tp1 (c_pr c_str c_str)) (c_dcons (c_tp1 (c_lst (c_dcons c_str (c_dcons c_int c_dnil)) (by show 2 ≤ 100000; decide))) c_dnil)))) (by decide)) (by decide))) (by decide) (by decide)) oddR_ok fun y G7 H7 e7 S7 => nx (Nat.le_succ i) S7
    · refine sx_par hah had S5 (d_cons (d_next (n := 3) rfl (by decide) (by decide)) (d_cons (d_partK rfl) d_nil)) fun vk vn G6 H6 e6 ⟨kk, pk⟩ ⟨⟨s, hs⟩, pn⟩ S6 => ?_
      rw [dp_int pk, dp_str pn]
      refine sx_if hah had S6 (c_eqN (n := 0) rfl) (fun _ G7 H7 e7 S7 => sx_set1 hah had S7 rfl rfl fun y G8 H8 e8 S8 => nx (Nat.le_refl _) S8) (fun _ G7 H7 e7 S7 => sx_isi hah had S7 rfl (fun kvs hx => ?_) (nx (Nat.le_succ i) S7))
      refine sx_put hah had S7 hx rfl hs rfl ?_ (f := fun i : { x : PyData // x ∈ oddV } => i.val) (d_pick rfl (c_lst (c_dcons c_str (c_dcons c_str (c_dcons c_non (c_dcons c_bl (c_dcons c_str (c_dcons (c_ls1 c_str) (c_dcons c_str (c_dcons c_int c_dnil)))))))) (by decide)) (by decide) (by decide)) oddV_ok fun y G8 H8 e8 S8 => nx (Nat.le_refl _) S8
      have hu : RuleP 3 x.rule := S7.ok.u.le (by omega)
      rw [hx] at hu
      have := hu.ok.1.2.1
      omega
    · refine sx_set2 hah had S5 rfl (f := fun i : { x : PyData // x ∈ oddW } => i.val) (d_pick rfl (c_lst (c_dcons c_non (c_dcons (c_ls1 c_str) (c_dcons (c_pr c_str c_str) (c_dcons (c_pr c_str c_str) (c_dcons (c_tp1 c_str) (c_dcons c_str (c_dcons (c_pr c_str c_int) c_dnil))))))) (by decide)) (by decide) (by decide)) oddW_ok fun y G7 H7 e7 S7 => nx (Nat.le_succ i) S7
  · rintro i _ H2 hi ⟨G2, x, s2, s3, s4, s5, s6, rfl, S2⟩
    obtain ⟨w0, w1, w2, hra, q0, q1, q2⟩ := S2.row
    have ok3 : SpX 3 x := S2.ok.le (by omega)
    refine ⟨_, rfl, ?_⟩
    cases hx : x.rule with
    | data e =>
      rw [hx] at q1
      refine k x (upd G2 a (.lst [w0, w1, w2])) H2 ok3 ⟨a, w0, w1, w2, rfl, upd_same, Dp.up (Ex.new S2.ga) _ _ q0, ?_, Dp.up (Ex.new S2.ga) _ _ q2⟩ (fun q o hq => ?_) S2.src S2.fr (fun q hq h1 h2 hg => ?_)
      · rw [hx]; exact Dp.up (Ex.new S2.ga) _ _ q1
      · by_cases e : q = a
        · subst e; rw [upd_same] at hq; rw [hra]; exact hq
        · rw [upd_ne e] at hq; exact S2.le _ _ hq
      · rw [upd_ne h1]; exact S2.old q hq hg
    | dict kvs =>
      rw [hx] at q1
      obtain ⟨q, L, rfl, hq, hk, gq, ho⟩ := q1
      have hqa : q ≠ a := fun z => by rw [z, hra] at hq; cases hq
      have gq' : (upd G2 a (.lst [w0, .ref q, w2])) q = none := by rw [upd_ne hqa]; exact gq
      have x1 : Ex G2 (upd G2 a (.lst [w0, .ref q, w2])) := Ex.new S2.ga
      have x2 := x1.trans (Ex.new (o := .dK L) gq')
      refine k x (upd (upd G2 a (.lst [w0, .ref q, w2])) q (.dK L)) H2 ok3 ⟨a, w0, .ref q, w2, rfl, by rw [upd_ne (Ne.symm hqa), upd_same], Dp.up x2 _ _ q0, ?_, Dp.up x2 _ _ q2⟩ (fun b o hb => ?_) S2.src S2.fr (fun b hb h1 h2 hg => ?_)
      · rw [hx]; exact ⟨q, L, rfl, upd_same, hk.up x2⟩
      · by_cases e1 : b = q
        · subst e1; rw [upd_same] at hb; rw [hq]; exact hb
        · rw [upd_ne e1] at hb
          by_cases e2 : b = a
          · subst e2; rw [upd_same] at hb; rw [hra]; exact hb
          · rw [upd_ne e2] at hb; exact S2.le _ _ hb
      · rw [upd_ne (fun z => ?_), upd_ne h1]
        · exact S2.old b hb hg
        · rcases ho with e | e
          · exact h2 (by rw [z, e])
          · exact hb (by rw [z, e])
end
end Ah
/-! Ah56: a spoiled row, drawn; a book and a list; dicts with any word put in. -/
namespace Ah
open PySem PySem.Spec PyProof.Rows L2 Evl

/-- all but the lists and the dicts -/
def tups (G : Hp) : Hp := fun b => match G b with
  | some (.lst _) => none
  | some (.dK _) => none
  | x => x
theorem tups_ex (G : Hp) : Ex (tups G) G := fun b o h => by
  unfold tups at h
  split at h
  · cases h
  · cases h
  · exact h
theorem tups_tup {K : PySem.W.Frag} {G : Hp} {a : Addr} {xs : List V} (h : SqT K G a xs) : SqT K (tups G) a xs := by
  rcases h with (h | ⟨o, h⟩) | h
  · exact .inl (.inl (by unfold tups; rw [h]))
  · exact .inl (.inr ⟨o, by unfold tups; rw [h]⟩)
  · exact .inr h
mutual
def fT : PyData → Bool
  | .list _ => false
  | .tuple xs => fTs xs
  | _ => true
def fTs : List PyData → Bool
  | [] => true
  | x :: xs => fT x && fTs xs
end
mutual
theorem dp_tups {K : PySem.W.Frag} {G : Hp} : ∀ (d : PyData) (v : V), fT d = true → Dp K G v d → Dp K (tups G) v d
  | .none, _, _, h => by cases h; exact .non
  | .bool b, _, _, h => by cases h; exact .bl b
  | .int i, _, _, h => by cases h; exact .int i
  | .str s, _, _, h => by cases h; exact .str s
  | .list xs, _, n, _ => Bool.noConfusion n
  | .tuple xs, _, n, h => by
    cases h with
    | tup h1 h2 => exact .tup (tups_tup h1) (dps_tups xs _ n h2)
  | .dict _, _, _, h => by cases h
theorem dps_tups {K : PySem.W.Frag} {G : Hp} : ∀ (ds : List PyData) (vs : List V), fTs ds = true → DpAll K G vs ds → DpAll K (tups G) vs ds
  | [], _, _, h => by cases h; exact .nil
  | d :: ds, _, n, h => by
    cases h with
    | cons h1 h2 =>
      obtain ⟨n1, n2⟩ := Bool.and_eq_true_iff.mp n
      exact .cons (dp_tups d _ n1 h1) (dps_tups ds _ n2 h2)
end
theorem rows_noL {b : Bk} (ok : b.ok) : fT (rowsD b) = true := rows_all (M := fun l => fT (.tuple (l.map rowD)) = true) ok (by decide +kernel) (by decide +kernel)
theorem words_noL (b : Bk) : fT (wordsD b) = true := words_all (M := fun l => fT (.tuple (l.map PyData.str)) = true) b (by decide +kernel) (by decide +kernel) (by decide +kernel) (by decide +kernel)
section
variable {K : PySem.W.Frag} {w : World} {c : Ad} {σ : L2.St} {G : Hp} {ta tb te td : TE} {h d : Addr} {i : Nat} {b : Bk} {x : RowX}
/-- a law's row, up to two parts of it at fault -/
theorem d_spoiled (hi : σ[i]? = some (some (.ref h))) : Dw h d (tCall (sp__law_spoiled K w c) [] E0 (tCons (tVar i) (tCons (tCall (sp__law_draw K w c) [] E0 (tCons (tVar i) tNil)) tNil)) σ) G (MP.ex fun x : { x : RowX // SpX 3 x } => MP.rwX K x.val) :=
  fun H e S gh gd Q q => ⟨_, hi, ⟨_, hi, h, d, rfl, S, fun b v G1 H1 p1 D1 => by
    obtain ⟨b, hb⟩ := b
    obtain ⟨a, v0, v1, v2, rfl, ha, p0, pr, p2⟩ := p1
    obtain ⟨p, rfl, hp⟩ := pr
    have ok : b.ok := hb.1
    have gh1 : G1 h = none := D1.gh S rfl
    have gd1 : G1 d = none := D1.gd S rfl
    have nG : ∀ q, G1 q = none → tups G1 q = none := fun q hq => by unfold tups; rw [hq]
    refine ⟨h, d, a, p, v0, v2, b, tups G1, rfl, D1.src, (tups_ex G1).trans D1.le, nG _ gh1, nG _ gd1, by unfold tups; rw [ha], by unfold tups; rw [hp], fun z => (by rw [z, gh1] at ha; cases ha), fun z => (by rw [z, gd1] at ha; cases ha), D1.le _ _ ha, D1.le _ _ hp, dp_tups _ _ (rows_noL ok) p0, dp_tups _ _ (words_noL b) p2, ok, fun x G' H' sx px le' src' fr' old' => ?_⟩
    have na : ∀ q, H q ≠ none → q ≠ a := fun q hq z => by
      have := D1.old q hq rfl
      rw [z, ha] at this; cases this
    have np : ∀ q, H q ≠ none → q ≠ p := fun q hq z => by
      have := D1.old q hq rfl
      rw [z, hp] at this; cases this
    have D : Dr h d H noH G' H' := ⟨fun q o hq h1 h2 => fr' q o (D1.fr q o hq h1 h2) h1 h2 (na q (by rw [hq]; exact fun z => nomatch z)) (np q (by rw [hq]; exact fun z => nomatch z)), noH_ex, le',
      fun q hq hg => old' q (D1.fr.some D1.src hq) (na q hq) (np q hq) (nG q (D1.old q hq rfl)), src'⟩
    obtain ⟨D2, x2⟩ := Dr.up (G := noH) noH_ex e gh gd D
    exact q _ _ H' ⟨⟨x, sx⟩, (MP.rwX K x).mono x2 px⟩ D2⟩⟩
/-! ### a book and a list -/
inductive EqIn where
  | two (b : Bk × Bk) (ok : b.1.ok ∧ b.2.ok)
  | lst (b : Bk) (x : RowX)
def EqIn.args (K : PySem.W.Frag) (c : Ad) : EqIn → List (MP V)
  | .two b _ => [MP.bk K c b.1, MP.bk K c b.2]
  | .lst b x => [MP.bk K c b, MP.rwX K x]
def EqIn.res (K : PySem.W.Frag) : EqIn → MP V
  | .two b _ => MP.d K (.bool (bkEq b.1 b.2))
  | .lst _ _ => MP.d K (.bool false)
abbrev sp_Book_eqL (K : PySem.W.Frag) (w : World) (c : Ad) : Sp := spOf (ι := EqIn) (EqIn.args K c) (EqIn.res K)
theorem len_Book_eqL {vs : List V} {H : Hp} {Q : VK} {E : XK} (h : sp_Book_eqL K w c vs H Q E) : vs.length = 2 := spOf_len (by intro i; cases i <;> rfl) vs H Q E h
abbrev t_Book_eqL (K : PySem.W.Frag) (w : World) (c : Ad) : TS := t_Book_eq K w c
structure Axb (K : PySem.W.Frag) (w : World) (c : Ad) : Prop where
  ax : Ax K w c
  ins : C8.InsC K c.Book
theorem c_isBookB (X : Axb K w c) (h1 : Cm (ta σ) G (MP.bk K c b)) : Cm (tCB (rIsiG K) (tCons ta (tCons (tC (.ref c.Book)) tNil)) σ) G (MP.d K (.bool true)) :=
  c_cb2 (P2 := MP.eq (.ref c.Book)) h1 (c_c rfl) fun x y G1 e1 p q => by
    have hy : y = .ref c.Book := q
    subst hy
    obtain ⟨x, dx, vr, pt, vw, rfl, hx, _⟩ := p
    exact c_valN (z := .bl true) (fun H eh Q h => .inl ⟨.ref x, _, _, _, true, rfl, .own _, .base (TyOf.ins (eh _ _ hx) X.ins.cl X.ins.ha X.ins.hn X.ins.htk X.ins.hm), X.ins.me, h⟩) (.bl _)
theorem rd_Book_eqL (X : Axb K w c) (hl : PySem.W.kitOne K (.type "list") (.ref c.Book) = some false) {vs : List V} {H : Hp} {Q : VK} {E : XK} (h : sp_Book_eqL K w c vs H Q E) : t_Book_eqL K w c (Dn Q) (vs.map some ++ List.replicate (2 - vs.length) none) H := by
  obtain ⟨i, G, e, ha, q⟩ := h
  cases i with
  | two b ok =>
    match vs, ha with
    | [x, y], .cons a1 (.cons a2 .nil) =>
      obtain ⟨b1, b2⟩ := b
      obtain ⟨o1, o2⟩ := ok
      have hx : Cm (tVar 0 [some x, some y]) G (MP.bk K c b1) := c_var (P := MP.bk K c b1) rfl a1
      have hy : Cm (tVar 1 [some x, some y]) G (MP.bk K c b2) := c_var (P := MP.bk K c b2) rfl a2
      refine (b_if (b := false) (c_teq (c_tnot (a := true) (c_tB (c_isBookB X hy))) rfl) (fun z => absurd z Bool.false_ne_true) fun _ => b_nexts (b_ret ?_) : Cm (bd (t_Book_eqL K w c) [some x, some y]) G (MP.d K (.bool (bkEq b1 b2)))) H e Q q
      refine c_op (c_t3 X.ax hx) (c_t3 X.ax hy) fun u v G1 e1 ⟨a, v0, p, v2, hu, ha, k0, k1, k2⟩ ⟨a', v0', p', v2', hv, ha', k0', k1', k2'⟩ => c_val (z := .bl (bkEq b1 b2)) (fun H eh Q h => ?_) (.bl _)
      exact ⟨a, a', p, p', v0, v2, v0', v2', _, _, _, _, _, _, hu, hv, SqT.of (eh _ _ ha), SqT.of (eh _ _ ha'), ⟨Dp.up eh _ _ k0, Dp.up eh _ _ k2, Dp.up eh _ _ k0', Dp.up eh _ _ k2'⟩,
        ⟨rows_shaped o1, words_shaped _, rows_shaped o2, words_shaped _⟩, eh _ _ k1, eh _ _ k1', rule_nd _, h⟩
  | lst b x =>
    match vs, ha with
    | [u, v], .cons p1 (.cons p2 .nil) =>
      have hy : Cm (tVar 1 [some u, some v]) G (MP.rwX K x) := c_var (P := MP.rwX K x) rfl p2
      refine (b_if (b := true) (c_teq (c_tnot (a := false) (c_tB (K := K) (c_cb2 (P2 := MP.eq (.ref c.Book)) hy (c_c rfl) fun x y G1 e1 p q => ?_))) rfl) (fun _ => b_rets c_bl) (fun z => absurd z.symm Bool.false_ne_true) : Cm (bd (t_Book_eqL K w c) [some u, some v]) G (MP.d K (.bool false))) H e Q q
      have hy : y = .ref c.Book := q
      subst hy
      obtain ⟨a, v0, v1, v2, rfl, ha, _⟩ := p
      exact c_valN (z := .bl false) (fun H eh Q h => .inl ⟨_, _, _, _, false, rfl, .own _, .base (.lst (eh _ _ ha)), hl, h⟩) (.bl _)
variable {b1 b2 : Bk}
theorem c_bkEqL (o1 : b1.ok) (o2 : b2.ok) (h1 : Cm (ta σ) G (MP.bk K c b1)) (h2 : Cm (tb σ) G (MP.bk K c b2)) : Cm (tOp (rEqO K c.Book (sp_Book_eqL K w c)) ta tb σ) G (MP.d K (.bool (bkEq b1 b2))) :=
  c_op h1 h2 fun x y G1 e1 p q => fun H e Q k => by
    have p0 := p
    have q0 := q
    obtain ⟨a, dx, vr, pt, vw, rfl, hx, _⟩ := p
    obtain ⟨a', dx', vr', pt', vw', rfl, hx', _⟩ := q
    refine ⟨a, dx, _, a', rfl, rfl, e _ _ hx, .inl ⟨_, _, e _ _ hx'⟩, ⟨.two (b1, b2) ⟨o1, o2⟩, G1, e, .cons p0 (.cons q0 .nil), fun v G' H' e2 n2 p2 => ⟨⟨_, dp_bl p2⟩, k v G' H' e2 n2 p2⟩⟩⟩
theorem c_bkNeL (h1 : Cm (ta σ) G (MP.bk K c b1)) (h2 : Cm (tb σ) G (MP.rwX K x)) : Cm (tOp (rEqO K c.Book (sp_Book_eqL K w c)) ta tb σ) G (MP.d K (.bool false)) :=
  c_op h1 h2 fun x' y G1 e1 p q => fun H e Q k => by
    have p0 := p
    have q0 := q
    obtain ⟨a, dx, vr, pt, vw, rfl, hx, _⟩ := p
    obtain ⟨a', v0, v1, v2, rfl, ha, _⟩ := q
    refine ⟨a, dx, _, a', rfl, rfl, e _ _ hx, .inr ⟨_, e _ _ ha⟩, ⟨.lst b1 x, G1, e, .cons p0 (.cons q0 .nil), fun v G' H' e2 n2 p2 => ⟨⟨_, dp_bl p2⟩, k v G' H' e2 n2 p2⟩⟩⟩
/-! ### with another word -/
theorem c_withV {kvs : List (Str × PyData)} {s : Str} {y : PyData} (h1 : Cm (ta σ) G (MP.dv K kvs)) (h2 : Cm (tb σ) G (MP.d K (.str s))) (h3 : Cm (td σ) G (MP.d K y)) (hl : kvs.length < 1000) : Cm (tCall (sp__law_with K w c) [] E0 (tCons ta (tCons tb (tCons td tNil))) σ) G (MP.dv K (putD kvs s y)) := fun H e Q k =>
  c_cons h1 (c_cons h2 (c_cons h3 c_nil)) H e _ fun vs G1 H1 e1 n1 p1 => by
    match vs, p1 with
    | [u0, u1, u2], .cons a1 (.cons a2 (.cons a3 .nil)) =>
      obtain ⟨p, L, rfl, hp, hk⟩ := a1
      rw [dp_str a2]
      refine ⟨p, L, s, u2, rfl, n1.le _ _ hp, by rw [hk.length]; exact hl, fun q hq => ?_⟩
      have gq := fresh_back n1.le hq
      exact k _ (upd G1 q _) _ (e1.trans (Ex.new hq)) (n1.trans e1 (Nw.new n1.le hq)) ⟨q, _, rfl, upd_same, (hk.up (Ex.new gq)).put (Dp.up (Ex.new gq) _ _ a3)⟩
theorem c_neKK {l m : List (Str × Str)} (ha : Cm (ta σ) G (MP.dk l)) (hb : Cm (tb σ) G (MP.dk m)) : Cm (tOp rNeK ta tb σ) G (MP.d K (.bool (!dkEq l m))) :=
  c_op ha hb fun x y G1 e1 ⟨a, ea, pa⟩ ⟨b, eb, pb⟩ => c_val (z := .bl (!dkEq l m)) (fun H eh Q h => ⟨a, b, l, m, ea, eb, eh _ _ pa, eh _ _ pb, h⟩) (.bl _)
end
end Ah
/-! Ah57: what k01 tells of rules with another word; calls of defs that do not raise here. -/
namespace Ah
open PySem PySem.Spec PyProof.Rows L2 Evl

/-! ### plain facts -/
theorem putD_map {l : List (Str × PyData)} {s : Str} {d : PyData} (h : s ∈ l.map (·.1)) : putD l s d = l.map fun q => if q.1 = s then (q.1, d) else q := by
  unfold putD
  obtain ⟨q, hq, e⟩ := List.mem_map.mp h
  rw [if_pos (List.any_eq_true.mpr ⟨q, hq, decide_eq_true e⟩)]
theorem putD_get {l : List (Str × PyData)} {s : Str} {d : PyData} (h : s ∈ l.map (·.1)) : (s, d) ∈ putD l s d := by
  rw [putD_map h]
  obtain ⟨q, hq, e⟩ := List.mem_map.mp h
  refine List.mem_map.mpr ⟨q, hq, ?_⟩
  rw [if_pos e]
  subst e
  rfl
/-- the first part at fault is the one that was put -/
theorem fault_at (r : Rule) {s p : Str} {d : PyData} (hs : s ∈ kvParts.map (·.1)) (h : ruleFault (.dict (putD (kvX r) s d)) = some p) : p = s := by
  have hs' : s ∈ (kvX r).map (·.1) := by rw [kvX_keys]; exact hs
  have hl : (putD (kvX r) s d).length = 6 := by rw [putD_map hs', List.length_map]; rfl
  have h : wordFault kvParts (putD (kvX r) s d) = some p := by
    have e : ruleFault (.dict (putD (kvX r) s d)) = if (putD (kvX r) s d).length = 6 then wordFault kvParts (putD (kvX r) s d) else some "" := rfl
    rw [e, if_pos hl] at h
    exact h
  obtain ⟨i, pt, q, hp, hq, hw, rfl, _⟩ := wordFault_at h
  rw [putD_map hs', List.getElem?_map] at hq
  unfold kvX at hq
  rw [List.getElem?_map] at hq
  cases hk : r.kvs[i]? with
  | none => rw [hk] at hq; cases hq
  | some z =>
    rw [hk] at hq
    obtain ⟨pt', hp', e1, e2⟩ := rule_word r i z hk
    rw [hp] at hp'
    cases hp'
    have hq : (if z.1 = s then (z.1, d) else (z.1, PyData.str z.2)) = q := Option.some.inj hq
    by_cases e : z.1 = s
    · rw [← e1]; exact e
    · rw [if_neg e] at hq
      rw [← hq] at hw
      have hw : isWordD (.str z.2) pt.2 = false := hw
      rw [isWord_mem e2] at hw
      cases hw
theorem put_rule (r : Rule) {s : Str} {d : PyData} (hs : s ∈ kvParts.map (·.1)) (od : okS d) (h : ruleFault (.dict (putD (kvX r) s d)) = none) : ∃ (y : Str) (r' : Rule), d = .str y ∧ putD (kvX r) s (.str y) = kvX r' := by
  have hs' : s ∈ (kvX r).map (·.1) := by rw [kvX_keys]; exact hs
  obtain ⟨r', e⟩ := ruleX_of (put_ok r hs od) h
  have e : putD (kvX r) s d = kvX r' := by injection e
  have hm := putD_get (d := d) hs'
  rw [e] at hm
  obtain ⟨q, hq, e2⟩ := List.mem_map.mp hm
  have e3 : PyData.str q.2 = d := congrArg Prod.snd e2
  exact ⟨q.2, r', e3.symm, by rw [e3]; exact e⟩
theorem kvX_inj {a b : Rule} (h : kvX a = kvX b) : a.kvs = b.kvs := by
  have key : ∀ l m : List (Str × Str), (l.map fun q => (q.1, PyData.str q.2)) = (m.map fun q => (q.1, PyData.str q.2)) → l = m := by
    intro l
    induction l with
    | nil => intro m h; cases m with
      | nil => rfl
      | cons a m => cases h
    | cons a l ih => intro m h; cases m with
      | nil => cases h
      | cons b m =>
        rw [List.map_cons, List.map_cons] at h
        injection h with h1 h2
        injection h1 with h3 h4
        injection h4 with h4
        rw [ih m h2]
        obtain ⟨a1, a2⟩ := a
        obtain ⟨b1, b2⟩ := b
        have h3 : a1 = b1 := h3
        have h4 : a2 = b2 := h4
        rw [h3, h4]
  exact key _ _ h
/-- the changed rule is the old one just if the word is -/
theorem put_same {r r' : Rule} {s y o : Str} (hs : s ∈ kvParts.map (·.1)) (h : putD (kvX r) s (.str y) = kvX r') (ho : r.kvs.lookup s = some o) : kvEq r'.kvs r.kvs = decide (y = o) := by
  have hs' : s ∈ (kvX r).map (·.1) := by rw [kvX_keys]; exact hs
  have hm := putD_get (d := .str y) hs'
  rw [h] at hm
  obtain ⟨q, hq, e2⟩ := List.mem_map.mp hm
  have e3 : q = (s, y) := by
    have e4 : q.1 = s := congrArg Prod.fst e2
    have e5 : PyData.str q.2 = .str y := congrArg Prod.snd e2
    injection e5 with e5
    obtain ⟨q1, q2⟩ := q
    rw [show q1 = s from e4, show q2 = y from e5]
  subst e3
  by_cases e : y = o
  · subst e
    rw [decide_eq_true rfl]
    have : putD (kvX r) s (.str y) = kvX r := by
      rw [putD_map hs']
      have : (kvX r).map (fun q => if q.1 = s then (q.1, PyData.str y) else q) = (kvX r).map id := by
        refine List.map_congr_left fun z hz => ?_
        obtain ⟨u, hu, rfl⟩ := List.mem_map.mp hz
        show (if u.1 = s then (u.1, PyData.str y) else (u.1, PyData.str u.2)) = (u.1, PyData.str u.2)
        by_cases e : u.1 = s
        · rw [if_pos e]
          obtain ⟨j, hj⟩ := List.getElem?_of_mem hu
          have := rule_lookup r hj
          rw [e, ho] at this
          rw [Option.some.inj this]
        · rw [if_neg e]
      rw [this, List.map_id]
    rw [this] at h
    rw [kvX_inj h.symm, kvEq_self (rule_nd r)]
  · rw [decide_eq_false e]
    unfold kvEq
    have : (r'.kvs.all fun p => (r.kvs.lookup p.1).isSome && decide (r'.kvs.lookup p.1 = r.kvs.lookup p.1)) = false := by
      refine List.all_eq_false.mpr ⟨(s, y), hq, ?_⟩
      obtain ⟨j, hj⟩ := List.getElem?_of_mem hq
      have e1 : r'.kvs.lookup s = some y := rule_lookup r' hj
      show ¬ ((r.kvs.lookup s).isSome && decide (r'.kvs.lookup s = r.kvs.lookup s)) = true
      rw [e1, ho, decide_eq_false (fun z => e (Option.some.inj z)), Bool.and_false]
      exact Bool.false_ne_true
    rw [this, Bool.and_false]
theorem rule_has (r : Rule) {s : Str} (hs : s ∈ kvParts.map (·.1)) : ∃ o, r.kvs.lookup s = some o ∧ SeqAt.shaped (.str o) = true := by
  rw [← rule_keys r] at hs
  obtain ⟨q, hq, rfl⟩ := List.mem_map.mp hs
  obtain ⟨j, hj⟩ := List.getElem?_of_mem hq
  obtain ⟨pt, hpt, _, e2⟩ := rule_word r j q hj
  exact ⟨q.2, rule_lookup r hj, words_ok pt (List.mem_of_getElem? hpt) _ e2⟩
theorem rule_hasnt (r : Rule) {s : Str} (hs : ¬ s ∈ kvParts.map (·.1)) : r.kvs.lookup s = none := by
  rw [← rule_keys r] at hs
  cases h : r.kvs.lookup s with
  | none => rfl
  | some o =>
    exfalso
    have key : ∀ l : List (Str × Str), l.lookup s = some o → s ∈ l.map (·.1) := by
      intro l
      induction l with
      | nil => intro h; cases h
      | cons a l ih =>
        intro h
        rw [List.lookup_cons] at h
        by_cases e : s = a.1
        · rw [e]; exact List.mem_cons_self ..
        · rw [beq_eq_false_iff_ne.mpr e] at h
          exact List.mem_cons_of_mem _ (ih h)
    exact hs (key _ h)
theorem part_sh {x : RowX} {f : Flt} (h : x.fault = some f) : okD 4 (fD (some f)) = true := by
  cases f with
  | rows => decide +kernel
  | words => decide +kernel
  | rule p =>
    have hp : p = "" ∨ p ∈ kvParts.map (·.1) := by
      unfold RowX.fault at h
      split at h
      · have hr : ruleFault x.rule = some p := by
          cases e : ruleFault x.rule with
          | some p' => rw [e] at h; injection h with h; injection h with h; rw [h]
          | none =>
            rw [e] at h
            revert h
            show (if goodWords x.words = true then none else some Flt.words) = some (Flt.rule p) → _
            split
            · intro h; cases h
            · intro h; cases h
        cases hx : x.rule with
        | data d => rw [hx] at hr; injection hr with hr; exact .inl hr.symm
        | dict kvs =>
          rw [hx] at hr
          have hr : (if kvs.length = 6 then wordFault kvParts kvs else some "") = some p := hr
          split at hr
          · obtain ⟨i, pt, q, h1, _, _, e, _⟩ := wordFault_at hr
            exact .inr (List.mem_map.mpr ⟨pt, List.mem_of_getElem? h1, e.symm⟩)
          · injection hr with hr; exact .inl hr.symm
      · cases h
    rcases hp with rfl | hp
    · decide +kernel
    · have : ∀ p ∈ kvParts.map (·.1), okD 4 (fD (some (.rule p))) = true := by decide +kernel
      exact this p hp
/-! ### a call of a def that may raise, and does not -/
section
variable {X : Cx} {k j : Nat} {x : Str} {sp : Sp} {p pos : Pos} {e : Expr} {es : List Expr} {t : TA}
theorem pe_calN (c : Cal X.prog X.w X.K X.mg X.base (L2.CX X.prog X.w) k x sp) (hr : Room j X.A) (hk : k ≤ j) (hg : Gl X x) (ha : PA X (e :: es) t)
    (hdb : (x == ("__debug__" : Str)) = false := by decide) (he : starEach (e :: es) X.env = (false, eval e X.env) :: starEach es X.env := by rfl) (hpl : (backTo pos (starEach es X.env)).any (·.1) = false := by rfl) :
    PE X (.Call (.Name x p) (e :: es) [] pos) (tCall sp [] E0 t) := by
  obtain ⟨f, fd, ps, F, hm, kp, b⟩ := c.ex
  exact pe_call F (hr.mono hk) hg hm kp b .nil (passes_call (W := fun _ _ _ _ => False) takes0 fun _ _ _ _ h => h) ha hdb he hpl
end
/-! ### uses -/
section
variable {K : PySem.W.Frag} {w : World} {c : Ad} {σ : L2.St} {G : Hp} {ta tb te td : TE} {tas : TA} {b : Bk}
theorem c_dnotin {l : List (Str × Str)} {x : Str} {k : Bool} (h1 : Cm (ta σ) G (MP.d K (.str x))) (h2 : Cm (td σ) G (MP.dk l)) (hl : (l.lookup x).isSome = k) : Cm (tDNotIn ta td σ) G (MP.d K (.bool (!k))) :=
  Cm.bind (t := ta σ) (u := fun (y : V) (H1 : Hp) (Q : VK) => td σ H1 fun x H2 => ∃ a o, x = .ref a ∧ DGet H2 a y o ∧ Q (.bl (!o.isSome)) H2) h1 fun v G1 e1 p1 =>
    Cm.bind (t := td σ) (u := fun (x : V) (H2 : Hp) (Q : VK) => ∃ a o, x = .ref a ∧ DGet H2 a v o ∧ Q (.bl (!o.isSome)) H2) (h2.up e1) fun u G2 e2 p2 => by
      obtain ⟨p, rfl, hp⟩ := p2
      rw [dp_str p1]
      intro H eh Q hq
      have hd := DGet.k (k := Sum.inr x) (eh _ _ hp)
      rw [valV_kv] at hd
      refine ⟨p, _, rfl, hd, ?_⟩
      rw [Option.isSome_map, hl]
      exact hq _ G2 H (Ex.refl H) (Nw.refl eh) (.bl (!k))
theorem c_lst3 {P0 P1 P2 P : MP V} (h0 : Cm (ta σ) G P0) (h1 : Cm (tb σ) G P1) (h2 : Cm (te σ) G P2) (hP : ∀ G1 p v0 v1 v2, Ex G G1 → G1 p = some (.lst [v0, v1, v2]) → P0.p v0 G1 → P1.p v1 G1 → P2.p v2 G1 → P.p (.ref p) G1) :
    Cm (tLst (tCons ta (tCons tb (tCons te tNil))) σ) G P :=
  Cm.bind (t := (tCons ta (tCons tb (tCons te tNil))) σ) (u := fun (xs : List V) (H : Hp) (Q : VK) => xs.length ≤ sizeLine ∧ ∀ p, H p = none → Q (V.ref p) (upd H p (.lst xs))) (c_cons h0 (c_cons h1 (c_cons h2 c_nil))) fun xs G1 e1 p1 => by
    match xs, p1 with
    | [x0, x1, x2], .cons a1 (.cons a2 (.cons a3 .nil)) => exact c_and (sz_of (n := 3) (by decide)) (c_new fun p hp => hP _ p _ _ _ (e1.trans (Ex.new hp)) upd_same (P0.mono (Ex.new hp) a1) (P1.mono (Ex.new hp) a2) (P2.mono (Ex.new hp) a3))
theorem c_rows (h : Cm (ta σ) G (MP.bk K c b)) : Cm (tProp c.Book (sp_Book_rows K w c) [] E0 ta σ) G (MP.d K (rowsD b)) := c_prop (args := fun b : Bk => [MP.bk K c b]) (res := fun b => MP.d K (rowsD b)) b rfl h
theorem c_ruleP (h : Cm (ta σ) G (MP.bk K c b)) : Cm (tProp c.Book (sp_Book_rule K w c) [] E0 ta σ) G (MP.dk b.rule.kvs) := c_prop (args := fun b : Bk => [MP.bk K c b]) (res := fun b => MP.dk b.rule.kvs) b rfl h
theorem c_wordsP (h : Cm (ta σ) G (MP.bk K c b)) : Cm (tProp c.Book (sp_Book_words K w c) [] E0 ta σ) G (MP.d K (wordsD b)) := c_prop (args := fun b : Bk => [MP.bk K c b]) (res := fun b => MP.d K (wordsD b)) b rfl h
/-- [book.rows, book.rule, book.words] -/
theorem c_three (h : Cm (ta σ) G (MP.bk K c b)) : Cm (tLst (tCons (tProp c.Book (sp_Book_rows K w c) [] E0 ta) (tCons (tProp c.Book (sp_Book_rule K w c) [] E0 ta) (tCons (tProp c.Book (sp_Book_words K w c) [] E0 ta) tNil))) σ) G (MP.rw K b) :=
  c_lst3 (c_rows h) (c_ruleP h) (c_wordsP h) fun G1 p v0 v1 v2 e1 hp q0 q1 q2 => ⟨p, v0, v1, v2, rfl, hp, q0, q1, q2⟩
theorem c_builtN (ok : b.ok) (h : Cm (ta σ) G (MP.rw K b)) : Cm (tCall (sp__law_builtX K w c) [] E0 (tCons ta tNil) σ) G (MP.bk K c b) :=
  c_callZ (args := fun b : BkO => [MP.rw K b.val]) (res := fun b => MP.bk K c b.val) (bad := fun j : BookBad => [MP.rwX K j.x]) (xo := fun j => j.f.xo c) ⟨b, ok⟩ (c_cons h c_nil)
theorem c_tried (i : TryIn) (h : Cm (tas σ) G (MP.args (i.args K c))) : Cm (tCall (sp__law_tried K w c) [] E0 tas σ) G (i.res K c) := c_call (args := TryIn.args K c) (res := TryIn.res K c) i h
theorem c_faultX {x : RowX} (sx : SpX 3 x) (h : Cm (ta σ) G (MP.rwX K x)) : Cm (tCall (sp__law_fault K w c) [] E0 (tCons ta tNil) σ) G (MP.d K (fD x.fault)) :=
  c_call (args := fun i : FxIn => [MP.rwX K i.x]) (res := fun i => MP.d K (fD i.x.fault)) sx.fx (c_cons h c_nil)
theorem row_okN {b : Bk} (ok : b.ok) : AV.okN 4 (.row b) :=
  ⟨ok, 3, rfl, rows_all (M := fun l => okD 3 (.tuple (l.map rowD)) = true) ok (by decide +kernel) (by decide +kernel), words_all (M := fun l => okD 3 (.tuple (l.map PyData.str)) = true) b (by decide +kernel) (by decide +kernel) (by decide +kernel) (by decide +kernel), rule_nd _, 2, rfl, by rw [rule_keys]; decide +kernel⟩
end
end Ah
/-! L01: the law k01, read. -/
namespace Ah
open PySem PySem.Spec PyProof.Rows L2 Evl

def t_law (K : PySem.W.Frag) (w : World) (c : Ad) : TS :=
  (tSeq (tAsg (tCall (sp__law_mix K w c) [] E0 (tCons (tVar 0) (tCons (tC (.int 1)) tNil))) (gName 1))
    (tSeq (tFor (iRng1 (tCons (tC (.int 6)) tNil)) (gName 2)
    (tSeq (tAsg (tCall (sp__law_spoiled K w c) [] E0 (tCons (tVar 1) (tCons (tCall (sp__law_draw K w c) [] E0 (tCons (tVar 1) tNil)) tNil))) (gName 3))
    (tSeq (tPar 4 5 (tCons (tCall (sp__law_tried K w c) [] E0 (tCons (tC .non) (tCons (tVar 3) (tCons (tC .non) (tCons (tC .non) tNil))))) (tCons (tCall (sp__law_fault K w c) [] E0 (tCons (tVar 3) tNil)) tNil)))
    (tIfS (tTest (tOp rNotN (tVar 5) (tC .non))) (tIfS (tNot (tB (tCall (sp__law_alikeR K w c 5) [] E0 (tCons (tVar 4) (tCons (tVar 5) tNil))))) (tRet (tC (.bl false))) tNext) (tSeq (tIfS (tNot (tB (tCall (sp__law_alikeR K w c 5) [] E0 (tCons (tLst (tCons (tProp c.Book (sp_Book_rows K w c) [] E0 (tVar 4)) (tCons (tProp c.Book (sp_Book_rule K w c) [] E0 (tVar 4)) (tCons (tProp c.Book (sp_Book_words K w c) [] E0 (tVar 4)) tNil)))) (tCons (tVar 3) tNil))))) (tRet (tC (.bl false))) tNext)
    (tSeq (tIfS (tOr (tNot (tTest (tOp (rEqO K c.Book (sp_Book_eqL K w c)) (tVar 4) (tCall (sp__law_builtX K w c) [] E0 (tCons (tVar 3) tNil))))) (tTest (tOp (rEqO K c.Book (sp_Book_eqL K w c)) (tVar 4) (tVar 3)))) (tRet (tC (.bl false))) tNext)
    (tSeq (tAsg (tCall (sp__law_pick K w c) [] E0 (tCons (tVar 1) (tCons (tOp (rAddG K) (tLc (iSeq K (tCall (sp__law_parts K w c) [] E0 tNil)) (gName 10) tYes (tOp (rIx K) (tVar 10) (tC (.int 0))) [10]) (tLst (tCons (tC (.str "")) (tCons (tC (.str "rows")) (tCons (tC .non) (tCons (tC (.int 5)) (tCons (tC (.str "words")) (tCons (tLst (tCons (tC (.str "fill")) tNil)) tNil)))))))) tNil))) (gName 6))
    (tSeq (tAsg (tLst (tCons (tC (.str "skip")) (tCons (tC (.str "twice")) (tCons (tC (.str "moves")) (tCons (tC (.str "stays")) (tCons (tC (.str "fills")) (tCons (tC (.str "beside")) (tCons (tC .non) (tCons (tC (.int 0)) tNil))))))))) (gName 7))
    (tSeq (tAsg (tCall (sp__law_pick K w c) [] E0 (tCons (tVar 1) (tCons (tOp (rAddG K) (tVar 7) (tLst (tCons (tC (.str "none")) (tCons (tC (.str "place")) (tCons (tC (.str "waits")) (tCons (tC (.str "all")) (tCons (tC (.str "empty")) tNil))))))) tNil))) (gName 8))
    (tSeq (tAsg (tCall (sp__law_tried K w c) [] E0 (tCons (tVar 4) (tCons (tC .non) (tCons (tVar 6) (tCons (tVar 8) tNil))))) (gName 9))
    (tIfS (tOr (tNot (tB (tCB (rIsiG K) (tCons (tVar 6) (tCons (tC (.ty "str")) tNil))))) (tB (tDNotIn (tVar 6) (tOp (rIx K) (tVar 3) (tC (.int 1)))))) (tIfS (tNot (tB (tCall (sp__law_alikeR K w c 5) [] E0 (tCons (tVar 9) (tCons (tTup (tCons (tC (.str "rule")) (tCons (tC (.str "")) tNil))) tNil))))) (tRet (tC (.bl false))) tNext) (tIfS (tTest (tOp rNotN (tCall (sp__law_rule_fault K w c) [] E0 (tCons (tCall (sp__law_with K w c) [] E0 (tCons (tOp (rIx K) (tVar 3) (tC (.int 1))) (tCons (tVar 6) (tCons (tVar 8) tNil)))) tNil)) (tC .non))) (tIfS (tTest (tOp (rNeD K) (tVar 9) (tTup (tCons (tC (.str "rule")) (tCons (tVar 6) tNil))))) (tRet (tC (.bl false))) tNext) (tIfS (tOr (tTest (tOp rNeK (tProp c.Book (sp_Book_rule K w c) [] E0 (tVar 9)) (tCall (sp__law_with K w c) [] E0 (tCons (tOp (rIx K) (tVar 3) (tC (.int 1))) (tCons (tVar 6) (tCons (tVar 8) tNil)))))) (tOr (tTest (tOp (rNeD K) (tProp c.Book (sp_Book_rows K w c) [] E0 (tVar 9)) (tOp (rIx K) (tVar 3) (tC (.int 0))))) (tTest (tOp (rNeD K) (tProp c.Book (sp_Book_words K w c) [] E0 (tVar 9)) (tOp (rIx K) (tVar 3) (tC (.int 2))))))) (tRet (tC (.bl false))) (tIfS (tTest (tOp (rNeD K) (tOp (rEqO K c.Book (sp_Book_eqL K w c)) (tVar 9) (tVar 4)) (tOp (rEqD K) (tVar 8) (tDGet (tOp (rIx K) (tVar 3) (tC (.int 1))) (tVar 6))))) (tRet (tC (.bl false))) tNext))))))))))))))
    (tRet (tC (.bl true)))))

def wordsA : List PyData := [.str "skip", .str "twice", .str "moves", .str "stays", .str "fills", .str "beside", .none, .int 0]
def wordsB : List PyData := [.str "none", .str "place", .str "waits", .str "all", .str "empty"]
def partsA : List PyData := (kvParts.map (·.1)).map PyData.str
def partsB : List PyData := [.str "", .str "rows", .none, .int 5, .str "words", .list [.str "fill"]]
def hdD : PyData → PyData
  | .list (x :: _) => x
  | _ => .none
theorem partsA_e : (partsL.map fun l => PyData.list (l.map PyData.str)).map hdD = partsA := rfl
theorem parts_ok1 : ∀ x ∈ partsA ++ partsB, okS x ∧ SeqAt.shaped x = true := fun x hx => by
  obtain ⟨h1, h2⟩ := Bool.and_eq_true_iff.mp (List.all_eq_true.mp (by decide +kernel : (partsA ++ partsB).all (fun x => strB x && SeqAt.shaped x) = true) x hx)
  exact ⟨strB_ok h1, h2⟩
theorem words_ok1 : ∀ x ∈ wordsA ++ wordsB, okS x ∧ SeqAt.shaped x = true := fun x hx => by
  obtain ⟨h1, h2⟩ := Bool.and_eq_true_iff.mp (List.all_eq_true.mp (by decide +kernel : (wordsA ++ wordsB).all (fun x => strB x && SeqAt.shaped x) = true) x hx)
  exact ⟨strB_ok h1, h2⟩
section
variable {K : PySem.W.Frag} {w : World} {c : Ad} {σ : L2.St} {G : Hp} {ta tb te td : TE} {tas : TA} {b : Bk}
/-- [part[0] for part in _law_parts()] -/
theorem c_heads {i : Nat} (hw : ∀ x, wipe ((wipe σ [i]).set i (some x)) [i] = wipe σ [i]) (h1 : ∀ x, ((wipe σ [i]).set i (some x))[i]? = some (some x)) :
    Cm (tLc (iSeq K (tCall (sp__law_parts K w c) [] E0 tNil)) (gName i) tYes (tOp (rIx K) (tVar i) (tC (.int 0))) [i] σ) G (MP.l K partsA) := by
  rw [← partsA_e, ← filter_yes (partsL.map fun l => PyData.list (l.map PyData.str))]
  refine c_lcL (l_d (c_call (args := fun _ : Unit => []) (res := fun _ => MP.l K _) () c_nil)) (by show 6 ≤ 90000; decide) fun v d G1 e1 hd pd => ?_
  obtain ⟨n, hn⟩ := List.getElem?_of_mem hd
  obtain ⟨p, hp, rfl⟩ := parts_at hn
  exact ct_name (hw v) c_yes fun _ => c_ixL (c_var (h1 v) pd) c_int (atI_of (by decide) rfl rfl)
theorem rd_law (X : Ax K w c) {vs : List V} {H : Hp} {Q : VK} {E : XK} (h : sp_law K w c vs H Q E) : t_law K w c (Dn Q) (vs.map some ++ List.replicate (11 - vs.length) none) H := by
  obtain ⟨a, ns, rfl, hs, hl, k⟩ := h
  refine u_mix (seed := 1) rfl hs hl (by decide) fun h d H1 S => ?_
  refine u_loop (n := 6) (j := 2) (h := h) (d := d) (fun σ => ∃ x2 x3 x4 x5 x6 x7 x8 x9, σ = [some (.ref a), some (.ref h), x2, x3, x4, x5, x6, x7, x8, x9, none]) ⟨_, _, _, _, _, _, _, _, rfl⟩ S (by decide) ?_ fun σ H2 _ _ => k H2
  rintro σ v N ⟨x2, x3, x4, x5, x6, x7, x8, x9, rfl⟩ hN
  have nx : ∀ {y2 y3 y4 y5 y6 y7 y8 y9 : Option V} {G : Hp}, Go h d N.nx [some (.ref a), some (.ref h), y2, y3, y4, y5, y6, y7, y8, y9, none] G := fun H' e S' _ _ => hN _ _ ⟨_, _, _, _, _, _, _, _, rfl⟩ S'
  have no : ∀ {t u : TS} {tt : TT} {σ : L2.St} {G : Hp}, Cm (tt σ) G (MP.eq false) → St h d u N σ G → St h d (tIfS tt t u) N σ G := fun hc hu => s_ifb hc (fun z => absurd z Bool.false_ne_true) fun _ => hu
  refine s_asg (i := 3) (d_spoiled rfl) fun vr G1 e1 ⟨⟨x, sx⟩, p1⟩ => ?_
  have hr0 : ∀ {G2 : Hp} {σ2 : L2.St}, Ex G1 G2 → σ2[3]? = some (some vr) → Cm (tVar 3 σ2) G2 (MP.rwX K x) := fun e2 hσ => c_var hσ ((MP.rwX K x).mono e2 p1)
  cases hf : x.fault with
  | some f =>
    refine s_par (i := 4) (j := 5) (P1 := MP.d K (fD (some f))) (P2 := MP.d K (fD (some f))) (d_cons (.of (c_tried (.bad ⟨x, sx.fx.ok, f, hf⟩) (c_cons c_non (c_cons (hr0 (Ex.refl _) rfl) (c_cons c_non (c_cons c_non c_nil)))))) (d_cons (.of (c_to (c_faultX sx (hr0 (Ex.refl _) rfl)) (by rw [hf]))) d_nil)) fun v4 v5 G2 e2 p4 p5 => ?_
    refine s_ifb (b := true) (c_teq (c_notNon (c_var (P := MP.d K (fD (some f))) rfl p5)) (by cases f <;> rfl)) (fun _ => no (c_teq (c_tnot (a := true) (c_tB (c_alikeR (n := 4) (i := .data (fD (some f))) (c_var (P := MP.d K (fD (some f))) rfl p4) (c_var (P := MP.d K (fD (some f))) rfl p5) (part_sh hf)))) rfl) (s_end nx)) fun z => absurd z.symm Bool.false_ne_true
  | none =>
    obtain ⟨⟨b, ok⟩, eb1, eb2, eb3⟩ := rowX_of sx.fx.ok hf
    have ex : x = b.rx := by
      obtain ⟨x1, x2, x3⟩ := x
      have eb1 : x1 = rowsD b := eb1
      have eb2 : x2 = .dict (b.rule.kvs.map fun q => (q.1, .str q.2)) := eb2
      have eb3 : x3 = wordsD b := eb3
      rw [eb1, eb2, eb3] <;> rfl
    subst ex
    have pr : (MP.rw K b).p vr G1 := rwX_rw p1
    have hr : ∀ {G2 : Hp} {σ2 : L2.St}, Ex G1 G2 → σ2[3]? = some (some vr) → Cm (tVar 3 σ2) G2 (MP.rw K b) := fun e2 hσ => c_var hσ ((MP.rw K b).mono e2 pr)
    refine s_par (i := 4) (j := 5) (P1 := MP.bk K c b) (P2 := MP.d K .none) (d_cons (.of (c_tried (.good ⟨b, ok⟩) (c_cons c_non (c_cons (hr (Ex.refl _) rfl) (c_cons c_non (c_cons c_non c_nil)))))) (d_cons (.of (c_to (c_faultX sx (hr0 (Ex.refl _) rfl)) (by rw [hf] <;> rfl))) d_nil)) fun v4 v5 G2 e2 p4 p5 => ?_
    refine s_ifb (b := false) (c_notNon (c_var (P := MP.d K .none) rfl p5)) (fun z => absurd z Bool.false_ne_true) fun _ => ?_
    have hb4 : ∀ {G3 : Hp} {σ2 : L2.St}, Ex G2 G3 → σ2[4]? = some (some v4) → Cm (tVar 4 σ2) G3 (MP.bk K c b) := fun e3 hσ => c_var hσ ((MP.bk K c b).mono e3 p4)
    have noS : ∀ {t tr : TS} {tt : TT} {σ : L2.St} {G : Hp}, Cm (tt σ) G (MP.eq false) → St h d tr N σ G → St h d (tSeq (tIfS tt t tNext) tr) N σ G := fun hc hu H e S gh gd => hc H e _ fun b G' H' e1 n1 p => by
      have p : b = false := p
      subst p
      exact iteF (hu H' (e.trans e1) (S.ext e1) gh gd)
    refine noS (c_teq (c_tnot (a := true) (c_tB (c_alikeR (n := 4) (i := .row b) (c_three (hb4 (Ex.refl _) rfl)) (hr e2 rfl) (row_okN ok)))) rfl) ?_
    refine noS (c_teq (c_tor (a := false) (b := false) (c_teq (c_tnot (a := true) (c_test (c_to (c_bkEqL ok ok (hb4 (Ex.refl _) rfl) (c_builtN ok (hr e2 rfl))) (congrArg PyData.bool (eqv_self ok))))) rfl) fun _ => c_test (c_bkNeL (hb4 (Ex.refl _) rfl) ((hr e2 rfl).imp fun _ _ _ z => rw_rwX z))) rfl) ?_
    refine s_asg (i := 6) (d_pick (ds := partsA ++ partsB) rfl (l_d (c_addL (c_heads (fun _ => rfl) (fun _ => rfl)) (c_lstl (c_dcons c_str (c_dcons c_str (c_dcons c_non (c_dcons c_int (c_dcons c_str (c_dcons (c_ls1 c_str) c_dnil)))))) (by decide)) (by decide))) (by decide) (by decide)) fun v6 G3 e3 ⟨⟨d1, hd1⟩, p6⟩ => ?_
    refine s_asg (i := 7) (R := MP.l K wordsA) (.of (c_lstl (c_dcons c_str (c_dcons c_str (c_dcons c_str (c_dcons c_str (c_dcons c_str (c_dcons c_str (c_dcons c_non (c_dcons c_int c_dnil)))))))) (by decide))) fun v7 G4 e4 p7 => ?_
    refine s_asg (i := 8) (d_pick (ds := wordsA ++ wordsB) rfl (l_d (c_addL (c_var (P := MP.l K wordsA) rfl p7) (c_lstl (c_dcons c_str (c_dcons c_str (c_dcons c_str (c_dcons c_str (c_dcons c_str c_dnil))))) (by decide)) (by decide))) (by decide) (by decide)) fun v8 G5 e5 ⟨⟨d2, hd2⟩, p8⟩ => ?_
    obtain ⟨o1, s1⟩ := parts_ok1 d1 hd1
    obtain ⟨o2, s2⟩ := words_ok1 d2 hd2
    have hp6 : ∀ {G6 : Hp} {σ2 : L2.St}, Ex G5 G6 → σ2[6]? = some (some v6) → Cm (tVar 6 σ2) G6 (MP.d K d1) := fun e hσ => c_var hσ (Dp.up ((e4.trans e5).trans e) _ _ p6)
    have hp8 : ∀ {G6 : Hp} {σ2 : L2.St}, Ex G5 G6 → σ2[8]? = some (some v8) → Cm (tVar 8 σ2) G6 (MP.d K d2) := fun e hσ => c_var hσ (Dp.up e _ _ p8)
    have e25 := (e3.trans e4).trans e5
    have e15 := e2.trans e25
    cases hk : isWordD d1 (kvParts.map (·.1)) with
    | false =>
      have hc : chgFault b d1 d2 = some ("" : Str) := by unfold chgFault; rw [hk, if_neg Bool.false_ne_true]
      refine s_asg (i := 9) (R := MP.d K (fD (some (.rule "")))) (.of (c_tried (.chgX ⟨b, ok, d1, d2, o1, o2, "", hc⟩) (c_cons (hb4 e25 rfl) (c_cons c_non (c_cons (hp6 (Ex.refl _) rfl) (c_cons (hp8 (Ex.refl _) rfl) c_nil)))))) fun v9 G6 e6 p9 => ?_
      refine s_ifb (b := true) ?_ (fun _ => no (c_teq (c_tnot (a := true) (c_tB (c_alikeR (n := 4) (i := .data (fD (some (.rule "")))) (c_var (P := MP.d K (fD (some (.rule "")))) rfl p9) (c_pr c_str c_str) (by decide +kernel : okD 4 (fD (some (.rule ""))) = true)))) rfl) (s_end nx)) (fun z => absurd z.symm Bool.false_ne_true)
      cases hS : isStrD d1 with
      | false => exact c_teq (c_tor (a := true) (b := true) (c_teq (c_tnot (a := false) (c_tB (c_isi (hp6 e6 rfl) (by rw [kit_str, hS])))) rfl) fun z => absurd z.symm Bool.false_ne_true) rfl
      | true =>
        obtain ⟨s, rfl⟩ : ∃ s, d1 = .str s := by
          cases d1 with
          | str s => exact ⟨s, rfl⟩
          | _ => cases hS
        have hns : ¬ s ∈ kvParts.map (·.1) := fun z => by rw [isWord_mem z] at hk; cases hk
        exact c_teq (c_tor (a := false) (b := true) (c_teq (c_tnot (a := true) (c_tB (c_isi (hp6 e6 rfl) (by rw [kit_str, hS])))) rfl) fun _ => c_tB (c_dnotin (k := false) (hp6 e6 rfl) (c_rw1 (hr (e15.trans e6) rfl)) (by rw [rule_hasnt _ hns] <;> rfl))) rfl
    | true =>
      obtain ⟨s, rfl, hs⟩ := isWord_str hk
      obtain ⟨o, ho, so⟩ := rule_has b.rule hs
      have hkn : ∀ {G6 : Hp} {v9 : Option V}, Ex G5 G6 → Cm (tOr (tNot (tB (tCB (rIsiG K) (tCons (tVar 6) (tCons (tC (.ty "str")) tNil))))) (tB (tDNotIn (tVar 6) (tOp (rIx K) (tVar 3) (tC (.int 1))))) [some (.ref a), some (.ref h), some v, some vr, some v4, some v5, some v6, some v7, some v8, v9, none]) G6 (MP.eq false) := fun e6 =>
        c_teq (c_tor (a := false) (b := false) (c_teq (c_tnot (a := true) (c_tB (c_isi (hp6 e6 rfl) (by rw [kit_str] <;> rfl)))) rfl) fun _ => c_tB (c_dnotin (k := true) (hp6 e6 rfl) (c_rw1 (hr (e15.trans e6) rfl)) (by rw [ho] <;> rfl))) rfl
      have hw : ∀ {G6 : Hp} {v9 : Option V}, Ex G5 G6 → Cm (tCall (sp__law_with K w c) [] E0 (tCons (tOp (rIx K) (tVar 3) (tC (.int 1))) (tCons (tVar 6) (tCons (tVar 8) tNil))) [some (.ref a), some (.ref h), some v, some vr, some v4, some v5, some v6, some v7, some v8, v9, none]) G6 (MP.dv K (putD (kvX b.rule) s d2)) := fun e6 =>
        c_withV (kvs := kvX b.rule) ((c_rw1 (hr (e15.trans e6) rfl)).imp fun _ _ _ z => dk_dv z) (hp6 e6 rfl) (hp8 e6 rfl) (by show 6 < 1000; decide)
      have hfl : ∀ {G6 : Hp} {v9 : Option V}, Ex G5 G6 → Cm (tCall (sp__law_rule_fault K w c) [] E0 (tCons (tCall (sp__law_with K w c) [] E0 (tCons (tOp (rIx K) (tVar 3) (tC (.int 1))) (tCons (tVar 6) (tCons (tVar 8) tNil)))) tNil) [some (.ref a), some (.ref h), some v, some vr, some v4, some v5, some v6, some v7, some v8, v9, none]) G6 (MP.d K (oS (ruleFault (.dict (putD (kvX b.rule) s d2))))) := fun e6 =>
        c_call (args := fun i : RfIn => [MP.rx K i.x]) (res := fun i => MP.d K (oS (ruleFault i.x))) ⟨.dict (putD (kvX b.rule) s d2), put_ok b.rule hs o2, fun q hq => by
          have : q.1 ∈ (putD (kvX b.rule) s d2).map (·.1) := List.mem_map.mpr ⟨q, hq, rfl⟩
          rw [putD_keys (by rw [kvX_keys]; exact hs), kvX_keys] at this
          exact this⟩ (c_cons (hw e6) c_nil)
      have hce : chgFault b (.str s) d2 = ruleFault (.dict (putD (kvX b.rule) s d2)) := by unfold chgFault; rw [hk, if_pos rfl]
      cases hrf : ruleFault (.dict (putD (kvX b.rule) s d2)) with
      | some p =>
        rw [hrf] at hce hfl
        have ep := fault_at b.rule hs hrf
        subst ep
        refine s_asg (i := 9) (R := MP.d K (fD (some (.rule p)))) (.of (c_tried (.chgX ⟨b, ok, .str p, d2, o1, o2, p, hce⟩) (c_cons (hb4 e25 rfl) (c_cons c_non (c_cons (hp6 (Ex.refl _) rfl) (c_cons (hp8 (Ex.refl _) rfl) c_nil)))))) fun v9 G6 e6 p9 => ?_
        have hsh : SeqAt.shaped (fD (some (.rule p))) = true := by
          have : ∀ p ∈ kvParts.map (·.1), SeqAt.shaped (fD (some (.rule p))) = true := by decide +kernel
          exact this p hs
        refine no (hkn e6) (s_ifb (b := true) (c_notNon (hfl e6)) (fun _ => no (c_test (c_to (c_ne (c_var (P := MP.d K (fD (some (.rule p)))) rfl p9) (c_pr c_str (hp6 e6 rfl)) hsh hsh) ?_)) (s_end nx)) (fun z => absurd z.symm Bool.false_ne_true))
        rw [show PyData.tuple [PyData.str "rule", .str p] = fD (some (.rule p)) from rfl, SeqAt.eqv_refl _ (SeqAt.canLay_of_shaped hsh)] <;> rfl
      | none =>
        rw [hrf] at hfl
        obtain ⟨y, r', rfl, er⟩ := put_rule b.rule hs o2 hrf
        refine s_asg (i := 9) (R := MP.bk K c { b with rule := r' }) (.of (c_tried (.chg ⟨b, ok, s, y, r', hs, o2, er⟩) (c_cons (hb4 e25 rfl) (c_cons c_non (c_cons (hp6 (Ex.refl _) rfl) (c_cons (hp8 (Ex.refl _) rfl) c_nil)))))) fun v9 G6 e6 p9 => ?_
        have h9 : Cm (tVar 9 [some (.ref a), some (.ref h), some v, some vr, some v4, some v5, some v6, some v7, some v8, some v9, none]) G6 (MP.bk K c { b with rule := r' }) := c_var rfl p9
        have ok' : Bk.ok { b with rule := r' } := ok
        have hwk : Cm (tCall (sp__law_with K w c) [] E0 (tCons (tOp (rIx K) (tVar 3) (tC (.int 1))) (tCons (tVar 6) (tCons (tVar 8) tNil))) [some (.ref a), some (.ref h), some v, some vr, some v4, some v5, some v6, some v7, some v8, some v9, none]) G6 (MP.dk r'.kvs) := (hw e6).imp fun v' G' _ z => by
          rw [er] at z
          exact rx_dk z
        have q1 : PyData.eqv (rowsD b) (rowsD b) = true := SeqAt.eqv_refl _ (SeqAt.canLay_of_shaped (rows_shaped ok))
        have q2 : PyData.eqv (wordsD b) (wordsD b) = true := SeqAt.eqv_refl _ (SeqAt.canLay_of_shaped (words_shaped b))
        refine no (hkn e6) (no (c_notNon (hfl e6)) (no (c_teq (c_tor (a := false) (b := false) (c_test (K := K) (c_to (c_neKK (K := K) (c_ruleP h9) hwk) (by rw [dkEq_self (rule_nd r')] <;> rfl))) fun _ => c_teq (c_tor (a := false) (b := false) (c_test (c_to (c_ne (c_rows h9) (c_rw0 (hr (e15.trans e6) rfl)) (rows_shaped ok') (rows_shaped ok)) ?_)) fun _ => c_test (c_to (c_ne (c_wordsP h9) (c_rw2 (hr (e15.trans e6) rfl)) (words_shaped _) (words_shaped _)) ?_)) rfl) rfl) (no (c_test (c_to (c_ne (c_bkEqL ok' ok h9 (hb4 (e25.trans e6) rfl)) (c_eq (hp8 e6 rfl) (c_dget (c_rw1 (hr (e15.trans e6) rfl)) (hp6 e6 rfl) ho) s2 so) rfl rfl) ?_)) (s_end nx))))
        · show PyData.bool (!PyData.eqv (rowsD b) (rowsD b)) = _
          rw [q1] <;> rfl
        · show PyData.bool (!PyData.eqv (wordsD b) (wordsD b)) = _
          rw [q2] <;> rfl
        · have e1 : bkEq { b with rule := r' } b = decide (y = o) := by
            show (PyData.eqv (rowsD b) (rowsD b) && (kvEq r'.kvs b.rule.kvs && PyData.eqv (wordsD b) (wordsD b))) = _
            rw [q1, q2, put_same hs er ho, Bool.true_and, Bool.and_true]
          rw [e1, eqv_strE]
          cases decide (y = o) <;> rfl
end
end Ah
namespace Ah
open PySem PySem.Spec PyProof.Rows L2 Evl
def top (i : Nat) : Stmt := PySem.Challenge.pw_aheadrows_k01_books_refused.main.body.getD i (.Pass ⟨0, 0, 0, 0⟩)
structure Tx (K : PySem.W.Frag) (w : World) (mg : Str → Option Value) (c : Ad) : Prop where
  axt : Axb K w c
  axk : Axk1 K c
  xC : ExcC K c.InvalidRows
  xF : XfC K c.InvalidRule
  xn : PySem.W.findIn K (.ref c.InvalidRule) "part" = some none
  nl : PySem.W.kitOne K (.type "list") (.ref c.Book) = some false
  m_InvalidRows : mg "InvalidRows" = some (.ref c.InvalidRows)
  m_InvalidRule : mg "InvalidRule" = some (.ref c.InvalidRule)
  m_InvalidWords : mg "InvalidWords" = some (.ref c.InvalidWords)
  g_AheadError : ∃ u, mg "AheadError" = some u ∧ RelV (.ref c.AheadError) u
  g_Book : ∃ u, mg "Book" = some u ∧ RelV (.ref c.Book) u
  g_KEYS : ∃ u, mg "KEYS" = some u ∧ RelV (.ref c.KEYS) u
  g_MOST_ROWS : ∃ u, mg "MOST_ROWS" = some u ∧ RelV (.int 2) u
  g_PARTS : ∃ u, mg "PARTS" = some u ∧ RelV (.ref c.PARTS) u
  g_WORDS : ∃ u, mg "WORDS" = some u ∧ RelV (.ref c.WORDS) u
  b_all : mg "all" = none
  b_bool : mg "bool" = none
  b_dict : mg "dict" = none
  b_int : mg "int" = none
  b_isinstance : mg "isinstance" = none
  b_len : mg "len" = none
  b_list : mg "list" = none
  b_max : mg "max" = none
  b_range : mg "range" = none
  b_repr : mg "repr" = none
  b_sorted : mg "sorted" = none
  b_str : mg "str" = none
  b_tuple : mg "tuple" = none
section
variable {P : Program} {w : World} {K : PySem.W.Frag} {mg : Str → Option Value} {base : Heap} {c : Ad}
abbrev s_is_integer : Stmt := top 10
abbrev is_integer_N : List Str := ["thing", "low", "high"]
theorem sc_is_integer : FnScope is_integer_N ["thing", "low", "high"] (defScope s_is_integer) := ⟨rfl, rfl, rfl, by decide +kernel, rfl, by decide +kernel, by decide +kernel⟩
theorem ok_is_integer {f : Addr} {fd : FuncData} (F : Fun K "is_integer" "is_integer" s_is_integer f fd) (T : Tx K w mg c) : FnOk P w K mg base CX0 1 f fd ["thing", "low", "high"] (sp_is_integer K w c) := by
  refine F.ok sc_is_integer (fun vs H Q E h => len_is_integer h) (fun cdv A outer s H vs Q E hr h => ⟨t_is_integer K w c, ?_, rd_is_integer h⟩)
  exact (pss_one (ps_ret (pe_and (pe_callB call_isiG rfl T.b_isinstance (by decide +kernel) (pa_cons (pv 0) (pa_cons (pe_bltn rfl T.b_int (by decide +kernel) rfl) pa_nil))) (pe_and (pe_not (pe_callB call_isiG rfl T.b_isinstance (by decide +kernel) (pa_cons (pv 0) (pa_cons (pe_bltn rfl T.b_bool (by decide +kernel) rfl) pa_nil)))) (pe_one (pe_chain op_le op_le (pv 1) (pv 0) (pv 2)))))))
abbrev s_is_word : Stmt := top 11
abbrev is_word_N : List Str := ["thing", "words"]
theorem sc_is_word : FnScope is_word_N ["thing", "words"] (defScope s_is_word) := ⟨rfl, rfl, rfl, by decide +kernel, rfl, by decide +kernel, by decide +kernel⟩
theorem ok_is_word {f : Addr} {fd : FuncData} (F : Fun K "is_word" "is_word" s_is_word f fd) (T : Tx K w mg c) : FnOk P w K mg base CX0 1 f fd ["thing", "words"] (sp_is_word K w c) := by
  refine F.ok sc_is_word (fun vs H Q E h => len_is_word h) (fun cdv A outer s H vs Q E hr h => ⟨t_is_word K w c, ?_, rd_is_word h⟩)
  exact (pss_one (ps_ret (pe_and (pe_callB call_isiG rfl T.b_isinstance (by decide +kernel) (pa_cons (pv 0) (pa_cons (pe_bltn rfl T.b_str (by decide +kernel) rfl) pa_nil))) (pe_one (pe_cmpR (op_inG (hu65 hr)) (pv 0) (pv 1) rfl)))))
abbrev s_is_edition : Stmt := top 12
abbrev is_edition_N : List Str := ["thing", "least"]
theorem sc_is_edition : FnScope is_edition_N ["thing", "least"] (defScope s_is_edition) := ⟨rfl, rfl, rfl, by decide +kernel, rfl, by decide +kernel, by decide +kernel⟩
theorem ok_is_edition {f : Addr} {fd : FuncData} (F : Fun K "is_edition" "is_edition" s_is_edition f fd) (T : Tx K w mg c) (C_is_word : Cal P w K mg base CX0 1 "is_word" (sp_is_word K w c)) (C_is_integer : Cal P w K mg base CX0 1 "is_integer" (sp_is_integer K w c)) : FnOk P w K mg base CX0 2 f fd ["thing", "least"] (sp_is_edition K w c) := by
  refine F.ok sc_is_edition (fun vs H Q E h => len_is_edition h) (fun cdv A outer s H vs Q E hr h => ⟨t_is_edition K w c, ?_, rd_is_edition T.axt.ax h⟩)
  exact (pss_one (ps_ret (pe_and (pe_callB call_isiG rfl T.b_isinstance (by decide +kernel) (pa_cons (pv 0) (pa_cons (pe_bltn rfl T.b_tuple (by decide +kernel) rfl) pa_nil))) (pe_and (pe_cmpR (op_eqD hr.units) (pe_callB call_lenG rfl T.b_len (by decide +kernel) (pa_cons (pv 0) pa_nil)) pe_int (nomark _)) (pe_and (pe_cal C_is_word hr (by decide) rfl (pa_cons (pe_ix ix_seq (pv 0) pe_int (fun _ _ => rfl)) (pa_cons (C8.pe_gc rfl T.g_KEYS) pa_nil))) (pe_one (pe_cal C_is_integer hr (by decide) rfl (pa_cons (pe_ix ix_seq (pv 0) pe_int (fun _ _ => rfl)) (pa_cons (pv 1) (pa_cons pe_int pa_nil))))))))))
abbrev s_check_ruleX : Stmt := top 13
abbrev check_ruleX_N : List Str := ["rule", "part", "words"]
theorem sc_check_rule : FnScope check_ruleX_N ["rule"] (defScope s_check_ruleX) := ⟨rfl, rfl, rfl, by decide +kernel, rfl, by decide +kernel, by decide +kernel⟩
theorem ok_check_ruleX {f : Addr} {fd : FuncData} (F : Fun K "check_rule" "check_rule" s_check_ruleX f fd) (T : Tx K w mg c) (C_is_word : Cal P w K mg base CX0 1 "is_word" (sp_is_word K w c)) (X_InvalidRule : XcF P w K mg c.InvalidRule "InvalidRule" "part") : FnOk P w K mg base (L2.CX P w) 2 f fd ["rule"] (sp_check_ruleX K w c) := by
  refine F.okX sc_check_rule (fun vs H Q E h => len_check_ruleX h) (fun cdv A outer s H vs Q E hr h => ⟨t_check_ruleX K w c E, ?_, rd_check_ruleX T.axt.ax h⟩)
  exact (pss_cons (ps_if (PW.pt (pw_or (pt_not (pt_val (pe_callB call_isiG rfl T.b_isinstance (by decide +kernel) (pa_cons (pv 0) (pa_cons (pe_bltn rfl T.b_dict (by decide +kernel) rfl) pa_nil))))) (pw_or (pt_cmpR (op_neD hr.units) (pe_callB call_lenK rfl T.b_len (by decide +kernel) (pa_cons (pv 0) pa_nil)) (pe_callB call_lenW rfl T.b_len (by decide +kernel) (pa_cons (C8.pe_gc rfl T.g_PARTS) pa_nil)) (nomark _)) (pw_or1 (pt_not (pt_val (pe_callB (cr_all rfl) rfl T.b_all (by decide +kernel) (pa_cons (pe_lock (pe_lc (own := [("part", 1)]) (g := (gName 1)) (tt := tYes) rfl sc_check_rule.nd (pi_keys (pv 0)) (blkOk_by (own := [("part", 1)]) (N := check_ruleX_N) (sc := defScope s_check_ruleX) (by decide +kernel)) (fun _ _ _ _ _ => (pg_name (i := 1) sc_check_rule.nd rfl (Or.inl rfl))) (fun _ _ _ _ _ => pts_nil) (fun _ _ _ _ _ => (pe_cal C_is_word hr (by decide) rfl (pa_cons (pv 1) (pa_cons (pe_callTy (call_listW rfl) rfl T.b_list (by decide +kernel) (pa_cons (C8.pe_gc rfl T.g_PARTS) pa_nil)) pa_nil)))))) pa_nil)))))))) (pss_one (ps_raiseF rfl X_InvalidRule hr (takes_of rfl rfl rfl rfl) (by exact (pa_cons pe_str pa_nil)))) pss_nil)
      (pss_one (ps_for (passes_of rfl) rfl (pi_itemsW (C8.pe_gc rfl T.g_PARTS)) (pg_tup rfl (pgs_cons (pg_name (i := 1) sc_check_rule.nd rfl (Or.inl rfl)) (pgs_cons (pg_name (i := 2) sc_check_rule.nd rfl (Or.inl rfl)) pgs_nil)))
      (pss_one (ps_if (pt_not (pt_val (pe_cal C_is_word hr (by decide) rfl (pa_cons (pe_dget (hu_of hr) (pv 0) (pv 1) (fun _ _ => rfl)) (pa_cons (pv 2) pa_nil))))) (pss_one (ps_raiseF rfl X_InvalidRule hr (takes_of rfl rfl rfl rfl) (by exact (pa_cons (pv 1) pa_nil)))) pss_nil)))))
abbrev s_Book_initX : Stmt := inClass (top 14) 0
abbrev Book_initX_N : List Str := ["self", "rows", "rule", "words", "row", "word", "part"]
theorem sc_Book_init : FnScope Book_initX_N ["self", "rows", "rule", "words"] (defScope s_Book_initX) := ⟨rfl, rfl, rfl, by decide +kernel, rfl, by decide +kernel, by decide +kernel⟩
theorem ok_Book_initX {f : Addr} {fd : FuncData} (F : Fun K "__init__" "Book.__init__" s_Book_initX f fd) (T : Tx K w mg c) (C_is_edition : Cal P w K mg base CX0 2 "is_edition" (sp_is_edition K w c)) (C_check_rule : Cal P w K mg base (L2.CX P w) 2 "check_rule" (sp_check_ruleX K w c)) (C_is_word : Cal P w K mg base CX0 1 "is_word" (sp_is_word K w c)) (X_InvalidRows : Xc0 P w K mg c.InvalidRows "InvalidRows") (X_InvalidWords : Xc0 P w K mg c.InvalidWords "InvalidWords") : FnOk P w K mg base (L2.CX P w) 3 f fd ["self", "rows", "rule", "words"] (sp_Book_initX K w c) := by
  refine F.okX sc_Book_init (fun vs H Q E h => len_Book_initX h) (fun cdv A outer s H vs Q E hr h => ⟨t_Book_initX K w c E, ?_, rd_Book_initX T.axt.ax h⟩)
  exact (pss_cons (ps_if (PW.pt (pw_or (pt_not (pt_val (pe_callB call_isiG rfl T.b_isinstance (by decide +kernel) (pa_cons (pv 1) (pa_cons (pe_bltn rfl T.b_tuple (by decide +kernel) rfl) pa_nil))))) (pw_or1 (pt_not (pt_chain op_le op_le pe_int (pe_callB call_lenG rfl T.b_len (by decide +kernel) (pa_cons (pv 1) pa_nil)) (C8.pe_gc rfl T.g_MOST_ROWS)))))) (pss_one (ps_raise0 rfl X_InvalidRows hr (takes_of rfl rfl rfl rfl))) pss_nil)
      (pss_cons (ps_if (pt_not (pt_val (pe_callB (cr_all rfl) rfl T.b_all (by decide +kernel) (pa_cons (pe_lc (own := [("row", 4)]) (g := (gName 4)) (tt := tYes) rfl sc_Book_init.nd (pi_seq (pv 1)) (blkOk_by (own := [("row", 4)]) (N := Book_initX_N) (sc := defScope s_Book_initX) (by decide +kernel)) (fun _ _ _ _ _ => (pg_name (i := 4) sc_Book_init.nd rfl (Or.inl rfl))) (fun _ _ _ _ _ => pts_nil) (fun _ _ _ _ _ => (pe_cal C_is_edition hr (by decide) rfl (pa_cons (pv 4) (pa_cons pe_int pa_nil))))) pa_nil)))) (pss_one (ps_raise0 rfl X_InvalidRows hr (takes_of rfl rfl rfl rfl))) pss_nil)
      (pss_cons (ps_expr (pe_calX C_check_rule hr (by decide) (takes_of rfl rfl rfl rfl) rfl (pa_cons (pv 2) pa_nil)))
      (pss_cons (ps_if (PW.pt (pw_or (pt_not (pt_val (pe_callB call_isiG rfl T.b_isinstance (by decide +kernel) (pa_cons (pv 3) (pa_cons (pe_bltn rfl T.b_tuple (by decide +kernel) rfl) pa_nil))))) (pw_or1 (pt_not (pt_val (pe_callB (cr_all rfl) rfl T.b_all (by decide +kernel) (pa_cons (pe_lc (own := [("word", 5)]) (g := (gName 5)) (tt := tYes) rfl sc_Book_init.nd (pi_seq (pv 3)) (blkOk_by (own := [("word", 5)]) (N := Book_initX_N) (sc := defScope s_Book_initX) (by decide +kernel)) (fun _ _ _ _ _ => (pg_name (i := 5) sc_Book_init.nd rfl (Or.inl rfl))) (fun _ _ _ _ _ => pts_nil) (fun _ _ _ _ _ => (pe_cal C_is_word hr (by decide) rfl (pa_cons (pv 5) (pa_cons (C8.pe_gc rfl T.g_WORDS) pa_nil))))) pa_nil))))))) (pss_one (ps_raise0 rfl X_InvalidWords hr (takes_of rfl rfl rfl rfl))) pss_nil)
      (pss_cons (ps_if (pt_cmpR (op_neD hr.units) (pe_lc (own := [("word", 5)]) (g := (gName 5)) (tt := (tTest (tOp (rInG K false) (tVar 5) (tVar 3)))) rfl sc_Book_init.nd (pi_seq (C8.pe_gc rfl T.g_WORDS)) (blkOk_by (own := [("word", 5)]) (N := Book_initX_N) (sc := defScope s_Book_initX) (by decide +kernel)) (fun _ _ _ _ _ => (pg_name (i := 5) sc_Book_init.nd rfl (Or.inl rfl))) (fun _ _ _ _ _ => (pts_one (pt_cmpR (op_inG (hu65 hr)) (pv 5) (pv 3) rfl))) (fun _ _ _ _ _ => (pv 5))) (pe_callTy call_listG rfl T.b_list (by decide +kernel) (pa_cons (pv 3) pa_nil)) (nomark _)) (pss_one (ps_raise0 rfl X_InvalidWords hr (takes_of rfl rfl rfl rfl))) pss_nil)
      (pss_cons (ps_fld (pv 0) (pv 1) rfl)
      (pss_cons (ps_fld (pv 0) (pe_dc (own := [("part", 6)]) (g := (gName 6)) (tt := tYes) rfl sc_Book_init.nd (pi_keysW (C8.pe_gc rfl T.g_PARTS)) (blkOk_by (own := [("part", 6)]) (N := Book_initX_N) (sc := defScope s_Book_initX) (by decide +kernel)) (fun _ _ _ _ _ => (pg_name (i := 6) sc_Book_init.nd rfl (Or.inl rfl))) (fun _ _ _ _ _ => pts_nil) (fun _ _ _ _ _ => (pv 6)) (fun _ _ _ _ _ => (pe_dget (hu_of hr) (pv 2) (pv 6) (fun _ _ => rfl)))) rfl)
      (pss_one (ps_fld (pv 0) (pv 3) rfl)))))))))
abbrev s_Book_rows : Stmt := inClass (top 14) 1
abbrev Book_rows_N : List Str := ["self"]
theorem sc_Book_rows : FnScope Book_rows_N ["self"] (defScope s_Book_rows) := ⟨rfl, rfl, rfl, by decide +kernel, rfl, by decide +kernel, by decide +kernel⟩
theorem ok_Book_rows {f : Addr} {fd : FuncData} (F : Fun K "rows" "Book.rows" s_Book_rows f fd) (T : Tx K w mg c) : FnOk P w K mg base CX0 1 f fd ["self"] (sp_Book_rows K w c) := by
  refine F.ok sc_Book_rows (fun vs H Q E h => len_Book_rows h) (fun cdv A outer s H vs Q E hr h => ⟨t_Book_rows K w c, ?_, rd_Book_rows T.axt.ax h⟩)
  exact (pss_one (ps_ret (pe_fld (pv 0) rfl)))
abbrev s_Book_rule : Stmt := inClass (top 14) 2
abbrev Book_rule_N : List Str := ["self"]
theorem sc_Book_rule : FnScope Book_rule_N ["self"] (defScope s_Book_rule) := ⟨rfl, rfl, rfl, by decide +kernel, rfl, by decide +kernel, by decide +kernel⟩
theorem ok_Book_rule {f : Addr} {fd : FuncData} (F : Fun K "rule" "Book.rule" s_Book_rule f fd) (T : Tx K w mg c) : FnOk P w K mg base CX0 1 f fd ["self"] (sp_Book_rule K w c) := by
  refine F.ok sc_Book_rule (fun vs H Q E h => len_Book_rule h) (fun cdv A outer s H vs Q E hr h => ⟨t_Book_rule K w c, ?_, rd_Book_rule T.axt.ax h⟩)
  exact (pss_one (ps_ret (pe_callTy call_dictK rfl T.b_dict (by decide +kernel) (pa_cons (pe_fld (pv 0) rfl) pa_nil))))
abbrev s_Book_words : Stmt := inClass (top 14) 3
abbrev Book_words_N : List Str := ["self"]
theorem sc_Book_words : FnScope Book_words_N ["self"] (defScope s_Book_words) := ⟨rfl, rfl, rfl, by decide +kernel, rfl, by decide +kernel, by decide +kernel⟩
theorem ok_Book_words {f : Addr} {fd : FuncData} (F : Fun K "words" "Book.words" s_Book_words f fd) (T : Tx K w mg c) : FnOk P w K mg base CX0 1 f fd ["self"] (sp_Book_words K w c) := by
  refine F.ok sc_Book_words (fun vs H Q E h => len_Book_words h) (fun cdv A outer s H vs Q E hr h => ⟨t_Book_words K w c, ?_, rd_Book_words T.axt.ax h⟩)
  exact (pss_one (ps_ret (pe_fld (pv 0) rfl)))
abbrev s_Book_changedX : Stmt := inClass (top 14) 4
abbrev Book_changedX_N : List Str := ["self", "part", "word"]
theorem sc_Book_changed : FnScope Book_changedX_N ["self", "part", "word"] (defScope s_Book_changedX) := ⟨rfl, rfl, rfl, by decide +kernel, rfl, by decide +kernel, by decide +kernel⟩
theorem ok_Book_changedX {f : Addr} {fd : FuncData} (F : Fun K "changed" "Book.changed" s_Book_changedX f fd) (T : Tx K w mg c) (C_is_word : Cal P w K mg base CX0 1 "is_word" (sp_is_word K w c)) (C_Book_init : Mak P w K mg base (L2.CX P w) 3 "Book" c.Book (sp_Book_initX K w c)) (X_InvalidRule : XcF P w K mg c.InvalidRule "InvalidRule" "part") : FnOk P w K mg base (L2.CX P w) 5 f fd ["self", "part", "word"] (sp_Book_changedX K w c) := by
  refine F.okX sc_Book_changed (fun vs H Q E h => len_Book_changedX h) (fun cdv A outer s H vs Q E hr h => ⟨t_Book_changedX K w c E, ?_, rd_Book_changedX T.axt.ax h⟩)
  exact (pss_cons (ps_if (pt_not (pt_val (pe_cal C_is_word hr (by decide) rfl (pa_cons (pv 1) (pa_cons (pe_callTy (call_listW rfl) rfl T.b_list (by decide +kernel) (pa_cons (C8.pe_gc rfl T.g_PARTS) pa_nil)) pa_nil))))) (pss_one (ps_raiseF rfl X_InvalidRule hr (takes_of rfl rfl rfl rfl) (by exact (pa_cons pe_str pa_nil)))) pss_nil)
      (pss_one (ps_ret (pe_makX C_Book_init hr (by decide) (takes_of rfl rfl rfl rfl) rfl (pa_cons (pe_fld (pv 0) rfl) (pa_cons (pe_merge1 (pe_fld (pv 0) rfl) (pv 1) (pv 2)) (pa_cons (pe_fld (pv 0) rfl) pa_nil)))))))
abbrev s_Book_eqL : Stmt := inClass (top 14) 5
abbrev Book_eqL_N : List Str := ["self", "other"]
theorem sc_Book_eq : FnScope Book_eqL_N ["self", "other"] (defScope s_Book_eqL) := ⟨rfl, rfl, rfl, by decide +kernel, rfl, by decide +kernel, by decide +kernel⟩
theorem ok_Book_eqL {f : Addr} {fd : FuncData} (F : Fun K "__eq__" "Book.__eq__" s_Book_eqL f fd) (T : Tx K w mg c) : FnOk P w K mg base CX0 1 f fd ["self", "other"] (sp_Book_eqL K w c) := by
  refine F.ok sc_Book_eq (fun vs H Q E h => len_Book_eqL h) (fun cdv A outer s H vs Q E hr h => ⟨t_Book_eqL K w c, ?_, rd_Book_eqL T.axt T.nl h⟩)
  exact (pss_cons (ps_if (pt_not (pt_val (pe_callB call_isiG rfl T.b_isinstance (by decide +kernel) (pa_cons (pv 1) (pa_cons (C8.pe_gc rfl T.g_Book) pa_nil))))) (pss_one (ps_ret pe_bl)) pss_nil)
      (pss_one (ps_ret (pe_cmpR (op_eq3 (hu66 hr)) (pe_tup (pa_cons (pe_fld (pv 0) rfl) (pa_cons (pe_fld (pv 0) rfl) (pa_cons (pe_fld (pv 0) rfl) pa_nil)))) (pe_tup (pa_cons (pe_fld (pv 1) rfl) (pa_cons (pe_fld (pv 1) rfl) (pa_cons (pe_fld (pv 1) rfl) pa_nil)))) (nomark _)))))
abbrev s__law_mix : Stmt := top 16
abbrev _law_mix_N : List Str := ["_law_script", "_law_seed", "_law_state", "_law_cell"]
theorem sc__law_mix : FnScope _law_mix_N ["_law_script", "_law_seed"] (defScope s__law_mix) := ⟨rfl, rfl, rfl, by decide +kernel, rfl, by decide +kernel, by decide +kernel⟩
theorem ok__law_mix {f : Addr} {fd : FuncData} (F : Fun K "_law_mix" "_law_mix" s__law_mix f fd) (T : Tx K w mg c) : FnOk P w K mg base CX0 1 f fd ["_law_script", "_law_seed"] (sp__law_mix K w c) := by
  refine F.ok sc__law_mix (fun vs H Q E h => len__law_mix h) (fun cdv A outer s H vs Q E hr h => ⟨t__law_mix K w c, ?_, rd__law_mix h⟩)
  exact (pss_cons (ps_set (i := 2) sc__law_mix.nd rfl (Or.inl rfl) (pv 1))
      (pss_cons (ps_for PassesOwn.never rfl (pi_seq (pv 0)) (pg_name (i := 3) sc__law_mix.nd rfl (Or.inl rfl))
      (pss_one (ps_set (i := 2) sc__law_mix.nd rfl (Or.inl rfl) (pe_op op_modN (pe_callTy call_intG rfl T.b_int (by decide +kernel) (pa_cons (pe_op op_addG (pe_op op_addG (pe_op op_mul (pv 2) pe_int) (pe_op op_modN (pe_callTy call_intG rfl T.b_int (by decide +kernel) (pa_cons (pv 3) pa_nil)) pe_int)) pe_int) pa_nil)) pe_int))))
      (pss_one (ps_ret (pe_lst (pa_cons (pv 2) (pa_cons (pe_callTy call_listG rfl T.b_list (by decide +kernel) (pa_cons (pv 0) pa_nil)) (pa_cons pe_int pa_nil))))))))
abbrev s__law_next : Stmt := top 17
abbrev _law_next_N : List Str := ["_law_h", "_law_cap", "_law_cell"]
theorem sc__law_next : FnScope _law_next_N ["_law_h", "_law_cap"] (defScope s__law_next) := ⟨rfl, rfl, rfl, by decide +kernel, rfl, by decide +kernel, by decide +kernel⟩
theorem ok__law_next {f : Addr} {fd : FuncData} (F : Fun K "_law_next" "_law_next" s__law_next f fd) (T : Tx K w mg c) : FnOk P w K mg base CX0 1 f fd ["_law_h", "_law_cap"] (sp__law_next K w c) := by
  refine F.ok sc__law_next (fun vs H Q E h => len__law_next h) (fun cdv A outer s H vs Q E hr h => ⟨t__law_next K w c, ?_, rd__law_next h⟩)
  exact (pss_cons (ps_set (i := 2) sc__law_next.nd rfl (Or.inl rfl) (pe_ix ix_seq (pe_op op_addG (pe_ix ix_seq (pv 0) pe_int (fun _ _ => rfl)) (pe_lst (pa_cons pe_int pa_nil))) (pe_op op_modN (pe_callTy call_intG rfl T.b_int (by decide +kernel) (pa_cons (pe_ix ix_seq (pv 0) pe_int (fun _ _ => rfl)) pa_nil)) (pe_callB (call_max2G rfl) rfl T.b_max (by decide +kernel) (pa_cons pe_int (pa_cons (pe_callB call_lenG rfl T.b_len (by decide +kernel) (pa_cons (pe_ix ix_seq (pv 0) pe_int (fun _ _ => rfl)) pa_nil)) pa_nil)))) (fun _ _ => rfl)))
      (pss_cons (ps_if (pt_cmpR op_ge (pv 2) (pe_op op_pow pe_int pe_int) (nomark _)) (pss_cons (ps_asg (pe_op op_fdivN (pv 2) (pv 1)) (pg_sub (pe_ix ix_seq (pv 0) pe_int (fun _ _ => rfl)) (pe_op op_modN (pe_callTy call_intG rfl T.b_int (by decide +kernel) (pa_cons (pe_ix ix_seq (pv 0) pe_int (fun _ _ => rfl)) pa_nil)) (pe_callB call_lenG rfl T.b_len (by decide +kernel) (pa_cons (pe_ix ix_seq (pv 0) pe_int (fun _ _ => rfl)) pa_nil))) set_list))
      (pss_one (ps_ret (pe_op op_modN (pe_callTy call_intG rfl T.b_int (by decide +kernel) (pa_cons (pv 2) pa_nil)) (pv 1))))) pss_nil)
      (pss_cons (ps_asg (pe_op op_modN (pe_callTy call_intG rfl T.b_int (by decide +kernel) (pa_cons (pe_op op_addG (pe_op op_addG (pe_op op_mul (pe_ix ix_seq (pv 0) pe_int (fun _ _ => rfl)) pe_int) (pe_op op_mul (pv 2) pe_int)) pe_int) pa_nil)) pe_int) (pg_sub (pv 0) pe_int set_list))
      (pss_cons (ps_asg (pe_op op_addG (pe_ix ix_seq (pv 0) pe_int (fun _ _ => rfl)) pe_int) (pg_sub (pv 0) pe_int set_list))
      (pss_one (ps_ret (pe_op op_modN (pe_callTy call_intG rfl T.b_int (by decide +kernel) (pa_cons (pe_op op_fdivN (pe_ix ix_seq (pv 0) pe_int (fun _ _ => rfl)) pe_int) pa_nil)) (pv 1))))))))
abbrev s__law_alikeR : Stmt := top 18
abbrev _law_alikeR_N : List Str := ["_law_found", "_law_due", "_law_k"]
theorem sc__law_alike : FnScope _law_alikeR_N ["_law_found", "_law_due"] (defScope s__law_alikeR) := ⟨rfl, rfl, rfl, by decide +kernel, rfl, by decide +kernel, by decide +kernel⟩
theorem ok__law_alikeR {f : Addr} {fd : FuncData} (F : Fun K "_law_alike" "_law_alike" s__law_alikeR f fd) (T : Tx K w mg c) (hm : mg "_law_alike" = some (.ref f)) (hk : PySem.W.keepIn K (.ref f) = true) (hb : Binds K fd ["_law_found", "_law_due"] []) : ∀ n : Nat, FnOk P w K mg base CX0 (n + 1) f fd ["_law_found", "_law_due"] (sp__law_alikeR K w c n)
  | 0 => F.ok sc__law_alike (fun vs H Q E h => len__law_alikeR h) (fun cdv A outer s H vs Q E hr h => h.elim)
  | n + 1 => by
    have C__law_alike : Cal P w K mg base CX0 (n + 1) "_law_alike" (sp__law_alikeR K w c n) := ⟨_, _, _, ok__law_alikeR F T hm hk hb n, hm, hk, hb⟩
    refine F.ok sc__law_alike (fun vs H Q E h => len__law_alikeR h) (fun cdv A outer s H vs Q E hr h => ⟨t__law_alikeR K w c (sp__law_alikeR K w c n), ?_, rd__law_alikeR h⟩)
    exact (pss_cons (ps_if (pt_val (pe_callB call_isiG rfl T.b_isinstance (by decide +kernel) (pa_cons (pv 1) (pa_cons (pe_bltn rfl T.b_dict (by decide +kernel) rfl) pa_nil)))) (pss_one (ps_ret (pe_and (pe_callB call_isiG rfl T.b_isinstance (by decide +kernel) (pa_cons (pv 0) (pa_cons (pe_bltn rfl T.b_dict (by decide +kernel) rfl) pa_nil))) (pe_and (pe_cal C__law_alike hr (Nat.le_refl _) rfl (pa_cons (pe_callTy (call_list_dK rfl) rfl T.b_list (by decide +kernel) (pa_cons (pv 0) pa_nil)) (pa_cons (pe_callTy (call_list_dK rfl) rfl T.b_list (by decide +kernel) (pa_cons (pv 1) pa_nil)) pa_nil))) (pe_one (pe_cmpR (op_eqDK hr.units) (pv 0) (pv 1) (nomark _))))))) pss_nil)
      (pss_cons (ps_if (pt_val (pe_callB call_isiG rfl T.b_isinstance (by decide +kernel) (pa_cons (pv 1) (pa_cons (pe_tup (pa_cons (pe_bltn rfl T.b_tuple (by decide +kernel) rfl) (pa_cons (pe_bltn rfl T.b_list (by decide +kernel) rfl) pa_nil))) pa_nil)))) (pss_cons (ps_if (PW.pt (pw_or (pt_not (pt_val (pe_callB call_isiG rfl T.b_isinstance (by decide +kernel) (pa_cons (pv 0) (pa_cons (pe_tup (pa_cons (pe_bltn rfl T.b_tuple (by decide +kernel) rfl) (pa_cons (pe_bltn rfl T.b_list (by decide +kernel) rfl) pa_nil))) pa_nil))))) (pw_or1 (pt_cmpR (op_neD hr.units) (pe_callB call_isiG rfl T.b_isinstance (by decide +kernel) (pa_cons (pv 0) (pa_cons (pe_bltn rfl T.b_list (by decide +kernel) rfl) pa_nil))) (pe_callB call_isiG rfl T.b_isinstance (by decide +kernel) (pa_cons (pv 1) (pa_cons (pe_bltn rfl T.b_list (by decide +kernel) rfl) pa_nil))) (nomark _))))) (pss_one (ps_ret pe_bl)) pss_nil)
      (pss_cons (ps_if (pt_cmpR (op_neD hr.units) (pe_callB call_lenG rfl T.b_len (by decide +kernel) (pa_cons (pv 0) pa_nil)) (pe_callB call_lenG rfl T.b_len (by decide +kernel) (pa_cons (pv 1) pa_nil)) (nomark _)) (pss_one (ps_ret pe_bl)) pss_nil)
      (pss_one (ps_ret (pe_cmpR (op_eqD hr.units) (pe_lc (own := [("_law_k", 2)]) (g := (gName 2)) (tt := (tNot (tB (tCall (sp__law_alikeR K w c n) [] E0 (tCons (tOp (rIx K) (tVar 0) (tVar 2)) (tCons (tOp (rIx K) (tVar 1) (tVar 2)) tNil)))))) rfl sc__law_alike.nd (pi_range1 rfl T.b_range (pa_cons (pe_callB call_lenG rfl T.b_len (by decide +kernel) (pa_cons (pv 1) pa_nil)) pa_nil)) (blkOk_by (own := [("_law_k", 2)]) (N := _law_alikeR_N) (sc := defScope s__law_alikeR) (by decide +kernel)) (fun _ _ _ _ _ => (pg_name (i := 2) sc__law_alike.nd rfl (Or.inl rfl))) (fun _ _ _ _ _ => (pts_one (pt_not (pt_val (pe_cal C__law_alike hr (Nat.le_refl _) rfl (pa_cons (pe_ix ix_seq (pv 0) (pv 2) (fun _ _ => rfl)) (pa_cons (pe_ix ix_seq (pv 1) (pv 2) (fun _ _ => rfl)) pa_nil))))))) (fun _ _ _ _ _ => (pv 2))) (pe_lst pa_nil) (nomark _)))))) pss_nil)
      (pss_cons (ps_if (PW.pt (pw_or (pt_cmpR op_isN (pv 1) pe_non (nomark _)) (pw_or1 (pt_val (pe_callB call_isiG rfl T.b_isinstance (by decide +kernel) (pa_cons (pv 1) (pa_cons (pe_bltn rfl T.b_str (by decide +kernel) rfl) pa_nil))))))) (pss_one (ps_ret (pe_and (pe_cmpR (op_eqDK hr.units) (pv 0) (pv 1) (nomark _)) (pe_one (pe_cmpR (op_eqD hr.units) (pe_callB call_isiG rfl T.b_isinstance (by decide +kernel) (pa_cons (pv 0) (pa_cons (pe_bltn rfl T.b_str (by decide +kernel) rfl) pa_nil))) (pe_callB call_isiG rfl T.b_isinstance (by decide +kernel) (pa_cons (pv 1) (pa_cons (pe_bltn rfl T.b_str (by decide +kernel) rfl) pa_nil))) (nomark _)))))) pss_nil)
      (pss_one (ps_ret (pe_and (pe_callB call_isiG rfl T.b_isinstance (by decide +kernel) (pa_cons (pv 0) (pa_cons (pe_bltn rfl T.b_int (by decide +kernel) rfl) pa_nil))) (pe_and (pe_cmpR (op_eqD hr.units) (pe_callB call_isiG rfl T.b_isinstance (by decide +kernel) (pa_cons (pv 0) (pa_cons (pe_bltn rfl T.b_bool (by decide +kernel) rfl) pa_nil))) (pe_callB call_isiG rfl T.b_isinstance (by decide +kernel) (pa_cons (pv 1) (pa_cons (pe_bltn rfl T.b_bool (by decide +kernel) rfl) pa_nil))) (nomark _)) (pe_one (pe_cmpR (op_eqDK hr.units) (pv 0) (pv 1) (nomark _))))))))))
abbrev s__law_pick : Stmt := top 19
abbrev _law_pick_N : List Str := ["_law_h", "_law_things"]
theorem sc__law_pick : FnScope _law_pick_N ["_law_h", "_law_things"] (defScope s__law_pick) := ⟨rfl, rfl, rfl, by decide +kernel, rfl, by decide +kernel, by decide +kernel⟩
theorem ok__law_pick {f : Addr} {fd : FuncData} (F : Fun K "_law_pick" "_law_pick" s__law_pick f fd) (T : Tx K w mg c) (C__law_next : Cal P w K mg base CX0 1 "_law_next" (sp__law_next K w c)) : FnOk P w K mg base CX0 2 f fd ["_law_h", "_law_things"] (sp__law_pick K w c) := by
  refine F.ok sc__law_pick (fun vs H Q E h => len__law_pick h) (fun cdv A outer s H vs Q E hr h => ⟨t__law_pick K w c, ?_, rd__law_pick h⟩)
  exact (pss_one (ps_ret (pe_ix ix_seq (pv 1) (pe_cal C__law_next hr (by decide) rfl (pa_cons (pv 0) (pa_cons (pe_callB call_lenG rfl T.b_len (by decide +kernel) (pa_cons (pv 1) pa_nil)) pa_nil))) (fun _ _ => rfl))))
abbrev s__law_parts : Stmt := top 20
abbrev _law_parts_N : List Str := ["_law_found"]
theorem sc__law_parts : FnScope _law_parts_N [] (defScope s__law_parts) := ⟨rfl, rfl, rfl, by decide +kernel, rfl, by decide +kernel, by decide +kernel⟩
theorem ok__law_parts {f : Addr} {fd : FuncData} (F : Fun K "_law_parts" "_law_parts" s__law_parts f fd) (T : Tx K w mg c) : FnOk P w K mg base CX0 1 f fd [] (sp__law_parts K w c) := by
  refine F.ok sc__law_parts (fun vs H Q E h => len__law_parts h) (fun cdv A outer s H vs Q E hr h => ⟨t__law_parts K w c, ?_, rd__law_parts h⟩)
  exact (pss_cons (ps_set (i := 0) sc__law_parts.nd rfl (Or.inl rfl) (pe_lst (pa_cons (pe_lst (pa_cons pe_str (pa_cons pe_str (pa_cons pe_str pa_nil)))) (pa_cons (pe_lst (pa_cons pe_str (pa_cons pe_str (pa_cons pe_str pa_nil)))) (pa_cons (pe_lst (pa_cons pe_str (pa_cons pe_str (pa_cons pe_str pa_nil)))) pa_nil)))))
      (pss_one (ps_ret (pe_op op_addG (pv 0) (pe_lst (pa_cons (pe_lst (pa_cons pe_str (pa_cons pe_str (pa_cons pe_str pa_nil)))) (pa_cons (pe_lst (pa_cons pe_str (pa_cons pe_str (pa_cons pe_str (pa_cons pe_str pa_nil))))) (pa_cons (pe_lst (pa_cons pe_str (pa_cons pe_str (pa_cons pe_str pa_nil)))) pa_nil))))))))
abbrev s__law_rule : Stmt := top 21
abbrev _law_rule_N : List Str := ["_law_h", "_law_rule_here", "_law_row"]
theorem sc__law_rule : FnScope _law_rule_N ["_law_h"] (defScope s__law_rule) := ⟨rfl, rfl, rfl, by decide +kernel, rfl, by decide +kernel, by decide +kernel⟩
theorem ok__law_rule {f : Addr} {fd : FuncData} (F : Fun K "_law_rule" "_law_rule" s__law_rule f fd) (T : Tx K w mg c) (C__law_parts : Cal P w K mg base CX0 1 "_law_parts" (sp__law_parts K w c)) (C__law_pick : Cal P w K mg base CX0 2 "_law_pick" (sp__law_pick K w c)) (C__law_next : Cal P w K mg base CX0 1 "_law_next" (sp__law_next K w c)) : FnOk P w K mg base CX0 3 f fd ["_law_h"] (sp__law_rule K w c) := by
  refine F.ok sc__law_rule (fun vs H Q E h => len__law_rule h) (fun cdv A outer s H vs Q E hr h => ⟨t__law_rule K w c, ?_, rd__law_rule h⟩)
  exact (pss_cons (ps_set (i := 1) sc__law_rule.nd rfl (Or.inl rfl) pe_dnewK)
      (pss_cons (ps_for PassesOwn.never rfl (pi_seq (pe_cal0 C__law_parts hr (by decide) rfl)) (pg_name (i := 2) sc__law_rule.nd rfl (Or.inl rfl))
      (pss_one (ps_dput (hu_of hr) (pv 1) (pe_ix ix_seq (pv 2) pe_int (fun _ _ => rfl)) (pe_cal C__law_pick hr (by decide) rfl (pa_cons (pv 0) (pa_cons (pe_slice sl_G (pv 2) (po_some pe_int) po_none) pa_nil))) rfl)))
      (pss_cons (ps_if (pt_cmpR (op_eqD hr.units) (pe_cal C__law_next hr (by decide) rfl (pa_cons (pv 0) (pa_cons pe_int pa_nil))) pe_int (nomark _)) (pss_one (ps_dput (hu_of hr) (pv 1) pe_str pe_str rfl)) pss_nil)
      (pss_one (ps_ret (pv 1))))))
abbrev s__law_with : Stmt := top 22
abbrev _law_with_N : List Str := ["_law_rule_here", "_law_part", "_law_word", "_law_found"]
theorem sc__law_with : FnScope _law_with_N ["_law_rule_here", "_law_part", "_law_word"] (defScope s__law_with) := ⟨rfl, rfl, rfl, by decide +kernel, rfl, by decide +kernel, by decide +kernel⟩
theorem ok__law_with {f : Addr} {fd : FuncData} (F : Fun K "_law_with" "_law_with" s__law_with f fd) (T : Tx K w mg c) : FnOk P w K mg base CX0 1 f fd ["_law_rule_here", "_law_part", "_law_word"] (sp__law_with K w c) := by
  refine F.ok sc__law_with (fun vs H Q E h => len__law_with h) (fun cdv A outer s H vs Q E hr h => ⟨t__law_with K w c, ?_, rd__law_with h⟩)
  exact (pss_cons (ps_set (i := 3) sc__law_with.nd rfl (Or.inl rfl) (pe_callTy call_dictK rfl T.b_dict (by decide +kernel) (pa_cons (pv 0) pa_nil)))
      (pss_cons (ps_dput (hu_of hr) (pv 3) (pv 1) (pv 2) rfl)
      (pss_one (ps_ret (pv 3)))))
abbrev s__law_draw : Stmt := top 23
abbrev _law_draw_N : List Str := ["_law_h", "_law_rows", "_law_rule_here", "_law_k"]
theorem sc__law_draw : FnScope _law_draw_N ["_law_h"] (defScope s__law_draw) := ⟨rfl, rfl, rfl, by decide +kernel, rfl, by decide +kernel, by decide +kernel⟩
theorem ok__law_draw {f : Addr} {fd : FuncData} (F : Fun K "_law_draw" "_law_draw" s__law_draw f fd) (T : Tx K w mg c) (C__law_next : Cal P w K mg base CX0 1 "_law_next" (sp__law_next K w c)) (C__law_pick : Cal P w K mg base CX0 2 "_law_pick" (sp__law_pick K w c)) (C__law_rule : Cal P w K mg base CX0 3 "_law_rule" (sp__law_rule K w c)) (C__law_with : Cal P w K mg base CX0 1 "_law_with" (sp__law_with K w c)) : FnOk P w K mg base CX0 4 f fd ["_law_h"] (sp__law_draw K w c) := by
  refine F.ok sc__law_draw (fun vs H Q E h => len__law_draw h) (fun cdv A outer s H vs Q E hr h => ⟨t__law_draw K w c, ?_, rd__law_draw h⟩)
  exact (pss_cons (ps_set (i := 1) sc__law_draw.nd rfl (Or.inl rfl) (pe_callTy call_tupG rfl T.b_tuple (by decide +kernel) (pa_cons (pe_lc (own := [("_law_k", 3)]) (g := (gName 3)) (tt := tYes) rfl sc__law_draw.nd (pi_range1 rfl T.b_range (pa_cons (pe_op op_addG pe_int (pe_cal C__law_next hr (by decide) rfl (pa_cons (pv 0) (pa_cons pe_int pa_nil)))) pa_nil)) (blkOk_by (own := [("_law_k", 3)]) (N := _law_draw_N) (sc := defScope s__law_draw) (by decide +kernel)) (fun _ _ _ _ _ => (pg_name (i := 3) sc__law_draw.nd rfl (Or.inl rfl))) (fun _ _ _ _ _ => pts_nil) (fun _ _ _ _ _ => (pe_tup (pa_cons (pe_cal C__law_pick hr (by decide) rfl (pa_cons (pv 0) (pa_cons (pe_lst (pa_cons pe_str (pa_cons pe_str pa_nil))) pa_nil))) (pa_cons (pe_op op_addG pe_int (pe_cal C__law_next hr (by decide) rfl (pa_cons (pv 0) (pa_cons pe_int pa_nil)))) pa_nil))))) pa_nil)))
      (pss_cons (ps_set (i := 2) sc__law_draw.nd rfl (Or.inl rfl) (pe_cal C__law_rule hr (by decide) rfl (pa_cons (pv 0) pa_nil)))
      (pss_cons (ps_if (pt_cmpR (op_eqD hr.units) (pe_callB call_lenG rfl T.b_len (by decide +kernel) (pa_cons (pv 1) pa_nil)) pe_int (nomark _)) (pss_one (ps_ret (pe_lst (pa_cons (pv 1) (pa_cons (pv 2) (pa_cons (pe_cal C__law_pick hr (by decide) rfl (pa_cons (pv 0) (pa_cons (pe_lst (pa_cons (pe_tup pa_nil) (pa_cons (pe_tup (pa_cons pe_str pa_nil)) (pa_cons (pe_tup (pa_cons pe_str pa_nil)) (pa_cons (pe_tup (pa_cons pe_str (pa_cons pe_str pa_nil))) (pa_cons (pe_tup (pa_cons pe_str (pa_cons pe_str pa_nil))) pa_nil)))))) pa_nil))) pa_nil)))))) pss_nil)
      (pss_one (ps_ret (pe_lst (pa_cons (pv 1) (pa_cons (pe_cal C__law_with hr (by decide) rfl (pa_cons (pv 2) (pa_cons pe_str (pa_cons pe_str pa_nil)))) (pa_cons (pe_cal C__law_pick hr (by decide) rfl (pa_cons (pv 0) (pa_cons (pe_lst (pa_cons (pe_tup pa_nil) (pa_cons (pe_tup (pa_cons pe_str pa_nil)) (pa_cons (pe_tup (pa_cons pe_str pa_nil)) pa_nil)))) pa_nil))) pa_nil)))))))))
abbrev s__law_builtX : Stmt := top 24
abbrev _law_builtX_N : List Str := ["_law_row"]
theorem sc__law_built : FnScope _law_builtX_N ["_law_row"] (defScope s__law_builtX) := ⟨rfl, rfl, rfl, by decide +kernel, rfl, by decide +kernel, by decide +kernel⟩
theorem ok__law_builtX {f : Addr} {fd : FuncData} (F : Fun K "_law_built" "_law_built" s__law_builtX f fd) (T : Tx K w mg c) (C_Book_init : Mak P w K mg base (L2.CX P w) 3 "Book" c.Book (sp_Book_initX K w c)) : FnOk P w K mg base (L2.CX P w) 5 f fd ["_law_row"] (sp__law_builtX K w c) := by
  refine F.okX sc__law_built (fun vs H Q E h => len__law_builtX h) (fun cdv A outer s H vs Q E hr h => ⟨t__law_builtX K w c E, ?_, rd__law_builtX h⟩)
  exact (pss_one (ps_ret (pe_makX C_Book_init hr (by decide) (takes_of rfl rfl rfl rfl) rfl (pa_cons (pe_ix ix_seq (pv 0) pe_int (fun _ _ => rfl)) (pa_cons (pe_ix ix_seq (pv 0) pe_int (fun _ _ => rfl)) (pa_cons (pe_ix ix_seq (pv 0) pe_int (fun _ _ => rfl)) pa_nil))))))
abbrev s__law_rule_fault : Stmt := top 25
abbrev _law_rule_fault_N : List Str := ["_law_rule_here", "_law_names", "_law_row", "_law_name"]
theorem sc__law_rule_fault : FnScope _law_rule_fault_N ["_law_rule_here"] (defScope s__law_rule_fault) := ⟨rfl, rfl, rfl, by decide +kernel, rfl, by decide +kernel, by decide +kernel⟩
theorem ok__law_rule_fault {f : Addr} {fd : FuncData} (F : Fun K "_law_rule_fault" "_law_rule_fault" s__law_rule_fault f fd) (T : Tx K w mg c) (C__law_parts : Cal P w K mg base CX0 1 "_law_parts" (sp__law_parts K w c)) : FnOk P w K mg base CX0 2 f fd ["_law_rule_here"] (sp__law_rule_fault K w c) := by
  refine F.ok sc__law_rule_fault (fun vs H Q E h => len__law_rule_fault h) (fun cdv A outer s H vs Q E hr h => ⟨t__law_rule_fault K w c, ?_, rd__law_rule_fault h⟩)
  exact (pss_cons (ps_setLc (i := 1) (own := [("_law_row", 2)]) (g := (gName 2)) (tt := tYes) rfl sc__law_rule_fault.nd rfl rfl (sw_true rfl rfl rfl (by decide +kernel)) (pi_seq (pe_cal0 C__law_parts hr (by decide) rfl)) (blkOk_by (own := [("_law_row", 2)]) (N := _law_rule_fault_N) (sc := defScope s__law_rule_fault) (by decide +kernel)) (fun _ _ _ _ _ => (pg_name (i := 2) sc__law_rule_fault.nd rfl (Or.inl rfl))) (fun _ _ _ _ _ => pts_nil) (fun _ _ _ _ _ => (pe_callB call_reprS rfl T.b_repr (by decide +kernel) (pa_cons (pe_ix ix_seq (pv 2) pe_int (fun _ _ => rfl)) pa_nil))))
      (pss_cons (ps_if (PW.pt (pw_or (pt_not (pt_val (pe_callB call_isiG rfl T.b_isinstance (by decide +kernel) (pa_cons (pv 0) (pa_cons (pe_bltn rfl T.b_dict (by decide +kernel) rfl) pa_nil))))) (pw_or1 (pt_cmpR (op_neD hr.units) (pe_callB cr_sortedS rfl T.b_sorted (by decide +kernel) (pa_cons (pe_lock (pe_lc (own := [("_law_name", 3)]) (g := (gName 3)) (tt := tYes) rfl sc__law_rule_fault.nd (pi_keys (pv 0)) (blkOk_by (own := [("_law_name", 3)]) (N := _law_rule_fault_N) (sc := defScope s__law_rule_fault) (by decide +kernel)) (fun _ _ _ _ _ => (pg_name (i := 3) sc__law_rule_fault.nd rfl (Or.inl rfl))) (fun _ _ _ _ _ => pts_nil) (fun _ _ _ _ _ => (pe_callB call_reprS rfl T.b_repr (by decide +kernel) (pa_cons (pv 3) pa_nil))))) pa_nil)) (pv 1) (nomark _))))) (pss_one (ps_ret pe_str)) pss_nil)
      (pss_cons (ps_for PassesOwn.never rfl (pi_seq (pe_cal0 C__law_parts hr (by decide) rfl)) (pg_name (i := 2) sc__law_rule_fault.nd rfl (Or.inl rfl))
      (pss_one (ps_if (PW.pt (pw_or (pt_not (pt_val (pe_callB call_isiG rfl T.b_isinstance (by decide +kernel) (pa_cons (pe_dget (hu_of hr) (pv 0) (pe_ix ix_seq (pv 2) pe_int (fun _ _ => rfl)) (fun _ _ => rfl)) (pa_cons (pe_bltn rfl T.b_str (by decide +kernel) rfl) pa_nil))))) (pw_or1 (pt_cmpR (op_notInG (hu65 hr)) (pe_dget (hu_of hr) (pv 0) (pe_ix ix_seq (pv 2) pe_int (fun _ _ => rfl)) (fun _ _ => rfl)) (pe_slice sl_G (pv 2) (po_some pe_int) po_none) rfl)))) (pss_one (ps_ret (pe_ix ix_seq (pv 2) pe_int (fun _ _ => rfl)))) pss_nil)))
      (pss_one (ps_ret pe_non)))))
abbrev s__law_is_row : Stmt := top 26
abbrev _law_is_row_N : List Str := ["_law_thing"]
theorem sc__law_is_row : FnScope _law_is_row_N ["_law_thing"] (defScope s__law_is_row) := ⟨rfl, rfl, rfl, by decide +kernel, rfl, by decide +kernel, by decide +kernel⟩
theorem ok__law_is_row {f : Addr} {fd : FuncData} (F : Fun K "_law_is_row" "_law_is_row" s__law_is_row f fd) (T : Tx K w mg c) : FnOk P w K mg base CX0 1 f fd ["_law_thing"] (sp__law_is_row K w c) := by
  refine F.ok sc__law_is_row (fun vs H Q E h => len__law_is_row h) (fun cdv A outer s H vs Q E hr h => ⟨t__law_is_row K w c, ?_, rd__law_is_row h⟩)
  exact (pss_cons (ps_if (PW.pt (pw_or (pt_not (pt_val (pe_callB call_isiG rfl T.b_isinstance (by decide +kernel) (pa_cons (pv 0) (pa_cons (pe_bltn rfl T.b_tuple (by decide +kernel) rfl) pa_nil))))) (pw_or (pt_cmpR (op_neD hr.units) (pe_callB call_lenG rfl T.b_len (by decide +kernel) (pa_cons (pv 0) pa_nil)) pe_int (nomark _)) (pw_or1 (pt_cmpR (op_notInG (hu65 hr)) (pe_ix ix_seq (pv 0) pe_int (fun _ _ => rfl)) (pe_lst (pa_cons pe_str (pa_cons pe_str pa_nil))) rfl))))) (pss_one (ps_ret pe_bl)) pss_nil)
      (pss_one (ps_ret (pe_and (pe_not (pe_callB call_isiG rfl T.b_isinstance (by decide +kernel) (pa_cons (pe_ix ix_seq (pv 0) pe_int (fun _ _ => rfl)) (pa_cons (pe_bltn rfl T.b_bool (by decide +kernel) rfl) pa_nil)))) (pe_one (pe_cmpR (op_inG (hu65 hr)) (pe_ix ix_seq (pv 0) pe_int (fun _ _ => rfl)) (pe_lst (pa_cons pe_int (pa_cons pe_int pa_nil))) rfl))))))
abbrev s__law_fault : Stmt := top 27
abbrev _law_fault_N : List Str := ["_law_row", "_law_one"]
theorem sc__law_fault : FnScope _law_fault_N ["_law_row"] (defScope s__law_fault) := ⟨rfl, rfl, rfl, by decide +kernel, rfl, by decide +kernel, by decide +kernel⟩
theorem ok__law_fault {f : Addr} {fd : FuncData} (F : Fun K "_law_fault" "_law_fault" s__law_fault f fd) (T : Tx K w mg c) (C__law_is_row : Cal P w K mg base CX0 1 "_law_is_row" (sp__law_is_row K w c)) (C__law_rule_fault : Cal P w K mg base CX0 2 "_law_rule_fault" (sp__law_rule_fault K w c)) : FnOk P w K mg base CX0 3 f fd ["_law_row"] (sp__law_fault K w c) := by
  refine F.ok sc__law_fault (fun vs H Q E h => len__law_fault h) (fun cdv A outer s H vs Q E hr h => ⟨t__law_fault K w c, ?_, rd__law_fault h⟩)
  exact (pss_cons (ps_if (PW.pt (pw_or (pt_not (pt_val (pe_callB call_isiG rfl T.b_isinstance (by decide +kernel) (pa_cons (pe_ix ix_seq (pv 0) pe_int (fun _ _ => rfl)) (pa_cons (pe_bltn rfl T.b_tuple (by decide +kernel) rfl) pa_nil))))) (pw_or1 (pt_cmpR (op_notInG (hu65 hr)) (pe_callB call_lenG rfl T.b_len (by decide +kernel) (pa_cons (pe_ix ix_seq (pv 0) pe_int (fun _ _ => rfl)) pa_nil)) (pe_lst (pa_cons pe_int (pa_cons pe_int pa_nil))) rfl)))) (pss_one (ps_ret pe_str)) pss_nil)
      (pss_cons (ps_if (pt_cmpR (op_neD hr.units) (pe_lc (own := [("_law_one", 1)]) (g := (gName 1)) (tt := (tNot (tB (tCall (sp__law_is_row K w c) [] E0 (tCons (tVar 1) tNil))))) rfl sc__law_fault.nd (pi_seq (pe_ix ix_seq (pv 0) pe_int (fun _ _ => rfl))) (blkOk_by (own := [("_law_one", 1)]) (N := _law_fault_N) (sc := defScope s__law_fault) (by decide +kernel)) (fun _ _ _ _ _ => (pg_name (i := 1) sc__law_fault.nd rfl (Or.inl rfl))) (fun _ _ _ _ _ => (pts_one (pt_not (pt_val (pe_cal C__law_is_row hr (by decide) rfl (pa_cons (pv 1) pa_nil)))))) (fun _ _ _ _ _ => (pv 1))) (pe_lst pa_nil) (nomark _)) (pss_one (ps_ret pe_str)) pss_nil)
      (pss_cons (ps_if (pt_cmpR op_notN (pe_cal C__law_rule_fault hr (by decide) rfl (pa_cons (pe_ix ix_seq (pv 0) pe_int (fun _ _ => rfl)) pa_nil)) pe_non (nomark _)) (pss_one (ps_ret (pe_tup (pa_cons pe_str (pa_cons (pe_cal C__law_rule_fault hr (by decide) rfl (pa_cons (pe_ix ix_seq (pv 0) pe_int (fun _ _ => rfl)) pa_nil)) pa_nil))))) pss_nil)
      (pss_cons (ps_if (PW.pt (pw_or (pt_not (pt_val (pe_callB call_isiG rfl T.b_isinstance (by decide +kernel) (pa_cons (pe_ix ix_seq (pv 0) pe_int (fun _ _ => rfl)) (pa_cons (pe_bltn rfl T.b_tuple (by decide +kernel) rfl) pa_nil))))) (pw_or1 (pt_cmpR (op_notInG (hu65 hr)) (pe_ix ix_seq (pv 0) pe_int (fun _ _ => rfl)) (pe_lst (pa_cons (pe_tup pa_nil) (pa_cons (pe_tup (pa_cons pe_str pa_nil)) (pa_cons (pe_tup (pa_cons pe_str pa_nil)) (pa_cons (pe_tup (pa_cons pe_str (pa_cons pe_str pa_nil))) pa_nil))))) rfl)))) (pss_one (ps_ret pe_str)) pss_nil)
      (pss_one (ps_ret pe_non))))))
abbrev s__law_tried : Stmt := top 28
abbrev _law_tried_N : List Str := ["_law_book", "_law_row", "_law_part", "_law_word", "_law_found", "error"]
theorem sc__law_tried : FnScope _law_tried_N ["_law_book", "_law_row", "_law_part", "_law_word"] (defScope s__law_tried) := ⟨rfl, rfl, rfl, by decide +kernel, rfl, by decide +kernel, by decide +kernel⟩
theorem ok__law_tried {f : Addr} {fd : FuncData} (F : Fun K "_law_tried" "_law_tried" s__law_tried f fd) (T : Tx K w mg c) (C__law_built : Cal P w K mg base (L2.CX P w) 5 "_law_built" (sp__law_builtX K w c)) (C_Book_changed : Pmt P w K mg base (L2.CX P w) 5 c.Book "changed" (sp_Book_changedX K w c)) : FnOk P w K mg base CX0 6 f fd ["_law_book", "_law_row", "_law_part", "_law_word"] (sp__law_tried K w c) := by
  refine F.ok sc__law_tried (fun vs H Q E h => len__law_tried h) (fun cdv A outer s H vs Q E hr h => ⟨t__law_tried K w c, ?_, rd__law_tried T.axk h⟩)
  exact (pss_cons (ps_set (i := 4) sc__law_tried.nd rfl (Or.inl rfl) pe_non)
      (pss_cons (ps_try_cls (tb := t_tried K w c) (l := l_tried K w c) (Wout := fun _ _ _ _ => False) rfl rfl sc__law_tried.nd takes0 (fun W pn xe tk _ => (pss_one (ps_set (i := 4) sc__law_tried.nd rfl (Or.inl rfl) (pe_ifExp (pt_cmpR op_isN (pv 0) pe_non (nomark _)) (pe_calS C__law_built hr (by decide) (fun σ => passAt tk σ) rfl (by exact (pa_cons (pv 1) pa_nil))) (pe_metS C_Book_changed hr (by decide) (fun σ => passAt tk σ) (pv 0) (by exact (pa_cons (pv 2) (pa_cons (pv 3) pa_nil))))))))
      (by
        refine (L2.HdOk.as (q := ⟨.ref c.InvalidRows, some 5, t_suite1 K w c⟩) ⟨rfl, by decide, Or.inl T.m_InvalidRows⟩ rfl rfl rfl (fun a oe cls d pn hz hf => ?_) (L2.HdOk.as (q := ⟨.ref c.InvalidRule, some 5, t_suite2 K w c⟩) ⟨rfl, by decide, Or.inl T.m_InvalidRule⟩ rfl rfl rfl (fun a oe cls d pn hz hf => ?_) (L2.HdOk.no (q := ⟨.ref c.InvalidWords, none, t_suite3 K w c⟩) ⟨rfl, by decide, Or.inl T.m_InvalidWords⟩ rfl (fun a oe cls d pn hz hf => ?_) L2.HdOk.nil)))
        · show PSs _ _ (tAsg (tIf (tB (tCB (rIsE2 K c.InvalidRows a cls d) (tCons (tVar 5) (tCons (tC (.ref c.AheadError)) tNil)))) (tC (.str "rows")) (tC .non)) (gName 4))
          exact (pss_one (ps_set (i := 4) sc__law_tried.nd rfl (Or.inl rfl) (pe_ifExp (pt_val (by exact pe_callB (call_isE2 T.xC hz hf) rfl T.b_isinstance (by decide +kernel) (pa_cons (pv 5) (pa_cons (C8.pe_gc rfl T.g_AheadError) pa_nil)))) pe_str pe_non)))
        · show PSs _ _ (tAsg (tTup (tCons (tC (.str "rule")) (tCons (tXf a cls d c.InvalidRule "part" (tVar 5)) tNil))) (gName 4))
          exact (pss_one (ps_set (i := 4) sc__law_tried.nd rfl (Or.inl rfl) (pe_tup (pa_cons pe_str (pa_cons (pe_xf T.xF T.xn hz hf (pv 5)) pa_nil)))))
        · show PSs _ _ (tAsg (tC (.str "words")) (gName 4))
          exact (pss_one (ps_set (i := 4) sc__law_tried.nd rfl (Or.inl rfl) pe_str))))
      (pss_one (ps_ret (pv 4)))))
abbrev s__law_spoiled : Stmt := top 29
abbrev _law_spoiled_N : List Str := ["_law_h", "_law_row", "_law_turn", "_law_at", "_law_odd", "_law_kind", "_law_name"]
theorem sc__law_spoiled : FnScope _law_spoiled_N ["_law_h", "_law_row"] (defScope s__law_spoiled) := ⟨rfl, rfl, rfl, by decide +kernel, rfl, by decide +kernel, by decide +kernel⟩
theorem ok__law_spoiled {f : Addr} {fd : FuncData} (F : Fun K "_law_spoiled" "_law_spoiled" s__law_spoiled f fd) (T : Tx K w mg c) (C__law_next : Cal P w K mg base CX0 1 "_law_next" (sp__law_next K w c)) (C__law_pick : Cal P w K mg base CX0 2 "_law_pick" (sp__law_pick K w c)) (C__law_parts : Cal P w K mg base CX0 1 "_law_parts" (sp__law_parts K w c)) : FnOk P w K mg base CX0 3 f fd ["_law_h", "_law_row"] (sp__law_spoiled K w c) := by
  refine F.ok sc__law_spoiled (fun vs H Q E h => len__law_spoiled h) (fun cdv A outer s H vs Q E hr h => ⟨t__law_spoiled K w c, ?_, rd__law_spoiled h⟩)
  exact (pss_cons (ps_for PassesOwn.never rfl (pi_range1 rfl T.b_range (pa_cons (pe_cal C__law_next hr (by decide) rfl (pa_cons (pv 0) (pa_cons pe_int pa_nil))) pa_nil)) (pg_name (i := 2) sc__law_spoiled.nd rfl (Or.inl rfl))
      (pss_cons (ps_set (i := 3) sc__law_spoiled.nd rfl (Or.inl rfl) (pe_cal C__law_next hr (by decide) rfl (pa_cons (pv 0) (pa_cons pe_int pa_nil))))
      (pss_one (ps_if (pt_cmpR (op_eqD hr.units) (pv 3) pe_int (nomark _)) (pss_cons (ps_set (i := 4) sc__law_spoiled.nd rfl (Or.inl rfl) (pe_lst (pa_cons (pe_tup pa_nil) (pa_cons pe_non (pa_cons (pe_lst (pa_cons (pe_tup (pa_cons pe_str (pa_cons pe_int pa_nil))) pa_nil)) (pa_cons (pe_tup (pa_cons (pe_tup (pa_cons pe_str (pa_cons pe_int pa_nil))) pa_nil)) (pa_cons (pe_tup (pa_cons (pe_tup (pa_cons pe_str (pa_cons pe_int pa_nil))) pa_nil)) (pa_cons (pe_tup (pa_cons (pe_tup (pa_cons pe_str (pa_cons pe_bl pa_nil))) pa_nil)) pa_nil))))))))
      (pss_cons (ps_set (i := 4) sc__law_spoiled.nd rfl (Or.inl rfl) (pe_op op_addG (pv 4) (pe_lst (pa_cons (pe_tup (pa_cons (pe_tup (pa_cons pe_str (pa_cons pe_int pa_nil))) (pa_cons (pe_tup (pa_cons pe_str (pa_cons pe_int pa_nil))) pa_nil))) (pa_cons (pe_tup (pa_cons pe_str (pa_cons pe_int pa_nil))) pa_nil)))))
      (pss_one (ps_asg (pe_cal C__law_pick hr (by decide) rfl (pa_cons (pv 0) (pa_cons (pe_op op_addG (pv 4) (pe_lst (pa_cons (pe_tup (pa_cons (pe_tup (pa_cons pe_str (pa_cons pe_int pa_nil))) pa_nil)) (pa_cons (pe_tup (pa_cons (pe_tup (pa_cons pe_str (pa_cons pe_int pa_nil))) (pa_cons (pe_tup (pa_cons pe_str (pa_cons pe_int pa_nil))) (pa_cons (pe_tup (pa_cons pe_str (pa_cons pe_int pa_nil))) pa_nil)))) (pa_cons (pe_tup (pa_cons (pe_tup (pa_cons pe_str (pa_cons pe_str pa_nil))) pa_nil)) (pa_cons (pe_tup (pa_cons (pe_lst (pa_cons pe_str (pa_cons pe_int pa_nil))) pa_nil)) pa_nil)))))) pa_nil))) (pg_sub (pv 1) pe_int set_list))))) (pss_one (ps_if (pt_cmpR (op_eqD hr.units) (pv 3) pe_int (nomark _)) (pss_cons (ps_par (i := 5) (j := 6) rfl sc__law_spoiled.nd rfl rfl (by decide) rfl rfl (pa_cons (pe_cal C__law_next hr (by decide) rfl (pa_cons (pv 0) (pa_cons pe_int pa_nil))) (pa_cons (pe_ix ix_seq (pe_cal C__law_pick hr (by decide) rfl (pa_cons (pv 0) (pa_cons (pe_cal0 C__law_parts hr (by decide) rfl) pa_nil))) pe_int (fun _ _ => rfl)) pa_nil)) rfl)
      (pss_one (ps_if (pt_cmpR (op_eqD hr.units) (pv 5) pe_int (nomark _)) (pss_one (ps_asg (pe_cal C__law_pick hr (by decide) rfl (pa_cons (pv 0) (pa_cons (pe_lst (pa_cons pe_non (pa_cons (pe_lst pa_nil) (pa_cons pe_str (pa_cons pe_dnewK (pa_cons pe_int (pa_cons (pe_kdisp1 pe_str pe_str) pa_nil))))))) pa_nil))) (pg_sub (pv 1) pe_int set_list))) (pss_one (ps_if (pt_val (pe_callB call_isiG rfl T.b_isinstance (by decide +kernel) (pa_cons (pe_ix ix_seq (pv 1) pe_int (fun _ _ => rfl)) (pa_cons (pe_bltn rfl T.b_dict (by decide +kernel) rfl) pa_nil)))) (pss_one (ps_dput (hu_of hr) (pe_ix ix_seq (pv 1) pe_int (fun _ _ => rfl)) (pv 6) (pe_cal C__law_pick hr (by decide) rfl (pa_cons (pv 0) (pa_cons (pe_lst (pa_cons pe_str (pa_cons pe_str (pa_cons pe_non (pa_cons pe_bl (pa_cons pe_str (pa_cons (pe_lst (pa_cons pe_str pa_nil)) (pa_cons pe_str (pa_cons pe_int pa_nil))))))))) pa_nil))) rfl)) pss_nil))))) (pss_one (ps_asg (pe_cal C__law_pick hr (by decide) rfl (pa_cons (pv 0) (pa_cons (pe_lst (pa_cons pe_non (pa_cons (pe_lst (pa_cons pe_str pa_nil)) (pa_cons (pe_tup (pa_cons pe_str (pa_cons pe_str pa_nil))) (pa_cons (pe_tup (pa_cons pe_str (pa_cons pe_str pa_nil))) (pa_cons (pe_tup (pa_cons pe_str pa_nil)) (pa_cons pe_str (pa_cons (pe_tup (pa_cons pe_str (pa_cons pe_int pa_nil))) pa_nil)))))))) pa_nil))) (pg_sub (pv 1) pe_int set_list)))))))))
      (pss_one (ps_ret (pv 1))))
abbrev s_law : Stmt := top 30
abbrev law_N : List Str := ["_law_script", "_law_h", "_law_turn", "_law_row", "_law_found", "_law_fault_here", "_law_part", "_law_words", "_law_word", "_law_later", "_law_some"]
theorem sc_law : FnScope law_N ["_law_script"] (defScope s_law) := ⟨rfl, rfl, rfl, by decide +kernel, rfl, by decide +kernel, by decide +kernel⟩
theorem ok_law {f : Addr} {fd : FuncData} (F : Fun K "law" "law" s_law f fd) (T : Tx K w mg c) (C__law_mix : Cal P w K mg base CX0 1 "_law_mix" (sp__law_mix K w c)) (C__law_spoiled : Cal P w K mg base CX0 3 "_law_spoiled" (sp__law_spoiled K w c)) (C__law_draw : Cal P w K mg base CX0 4 "_law_draw" (sp__law_draw K w c)) (C__law_fault : Cal P w K mg base CX0 3 "_law_fault" (sp__law_fault K w c)) (C__law_tried : Cal P w K mg base CX0 6 "_law_tried" (sp__law_tried K w c)) (C__law_alike : Cal P w K mg base CX0 6 "_law_alike" (sp__law_alikeR K w c 5)) (C_Book_words : Prp P w K mg base 1 c.Book "words" (sp_Book_words K w c)) (C_Book_rule : Prp P w K mg base 1 c.Book "rule" (sp_Book_rule K w c)) (C_Book_rows : Prp P w K mg base 1 c.Book "rows" (sp_Book_rows K w c)) (C__law_built : Cal P w K mg base (L2.CX P w) 5 "_law_built" (sp__law_builtX K w c)) (C__law_pick : Cal P w K mg base CX0 2 "_law_pick" (sp__law_pick K w c)) (C__law_parts : Cal P w K mg base CX0 1 "_law_parts" (sp__law_parts K w c)) (C__law_rule_fault : Cal P w K mg base CX0 2 "_law_rule_fault" (sp__law_rule_fault K w c)) (C__law_with : Cal P w K mg base CX0 1 "_law_with" (sp__law_with K w c)) (C_Book_eq : OwnQ P w K mg base 1 c.Book (sp_Book_eqL K w c)) : FnOk P w K mg base CX0 7 f fd ["_law_script"] (sp_law K w c) := by
  refine F.ok sc_law (fun vs H Q E h => len_law h) (fun cdv A outer s H vs Q E hr h => ⟨t_law K w c, ?_, rd_law T.axt.ax h⟩)
  exact (pss_cons (ps_set (i := 1) sc_law.nd rfl (Or.inl rfl) (pe_cal C__law_mix hr (by decide) rfl (pa_cons (pv 0) (pa_cons pe_int pa_nil))))
      (pss_cons (ps_for PassesOwn.never rfl (pi_range1 rfl T.b_range (pa_cons pe_int pa_nil)) (pg_name (i := 2) sc_law.nd rfl (Or.inl rfl))
      (pss_cons (ps_set (i := 3) sc_law.nd rfl (Or.inl rfl) (pe_cal C__law_spoiled hr (by decide) rfl (pa_cons (pv 1) (pa_cons (pe_cal C__law_draw hr (by decide) rfl (pa_cons (pv 1) pa_nil)) pa_nil))))
      (pss_cons (ps_par (i := 4) (j := 5) rfl sc_law.nd rfl rfl (by decide) rfl rfl (pa_cons (pe_cal C__law_tried hr (by decide) rfl (pa_cons pe_non (pa_cons (pv 3) (pa_cons pe_non (pa_cons pe_non pa_nil))))) (pa_cons (pe_cal C__law_fault hr (by decide) rfl (pa_cons (pv 3) pa_nil)) pa_nil)) rfl)
      (pss_one (ps_if (pt_cmpR op_notN (pv 5) pe_non (nomark _)) (pss_one (ps_if (pt_not (pt_val (pe_cal C__law_alike hr (by decide) rfl (pa_cons (pv 4) (pa_cons (pv 5) pa_nil))))) (pss_one (ps_ret pe_bl)) pss_nil)) (pss_cons (ps_if (pt_not (pt_val (pe_cal C__law_alike hr (by decide) rfl (pa_cons (pe_lst (pa_cons (pe_prp C_Book_rows hr (by decide) (pv 4)) (pa_cons (pe_prp C_Book_rule hr (by decide) (pv 4)) (pa_cons (pe_prp C_Book_words hr (by decide) (pv 4)) pa_nil)))) (pa_cons (pv 3) pa_nil))))) (pss_one (ps_ret pe_bl)) pss_nil)
      (pss_cons (ps_if (PW.pt (pw_or (pt_not (pt_cmpR (op_ownQ C_Book_eq hr (by decide)) (pv 4) (pe_calN C__law_built hr (by decide) rfl (pa_cons (pv 3) pa_nil)) (nomark _))) (pw_or1 (pt_cmpR (op_ownQ C_Book_eq hr (by decide)) (pv 4) (pv 3) (nomark _))))) (pss_one (ps_ret pe_bl)) pss_nil)
      (pss_cons (ps_set (i := 6) sc_law.nd rfl (Or.inl rfl) (pe_cal C__law_pick hr (by decide) rfl (pa_cons (pv 1) (pa_cons (pe_op op_addG (pe_lc (own := [("_law_some", 10)]) (g := (gName 10)) (tt := tYes) rfl sc_law.nd (pi_seq (pe_cal0 C__law_parts hr (by decide) rfl)) (blkOk_by (own := [("_law_some", 10)]) (N := law_N) (sc := defScope s_law) (by decide +kernel)) (fun _ _ _ _ _ => (pg_name (i := 10) sc_law.nd rfl (Or.inl rfl))) (fun _ _ _ _ _ => pts_nil) (fun _ _ _ _ _ => (pe_ix ix_seq (pv 10) pe_int (fun _ _ => rfl)))) (pe_lst (pa_cons pe_str (pa_cons pe_str (pa_cons pe_non (pa_cons pe_int (pa_cons pe_str (pa_cons (pe_lst (pa_cons pe_str pa_nil)) pa_nil)))))))) pa_nil))))
      (pss_cons (ps_set (i := 7) sc_law.nd rfl (Or.inl rfl) (pe_lst (pa_cons pe_str (pa_cons pe_str (pa_cons pe_str (pa_cons pe_str (pa_cons pe_str (pa_cons pe_str (pa_cons pe_non (pa_cons pe_int pa_nil))))))))))
      (pss_cons (ps_set (i := 8) sc_law.nd rfl (Or.inl rfl) (pe_cal C__law_pick hr (by decide) rfl (pa_cons (pv 1) (pa_cons (pe_op op_addG (pv 7) (pe_lst (pa_cons pe_str (pa_cons pe_str (pa_cons pe_str (pa_cons pe_str (pa_cons pe_str pa_nil))))))) pa_nil))))
      (pss_cons (ps_set (i := 9) sc_law.nd rfl (Or.inl rfl) (pe_cal C__law_tried hr (by decide) rfl (pa_cons (pv 4) (pa_cons pe_non (pa_cons (pv 6) (pa_cons (pv 8) pa_nil))))))
      (pss_one (ps_if (PW.pt (pw_or (pt_not (pt_val (pe_callB call_isiG rfl T.b_isinstance (by decide +kernel) (pa_cons (pv 6) (pa_cons (pe_bltn rfl T.b_str (by decide +kernel) rfl) pa_nil))))) (pw_or1 (pt_cmp (pc_dnotin (hu_of hr) (pv 6) (pe_ix ix_seq (pv 3) pe_int (fun _ _ => rfl))))))) (pss_one (ps_if (pt_not (pt_val (pe_cal C__law_alike hr (by decide) rfl (pa_cons (pv 9) (pa_cons (pe_tup (pa_cons pe_str (pa_cons pe_str pa_nil))) pa_nil))))) (pss_one (ps_ret pe_bl)) pss_nil)) (pss_one (ps_if (pt_cmpR op_notN (pe_cal C__law_rule_fault hr (by decide) rfl (pa_cons (pe_cal C__law_with hr (by decide) rfl (pa_cons (pe_ix ix_seq (pv 3) pe_int (fun _ _ => rfl)) (pa_cons (pv 6) (pa_cons (pv 8) pa_nil)))) pa_nil)) pe_non (nomark _)) (pss_one (ps_if (pt_cmpR (op_neD hr.units) (pv 9) (pe_tup (pa_cons pe_str (pa_cons (pv 6) pa_nil))) (nomark _)) (pss_one (ps_ret pe_bl)) pss_nil)) (pss_one (ps_if (PW.pt (pw_or (pt_cmpR (op_neK hr.units) (pe_prp C_Book_rule hr (by decide) (pv 9)) (pe_cal C__law_with hr (by decide) rfl (pa_cons (pe_ix ix_seq (pv 3) pe_int (fun _ _ => rfl)) (pa_cons (pv 6) (pa_cons (pv 8) pa_nil)))) (nomark _)) (pw_or (pt_cmpR (op_neD hr.units) (pe_prp C_Book_rows hr (by decide) (pv 9)) (pe_ix ix_seq (pv 3) pe_int (fun _ _ => rfl)) (nomark _)) (pw_or1 (pt_cmpR (op_neD hr.units) (pe_prp C_Book_words hr (by decide) (pv 9)) (pe_ix ix_seq (pv 3) pe_int (fun _ _ => rfl)) (nomark _)))))) (pss_one (ps_ret pe_bl)) (pss_one (ps_if (pt_cmpR (op_neD hr.units) (pe_cmpR (op_ownQ C_Book_eq hr (by decide)) (pv 9) (pv 4) (nomark _)) (pe_cmpR (op_eqD hr.units) (pv 8) (pe_dget (hu_of hr) (pe_ix ix_seq (pv 3) pe_int (fun _ _ => rfl)) (pv 6) (fun _ _ => rfl)) (nomark _)) (nomark _)) (pss_one (ps_ret pe_bl)) pss_nil)))))))))))))))))))
      (pss_one (ps_ret pe_bl))))
end
end Ah
namespace Ah
open PySem PySem.Spec PyProof.Rows L2 Evl
theorem kit_sub {K : PySem.W.Frag} {t C : Addr} (h1 : PySem.W.isClsIn K C = true) (h2 : PySem.W.typeIn K (.ref C) = some (.type "type")) (h3 : PySem.W.subIn K (.ref t) (.ref C) = some true) : PySem.W.kitOne K (.ref t) (.ref C) = some true := by
  unfold PySem.W.kitOne
  split
  · rfl
  · show (if ((PySem.W.clsIn K C).isSome && PySem.W.typeIn K (.ref C) == some (.type "type")) = true then PySem.W.subIn K (.ref t) (.ref C) else none) = some true
    have h1' : (PySem.W.clsIn K C).isSome = true := h1
    rw [h1', h2, h3] <;> rfl
theorem exm_own {K : PySem.W.Frag} {S : Addr} (h2 : PySem.W.isClsIn K S = true) (h1 : PySem.W.subIn K (.ref S) (.type "BaseException") = some true) (h3 : PySem.W.typeIn K (.ref S) = some (.type "type")) (h4 : PySem.W.subIn K (.ref S) (.ref S) = some true) : PySem.W.exmOne K (.ref S) (.ref S) = some true := by
  have e1 : (PySem.W.subIn K (.ref S) (.type "BaseException") == some true) = true := by rw [h1] <;> rfl
  have e2 : ((PySem.W.clsIn K S).isSome && PySem.W.typeIn K (.ref S) == some (.type "type")) = true := by
    have h2' : (PySem.W.clsIn K S).isSome = true := h2
    rw [h2', h3] <;> rfl
  show (if (PySem.W.subIn K (.ref S) (.type "BaseException") == some true) = true then (if ((PySem.W.clsIn K S).isSome && PySem.W.typeIn K (.ref S) == some (.type "type")) = true then PySem.W.subIn K (.ref S) (.ref S) else none) else none) = some true
  rw [if_pos e1, if_pos e2]
  exact h4
theorem exm_of {K : PySem.W.Frag} {t S : Addr} {b : Bool} (h2 : PySem.W.isClsIn K S = true) (h1 : PySem.W.subIn K (.ref S) (.type "BaseException") = some true) (h3 : PySem.W.typeIn K (.ref S) = some (.type "type")) (h4 : PySem.W.subIn K (.ref t) (.ref S) = some b) : PySem.W.exmOne K (.ref t) (.ref S) = some b := by
  have e1 : (PySem.W.subIn K (.ref S) (.type "BaseException") == some true) = true := by rw [h1] <;> rfl
  have e2 : ((PySem.W.clsIn K S).isSome && PySem.W.typeIn K (.ref S) == some (.type "type")) = true := by
    have h2' : (PySem.W.clsIn K S).isSome = true := h2
    rw [h2', h3] <;> rfl
  show (if (PySem.W.subIn K (.ref S) (.type "BaseException") == some true) = true then (if ((PySem.W.clsIn K S).isSome && PySem.W.typeIn K (.ref S) == some (.type "type")) = true then PySem.W.subIn K (.ref t) (.ref S) else none) else none) = some b
  rw [if_pos e1, if_pos e2]
  exact h4
theorem kit_of {K : PySem.W.Frag} {n : String} {C : Addr} {b : Bool} (h1 : PySem.W.isClsIn K C = true) (h2 : PySem.W.typeIn K (.ref C) = some (.type "type")) (h3 : PySem.W.subIn K (.type n) (.ref C) = some b) : PySem.W.kitOne K (.type n) (.ref C) = some b := by
  have e2 : ((PySem.W.clsIn K C).isSome && PySem.W.typeIn K (.ref C) == some (.type "type")) = true := by
    have h1' : (PySem.W.clsIn K C).isSome = true := h1
    rw [h1', h2] <;> rfl
  show (if ((Value.type n == Value.ref C) = true) then some true else (if ((PySem.W.clsIn K C).isSome && PySem.W.typeIn K (.ref C) == some (.type "type")) = true then PySem.W.subIn K (.type n) (.ref C) else none)) = some b
  rw [if_neg (by simp), if_pos e2]
  exact h3
def ad0 : Ad := { KEYS := 0, PARTS := 0, WORDS := 0, ROWS := 0, Book := 0 }
theorem vals_len {xs : List V} {its : Array Value} (h : Vals xs its.toList) : its.size = xs.length := by
  have e := Paired.length h
  rw [e]; simp
theorem tup_at {K : PySem.W.Frag} {G : Hp} {a : Addr} {od : Option Addr} {its : Array Value} {n : Nat} {sl : Array (Option Value)} {xs : List V} (l : K.lookup a = some ⟨.type "tuple", od, .seq its n, sl⟩) (v : Vals xs its.toList) (hx : xs.length ≤ 100 := by decide) : SqT K G a xs :=
  .inr ⟨_, its, n, l, rfl, rfl, by rw [vals_len v]; exact sz_of (by omega), v⟩
theorem kd_at {K : PySem.W.Frag} {w : World} {a : Addr} {es : Array DictEntry} {n : Nat} {kvs : List (Str × V)} (l : K.lookup a = some ⟨.type "dict", none, .dict es n, #[]⟩) (v : EnL w.params es.toList kvs) (lo : (a == sysModules) = false) (nd : (kvs.map (·.1)).Nodup) (hl : kvs.length ≤ 1000) : KD K w a kvs :=
  ⟨⟨es, n, l, v⟩, lo, nd, hl⟩
abbrev s_InvalidRows_init : Stmt := L2.inClass (top 2) 0
section
variable {prog : Program} {w : World} {K : PySem.W.Frag} {mg : Str → Option Value} {C fI : Addr}
open PySem.W PySem.Calls PySem.HandSPX PySem.AhX in
theorem init_InvalidRows (T : SupTxt prog K mg C fI "InvalidRows" "InvalidRows.__init__" s_InvalidRows_init) (hsup : mg "super" = none) (htop : (prog.main.scope.names.lookup ("super" : Str)).isSome = false) : InitOk0 prog w K mg C fI := by
  intro A R s x t0 X hlim hg hb hx hnx hroom hq
  obtain ⟨oc, od, doc, pm, an, cda, cc, ct, osl, vs, file, tf, c1, c2, d1, d2, s1, s2, ho, hcd, hcode, hvs, hfile, hcell⟩ := T.fn
  refine ks_codeAny_call_defAt (binds := [("self", .ref x)]) hroom (X _ _ ho) rfl hlim (codeRec_of X hcd) rfl (BindsTo.of_eq (by first | rfl | with_unfolding_all rfl)) (show ∀ y ∈ (L2.defScope s_InvalidRows_init).names, y.2 ≠ .cell from by decide +kernel) (by intro y hy; simp only [List.mem_cons, List.not_mem_nil, or_false] at hy; rw [hy]; rfl) (fun h₁ hns hk₁ => ?_)
  obtain ⟨mb, hb1, hb2⟩ := hb
  have X1 := X.keeps hk₁
  have hL : s.heap.objs.size ≠ x := Nat.ne_of_gt (Heap.lt_size hx)
  refine ks_wpAt_execs_cons (ks_wpAt_Expr_any ?_)
  refine sup_expr T X1 (hg.keeps hk₁) hsup ⟨mb, hb1.keeps hk₁, hb2⟩ hns (hk₁ _ _ hx) (by rfl) hnx ho hcode hvs hfile hcell (by rfl) (by rfl) (by rfl) (by rfl) (by rfl) (by rfl) htop (by rfl) (fun h2 tk2 t1 S => ?_)
  refine wpAt_of_wpAny (wpAny_execs_nil (hq h2 tk2 t1 ⟨fun b o hb hh => S.keep b o hb (hk₁ b o hh), S.obj⟩))
end
abbrev s_InvalidRule_init : Stmt := L2.inClass (top 3) 0
section
variable {prog : Program} {w : World} {K : PySem.W.Frag} {mg : Str → Option Value} {C fI : Addr}
open PySem.W PySem.Calls PySem.HandSPX PySem.AhX in
theorem init_InvalidRule (T : SupTxt prog K mg C fI "InvalidRule" "InvalidRule.__init__" s_InvalidRule_init) (no : findIn K (.ref C) "part" = some none) (hsup : mg "super" = none) (htop : (prog.main.scope.names.lookup ("super" : Str)).isSome = false) : InitOk prog w K mg C fI "part" := by
  intro A R s x t0 v X hlim hg hb hx hnx hroom hq
  obtain ⟨oc, od, doc, pm, an, cda, cc, ct, osl, vs, file, tf, c1, c2, d1, d2, s1, s2, ho, hcd, hcode, hvs, hfile, hcell⟩ := T.fn
  refine ks_codeAny_call_defAt (binds := [("self", .ref x), ("part", v)]) hroom (X _ _ ho) rfl hlim (codeRec_of X hcd) rfl (BindsTo.of_eq (by first | rfl | with_unfolding_all rfl)) (show ∀ y ∈ (L2.defScope s_InvalidRule_init).names, y.2 ≠ .cell from by decide +kernel) (by intro y hy; simp only [List.mem_cons, List.not_mem_nil, or_false] at hy; rcases hy with e | e <;> rw [e] <;> rfl) (fun h₁ hns hk₁ => ?_)
  obtain ⟨mb, hb1, hb2⟩ := hb
  have X1 := X.keeps hk₁
  have hL : s.heap.objs.size ≠ x := Nat.ne_of_gt (Heap.lt_size hx)
  refine ks_wpAt_execs_cons (ks_wpAt_Expr_any ?_)
  refine sup_expr T X1 (hg.keeps hk₁) hsup ⟨mb, hb1.keeps hk₁, hb2⟩ hns (hk₁ _ _ hx) (by rfl) hnx ho hcode hvs hfile hcell (by rfl) (by rfl) (by rfl) (by rfl) (by rfl) (by rfl) htop (by rfl) (fun h2 tk2 t1 S => ?_)
  obtain ⟨hns2, hlt⟩ := ns_keep hns hL S.keep
  refine wpAt_of_wpAny (wpAny_execs_cons ?_)
  refine store_expr T (kept_but X1 hnx S.keep) hns2 hL S.obj (by rfl) (by rfl) no (by rfl) (by rfl) (by rfl) (by rfl) (by rfl) (fun h3 tk3 dx I => ?_)
  exact wpAny_execs_nil (hq h3 tk3 dx t1 ⟨fun b o hb hh => I.keep b o hb (S.keep b o hb (hk₁ b o hh)), I.obj, Nat.le_of_lt (Nat.lt_of_lt_of_le hlt I.dbig), I.dne, I.ns⟩)
end
abbrev s_InvalidWords_init : Stmt := L2.inClass (top 4) 0
section
variable {prog : Program} {w : World} {K : PySem.W.Frag} {mg : Str → Option Value} {C fI : Addr}
open PySem.W PySem.Calls PySem.HandSPX PySem.AhX in
theorem init_InvalidWords (T : SupTxt prog K mg C fI "InvalidWords" "InvalidWords.__init__" s_InvalidWords_init) (hsup : mg "super" = none) (htop : (prog.main.scope.names.lookup ("super" : Str)).isSome = false) : InitOk0 prog w K mg C fI := by
  intro A R s x t0 X hlim hg hb hx hnx hroom hq
  obtain ⟨oc, od, doc, pm, an, cda, cc, ct, osl, vs, file, tf, c1, c2, d1, d2, s1, s2, ho, hcd, hcode, hvs, hfile, hcell⟩ := T.fn
  refine ks_codeAny_call_defAt (binds := [("self", .ref x)]) hroom (X _ _ ho) rfl hlim (codeRec_of X hcd) rfl (BindsTo.of_eq (by first | rfl | with_unfolding_all rfl)) (show ∀ y ∈ (L2.defScope s_InvalidWords_init).names, y.2 ≠ .cell from by decide +kernel) (by intro y hy; simp only [List.mem_cons, List.not_mem_nil, or_false] at hy; rw [hy]; rfl) (fun h₁ hns hk₁ => ?_)
  obtain ⟨mb, hb1, hb2⟩ := hb
  have X1 := X.keeps hk₁
  have hL : s.heap.objs.size ≠ x := Nat.ne_of_gt (Heap.lt_size hx)
  refine ks_wpAt_execs_cons (ks_wpAt_Expr_any ?_)
  refine sup_expr T X1 (hg.keeps hk₁) hsup ⟨mb, hb1.keeps hk₁, hb2⟩ hns (hk₁ _ _ hx) (by rfl) hnx ho hcode hvs hfile hcell (by rfl) (by rfl) (by rfl) (by rfl) (by rfl) (by rfl) htop (by rfl) (fun h2 tk2 t1 S => ?_)
  refine wpAt_of_wpAny (wpAny_execs_nil (hq h2 tk2 t1 ⟨fun b o hb hh => S.keep b o hb (hk₁ b o hh), S.obj⟩))
end
theorem all_mk {l : PySem.W.OpenLaw} {w : World} {K : PySem.W.Frag} {h : Heap} {mg : Str → Option Value} {fa : Addr}
    {f_is_integer : Addr} {od_is_integer an_is_integer : Option Addr} {sl_is_integer : Array (Option Value)} {oc_is_integer kV_is_integer dc_is_integer pm_is_integer cd_is_integer ct_is_integer : Value}
    {f_is_word : Addr} {od_is_word an_is_word : Option Addr} {sl_is_word : Array (Option Value)} {oc_is_word kV_is_word dc_is_word pm_is_word cd_is_word ct_is_word : Value}
    {f_is_edition : Addr} {od_is_edition an_is_edition : Option Addr} {sl_is_edition : Array (Option Value)} {oc_is_edition kV_is_edition dc_is_edition pm_is_edition cd_is_edition ct_is_edition : Value}
    {f_check_ruleX : Addr} {od_check_ruleX an_check_ruleX : Option Addr} {sl_check_ruleX : Array (Option Value)} {oc_check_ruleX kV_check_ruleX dc_check_ruleX pm_check_ruleX cd_check_ruleX ct_check_ruleX : Value}
    {f_Book_initX : Addr} {od_Book_initX an_Book_initX : Option Addr} {sl_Book_initX : Array (Option Value)} {oc_Book_initX kV_Book_initX dc_Book_initX pm_Book_initX cd_Book_initX ct_Book_initX : Value}
    {f_Book_rows : Addr} {od_Book_rows an_Book_rows : Option Addr} {sl_Book_rows : Array (Option Value)} {oc_Book_rows kV_Book_rows dc_Book_rows pm_Book_rows cd_Book_rows ct_Book_rows : Value}
    {pp_Book_rows : Addr} {rs_Book_rows : List Value}
    {f_Book_rule : Addr} {od_Book_rule an_Book_rule : Option Addr} {sl_Book_rule : Array (Option Value)} {oc_Book_rule kV_Book_rule dc_Book_rule pm_Book_rule cd_Book_rule ct_Book_rule : Value}
    {pp_Book_rule : Addr} {rs_Book_rule : List Value}
    {f_Book_words : Addr} {od_Book_words an_Book_words : Option Addr} {sl_Book_words : Array (Option Value)} {oc_Book_words kV_Book_words dc_Book_words pm_Book_words cd_Book_words ct_Book_words : Value}
    {pp_Book_words : Addr} {rs_Book_words : List Value}
    {f_Book_changedX : Addr} {od_Book_changedX an_Book_changedX : Option Addr} {sl_Book_changedX : Array (Option Value)} {oc_Book_changedX kV_Book_changedX dc_Book_changedX pm_Book_changedX cd_Book_changedX ct_Book_changedX : Value}
    {f_Book_eqL : Addr} {od_Book_eqL an_Book_eqL : Option Addr} {sl_Book_eqL : Array (Option Value)} {oc_Book_eqL kV_Book_eqL dc_Book_eqL pm_Book_eqL cd_Book_eqL ct_Book_eqL : Value}
    {f__law_mix : Addr} {od__law_mix an__law_mix : Option Addr} {sl__law_mix : Array (Option Value)} {oc__law_mix kV__law_mix dc__law_mix pm__law_mix cd__law_mix ct__law_mix : Value}
    {f__law_next : Addr} {od__law_next an__law_next : Option Addr} {sl__law_next : Array (Option Value)} {oc__law_next kV__law_next dc__law_next pm__law_next cd__law_next ct__law_next : Value}
    {f__law_alikeR : Addr} {od__law_alikeR an__law_alikeR : Option Addr} {sl__law_alikeR : Array (Option Value)} {oc__law_alikeR kV__law_alikeR dc__law_alikeR pm__law_alikeR cd__law_alikeR ct__law_alikeR : Value}
    {f__law_pick : Addr} {od__law_pick an__law_pick : Option Addr} {sl__law_pick : Array (Option Value)} {oc__law_pick kV__law_pick dc__law_pick pm__law_pick cd__law_pick ct__law_pick : Value}
    {f__law_parts : Addr} {od__law_parts an__law_parts : Option Addr} {sl__law_parts : Array (Option Value)} {oc__law_parts kV__law_parts dc__law_parts pm__law_parts cd__law_parts ct__law_parts : Value}
    {f__law_rule : Addr} {od__law_rule an__law_rule : Option Addr} {sl__law_rule : Array (Option Value)} {oc__law_rule kV__law_rule dc__law_rule pm__law_rule cd__law_rule ct__law_rule : Value}
    {f__law_with : Addr} {od__law_with an__law_with : Option Addr} {sl__law_with : Array (Option Value)} {oc__law_with kV__law_with dc__law_with pm__law_with cd__law_with ct__law_with : Value}
    {f__law_draw : Addr} {od__law_draw an__law_draw : Option Addr} {sl__law_draw : Array (Option Value)} {oc__law_draw kV__law_draw dc__law_draw pm__law_draw cd__law_draw ct__law_draw : Value}
    {f__law_builtX : Addr} {od__law_builtX an__law_builtX : Option Addr} {sl__law_builtX : Array (Option Value)} {oc__law_builtX kV__law_builtX dc__law_builtX pm__law_builtX cd__law_builtX ct__law_builtX : Value}
    {f__law_rule_fault : Addr} {od__law_rule_fault an__law_rule_fault : Option Addr} {sl__law_rule_fault : Array (Option Value)} {oc__law_rule_fault kV__law_rule_fault dc__law_rule_fault pm__law_rule_fault cd__law_rule_fault ct__law_rule_fault : Value}
    {f__law_is_row : Addr} {od__law_is_row an__law_is_row : Option Addr} {sl__law_is_row : Array (Option Value)} {oc__law_is_row kV__law_is_row dc__law_is_row pm__law_is_row cd__law_is_row ct__law_is_row : Value}
    {f__law_fault : Addr} {od__law_fault an__law_fault : Option Addr} {sl__law_fault : Array (Option Value)} {oc__law_fault kV__law_fault dc__law_fault pm__law_fault cd__law_fault ct__law_fault : Value}
    {f__law_tried : Addr} {od__law_tried an__law_tried : Option Addr} {sl__law_tried : Array (Option Value)} {oc__law_tried kV__law_tried dc__law_tried pm__law_tried cd__law_tried ct__law_tried : Value}
    {f__law_spoiled : Addr} {od__law_spoiled an__law_spoiled : Option Addr} {sl__law_spoiled : Array (Option Value)} {oc__law_spoiled kV__law_spoiled dc__law_spoiled pm__law_spoiled cd__law_spoiled ct__law_spoiled : Value}
    {f_law : Addr} {od_law an_law : Option Addr} {sl_law : Array (Option Value)} {oc_law kV_law dc_law pm_law cd_law ct_law : Value}
    {C_Book : Addr}
    {A_KEYS : Addr}
    {od_KEYS : Option Addr} {it_KEYS : Array Value} {n_KEYS : Nat} {sl_KEYS : Array (Option Value)}
    {A_WORDS : Addr}
    {od_WORDS : Option Addr} {it_WORDS : Array Value} {n_WORDS : Nat} {sl_WORDS : Array (Option Value)}
    {A_PARTS : Addr} {es_PARTS : Array DictEntry} {m_PARTS : Nat}
    {p_PARTS0 p_PARTS1 p_PARTS2 p_PARTS3 p_PARTS4 p_PARTS5 : Addr}
    {t_MOST_ROWS : Tok}
    {C_InvalidRows f_InvalidRows cda_InvalidRows cc_InvalidRows : Addr} {nm_InvalidRows q_InvalidRows file_InvalidRows : Str} {N_InvalidRows : Addr} {bs_InvalidRows bm_InvalidRows : List Value} {sn_InvalidRows : List Str} {sub_InvalidRows : List Value} {ab_InvalidRows : Bool} {col_InvalidRows : Option Bool} {dd_InvalidRows : Option Addr} {k0_InvalidRows k1_InvalidRows k2_InvalidRows k3_InvalidRows k5_InvalidRows : Option Value} {od_InvalidRows an_InvalidRows d1_InvalidRows d2_InvalidRows : Option Addr} {sl_InvalidRows s1_InvalidRows s2_InvalidRows : Array (Option Value)} {oc_InvalidRows dc_InvalidRows pm_InvalidRows ct_InvalidRows c1_InvalidRows c2_InvalidRows : Value} {vs_InvalidRows : Array Value} {tf_InvalidRows : Tok}
    {C_InvalidRule f_InvalidRule cda_InvalidRule cc_InvalidRule : Addr} {nm_InvalidRule q_InvalidRule file_InvalidRule : Str} {N_InvalidRule : Addr} {bs_InvalidRule bm_InvalidRule : List Value} {sn_InvalidRule : List Str} {sub_InvalidRule : List Value} {ab_InvalidRule : Bool} {col_InvalidRule : Option Bool} {dd_InvalidRule : Option Addr} {k0_InvalidRule k1_InvalidRule k2_InvalidRule k3_InvalidRule k5_InvalidRule : Option Value} {od_InvalidRule an_InvalidRule d1_InvalidRule d2_InvalidRule : Option Addr} {sl_InvalidRule s1_InvalidRule s2_InvalidRule : Array (Option Value)} {oc_InvalidRule dc_InvalidRule pm_InvalidRule ct_InvalidRule c1_InvalidRule c2_InvalidRule : Value} {vs_InvalidRule : Array Value} {tf_InvalidRule : Tok}
    {C_InvalidWords f_InvalidWords cda_InvalidWords cc_InvalidWords : Addr} {nm_InvalidWords q_InvalidWords file_InvalidWords : Str} {N_InvalidWords : Addr} {bs_InvalidWords bm_InvalidWords : List Value} {sn_InvalidWords : List Str} {sub_InvalidWords : List Value} {ab_InvalidWords : Bool} {col_InvalidWords : Option Bool} {dd_InvalidWords : Option Addr} {k0_InvalidWords k1_InvalidWords k2_InvalidWords k3_InvalidWords k5_InvalidWords : Option Value} {od_InvalidWords an_InvalidWords d1_InvalidWords d2_InvalidWords : Option Addr} {sl_InvalidWords s1_InvalidWords s2_InvalidWords : Array (Option Value)} {oc_InvalidWords dc_InvalidWords pm_InvalidWords ct_InvalidWords c1_InvalidWords c2_InvalidWords : Value} {vs_InvalidWords : Array Value} {tf_InvalidWords : Tok}
    {C_AheadError : Addr}
    {od_PARTS0 : Option Addr} {it_PARTS0 : Array Value} {n_PARTS0 : Nat} {sl_PARTS0 : Array (Option Value)}
    {od_PARTS1 : Option Addr} {it_PARTS1 : Array Value} {n_PARTS1 : Nat} {sl_PARTS1 : Array (Option Value)}
    {od_PARTS2 : Option Addr} {it_PARTS2 : Array Value} {n_PARTS2 : Nat} {sl_PARTS2 : Array (Option Value)}
    {od_PARTS3 : Option Addr} {it_PARTS3 : Array Value} {n_PARTS3 : Nat} {sl_PARTS3 : Array (Option Value)}
    {od_PARTS4 : Option Addr} {it_PARTS4 : Array Value} {n_PARTS4 : Nat} {sl_PARTS4 : Array (Option Value)}
    {od_PARTS5 : Option Addr} {it_PARTS5 : Array Value} {n_PARTS5 : Nat} {sl_PARTS5 : Array (Option Value)}
    (X : K.In h) (G : h.Ns mainGlobals mg) (hfa : mg "law" = some (.ref fa))
    (a_Book : PySem.W.nsIn K mainGlobals "Book" = some (some (.ref C_Book)))
    (a_is_integer : PySem.W.nsIn K mainGlobals "is_integer" = some (some (.ref f_is_integer)))
    (l_is_integer : K.lookup f_is_integer = some ⟨oc_is_integer, od_is_integer, .func (PySem.W.fnOf "is_integer" "is_integer" (defArgs s_is_integer) (defBody s_is_integer) (defScope s_is_integer) .none kV_is_integer dc_is_integer pm_is_integer an_is_integer cd_is_integer ct_is_integer), sl_is_integer⟩)
    (c_is_integer : PySem.W.codeIn K cd_is_integer "is_integer" = true)
    (k_is_integer : PySem.W.keepIn K (.ref f_is_integer) = true)
    (a_is_word : PySem.W.nsIn K mainGlobals "is_word" = some (some (.ref f_is_word)))
    (l_is_word : K.lookup f_is_word = some ⟨oc_is_word, od_is_word, .func (PySem.W.fnOf "is_word" "is_word" (defArgs s_is_word) (defBody s_is_word) (defScope s_is_word) .none kV_is_word dc_is_word pm_is_word an_is_word cd_is_word ct_is_word), sl_is_word⟩)
    (c_is_word : PySem.W.codeIn K cd_is_word "is_word" = true)
    (k_is_word : PySem.W.keepIn K (.ref f_is_word) = true)
    (a_is_edition : PySem.W.nsIn K mainGlobals "is_edition" = some (some (.ref f_is_edition)))
    (l_is_edition : K.lookup f_is_edition = some ⟨oc_is_edition, od_is_edition, .func (PySem.W.fnOf "is_edition" "is_edition" (defArgs s_is_edition) (defBody s_is_edition) (defScope s_is_edition) .none kV_is_edition dc_is_edition pm_is_edition an_is_edition cd_is_edition ct_is_edition), sl_is_edition⟩)
    (c_is_edition : PySem.W.codeIn K cd_is_edition "is_edition" = true)
    (k_is_edition : PySem.W.keepIn K (.ref f_is_edition) = true)
    (a_check_ruleX : PySem.W.nsIn K mainGlobals "check_rule" = some (some (.ref f_check_ruleX)))
    (l_check_ruleX : K.lookup f_check_ruleX = some ⟨oc_check_ruleX, od_check_ruleX, .func (PySem.W.fnOf "check_rule" "check_rule" (defArgs s_check_ruleX) (defBody s_check_ruleX) (defScope s_check_ruleX) .none kV_check_ruleX dc_check_ruleX pm_check_ruleX an_check_ruleX cd_check_ruleX ct_check_ruleX), sl_check_ruleX⟩)
    (c_check_ruleX : PySem.W.codeIn K cd_check_ruleX "check_rule" = true)
    (k_check_ruleX : PySem.W.keepIn K (.ref f_check_ruleX) = true)
    (a_Book_initX : PySem.W.findIn K (.ref C_Book) "__init__" = some (some (.ref f_Book_initX)))
    (i_Book_initX : PySem.W.isFn K (.ref f_Book_initX) = true)
    (l_Book_initX : K.lookup f_Book_initX = some ⟨oc_Book_initX, od_Book_initX, .func (PySem.W.fnOf "__init__" "Book.__init__" (defArgs s_Book_initX) (defBody s_Book_initX) (defScope s_Book_initX) .none kV_Book_initX dc_Book_initX pm_Book_initX an_Book_initX cd_Book_initX ct_Book_initX), sl_Book_initX⟩)
    (c_Book_initX : PySem.W.codeIn K cd_Book_initX "Book.__init__" = true)
    (k_Book_initX : PySem.W.keepIn K (.ref f_Book_initX) = true)
    (a_Book_rows : PySem.W.findIn K (.ref C_Book) "rows" = some (some (.ref pp_Book_rows)))
    (pg_Book_rows : PySem.W.specialIn K (.ref pp_Book_rows) "__get__" = some (some (.builtin "property.__get__")))
    (pt_Book_rows : PySem.W.takesIn K (.ref pp_Book_rows) = some true)
    (pr_Book_rows : PySem.W.recIn K pp_Book_rows "property" = some (.ref f_Book_rows :: rs_Book_rows))
    (l_Book_rows : K.lookup f_Book_rows = some ⟨oc_Book_rows, od_Book_rows, .func (PySem.W.fnOf "rows" "Book.rows" (defArgs s_Book_rows) (defBody s_Book_rows) (defScope s_Book_rows) .none kV_Book_rows dc_Book_rows pm_Book_rows an_Book_rows cd_Book_rows ct_Book_rows), sl_Book_rows⟩)
    (c_Book_rows : PySem.W.codeIn K cd_Book_rows "Book.rows" = true)
    (k_Book_rows : PySem.W.keepIn K (.ref f_Book_rows) = true)
    (a_Book_rule : PySem.W.findIn K (.ref C_Book) "rule" = some (some (.ref pp_Book_rule)))
    (pg_Book_rule : PySem.W.specialIn K (.ref pp_Book_rule) "__get__" = some (some (.builtin "property.__get__")))
    (pt_Book_rule : PySem.W.takesIn K (.ref pp_Book_rule) = some true)
    (pr_Book_rule : PySem.W.recIn K pp_Book_rule "property" = some (.ref f_Book_rule :: rs_Book_rule))
    (l_Book_rule : K.lookup f_Book_rule = some ⟨oc_Book_rule, od_Book_rule, .func (PySem.W.fnOf "rule" "Book.rule" (defArgs s_Book_rule) (defBody s_Book_rule) (defScope s_Book_rule) .none kV_Book_rule dc_Book_rule pm_Book_rule an_Book_rule cd_Book_rule ct_Book_rule), sl_Book_rule⟩)
    (c_Book_rule : PySem.W.codeIn K cd_Book_rule "Book.rule" = true)
    (k_Book_rule : PySem.W.keepIn K (.ref f_Book_rule) = true)
    (a_Book_words : PySem.W.findIn K (.ref C_Book) "words" = some (some (.ref pp_Book_words)))
    (pg_Book_words : PySem.W.specialIn K (.ref pp_Book_words) "__get__" = some (some (.builtin "property.__get__")))
    (pt_Book_words : PySem.W.takesIn K (.ref pp_Book_words) = some true)
    (pr_Book_words : PySem.W.recIn K pp_Book_words "property" = some (.ref f_Book_words :: rs_Book_words))
    (l_Book_words : K.lookup f_Book_words = some ⟨oc_Book_words, od_Book_words, .func (PySem.W.fnOf "words" "Book.words" (defArgs s_Book_words) (defBody s_Book_words) (defScope s_Book_words) .none kV_Book_words dc_Book_words pm_Book_words an_Book_words cd_Book_words ct_Book_words), sl_Book_words⟩)
    (c_Book_words : PySem.W.codeIn K cd_Book_words "Book.words" = true)
    (k_Book_words : PySem.W.keepIn K (.ref f_Book_words) = true)
    (a_Book_changedX : PySem.W.findIn K (.ref C_Book) "changed" = some (some (.ref f_Book_changedX)))
    (i_Book_changedX : PySem.W.isFn K (.ref f_Book_changedX) = true)
    (l_Book_changedX : K.lookup f_Book_changedX = some ⟨oc_Book_changedX, od_Book_changedX, .func (PySem.W.fnOf "changed" "Book.changed" (defArgs s_Book_changedX) (defBody s_Book_changedX) (defScope s_Book_changedX) .none kV_Book_changedX dc_Book_changedX pm_Book_changedX an_Book_changedX cd_Book_changedX ct_Book_changedX), sl_Book_changedX⟩)
    (c_Book_changedX : PySem.W.codeIn K cd_Book_changedX "Book.changed" = true)
    (k_Book_changedX : PySem.W.keepIn K (.ref f_Book_changedX) = true)
    (a_Book_eqL : PySem.W.findIn K (.ref C_Book) "__eq__" = some (some (.ref f_Book_eqL)))
    (i_Book_eqL : PySem.W.isFn K (.ref f_Book_eqL) = true)
    (nf_Book_eqL : PySem.W.notFirst K C_Book (.type "list") = true)
    (l_Book_eqL : K.lookup f_Book_eqL = some ⟨oc_Book_eqL, od_Book_eqL, .func (PySem.W.fnOf "__eq__" "Book.__eq__" (defArgs s_Book_eqL) (defBody s_Book_eqL) (defScope s_Book_eqL) .none kV_Book_eqL dc_Book_eqL pm_Book_eqL an_Book_eqL cd_Book_eqL ct_Book_eqL), sl_Book_eqL⟩)
    (c_Book_eqL : PySem.W.codeIn K cd_Book_eqL "Book.__eq__" = true)
    (k_Book_eqL : PySem.W.keepIn K (.ref f_Book_eqL) = true)
    (a__law_mix : PySem.W.nsIn K mainGlobals "_law_mix" = some (some (.ref f__law_mix)))
    (l__law_mix : K.lookup f__law_mix = some ⟨oc__law_mix, od__law_mix, .func (PySem.W.fnOf "_law_mix" "_law_mix" (defArgs s__law_mix) (defBody s__law_mix) (defScope s__law_mix) .none kV__law_mix dc__law_mix pm__law_mix an__law_mix cd__law_mix ct__law_mix), sl__law_mix⟩)
    (c__law_mix : PySem.W.codeIn K cd__law_mix "_law_mix" = true)
    (k__law_mix : PySem.W.keepIn K (.ref f__law_mix) = true)
    (a__law_next : PySem.W.nsIn K mainGlobals "_law_next" = some (some (.ref f__law_next)))
    (l__law_next : K.lookup f__law_next = some ⟨oc__law_next, od__law_next, .func (PySem.W.fnOf "_law_next" "_law_next" (defArgs s__law_next) (defBody s__law_next) (defScope s__law_next) .none kV__law_next dc__law_next pm__law_next an__law_next cd__law_next ct__law_next), sl__law_next⟩)
    (c__law_next : PySem.W.codeIn K cd__law_next "_law_next" = true)
    (k__law_next : PySem.W.keepIn K (.ref f__law_next) = true)
    (a__law_alikeR : PySem.W.nsIn K mainGlobals "_law_alike" = some (some (.ref f__law_alikeR)))
    (l__law_alikeR : K.lookup f__law_alikeR = some ⟨oc__law_alikeR, od__law_alikeR, .func (PySem.W.fnOf "_law_alike" "_law_alike" (defArgs s__law_alikeR) (defBody s__law_alikeR) (defScope s__law_alikeR) .none kV__law_alikeR dc__law_alikeR pm__law_alikeR an__law_alikeR cd__law_alikeR ct__law_alikeR), sl__law_alikeR⟩)
    (c__law_alikeR : PySem.W.codeIn K cd__law_alikeR "_law_alike" = true)
    (k__law_alikeR : PySem.W.keepIn K (.ref f__law_alikeR) = true)
    (a__law_pick : PySem.W.nsIn K mainGlobals "_law_pick" = some (some (.ref f__law_pick)))
    (l__law_pick : K.lookup f__law_pick = some ⟨oc__law_pick, od__law_pick, .func (PySem.W.fnOf "_law_pick" "_law_pick" (defArgs s__law_pick) (defBody s__law_pick) (defScope s__law_pick) .none kV__law_pick dc__law_pick pm__law_pick an__law_pick cd__law_pick ct__law_pick), sl__law_pick⟩)
    (c__law_pick : PySem.W.codeIn K cd__law_pick "_law_pick" = true)
    (k__law_pick : PySem.W.keepIn K (.ref f__law_pick) = true)
    (a__law_parts : PySem.W.nsIn K mainGlobals "_law_parts" = some (some (.ref f__law_parts)))
    (l__law_parts : K.lookup f__law_parts = some ⟨oc__law_parts, od__law_parts, .func (PySem.W.fnOf "_law_parts" "_law_parts" (defArgs s__law_parts) (defBody s__law_parts) (defScope s__law_parts) .none kV__law_parts dc__law_parts pm__law_parts an__law_parts cd__law_parts ct__law_parts), sl__law_parts⟩)
    (c__law_parts : PySem.W.codeIn K cd__law_parts "_law_parts" = true)
    (k__law_parts : PySem.W.keepIn K (.ref f__law_parts) = true)
    (a__law_rule : PySem.W.nsIn K mainGlobals "_law_rule" = some (some (.ref f__law_rule)))
    (l__law_rule : K.lookup f__law_rule = some ⟨oc__law_rule, od__law_rule, .func (PySem.W.fnOf "_law_rule" "_law_rule" (defArgs s__law_rule) (defBody s__law_rule) (defScope s__law_rule) .none kV__law_rule dc__law_rule pm__law_rule an__law_rule cd__law_rule ct__law_rule), sl__law_rule⟩)
    (c__law_rule : PySem.W.codeIn K cd__law_rule "_law_rule" = true)
    (k__law_rule : PySem.W.keepIn K (.ref f__law_rule) = true)
    (a__law_with : PySem.W.nsIn K mainGlobals "_law_with" = some (some (.ref f__law_with)))
    (l__law_with : K.lookup f__law_with = some ⟨oc__law_with, od__law_with, .func (PySem.W.fnOf "_law_with" "_law_with" (defArgs s__law_with) (defBody s__law_with) (defScope s__law_with) .none kV__law_with dc__law_with pm__law_with an__law_with cd__law_with ct__law_with), sl__law_with⟩)
    (c__law_with : PySem.W.codeIn K cd__law_with "_law_with" = true)
    (k__law_with : PySem.W.keepIn K (.ref f__law_with) = true)
    (a__law_draw : PySem.W.nsIn K mainGlobals "_law_draw" = some (some (.ref f__law_draw)))
    (l__law_draw : K.lookup f__law_draw = some ⟨oc__law_draw, od__law_draw, .func (PySem.W.fnOf "_law_draw" "_law_draw" (defArgs s__law_draw) (defBody s__law_draw) (defScope s__law_draw) .none kV__law_draw dc__law_draw pm__law_draw an__law_draw cd__law_draw ct__law_draw), sl__law_draw⟩)
    (c__law_draw : PySem.W.codeIn K cd__law_draw "_law_draw" = true)
    (k__law_draw : PySem.W.keepIn K (.ref f__law_draw) = true)
    (a__law_builtX : PySem.W.nsIn K mainGlobals "_law_built" = some (some (.ref f__law_builtX)))
    (l__law_builtX : K.lookup f__law_builtX = some ⟨oc__law_builtX, od__law_builtX, .func (PySem.W.fnOf "_law_built" "_law_built" (defArgs s__law_builtX) (defBody s__law_builtX) (defScope s__law_builtX) .none kV__law_builtX dc__law_builtX pm__law_builtX an__law_builtX cd__law_builtX ct__law_builtX), sl__law_builtX⟩)
    (c__law_builtX : PySem.W.codeIn K cd__law_builtX "_law_built" = true)
    (k__law_builtX : PySem.W.keepIn K (.ref f__law_builtX) = true)
    (a__law_rule_fault : PySem.W.nsIn K mainGlobals "_law_rule_fault" = some (some (.ref f__law_rule_fault)))
    (l__law_rule_fault : K.lookup f__law_rule_fault = some ⟨oc__law_rule_fault, od__law_rule_fault, .func (PySem.W.fnOf "_law_rule_fault" "_law_rule_fault" (defArgs s__law_rule_fault) (defBody s__law_rule_fault) (defScope s__law_rule_fault) .none kV__law_rule_fault dc__law_rule_fault pm__law_rule_fault an__law_rule_fault cd__law_rule_fault ct__law_rule_fault), sl__law_rule_fault⟩)
    (c__law_rule_fault : PySem.W.codeIn K cd__law_rule_fault "_law_rule_fault" = true)
    (k__law_rule_fault : PySem.W.keepIn K (.ref f__law_rule_fault) = true)
    (a__law_is_row : PySem.W.nsIn K mainGlobals "_law_is_row" = some (some (.ref f__law_is_row)))
    (l__law_is_row : K.lookup f__law_is_row = some ⟨oc__law_is_row, od__law_is_row, .func (PySem.W.fnOf "_law_is_row" "_law_is_row" (defArgs s__law_is_row) (defBody s__law_is_row) (defScope s__law_is_row) .none kV__law_is_row dc__law_is_row pm__law_is_row an__law_is_row cd__law_is_row ct__law_is_row), sl__law_is_row⟩)
    (c__law_is_row : PySem.W.codeIn K cd__law_is_row "_law_is_row" = true)
    (k__law_is_row : PySem.W.keepIn K (.ref f__law_is_row) = true)
    (a__law_fault : PySem.W.nsIn K mainGlobals "_law_fault" = some (some (.ref f__law_fault)))
    (l__law_fault : K.lookup f__law_fault = some ⟨oc__law_fault, od__law_fault, .func (PySem.W.fnOf "_law_fault" "_law_fault" (defArgs s__law_fault) (defBody s__law_fault) (defScope s__law_fault) .none kV__law_fault dc__law_fault pm__law_fault an__law_fault cd__law_fault ct__law_fault), sl__law_fault⟩)
    (c__law_fault : PySem.W.codeIn K cd__law_fault "_law_fault" = true)
    (k__law_fault : PySem.W.keepIn K (.ref f__law_fault) = true)
    (a__law_tried : PySem.W.nsIn K mainGlobals "_law_tried" = some (some (.ref f__law_tried)))
    (l__law_tried : K.lookup f__law_tried = some ⟨oc__law_tried, od__law_tried, .func (PySem.W.fnOf "_law_tried" "_law_tried" (defArgs s__law_tried) (defBody s__law_tried) (defScope s__law_tried) .none kV__law_tried dc__law_tried pm__law_tried an__law_tried cd__law_tried ct__law_tried), sl__law_tried⟩)
    (c__law_tried : PySem.W.codeIn K cd__law_tried "_law_tried" = true)
    (k__law_tried : PySem.W.keepIn K (.ref f__law_tried) = true)
    (a__law_spoiled : PySem.W.nsIn K mainGlobals "_law_spoiled" = some (some (.ref f__law_spoiled)))
    (l__law_spoiled : K.lookup f__law_spoiled = some ⟨oc__law_spoiled, od__law_spoiled, .func (PySem.W.fnOf "_law_spoiled" "_law_spoiled" (defArgs s__law_spoiled) (defBody s__law_spoiled) (defScope s__law_spoiled) .none kV__law_spoiled dc__law_spoiled pm__law_spoiled an__law_spoiled cd__law_spoiled ct__law_spoiled), sl__law_spoiled⟩)
    (c__law_spoiled : PySem.W.codeIn K cd__law_spoiled "_law_spoiled" = true)
    (k__law_spoiled : PySem.W.keepIn K (.ref f__law_spoiled) = true)
    (a_law : PySem.W.nsIn K mainGlobals "law" = some (some (.ref f_law)))
    (l_law : K.lookup f_law = some ⟨oc_law, od_law, .func (PySem.W.fnOf "law" "law" (defArgs s_law) (defBody s_law) (defScope s_law) .none kV_law dc_law pm_law an_law cd_law ct_law), sl_law⟩)
    (c_law : PySem.W.codeIn K cd_law "law" = true)
    (k_law : PySem.W.keepIn K (.ref f_law) = true)
    (pg : PySem.W.plainGet K C_Book Str.empty = true)
    (hd : PySem.W.hasDictIn K C_Book = true)
    (po : PySem.W.plainOver K C_Book = true)
    (sa : PySem.W.findIn K (.ref C_Book) "__setattr__" = some (some (.builtin "object.__setattr__")))
    (mk : PySem.W.makesIn K C_Book = true)
    (kc : PySem.W.keepIn K (.ref C_Book) = true)
    (n_wanted : PySem.W.findIn K (.ref C_Book) "wanted" = some none)
    (n_terms : PySem.W.findIn K (.ref C_Book) "terms" = some none)
    (n_kinds : PySem.W.findIn K (.ref C_Book) "kinds" = some none)
    (ha : PySem.W.findIn K (.ref C_Book) "__class__" = some (some (.builtin "object.__class__")))
    (hn : PySem.W.specialIn K (.builtin "object.__class__") "__get__" = some (some (.builtin "getset_descriptor.__get__")))
    (htk : PySem.W.takesIn K (.builtin "object.__class__") = some true)
    (hm : PySem.W.mroIn K C_Book (.type "object") = some true)
    (a_KEYS : PySem.W.nsIn K mainGlobals "KEYS" = some (some (.ref A_KEYS)))
    (l_KEYS : K.lookup A_KEYS = some ⟨.type "tuple", od_KEYS, .seq it_KEYS n_KEYS, sl_KEYS⟩)
    (a_WORDS : PySem.W.nsIn K mainGlobals "WORDS" = some (some (.ref A_WORDS)))
    (l_WORDS : K.lookup A_WORDS = some ⟨.type "tuple", od_WORDS, .seq it_WORDS n_WORDS, sl_WORDS⟩)
    (a_PARTS : PySem.W.nsIn K mainGlobals "PARTS" = some (some (.ref A_PARTS)))
    (l_PARTS : K.lookup A_PARTS = some ⟨.type "dict", none, .dict es_PARTS m_PARTS, #[]⟩)
    (a_MOST_ROWS : PySem.W.nsIn K mainGlobals "MOST_ROWS" = some (some (.int 2 t_MOST_ROWS)))
    (b_all : PySem.W.nsIn K mainGlobals "all" = some none)
    (b_bool : PySem.W.nsIn K mainGlobals "bool" = some none)
    (b_dict : PySem.W.nsIn K mainGlobals "dict" = some none)
    (b_int : PySem.W.nsIn K mainGlobals "int" = some none)
    (b_isinstance : PySem.W.nsIn K mainGlobals "isinstance" = some none)
    (b_len : PySem.W.nsIn K mainGlobals "len" = some none)
    (b_list : PySem.W.nsIn K mainGlobals "list" = some none)
    (b_max : PySem.W.nsIn K mainGlobals "max" = some none)
    (b_range : PySem.W.nsIn K mainGlobals "range" = some none)
    (b_repr : PySem.W.nsIn K mainGlobals "repr" = some none)
    (b_sorted : PySem.W.nsIn K mainGlobals "sorted" = some none)
    (b_str : PySem.W.nsIn K mainGlobals "str" = some none)
    (b_tuple : PySem.W.nsIn K mainGlobals "tuple" = some none)
    (a_InvalidRows : PySem.W.nsIn K mainGlobals "InvalidRows" = some (some (.ref C_InvalidRows)))
    (x_InvalidRows : K.lookup C_InvalidRows = some (excClassObj nm_InvalidRows q_InvalidRows C_InvalidRows N_InvalidRows bs_InvalidRows bm_InvalidRows true sn_InvalidRows sub_InvalidRows ab_InvalidRows col_InvalidRows dd_InvalidRows k0_InvalidRows k1_InvalidRows k2_InvalidRows k3_InvalidRows k5_InvalidRows "ValueError.__new__"))
    (sa_InvalidRows : PySem.W.findIn K (.ref C_InvalidRows) "__setattr__" = some (some (.builtin "object.__setattr__")))
    (ga_InvalidRows : PySem.W.findIn K (.ref C_InvalidRows) "__getattribute__" = some (some (.builtin "BaseException.__getattribute__")))
    (gg_InvalidRows : PySem.W.findIn K (.ref C_InvalidRows) "__getattr__" = some none)
    (i_InvalidRows : PySem.W.findIn K (.ref C_InvalidRows) "__init__" = some (some (.ref f_InvalidRows)))
    (k_InvalidRows : PySem.W.keepIn K (.ref C_InvalidRows) = true)
    (eb_InvalidRows : PySem.W.subIn K (.ref C_InvalidRows) (.type "BaseException") = some true)
    (ev_InvalidRows : PySem.W.subIn K (.ref C_InvalidRows) (.type "ValueError") = some true)
    (ty_InvalidRows : PySem.W.typeIn K (.ref C_InvalidRows) = some (.type "type"))
    (me_InvalidRows : PySem.W.mroIn K C_InvalidRows (.ref C_InvalidRows) = some true)
    (hd_InvalidRows : PySem.W.hasDictIn K C_InvalidRows = true)
    (ic_InvalidRows : PySem.W.isClsIn K C_InvalidRows = true)
    (se_InvalidRows : PySem.W.subIn K (.ref C_InvalidRows) (.ref C_InvalidRows) = some true)
    (hac_InvalidRows : PySem.W.findIn K (.ref C_InvalidRows) "__class__" = some (some (.builtin "object.__class__")))
    (mo_InvalidRows : PySem.W.mroIn K C_InvalidRows (.type "object") = some true)
    (t_InvalidRows : PySem.W.typeIn K (.ref f_InvalidRows) = some (.type "function"))
    (up_InvalidRows : PySem.W.ks_superIn K C_InvalidRows C_InvalidRows "__init__" = some (some (.builtin "ValueError.__init__")))
    (l_InvalidRows : K.lookup f_InvalidRows = some ⟨oc_InvalidRows, od_InvalidRows, .func (PySem.W.ksFn "__init__" "InvalidRows.__init__" (defArgs s_InvalidRows_init) (defBody s_InvalidRows_init) (defScope s_InvalidRows_init) .none .none dc_InvalidRows pm_InvalidRows an_InvalidRows (.ref cda_InvalidRows) ct_InvalidRows cc_InvalidRows), sl_InvalidRows⟩)
    (c_InvalidRows : PySem.W.codeIn K (.ref cda_InvalidRows) "InvalidRows.__init__" = true)
    (cd_InvalidRows : K.lookup cda_InvalidRows = some ⟨c1_InvalidRows, d1_InvalidRows, .fields vs_InvalidRows, s1_InvalidRows⟩)
    (ce_InvalidRows : K.lookup cc_InvalidRows = some ⟨c2_InvalidRows, d2_InvalidRows, .cell (some (.ref C_InvalidRows)), s2_InvalidRows⟩)
    (a_InvalidRule : PySem.W.nsIn K mainGlobals "InvalidRule" = some (some (.ref C_InvalidRule)))
    (x_InvalidRule : K.lookup C_InvalidRule = some (excClassObj nm_InvalidRule q_InvalidRule C_InvalidRule N_InvalidRule bs_InvalidRule bm_InvalidRule true sn_InvalidRule sub_InvalidRule ab_InvalidRule col_InvalidRule dd_InvalidRule k0_InvalidRule k1_InvalidRule k2_InvalidRule k3_InvalidRule k5_InvalidRule "ValueError.__new__"))
    (sa_InvalidRule : PySem.W.findIn K (.ref C_InvalidRule) "__setattr__" = some (some (.builtin "object.__setattr__")))
    (ga_InvalidRule : PySem.W.findIn K (.ref C_InvalidRule) "__getattribute__" = some (some (.builtin "BaseException.__getattribute__")))
    (gg_InvalidRule : PySem.W.findIn K (.ref C_InvalidRule) "__getattr__" = some none)
    (i_InvalidRule : PySem.W.findIn K (.ref C_InvalidRule) "__init__" = some (some (.ref f_InvalidRule)))
    (k_InvalidRule : PySem.W.keepIn K (.ref C_InvalidRule) = true)
    (eb_InvalidRule : PySem.W.subIn K (.ref C_InvalidRule) (.type "BaseException") = some true)
    (ev_InvalidRule : PySem.W.subIn K (.ref C_InvalidRule) (.type "ValueError") = some true)
    (ty_InvalidRule : PySem.W.typeIn K (.ref C_InvalidRule) = some (.type "type"))
    (me_InvalidRule : PySem.W.mroIn K C_InvalidRule (.ref C_InvalidRule) = some true)
    (hd_InvalidRule : PySem.W.hasDictIn K C_InvalidRule = true)
    (ic_InvalidRule : PySem.W.isClsIn K C_InvalidRule = true)
    (se_InvalidRule : PySem.W.subIn K (.ref C_InvalidRule) (.ref C_InvalidRule) = some true)
    (hac_InvalidRule : PySem.W.findIn K (.ref C_InvalidRule) "__class__" = some (some (.builtin "object.__class__")))
    (mo_InvalidRule : PySem.W.mroIn K C_InvalidRule (.type "object") = some true)
    (t_InvalidRule : PySem.W.typeIn K (.ref f_InvalidRule) = some (.type "function"))
    (up_InvalidRule : PySem.W.ks_superIn K C_InvalidRule C_InvalidRule "__init__" = some (some (.builtin "ValueError.__init__")))
    (nf_InvalidRule : PySem.W.findIn K (.ref C_InvalidRule) "part" = some none)
    (l_InvalidRule : K.lookup f_InvalidRule = some ⟨oc_InvalidRule, od_InvalidRule, .func (PySem.W.ksFn "__init__" "InvalidRule.__init__" (defArgs s_InvalidRule_init) (defBody s_InvalidRule_init) (defScope s_InvalidRule_init) .none .none dc_InvalidRule pm_InvalidRule an_InvalidRule (.ref cda_InvalidRule) ct_InvalidRule cc_InvalidRule), sl_InvalidRule⟩)
    (c_InvalidRule : PySem.W.codeIn K (.ref cda_InvalidRule) "InvalidRule.__init__" = true)
    (cd_InvalidRule : K.lookup cda_InvalidRule = some ⟨c1_InvalidRule, d1_InvalidRule, .fields vs_InvalidRule, s1_InvalidRule⟩)
    (ce_InvalidRule : K.lookup cc_InvalidRule = some ⟨c2_InvalidRule, d2_InvalidRule, .cell (some (.ref C_InvalidRule)), s2_InvalidRule⟩)
    (a_InvalidWords : PySem.W.nsIn K mainGlobals "InvalidWords" = some (some (.ref C_InvalidWords)))
    (x_InvalidWords : K.lookup C_InvalidWords = some (excClassObj nm_InvalidWords q_InvalidWords C_InvalidWords N_InvalidWords bs_InvalidWords bm_InvalidWords true sn_InvalidWords sub_InvalidWords ab_InvalidWords col_InvalidWords dd_InvalidWords k0_InvalidWords k1_InvalidWords k2_InvalidWords k3_InvalidWords k5_InvalidWords "ValueError.__new__"))
    (sa_InvalidWords : PySem.W.findIn K (.ref C_InvalidWords) "__setattr__" = some (some (.builtin "object.__setattr__")))
    (ga_InvalidWords : PySem.W.findIn K (.ref C_InvalidWords) "__getattribute__" = some (some (.builtin "BaseException.__getattribute__")))
    (gg_InvalidWords : PySem.W.findIn K (.ref C_InvalidWords) "__getattr__" = some none)
    (i_InvalidWords : PySem.W.findIn K (.ref C_InvalidWords) "__init__" = some (some (.ref f_InvalidWords)))
    (k_InvalidWords : PySem.W.keepIn K (.ref C_InvalidWords) = true)
    (eb_InvalidWords : PySem.W.subIn K (.ref C_InvalidWords) (.type "BaseException") = some true)
    (ev_InvalidWords : PySem.W.subIn K (.ref C_InvalidWords) (.type "ValueError") = some true)
    (ty_InvalidWords : PySem.W.typeIn K (.ref C_InvalidWords) = some (.type "type"))
    (me_InvalidWords : PySem.W.mroIn K C_InvalidWords (.ref C_InvalidWords) = some true)
    (hd_InvalidWords : PySem.W.hasDictIn K C_InvalidWords = true)
    (ic_InvalidWords : PySem.W.isClsIn K C_InvalidWords = true)
    (se_InvalidWords : PySem.W.subIn K (.ref C_InvalidWords) (.ref C_InvalidWords) = some true)
    (hac_InvalidWords : PySem.W.findIn K (.ref C_InvalidWords) "__class__" = some (some (.builtin "object.__class__")))
    (mo_InvalidWords : PySem.W.mroIn K C_InvalidWords (.type "object") = some true)
    (t_InvalidWords : PySem.W.typeIn K (.ref f_InvalidWords) = some (.type "function"))
    (up_InvalidWords : PySem.W.ks_superIn K C_InvalidWords C_InvalidWords "__init__" = some (some (.builtin "ValueError.__init__")))
    (l_InvalidWords : K.lookup f_InvalidWords = some ⟨oc_InvalidWords, od_InvalidWords, .func (PySem.W.ksFn "__init__" "InvalidWords.__init__" (defArgs s_InvalidWords_init) (defBody s_InvalidWords_init) (defScope s_InvalidWords_init) .none .none dc_InvalidWords pm_InvalidWords an_InvalidWords (.ref cda_InvalidWords) ct_InvalidWords cc_InvalidWords), sl_InvalidWords⟩)
    (c_InvalidWords : PySem.W.codeIn K (.ref cda_InvalidWords) "InvalidWords.__init__" = true)
    (cd_InvalidWords : K.lookup cda_InvalidWords = some ⟨c1_InvalidWords, d1_InvalidWords, .fields vs_InvalidWords, s1_InvalidWords⟩)
    (ce_InvalidWords : K.lookup cc_InvalidWords = some ⟨c2_InvalidWords, d2_InvalidWords, .cell (some (.ref C_InvalidWords)), s2_InvalidWords⟩)
    (opq : PySem.W.nsIn K cStatics "thirdparty.any" = some none)
    (b_super : PySem.W.nsIn K mainGlobals "super" = some none)
    (a_AheadError : PySem.W.nsIn K mainGlobals "AheadError" = some (some (.ref C_AheadError)))
    (icA : PySem.W.isClsIn K C_AheadError = true)
    (tyA : PySem.W.typeIn K (.ref C_AheadError) = some (.type "type"))
    (suA : PySem.W.subIn K (.ref C_InvalidRows) (.ref C_AheadError) = some true)
    (n_ur : PySem.W.subIn K (.ref C_InvalidRule) (.ref C_InvalidRows) = some false)
    (n_wr : PySem.W.subIn K (.ref C_InvalidWords) (.ref C_InvalidRows) = some false)
    (n_wu : PySem.W.subIn K (.ref C_InvalidWords) (.ref C_InvalidRule) = some false)
    (icB : PySem.W.isClsIn K C_Book = true)
    (tyB : PySem.W.typeIn K (.ref C_Book) = some (.type "type"))
    (sl_B : PySem.W.subIn K (.type "list") (.ref C_Book) = some false)
    (v_KEYS : Vals [V.str "a", V.str "b"] it_KEYS.toList)
    (v_WORDS : Vals [V.str "join", V.str "sweep"] it_WORDS.toList)
    (lo_PARTS : (A_PARTS == sysModules) = false)
    (v_PARTS : EnL w.params es_PARTS.toList [("again", V.ref p_PARTS0), ("editions", V.ref p_PARTS1), ("fill", V.ref p_PARTS2), ("joined", V.ref p_PARTS3), ("missing", V.ref p_PARTS4), ("swept", V.ref p_PARTS5)])
    (r_InvalidRows : PySem.HandSPX.refsVE bm_InvalidRows = true)
    (vs_InvalidRows : vs_InvalidRows[2]? = some (.str file_InvalidRows tf_InvalidRows))
    (fi_InvalidRows : ((l.prog.main.file : Str) == file_InvalidRows) = true)
    (r_InvalidRule : PySem.HandSPX.refsVE bm_InvalidRule = true)
    (vs_InvalidRule : vs_InvalidRule[2]? = some (.str file_InvalidRule tf_InvalidRule))
    (fi_InvalidRule : ((l.prog.main.file : Str) == file_InvalidRule) = true)
    (r_InvalidWords : PySem.HandSPX.refsVE bm_InvalidWords = true)
    (vs_InvalidWords : vs_InvalidWords[2]? = some (.str file_InvalidWords tf_InvalidWords))
    (fi_InvalidWords : ((l.prog.main.file : Str) == file_InvalidWords) = true)
    (htop : (l.prog.main.scope.names.lookup ("super" : Str)).isSome = false)
    (l_PARTS0 : K.lookup p_PARTS0 = some ⟨.type "tuple", od_PARTS0, .seq it_PARTS0 n_PARTS0, sl_PARTS0⟩)
    (l_PARTS1 : K.lookup p_PARTS1 = some ⟨.type "tuple", od_PARTS1, .seq it_PARTS1 n_PARTS1, sl_PARTS1⟩)
    (l_PARTS2 : K.lookup p_PARTS2 = some ⟨.type "tuple", od_PARTS2, .seq it_PARTS2 n_PARTS2, sl_PARTS2⟩)
    (l_PARTS3 : K.lookup p_PARTS3 = some ⟨.type "tuple", od_PARTS3, .seq it_PARTS3 n_PARTS3, sl_PARTS3⟩)
    (l_PARTS4 : K.lookup p_PARTS4 = some ⟨.type "tuple", od_PARTS4, .seq it_PARTS4 n_PARTS4, sl_PARTS4⟩)
    (l_PARTS5 : K.lookup p_PARTS5 = some ⟨.type "tuple", od_PARTS5, .seq it_PARTS5 n_PARTS5, sl_PARTS5⟩)
    (v_PARTS0 : Vals [V.str "skip", V.str "twice"] it_PARTS0.toList)
    (v_PARTS1 : Vals [V.str "moves", V.str "stays"] it_PARTS1.toList)
    (v_PARTS2 : Vals [V.str "beside", V.str "fills"] it_PARTS2.toList)
    (v_PARTS3 : Vals [V.str "moves", V.str "stays"] it_PARTS3.toList)
    (v_PARTS4 : Vals [V.str "none", V.str "place", V.str "waits"] it_PARTS4.toList)
    (v_PARTS5 : Vals [V.str "all", V.str "empty"] it_PARTS5.toList) :
    ∃ fd : FuncData, (∀ (s : Shared) (v : Value), BindsTo s fd ⟨[v], []⟩ [("_law_script", v)]) ∧ ∀ base : Heap, K.In base → base.Ns mainGlobals mg → FnOk l.prog w K mg base CX0 7 fa fd ["_law_script"] (sp_law K w ad0) := by
  have e := hfa.symm.trans (PySem.W.mg_of X G a_law)
  cases e
  have ax : Ax K w { KEYS := A_KEYS, PARTS := A_PARTS, WORDS := A_WORDS, ROWS := 0, Book := C_Book, InvalidRows := C_InvalidRows, InvalidRule := C_InvalidRule, InvalidWords := C_InvalidWords, AheadError := C_AheadError } := by
    exact ⟨fun G => .tup (tup_at l_KEYS v_KEYS) (.cons (.str _) (.cons (.str _) .nil)), fun G => .tup (tup_at l_WORDS v_WORDS) (.cons (.str _) (.cons (.str _) .nil)), ⟨[V.ref p_PARTS0, V.ref p_PARTS1, V.ref p_PARTS2, V.ref p_PARTS3, V.ref p_PARTS4, V.ref p_PARTS5], kd_at l_PARTS v_PARTS lo_PARTS (by rw [List.map_fst_zip (by show 6 ≤ 6; decide)]; decide +kernel) (by show 6 ≤ 1000; decide), rfl, fun G => (.cons (.tup (tup_at l_PARTS0 v_PARTS0) (.cons (.str _) (.cons (.str _) .nil))) (.cons (.tup (tup_at l_PARTS1 v_PARTS1) (.cons (.str _) (.cons (.str _) .nil))) (.cons (.tup (tup_at l_PARTS2 v_PARTS2) (.cons (.str _) (.cons (.str _) .nil))) (.cons (.tup (tup_at l_PARTS3 v_PARTS3) (.cons (.str _) (.cons (.str _) .nil))) (.cons (.tup (tup_at l_PARTS4 v_PARTS4) (.cons (.str _) (.cons (.str _) (.cons (.str _) .nil)))) (.cons (.tup (tup_at l_PARTS5 v_PARTS5) (.cons (.str _) (.cons (.str _) .nil))) .nil))))))⟩, ⟨pg, hd, po, sa⟩, n_wanted, n_terms, n_kinds⟩
  have axt : Axb K w { KEYS := A_KEYS, PARTS := A_PARTS, WORDS := A_WORDS, ROWS := 0, Book := C_Book, InvalidRows := C_InvalidRows, InvalidRule := C_InvalidRule, InvalidWords := C_InvalidWords, AheadError := C_AheadError } := ⟨ax, ⟨⟨pg, hd, po, sa⟩, ha, hn, htk, hm, if_pos (beq_self_eq_true _)⟩⟩
  have T : Tx K w mg { KEYS := A_KEYS, PARTS := A_PARTS, WORDS := A_WORDS, ROWS := 0, Book := C_Book, InvalidRows := C_InvalidRows, InvalidRule := C_InvalidRule, InvalidWords := C_InvalidWords, AheadError := C_AheadError } := ⟨axt, ⟨exm_own ic_InvalidRows eb_InvalidRows ty_InvalidRows se_InvalidRows, exm_of ic_InvalidRows eb_InvalidRows ty_InvalidRows n_ur, exm_own ic_InvalidRule eb_InvalidRule ty_InvalidRule se_InvalidRule, exm_of ic_InvalidRows eb_InvalidRows ty_InvalidRows n_wr, exm_of ic_InvalidRule eb_InvalidRule ty_InvalidRule n_wu, exm_own ic_InvalidWords eb_InvalidWords ty_InvalidWords se_InvalidWords, kit_sub icA tyA suA⟩, ⟨ga_InvalidRows, gg_InvalidRows, eb_InvalidRows, hd_InvalidRows, hac_InvalidRows, hn, htk, mo_InvalidRows⟩, ⟨ga_InvalidRule, gg_InvalidRule, eb_InvalidRule, hd_InvalidRule⟩, nf_InvalidRule, kit_of icB tyB sl_B, PySem.W.mg_of X G a_InvalidRows, PySem.W.mg_of X G a_InvalidRule, PySem.W.mg_of X G a_InvalidWords, ⟨_, PySem.W.mg_of X G a_AheadError, rfl⟩, ⟨_, PySem.W.mg_of X G a_Book, rfl⟩, ⟨_, PySem.W.mg_of X G a_KEYS, rfl⟩, ⟨_, PySem.W.mg_of X G a_MOST_ROWS, _, rfl⟩, ⟨_, PySem.W.mg_of X G a_PARTS, rfl⟩, ⟨_, PySem.W.mg_of X G a_WORDS, rfl⟩, PySem.W.mg_none_of X G b_all, PySem.W.mg_none_of X G b_bool, PySem.W.mg_none_of X G b_dict, PySem.W.mg_none_of X G b_int, PySem.W.mg_none_of X G b_isinstance, PySem.W.mg_none_of X G b_len, PySem.W.mg_none_of X G b_list, PySem.W.mg_none_of X G b_max, PySem.W.mg_none_of X G b_range, PySem.W.mg_none_of X G b_repr, PySem.W.mg_none_of X G b_sorted, PySem.W.mg_none_of X G b_str, PySem.W.mg_none_of X G b_tuple⟩
  have F_is_integer := fun_mk (st := s_is_integer) l_is_integer c_is_integer k_is_integer
  have B_is_integer := F_is_integer.binds (ps := ["thing", "low", "high"]) fun _ _ _ _ _ _ us hl => match us, hl with | [_, _, _], _ => rfl
  have F_is_word := fun_mk (st := s_is_word) l_is_word c_is_word k_is_word
  have B_is_word := F_is_word.binds (ps := ["thing", "words"]) fun _ _ _ _ _ _ us hl => match us, hl with | [_, _], _ => rfl
  have F_is_edition := fun_mk (st := s_is_edition) l_is_edition c_is_edition k_is_edition
  have B_is_edition := F_is_edition.binds (ps := ["thing", "least"]) fun _ _ _ _ _ _ us hl => match us, hl with | [_, _], _ => rfl
  have F_check_ruleX := fun_mk (st := s_check_ruleX) l_check_ruleX c_check_ruleX k_check_ruleX
  have B_check_ruleX := F_check_ruleX.binds (ps := ["rule"]) fun _ _ _ _ _ _ us hl => match us, hl with | [_], _ => rfl
  have F_Book_initX := fun_mk (st := s_Book_initX) l_Book_initX c_Book_initX k_Book_initX
  have B_Book_initX := F_Book_initX.binds (ps := ["self", "rows", "rule", "words"]) fun _ _ _ _ _ _ us hl => match us, hl with | [_, _, _, _], _ => rfl
  have F_Book_rows := fun_mk (st := s_Book_rows) l_Book_rows c_Book_rows k_Book_rows
  have B_Book_rows := F_Book_rows.binds (ps := ["self"]) fun _ _ _ _ _ _ us hl => match us, hl with | [_], _ => rfl
  have F_Book_rule := fun_mk (st := s_Book_rule) l_Book_rule c_Book_rule k_Book_rule
  have B_Book_rule := F_Book_rule.binds (ps := ["self"]) fun _ _ _ _ _ _ us hl => match us, hl with | [_], _ => rfl
  have F_Book_words := fun_mk (st := s_Book_words) l_Book_words c_Book_words k_Book_words
  have B_Book_words := F_Book_words.binds (ps := ["self"]) fun _ _ _ _ _ _ us hl => match us, hl with | [_], _ => rfl
  have F_Book_changedX := fun_mk (st := s_Book_changedX) l_Book_changedX c_Book_changedX k_Book_changedX
  have B_Book_changedX := F_Book_changedX.binds (ps := ["self", "part", "word"]) fun _ _ _ _ _ _ us hl => match us, hl with | [_, _, _], _ => rfl
  have F_Book_eqL := fun_mk (st := s_Book_eqL) l_Book_eqL c_Book_eqL k_Book_eqL
  have B_Book_eqL := F_Book_eqL.binds (ps := ["self", "other"]) fun _ _ _ _ _ _ us hl => match us, hl with | [_, _], _ => rfl
  have F__law_mix := fun_mk (st := s__law_mix) l__law_mix c__law_mix k__law_mix
  have B__law_mix := F__law_mix.binds (ps := ["_law_script", "_law_seed"]) fun _ _ _ _ _ _ us hl => match us, hl with | [_, _], _ => rfl
  have F__law_next := fun_mk (st := s__law_next) l__law_next c__law_next k__law_next
  have B__law_next := F__law_next.binds (ps := ["_law_h", "_law_cap"]) fun _ _ _ _ _ _ us hl => match us, hl with | [_, _], _ => rfl
  have F__law_alikeR := fun_mk (st := s__law_alikeR) l__law_alikeR c__law_alikeR k__law_alikeR
  have B__law_alikeR := F__law_alikeR.binds (ps := ["_law_found", "_law_due"]) fun _ _ _ _ _ _ us hl => match us, hl with | [_, _], _ => rfl
  have F__law_pick := fun_mk (st := s__law_pick) l__law_pick c__law_pick k__law_pick
  have B__law_pick := F__law_pick.binds (ps := ["_law_h", "_law_things"]) fun _ _ _ _ _ _ us hl => match us, hl with | [_, _], _ => rfl
  have F__law_parts := fun_mk (st := s__law_parts) l__law_parts c__law_parts k__law_parts
  have B__law_parts := F__law_parts.binds (ps := []) fun _ _ _ _ _ _ us hl => match us, hl with | [], _ => rfl
  have F__law_rule := fun_mk (st := s__law_rule) l__law_rule c__law_rule k__law_rule
  have B__law_rule := F__law_rule.binds (ps := ["_law_h"]) fun _ _ _ _ _ _ us hl => match us, hl with | [_], _ => rfl
  have F__law_with := fun_mk (st := s__law_with) l__law_with c__law_with k__law_with
  have B__law_with := F__law_with.binds (ps := ["_law_rule_here", "_law_part", "_law_word"]) fun _ _ _ _ _ _ us hl => match us, hl with | [_, _, _], _ => rfl
  have F__law_draw := fun_mk (st := s__law_draw) l__law_draw c__law_draw k__law_draw
  have B__law_draw := F__law_draw.binds (ps := ["_law_h"]) fun _ _ _ _ _ _ us hl => match us, hl with | [_], _ => rfl
  have F__law_builtX := fun_mk (st := s__law_builtX) l__law_builtX c__law_builtX k__law_builtX
  have B__law_builtX := F__law_builtX.binds (ps := ["_law_row"]) fun _ _ _ _ _ _ us hl => match us, hl with | [_], _ => rfl
  have F__law_rule_fault := fun_mk (st := s__law_rule_fault) l__law_rule_fault c__law_rule_fault k__law_rule_fault
  have B__law_rule_fault := F__law_rule_fault.binds (ps := ["_law_rule_here"]) fun _ _ _ _ _ _ us hl => match us, hl with | [_], _ => rfl
  have F__law_is_row := fun_mk (st := s__law_is_row) l__law_is_row c__law_is_row k__law_is_row
  have B__law_is_row := F__law_is_row.binds (ps := ["_law_thing"]) fun _ _ _ _ _ _ us hl => match us, hl with | [_], _ => rfl
  have F__law_fault := fun_mk (st := s__law_fault) l__law_fault c__law_fault k__law_fault
  have B__law_fault := F__law_fault.binds (ps := ["_law_row"]) fun _ _ _ _ _ _ us hl => match us, hl with | [_], _ => rfl
  have F__law_tried := fun_mk (st := s__law_tried) l__law_tried c__law_tried k__law_tried
  have B__law_tried := F__law_tried.binds (ps := ["_law_book", "_law_row", "_law_part", "_law_word"]) fun _ _ _ _ _ _ us hl => match us, hl with | [_, _, _, _], _ => rfl
  have F__law_spoiled := fun_mk (st := s__law_spoiled) l__law_spoiled c__law_spoiled k__law_spoiled
  have B__law_spoiled := F__law_spoiled.binds (ps := ["_law_h", "_law_row"]) fun _ _ _ _ _ _ us hl => match us, hl with | [_, _], _ => rfl
  have F_law := fun_mk (st := s_law) l_law c_law k_law
  have B_law := F_law.binds (ps := ["_law_script"]) fun _ _ _ _ _ _ us hl => match us, hl with | [_], _ => rfl
  refine ⟨PySem.W.fnOf "law" "law" (defArgs s_law) (defBody s_law) (defScope s_law) .none kV_law dc_law pm_law an_law cd_law ct_law, fun s v => .of_eq rfl, fun base _ _ => ?_⟩
  have X_InvalidRows : Xc0 l.prog w K mg C_InvalidRows "InvalidRows" := by
    have S : PySem.AhX.SupTxt l.prog K mg C_InvalidRows f_InvalidRows "InvalidRows" "InvalidRows.__init__" s_InvalidRows_init := ⟨PySem.W.mg_of X G a_InvalidRows, ⟨_, _, _, _, _, _, _, _, _, _, _, _, _, _, _, x_InvalidRows, r_InvalidRows⟩, sa_InvalidRows, i_InvalidRows, t_InvalidRows, k_InvalidRows, eb_InvalidRows, ev_InvalidRows, ty_InvalidRows, me_InvalidRows, up_InvalidRows, opq, ⟨_, _, _, _, _, _, _, _, _, _, _, _, _, _, _, _, _, _, l_InvalidRows, c_InvalidRows, cd_InvalidRows, vs_InvalidRows, fi_InvalidRows, ce_InvalidRows⟩⟩
    exact ⟨_, _, _, S, init_InvalidRows S (PySem.W.mg_none_of X G b_super) htop⟩
  have X_InvalidRule : XcF l.prog w K mg C_InvalidRule "InvalidRule" "part" := by
    have S : PySem.AhX.SupTxt l.prog K mg C_InvalidRule f_InvalidRule "InvalidRule" "InvalidRule.__init__" s_InvalidRule_init := ⟨PySem.W.mg_of X G a_InvalidRule, ⟨_, _, _, _, _, _, _, _, _, _, _, _, _, _, _, x_InvalidRule, r_InvalidRule⟩, sa_InvalidRule, i_InvalidRule, t_InvalidRule, k_InvalidRule, eb_InvalidRule, ev_InvalidRule, ty_InvalidRule, me_InvalidRule, up_InvalidRule, opq, ⟨_, _, _, _, _, _, _, _, _, _, _, _, _, _, _, _, _, _, l_InvalidRule, c_InvalidRule, cd_InvalidRule, vs_InvalidRule, fi_InvalidRule, ce_InvalidRule⟩⟩
    exact ⟨_, _, _, S, init_InvalidRule S nf_InvalidRule (PySem.W.mg_none_of X G b_super) htop⟩
  have X_InvalidWords : Xc0 l.prog w K mg C_InvalidWords "InvalidWords" := by
    have S : PySem.AhX.SupTxt l.prog K mg C_InvalidWords f_InvalidWords "InvalidWords" "InvalidWords.__init__" s_InvalidWords_init := ⟨PySem.W.mg_of X G a_InvalidWords, ⟨_, _, _, _, _, _, _, _, _, _, _, _, _, _, _, x_InvalidWords, r_InvalidWords⟩, sa_InvalidWords, i_InvalidWords, t_InvalidWords, k_InvalidWords, eb_InvalidWords, ev_InvalidWords, ty_InvalidWords, me_InvalidWords, up_InvalidWords, opq, ⟨_, _, _, _, _, _, _, _, _, _, _, _, _, _, _, _, _, _, l_InvalidWords, c_InvalidWords, cd_InvalidWords, vs_InvalidWords, fi_InvalidWords, ce_InvalidWords⟩⟩
    exact ⟨_, _, _, S, init_InvalidWords S (PySem.W.mg_none_of X G b_super) htop⟩
  have C_is_integer := Cal.mk ⟨_, _, _, ok_is_integer (P := l.prog) (base := base) F_is_integer T, PySem.W.mg_of X G a_is_integer, k_is_integer, B_is_integer⟩
  have C_is_word := Cal.mk ⟨_, _, _, ok_is_word (P := l.prog) (base := base) F_is_word T, PySem.W.mg_of X G a_is_word, k_is_word, B_is_word⟩
  have C_is_edition := Cal.mk ⟨_, _, _, ok_is_edition (P := l.prog) (base := base) F_is_edition T C_is_word C_is_integer, PySem.W.mg_of X G a_is_edition, k_is_edition, B_is_edition⟩
  have C_check_rule := Cal.mk ⟨_, _, _, ok_check_ruleX (P := l.prog) (base := base) F_check_ruleX T C_is_word X_InvalidRule, PySem.W.mg_of X G a_check_ruleX, k_check_ruleX, B_check_ruleX⟩
  have C_Book_init := Mak.mk ⟨_, _, _, ⟨mk, a_Book_initX, i_Book_initX, kc⟩, ok_Book_initX (P := l.prog) (base := base) F_Book_initX T C_is_edition C_check_rule C_is_word X_InvalidRows X_InvalidWords, PySem.W.mg_of X G a_Book, B_Book_initX⟩
  have C_Book_rows := Prp.mk ⟨_, _, _, _, ok_Book_rows (P := l.prog) (base := base) F_Book_rows T, ⟨a_Book_rows, pg_Book_rows, pt_Book_rows, ⟨_, pr_Book_rows⟩⟩, ⟨pg, hd, po, sa⟩, B_Book_rows⟩
  have C_Book_rule := Prp.mk ⟨_, _, _, _, ok_Book_rule (P := l.prog) (base := base) F_Book_rule T, ⟨a_Book_rule, pg_Book_rule, pt_Book_rule, ⟨_, pr_Book_rule⟩⟩, ⟨pg, hd, po, sa⟩, B_Book_rule⟩
  have C_Book_words := Prp.mk ⟨_, _, _, _, ok_Book_words (P := l.prog) (base := base) F_Book_words T, ⟨a_Book_words, pg_Book_words, pt_Book_words, ⟨_, pr_Book_words⟩⟩, ⟨pg, hd, po, sa⟩, B_Book_words⟩
  have C_Book_changed := Pmt.mk ⟨_, _, _, ok_Book_changedX (P := l.prog) (base := base) F_Book_changedX T C_is_word C_Book_init X_InvalidRule, ⟨a_Book_changedX, i_Book_changedX, k_Book_changedX⟩, ⟨pg, hd, po, sa⟩, B_Book_changedX⟩
  have C_Book_eq := OwnQ.mk ⟨_, _, _, ok_Book_eqL (P := l.prog) (base := base) F_Book_eqL T, a_Book_eqL, i_Book_eqL, nf_Book_eqL, B_Book_eqL⟩
  have C__law_mix := Cal.mk ⟨_, _, _, ok__law_mix (P := l.prog) (base := base) F__law_mix T, PySem.W.mg_of X G a__law_mix, k__law_mix, B__law_mix⟩
  have C__law_next := Cal.mk ⟨_, _, _, ok__law_next (P := l.prog) (base := base) F__law_next T, PySem.W.mg_of X G a__law_next, k__law_next, B__law_next⟩
  have C__law_alike := Cal.mk ⟨_, _, _, ok__law_alikeR (P := l.prog) (base := base) F__law_alikeR T (PySem.W.mg_of X G a__law_alikeR) k__law_alikeR B__law_alikeR 5, PySem.W.mg_of X G a__law_alikeR, k__law_alikeR, B__law_alikeR⟩
  have C__law_pick := Cal.mk ⟨_, _, _, ok__law_pick (P := l.prog) (base := base) F__law_pick T C__law_next, PySem.W.mg_of X G a__law_pick, k__law_pick, B__law_pick⟩
  have C__law_parts := Cal.mk ⟨_, _, _, ok__law_parts (P := l.prog) (base := base) F__law_parts T, PySem.W.mg_of X G a__law_parts, k__law_parts, B__law_parts⟩
  have C__law_rule := Cal.mk ⟨_, _, _, ok__law_rule (P := l.prog) (base := base) F__law_rule T C__law_parts C__law_pick C__law_next, PySem.W.mg_of X G a__law_rule, k__law_rule, B__law_rule⟩
  have C__law_with := Cal.mk ⟨_, _, _, ok__law_with (P := l.prog) (base := base) F__law_with T, PySem.W.mg_of X G a__law_with, k__law_with, B__law_with⟩
  have C__law_draw := Cal.mk ⟨_, _, _, ok__law_draw (P := l.prog) (base := base) F__law_draw T C__law_next C__law_pick C__law_rule C__law_with, PySem.W.mg_of X G a__law_draw, k__law_draw, B__law_draw⟩
  have C__law_built := Cal.mk ⟨_, _, _, ok__law_builtX (P := l.prog) (base := base) F__law_builtX T C_Book_init, PySem.W.mg_of X G a__law_builtX, k__law_builtX, B__law_builtX⟩
  have C__law_rule_fault := Cal.mk ⟨_, _, _, ok__law_rule_fault (P := l.prog) (base := base) F__law_rule_fault T C__law_parts, PySem.W.mg_of X G a__law_rule_fault, k__law_rule_fault, B__law_rule_fault⟩
  have C__law_is_row := Cal.mk ⟨_, _, _, ok__law_is_row (P := l.prog) (base := base) F__law_is_row T, PySem.W.mg_of X G a__law_is_row, k__law_is_row, B__law_is_row⟩
  have C__law_fault := Cal.mk ⟨_, _, _, ok__law_fault (P := l.prog) (base := base) F__law_fault T C__law_is_row C__law_rule_fault, PySem.W.mg_of X G a__law_fault, k__law_fault, B__law_fault⟩
  have C__law_tried := Cal.mk ⟨_, _, _, ok__law_tried (P := l.prog) (base := base) F__law_tried T C__law_built C_Book_changed, PySem.W.mg_of X G a__law_tried, k__law_tried, B__law_tried⟩
  have C__law_spoiled := Cal.mk ⟨_, _, _, ok__law_spoiled (P := l.prog) (base := base) F__law_spoiled T C__law_next C__law_pick C__law_parts, PySem.W.mg_of X G a__law_spoiled, k__law_spoiled, B__law_spoiled⟩
  have z := ok_law (P := l.prog) (base := base) F_law T C__law_mix C__law_spoiled C__law_draw C__law_fault C__law_tried C__law_alike C_Book_words C_Book_rule C_Book_rows C__law_built C__law_pick C__law_parts C__law_rule_fault C__law_with C_Book_eq
  exact z
theorem walk {l : PySem.W.OpenLaw} {q : Program} {loose : List Str} {XP : (Str → Option Value) → Heap → Prop} {YP : World → Heap → Prop} {d : DefRec} {K : Params → PySem.W.Frag} (hn : l.most = some 63) (hdf : d.params.defaults = [])
    (hY : ∀ (w : World) (h : Heap), YP w h → (K w.params).In h)
    (F : ∀ (w : World) (mg : Str → Option Value) (fa : Addr) (h : Heap), (K w.params).In h → h.Ns mainGlobals mg → mg d.name = some (.ref fa) →
      ∃ fd : FuncData, (∀ (s : Shared) (u : Value), BindsTo s fd ⟨[u], []⟩ [("_law_script", u)]) ∧ ∀ base : Heap, (K w.params).In base → base.Ns mainGlobals mg → FnOk l.prog w (K w.params) mg base CX0 7 fa fd ["_law_script"] (sp_law (K w.params) w ad0)) :
    PySem.W.WalkO q loose XP YP l.row.toRowW d [] (fun f vs => PySem.call f vs) :=
  L2.walk_of (n := 63) (k := 7) (x := "_law_script") (CX := fun _ => CX0) (sp := fun w => sp_law (K w.params) w ad0) hn (by decide) hdf ⟨rfl, by decide, by decide⟩ hY F (fun _ _ a ns hl _ hS => ⟨a, ns, rfl, hS, hl, fun _ => rfl⟩) fun _ _ _ _ _ z => z
end Ah
open PySem PySem.W PyProof.Rows
set_option maxRecDepth 100000 in
set_option maxHeartbeats 0 in
theorem PySem.Challenge.cw_aheadrows_k01_books_refused_holds : PySem.Challenge.rw_aheadrows_k01_books_refused.Holds := by
  w_on; o_law; k_head; (case hw => w_witness2)
  k_fill
  refine Ah.walk (l := PySem.Challenge.rw_aheadrows_k01_books_refused) rfl rfl (fun w h Y => PySem.W.kIn_of Y) ?F
  case F =>
    intro w mg fa h KX G hmg
    refine' Ah.all_mk KX G hmg ?a_Book ?a_is_integer ?l_is_integer ?c_is_integer ?k_is_integer ?a_is_word ?l_is_word ?c_is_word ?k_is_word ?a_is_edition ?l_is_edition ?c_is_edition ?k_is_edition ?a_check_ruleX ?l_check_ruleX ?c_check_ruleX ?k_check_ruleX ?a_Book_initX ?i_Book_initX ?l_Book_initX ?c_Book_initX ?k_Book_initX ?a_Book_rows ?pg_Book_rows ?pt_Book_rows ?pr_Book_rows ?l_Book_rows ?c_Book_rows ?k_Book_rows ?a_Book_rule ?pg_Book_rule ?pt_Book_rule ?pr_Book_rule ?l_Book_rule ?c_Book_rule ?k_Book_rule ?a_Book_words ?pg_Book_words ?pt_Book_words ?pr_Book_words ?l_Book_words ?c_Book_words ?k_Book_words ?a_Book_changedX ?i_Book_changedX ?l_Book_changedX ?c_Book_changedX ?k_Book_changedX ?a_Book_eqL ?i_Book_eqL ?nf_Book_eqL ?l_Book_eqL ?c_Book_eqL ?k_Book_eqL ?a__law_mix ?l__law_mix ?c__law_mix ?k__law_mix ?a__law_next ?l__law_next ?c__law_next ?k__law_next ?a__law_alikeR ?l__law_alikeR ?c__law_alikeR ?k__law_alikeR ?a__law_pick ?l__law_pick ?c__law_pick ?k__law_pick ?a__law_parts ?l__law_parts ?c__law_parts ?k__law_parts ?a__law_rule ?l__law_rule ?c__law_rule ?k__law_rule ?a__law_with ?l__law_with ?c__law_with ?k__law_with ?a__law_draw ?l__law_draw ?c__law_draw ?k__law_draw ?a__law_builtX ?l__law_builtX ?c__law_builtX ?k__law_builtX ?a__law_rule_fault ?l__law_rule_fault ?c__law_rule_fault ?k__law_rule_fault ?a__law_is_row ?l__law_is_row ?c__law_is_row ?k__law_is_row ?a__law_fault ?l__law_fault ?c__law_fault ?k__law_fault ?a__law_tried ?l__law_tried ?c__law_tried ?k__law_tried ?a__law_spoiled ?l__law_spoiled ?c__law_spoiled ?k__law_spoiled ?a_law ?l_law ?c_law ?k_law ?pg ?hd ?po ?sa ?mk ?kc ?n_wanted ?n_terms ?n_kinds ?ha ?hn ?htk ?hm ?a_KEYS ?l_KEYS ?a_WORDS ?l_WORDS ?a_PARTS ?l_PARTS ?a_MOST_ROWS ?b_all ?b_bool ?b_dict ?b_int ?b_isinstance ?b_len ?b_list ?b_max ?b_range ?b_repr ?b_sorted ?b_str ?b_tuple ?a_InvalidRows ?x_InvalidRows ?sa_InvalidRows ?ga_InvalidRows ?gg_InvalidRows ?i_InvalidRows ?k_InvalidRows ?eb_InvalidRows ?ev_InvalidRows ?ty_InvalidRows ?me_InvalidRows ?hd_InvalidRows ?ic_InvalidRows ?se_InvalidRows ?hac_InvalidRows ?mo_InvalidRows ?t_InvalidRows ?up_InvalidRows ?l_InvalidRows ?c_InvalidRows ?cd_InvalidRows ?ce_InvalidRows ?a_InvalidRule ?x_InvalidRule ?sa_InvalidRule ?ga_InvalidRule ?gg_InvalidRule ?i_InvalidRule ?k_InvalidRule ?eb_InvalidRule ?ev_InvalidRule ?ty_InvalidRule ?me_InvalidRule ?hd_InvalidRule ?ic_InvalidRule ?se_InvalidRule ?hac_InvalidRule ?mo_InvalidRule ?t_InvalidRule ?up_InvalidRule ?nf_InvalidRule ?l_InvalidRule ?c_InvalidRule ?cd_InvalidRule ?ce_InvalidRule ?a_InvalidWords ?x_InvalidWords ?sa_InvalidWords ?ga_InvalidWords ?gg_InvalidWords ?i_InvalidWords ?k_InvalidWords ?eb_InvalidWords ?ev_InvalidWords ?ty_InvalidWords ?me_InvalidWords ?hd_InvalidWords ?ic_InvalidWords ?se_InvalidWords ?hac_InvalidWords ?mo_InvalidWords ?t_InvalidWords ?up_InvalidWords ?l_InvalidWords ?c_InvalidWords ?cd_InvalidWords ?ce_InvalidWords ?opq ?b_super ?a_AheadError ?icA ?tyA ?suA ?n_ur ?n_wr ?n_wu ?icB ?tyB ?sl_B ?v_KEYS ?v_WORDS ?lo_PARTS ?v_PARTS ?r_InvalidRows ?vs_InvalidRows ?fi_InvalidRows ?r_InvalidRule ?vs_InvalidRule ?fi_InvalidRule ?r_InvalidWords ?vs_InvalidWords ?fi_InvalidWords ?htop ?l_PARTS0 ?l_PARTS1 ?l_PARTS2 ?l_PARTS3 ?l_PARTS4 ?l_PARTS5 ?v_PARTS0 ?v_PARTS1 ?v_PARTS2 ?v_PARTS3 ?v_PARTS4 ?v_PARTS5
    (case a_Book => k_is)
    (case a_is_integer => k_is)
    (case l_is_integer => k_is)
    (case c_is_integer => k_is)
    (case k_is_integer => k_is)
    (case a_is_word => k_is)
    (case l_is_word => k_is)
    (case c_is_word => k_is)
    (case k_is_word => k_is)
    (case a_is_edition => k_is)
    (case l_is_edition => k_is)
    (case c_is_edition => k_is)
    (case k_is_edition => k_is)
    (case a_check_ruleX => k_is)
    (case l_check_ruleX => k_is)
    (case c_check_ruleX => k_is)
    (case k_check_ruleX => k_is)
    (case a_Book_initX => k_is)
    (case i_Book_initX => k_is)
    (case l_Book_initX => k_is)
    (case c_Book_initX => k_is)
    (case k_Book_initX => k_is)
    (case a_Book_rows => k_is)
    (case pg_Book_rows => k_is)
    (case pt_Book_rows => k_is)
    (case pr_Book_rows => k_is)
    (case l_Book_rows => k_is)
    (case c_Book_rows => k_is)
    (case k_Book_rows => k_is)
    (case a_Book_rule => k_is)
    (case pg_Book_rule => k_is)
    (case pt_Book_rule => k_is)
    (case pr_Book_rule => k_is)
    (case l_Book_rule => k_is)
    (case c_Book_rule => k_is)
    (case k_Book_rule => k_is)
    (case a_Book_words => k_is)
    (case pg_Book_words => k_is)
    (case pt_Book_words => k_is)
    (case pr_Book_words => k_is)
    (case l_Book_words => k_is)
    (case c_Book_words => k_is)
    (case k_Book_words => k_is)
    (case a_Book_changedX => k_is)
    (case i_Book_changedX => k_is)
    (case l_Book_changedX => k_is)
    (case c_Book_changedX => k_is)
    (case k_Book_changedX => k_is)
    (case a_Book_eqL => k_is)
    (case i_Book_eqL => k_is)
    (case nf_Book_eqL => k_is)
    (case l_Book_eqL => k_is)
    (case c_Book_eqL => k_is)
    (case k_Book_eqL => k_is)
    (case a__law_mix => k_is)
    (case l__law_mix => k_is)
    (case c__law_mix => k_is)
    (case k__law_mix => k_is)
    (case a__law_next => k_is)
    (case l__law_next => k_is)
    (case c__law_next => k_is)
    (case k__law_next => k_is)
    (case a__law_alikeR => k_is)
    (case l__law_alikeR => k_is)
    (case c__law_alikeR => k_is)
    (case k__law_alikeR => k_is)
    (case a__law_pick => k_is)
    (case l__law_pick => k_is)
    (case c__law_pick => k_is)
    (case k__law_pick => k_is)
    (case a__law_parts => k_is)
    (case l__law_parts => k_is)
    (case c__law_parts => k_is)
    (case k__law_parts => k_is)
    (case a__law_rule => k_is)
    (case l__law_rule => k_is)
    (case c__law_rule => k_is)
    (case k__law_rule => k_is)
    (case a__law_with => k_is)
    (case l__law_with => k_is)
    (case c__law_with => k_is)
    (case k__law_with => k_is)
    (case a__law_draw => k_is)
    (case l__law_draw => k_is)
    (case c__law_draw => k_is)
    (case k__law_draw => k_is)
    (case a__law_builtX => k_is)
    (case l__law_builtX => k_is)
    (case c__law_builtX => k_is)
    (case k__law_builtX => k_is)
    (case a__law_rule_fault => k_is)
    (case l__law_rule_fault => k_is)
    (case c__law_rule_fault => k_is)
    (case k__law_rule_fault => k_is)
    (case a__law_is_row => k_is)
    (case l__law_is_row => k_is)
    (case c__law_is_row => k_is)
    (case k__law_is_row => k_is)
    (case a__law_fault => k_is)
    (case l__law_fault => k_is)
    (case c__law_fault => k_is)
    (case k__law_fault => k_is)
    (case a__law_tried => k_is)
    (case l__law_tried => k_is)
    (case c__law_tried => k_is)
    (case k__law_tried => k_is)
    (case a__law_spoiled => k_is)
    (case l__law_spoiled => k_is)
    (case c__law_spoiled => k_is)
    (case k__law_spoiled => k_is)
    (case a_law => k_is)
    (case l_law => k_is)
    (case c_law => k_is)
    (case k_law => k_is)
    (case pg => k_is)
    (case hd => k_is)
    (case po => k_is)
    (case sa => k_is)
    (case mk => k_is)
    (case kc => k_is)
    (case n_wanted => k_is)
    (case n_terms => k_is)
    (case n_kinds => k_is)
    (case ha => k_is)
    (case hn => k_is)
    (case htk => k_is)
    (case hm => k_is)
    (case a_KEYS => k_is)
    (case l_KEYS => k_is)
    (case a_WORDS => k_is)
    (case l_WORDS => k_is)
    (case a_PARTS => k_is)
    (case l_PARTS => k_is)
    (case a_MOST_ROWS => k_is)
    (case b_all => k_is)
    (case b_bool => k_is)
    (case b_dict => k_is)
    (case b_int => k_is)
    (case b_isinstance => k_is)
    (case b_len => k_is)
    (case b_list => k_is)
    (case b_max => k_is)
    (case b_range => k_is)
    (case b_repr => k_is)
    (case b_sorted => k_is)
    (case b_str => k_is)
    (case b_tuple => k_is)
    (case a_InvalidRows => k_is)
    (case x_InvalidRows => k_is)
    (case sa_InvalidRows => k_is)
    (case ga_InvalidRows => k_is)
    (case gg_InvalidRows => k_is)
    (case i_InvalidRows => k_is)
    (case k_InvalidRows => k_is)
    (case eb_InvalidRows => k_is)
    (case ev_InvalidRows => k_is)
    (case ty_InvalidRows => k_is)
    (case me_InvalidRows => k_is)
    (case hd_InvalidRows => k_is)
    (case ic_InvalidRows => k_is)
    (case se_InvalidRows => k_is)
    (case hac_InvalidRows => k_is)
    (case mo_InvalidRows => k_is)
    (case t_InvalidRows => k_is)
    (case up_InvalidRows => ks_is)
    (case l_InvalidRows => k_is)
    (case c_InvalidRows => k_is)
    (case cd_InvalidRows => k_is)
    (case ce_InvalidRows => k_is)
    (case a_InvalidRule => k_is)
    (case x_InvalidRule => k_is)
    (case sa_InvalidRule => k_is)
    (case ga_InvalidRule => k_is)
    (case gg_InvalidRule => k_is)
    (case i_InvalidRule => k_is)
    (case k_InvalidRule => k_is)
    (case eb_InvalidRule => k_is)
    (case ev_InvalidRule => k_is)
    (case ty_InvalidRule => k_is)
    (case me_InvalidRule => k_is)
    (case hd_InvalidRule => k_is)
    (case ic_InvalidRule => k_is)
    (case se_InvalidRule => k_is)
    (case hac_InvalidRule => k_is)
    (case mo_InvalidRule => k_is)
    (case t_InvalidRule => k_is)
    (case up_InvalidRule => ks_is)
    (case nf_InvalidRule => k_is)
    (case l_InvalidRule => k_is)
    (case c_InvalidRule => k_is)
    (case cd_InvalidRule => k_is)
    (case ce_InvalidRule => k_is)
    (case a_InvalidWords => k_is)
    (case x_InvalidWords => k_is)
    (case sa_InvalidWords => k_is)
    (case ga_InvalidWords => k_is)
    (case gg_InvalidWords => k_is)
    (case i_InvalidWords => k_is)
    (case k_InvalidWords => k_is)
    (case eb_InvalidWords => k_is)
    (case ev_InvalidWords => k_is)
    (case ty_InvalidWords => k_is)
    (case me_InvalidWords => k_is)
    (case hd_InvalidWords => k_is)
    (case ic_InvalidWords => k_is)
    (case se_InvalidWords => k_is)
    (case hac_InvalidWords => k_is)
    (case mo_InvalidWords => k_is)
    (case t_InvalidWords => k_is)
    (case up_InvalidWords => ks_is)
    (case l_InvalidWords => k_is)
    (case c_InvalidWords => k_is)
    (case cd_InvalidWords => k_is)
    (case ce_InvalidWords => k_is)
    (case opq => k_is)
    (case b_super => k_is)
    (case a_AheadError => k_is)
    (case icA => k_is)
    (case tyA => k_is)
    (case suA => k_is)
    (case n_ur => k_is)
    (case n_wr => k_is)
    (case n_wu => k_is)
    (case icB => k_is)
    (case tyB => k_is)
    (case sl_B => k_is)
    (case v_KEYS => exact (.cons ⟨_, rfl⟩ (.cons ⟨_, rfl⟩ .nil)))
    (case v_WORDS => exact (.cons ⟨_, rfl⟩ (.cons ⟨_, rfl⟩ .nil)))
    (case lo_PARTS => exact (by first | rfl | decide +kernel))
    (case v_PARTS => exact ⟨⟨_, rfl⟩, rfl, rfl, ⟨⟨_, rfl⟩, rfl, rfl, ⟨⟨_, rfl⟩, rfl, rfl, ⟨⟨_, rfl⟩, rfl, rfl, ⟨⟨_, rfl⟩, rfl, rfl, ⟨⟨_, rfl⟩, rfl, rfl, trivial⟩⟩⟩⟩⟩⟩)
    (case r_InvalidRows => exact (by first | rfl | decide +kernel))
    (case vs_InvalidRows => exact (by first | rfl | decide +kernel))
    (case fi_InvalidRows => exact (by first | rfl | decide +kernel))
    (case r_InvalidRule => exact (by first | rfl | decide +kernel))
    (case vs_InvalidRule => exact (by first | rfl | decide +kernel))
    (case fi_InvalidRule => exact (by first | rfl | decide +kernel))
    (case r_InvalidWords => exact (by first | rfl | decide +kernel))
    (case vs_InvalidWords => exact (by first | rfl | decide +kernel))
    (case fi_InvalidWords => exact (by first | rfl | decide +kernel))
    (case htop => exact (by first | rfl | decide +kernel))
    (case l_PARTS0 => k_is)
    (case l_PARTS1 => k_is)
    (case l_PARTS2 => k_is)
    (case l_PARTS3 => k_is)
    (case l_PARTS4 => k_is)
    (case l_PARTS5 => k_is)
    (case v_PARTS0 => exact (.cons ⟨_, rfl⟩ (.cons ⟨_, rfl⟩ .nil)))
    (case v_PARTS1 => exact (.cons ⟨_, rfl⟩ (.cons ⟨_, rfl⟩ .nil)))
    (case v_PARTS2 => exact (.cons ⟨_, rfl⟩ (.cons ⟨_, rfl⟩ .nil)))
    (case v_PARTS3 => exact (.cons ⟨_, rfl⟩ (.cons ⟨_, rfl⟩ .nil)))
    (case v_PARTS4 => exact (.cons ⟨_, rfl⟩ (.cons ⟨_, rfl⟩ (.cons ⟨_, rfl⟩ .nil))))
    (case v_PARTS5 => exact (.cons ⟨_, rfl⟩ (.cons ⟨_, rfl⟩ .nil)))

