import PyProof.Rows.All
import Wide.All
import OpenK.AllK
import Wide.FinOn
import HandS.ForMost
import HandS.Evl
import HandS.Deep
import HandS.IsInst
import HandS.TupAny
import HandS.Star
import HandS.Conv
import HandS.DictTup
import HandS.OwnEq
import HandS.DeepEq
import HandS.DictComp
import HandS.Property
import KE.KEqNest
import HandS.Text
import HandS.Codes
import HandS.Style
import PySem.Challenge.RW_aheadrows_k14_whole_texts
set_option Elab.async false
set_option linter.all false
set_option maxRecDepth 100000
set_option maxHeartbeats 4000000
/-! Ah1: computations over a stable part of the heap. -/
namespace Ah
open PySem PySem.Spec PyProof.Rows L2 Evl

/-! ### the stable part G of a heap H, and how both grow -/
structure Nw (H G G' H' : Hp) : Prop where
  ex : Ex G G'
  le : Ex G' H'
  old : ∀ b, H b ≠ none → G b = none → G' b = none
section
variable {H H1 H2 H' G G1 G2 G' : Hp}
theorem Nw.refl (h : Ex G H) : Nw H G G H := ⟨Ex.refl G, h, fun _ _ e => e⟩
theorem Nw.trans (e : Ex H H1) (a : Nw H G G1 H1) (b : Nw H1 G1 G2 H2) : Nw H G G2 H2 :=
  ⟨a.ex.trans b.ex, b.le, fun c hc hg => b.old c (fun z => by
    cases q : H c with
    | none => exact hc q
    | some o => rw [e c o q] at z; cases z) (a.old c hc hg)⟩
theorem ne_ex {b : Addr} (e : Ex H H1) (h : H b ≠ none) : H1 b ≠ none := fun z => by
  cases q : H b with
  | none => exact h q
  | some o => rw [e b o q] at z; cases z
theorem Nw.new {p : Addr} {o : HO} (h : Ex G H) (hp : H p = none) : Nw H G (upd G p o) (upd H p o) := by
  have gp : G p = none := fresh_back h hp
  refine ⟨Ex.new gp, fun b u e => ?_, fun b hb hg => ?_⟩
  · by_cases hbp : b = p
    · subst hbp; rw [upd_same] at e ⊢; exact e
    · rw [upd_ne hbp] at e ⊢; exact h b u e
  · by_cases hbp : b = p
    · subst hbp; exact absurd hp hb
    · rw [upd_ne hbp]; exact hg
/-- a new object that does not become stable -/
theorem Nw.own {p : Addr} {o : HO} (h : Ex G H) (hp : H p = none) : Nw H G G (upd H p o) :=
  ⟨Ex.refl G, h.trans (Ex.new hp), fun _ _ e => e⟩
def mrg (A B : Hp) : Hp := fun b => match A b with
  | some o => some o
  | none => B b
theorem mrg_some {A B : Hp} {b : Addr} {o : HO} (h : A b = some o) : mrg A B b = some o := by unfold mrg; rw [h]
theorem mrg_none {A B : Hp} {b : Addr} (h : A b = none) : mrg A B b = B b := by unfold mrg; rw [h]
theorem Nw.up (hg : Ex G G1) (h1 : Ex G1 H) (e : Ex H H') (n : Nw H G G' H') : Nw H G1 (mrg G1 G') H' ∧ Ex G' (mrg G1 G') := by
  refine ⟨⟨fun b o h => mrg_some h, fun b o h => ?_, fun b hb hn => ?_⟩, fun b o h => ?_⟩
  · cases q : G1 b with
    | some u => rw [mrg_some q] at h; cases h; exact e b _ (h1 b _ q)
    | none => rw [mrg_none q] at h; exact n.le b o h
  · rw [mrg_none hn]; exact n.old b hb (fresh_back hg hn)
  · cases q : G1 b with
    | some u =>
      rw [mrg_some q]
      have z1 := n.le b o h
      have z2 := e b _ (h1 b _ q)
      rw [z1] at z2
      exact z2.symm
    | none => rw [mrg_none q]; exact h
end

/-! ### what holds of a result, whatever is added -/
structure MP (α : Type) where
  p : α → Hp → Prop
  mono : ∀ {a : α} {G G' : Hp}, Ex G G' → p a G → p a G'

def Cm {α : Type} (t : Hp → (α → Hp → Prop) → Prop) (G : Hp) (P : MP α) : Prop :=
  ∀ H, Ex G H → ∀ Q : α → Hp → Prop, (∀ a G' H', Ex H H' → Nw H G G' H' → P.p a G' → Q a H') → t H Q
section
variable {α β : Type} {t : Hp → (α → Hp → Prop) → Prop} {u : α → Hp → (β → Hp → Prop) → Prop} {G G1 : Hp} {P P' : MP α} {R : MP β}
theorem Cm.ret {a : α} (h : P.p a G) : Cm (fun H Q => Q a H) G P := fun H e Q q => q a G H (Ex.refl H) (Nw.refl e) h
theorem Cm.bind (h : Cm t G P) (k : ∀ a G1, Ex G G1 → P.p a G1 → Cm (u a) G1 R) : Cm (fun H Q => t H fun a H1 => u a H1 Q) G R := fun H e Q q =>
  h H e _ fun a G1 H1 e1 n1 p1 => k a G1 n1.ex p1 H1 n1.le Q fun b G2 H2 e2 n2 r2 => q b G2 H2 (e1.trans e2) (n1.trans e1 n2) r2
theorem Cm.up (h : Cm t G P) (hg : Ex G G1) : Cm t G1 P := fun H e Q q =>
  h H (hg.trans e) Q fun a G' H' e1 n1 p1 => by
    obtain ⟨n2, x2⟩ := n1.up hg e e1
    exact q a _ H' e1 n2 (P.mono x2 p1)
theorem Cm.imp (h : Cm t G P) (k : ∀ a G', Ex G G' → P.p a G' → P'.p a G') : Cm t G P' := fun H e Q q => h H e Q fun a G' H' e1 n1 p1 => q a G' H' e1 n1 (k a G' n1.ex p1)
end

/-! ### data -/
mutual
theorem Dp.up {K : PySem.W.Frag} {G G' : Hp} (e : Ex G G') : ∀ (d : PyData) (v : V), Dp K G v d → Dp K G' v d
  | .none, _, h => by cases h; exact .non
  | .bool b, _, h => by cases h; exact .bl b
  | .int i, _, h => by cases h; exact .int i
  | .str x, _, h => by cases h; exact .str x
  | .list ds, _, h => by
    cases h with
    | lst a b => exact .lst (ex_l e a) (DpAll.up e ds _ b)
  | .tuple ds, _, h => by
    cases h with
    | tup a b => exact .tup (ex_t e a) (DpAll.up e ds _ b)
  | .dict _, _, h => by cases h
theorem DpAll.up {K : PySem.W.Frag} {G G' : Hp} (e : Ex G G') : ∀ (ds : List PyData) (vs : List V), DpAll K G vs ds → DpAll K G' vs ds
  | [], _, h => by cases h; exact .nil
  | d :: ds, _, h => by
    cases h with
    | cons a b => exact .cons (Dp.up e d _ a) (DpAll.up e ds _ b)
end
theorem DpAll.length {K : PySem.W.Frag} {G : Hp} : ∀ {ds : List PyData} {vs : List V}, DpAll K G vs ds → vs.length = ds.length
  | [], _, h => by cases h; rfl
  | d :: ds, _, h => by
    cases h with
    | cons a b => rw [List.length_cons, List.length_cons, DpAll.length b]
theorem DpAll.get {K : PySem.W.Frag} {G : Hp} : ∀ {ds : List PyData} {vs : List V} {i : Nat} {d : PyData}, DpAll K G vs ds → ds[i]? = some d → ∃ v, vs[i]? = some v ∧ Dp K G v d
  | [], _, _, _, _, e => by simp at e
  | d :: ds, _, 0, _, h, e => by
    cases h with
    | cons a b => simp at e; subst e; exact ⟨_, rfl, a⟩
  | d :: ds, _, i + 1, _, h, e => by
    cases h with
    | cons a b =>
      obtain ⟨v, h1, h2⟩ := DpAll.get (i := i) b (by simpa using e)
      exact ⟨v, by simpa using h1, h2⟩
theorem DpAll.at_ {K : PySem.W.Frag} {G : Hp} : ∀ {ds : List PyData} {vs : List V} {i : Nat} {v : V}, DpAll K G vs ds → vs[i]? = some v → ∃ d, ds[i]? = some d ∧ Dp K G v d
  | [], _, _, _, h, e => by cases h; simp at e
  | d :: ds, _, 0, _, h, e => by
    cases h with
    | cons a b => simp at e; subst e; exact ⟨_, rfl, a⟩
  | d :: ds, _, i + 1, _, h, e => by
    cases h with
    | cons a b =>
      obtain ⟨v, h1, h2⟩ := DpAll.at_ (i := i) b (by simpa using e)
      exact ⟨v, by simpa using h1, h2⟩
theorem DpAll.app {K : PySem.W.Frag} {G : Hp} : ∀ {ds es : List PyData} {vs us : List V}, DpAll K G vs ds → DpAll K G us es → DpAll K G (vs ++ us) (ds ++ es)
  | [], _, _, _, h, k => by cases h; exact k
  | d :: ds, _, _, _, h, k => by
    cases h with
    | cons a b => exact .cons a (DpAll.app b k)
theorem DpAll.take {K : PySem.W.Frag} {G : Hp} : ∀ (n : Nat) {ds : List PyData} {vs : List V}, DpAll K G vs ds → DpAll K G (vs.take n) (ds.take n)
  | 0, _, _, _ => by rw [List.take_zero, List.take_zero]; exact .nil
  | n + 1, [], _, h => by cases h; exact .nil
  | n + 1, d :: ds, _, h => by
    cases h with
    | cons a b => exact .cons a (DpAll.take n b)
theorem DpAll.drop {K : PySem.W.Frag} {G : Hp} : ∀ (n : Nat) {ds : List PyData} {vs : List V}, DpAll K G vs ds → DpAll K G (vs.drop n) (ds.drop n)
  | 0, _, _, h => h
  | n + 1, [], _, h => by cases h; exact .nil
  | n + 1, d :: ds, _, h => by
    cases h with
    | cons a b => exact DpAll.drop n b
section
variable {K : PySem.W.Frag}
abbrev MP.d (K : PySem.W.Frag) (d : PyData) : MP V := ⟨fun v G => Dp K G v d, fun e h => Dp.up e d _ h⟩
abbrev MP.ds (K : PySem.W.Frag) (ds : List PyData) : MP (List V) := ⟨fun vs G => DpAll K G vs ds, fun e h => DpAll.up e ds _ h⟩
abbrev MP.eq {α : Type} (a : α) : MP α := ⟨fun b _ => b = a, fun _ h => h⟩
/-- arguments of any kind -/
inductive AllP : List V → List (MP V) → Hp → Prop where
  | nil {G : Hp} : AllP [] [] G
  | cons {v : V} {vs : List V} {P : MP V} {Ps : List (MP V)} {G : Hp} : P.p v G → AllP vs Ps G → AllP (v :: vs) (P :: Ps) G
theorem AllP.up {G G' : Hp} (e : Ex G G') : ∀ {Ps : List (MP V)} {vs : List V}, AllP vs Ps G → AllP vs Ps G'
  | [], _, h => by cases h; exact .nil
  | P :: Ps, _, h => by
    cases h with
    | cons a b => exact .cons (P.mono e a) (AllP.up e b)
theorem AllP.length {G : Hp} : ∀ {Ps : List (MP V)} {vs : List V}, AllP vs Ps G → vs.length = Ps.length
  | [], _, h => by cases h; rfl
  | P :: Ps, _, h => by
    cases h with
    | cons a b => rw [List.length_cons, List.length_cons, AllP.length b]
abbrev MP.args (Ps : List (MP V)) : MP (List V) := ⟨fun vs G => AllP vs Ps G, fun e h => AllP.up e h⟩
end

/-! ### expressions -/
section
variable {K : PySem.W.Frag} {σ : L2.St} {G : Hp} {ta tb te : TE} {tt tu : TT} {P P1 P2 : MP V} {v : V} {d e : PyData} {ds es : List PyData}
theorem c_var {i : Nat} (h : σ[i]? = some (some v)) (p : P.p v G) : Cm (tVar i σ) G P := fun H x Q q => ⟨v, h, q v G H (Ex.refl H) (Nw.refl x) p⟩
theorem c_c (p : P.p v G) : Cm (tC v σ) G P := fun H x Q q => q v G H (Ex.refl H) (Nw.refl x) p
theorem c_int {i : Int} : Cm (tC (.int i) σ) G (MP.d K (.int i)) := c_c (.int i)
theorem c_str {s : Str} : Cm (tC (.str s) σ) G (MP.d K (.str s)) := c_c (.str s)
theorem c_bl {b : Bool} : Cm (tC (.bl b) σ) G (MP.d K (.bool b)) := c_c (.bl b)
theorem c_non : Cm (tC .non σ) G (MP.d K .none) := c_c .non
/-- a two-place operation -/
theorem c_op {r : R2} (ha : Cm (ta σ) G P1) (hb : Cm (tb σ) G P2) (hr : ∀ x y G1, Ex G G1 → P1.p x G1 → P2.p y G1 → Cm (r x y) G1 P) : Cm (tOp r ta tb σ) G P :=
  Cm.bind (t := ta σ) (u := fun x H Q => tb σ H fun y H2 => r x y H2 Q) ha fun x G1 e1 p1 => Cm.bind (t := tb σ) (u := fun y H Q => r x y H Q) (hb.up e1) fun y G2 e2 p2 => hr x y G2 (e1.trans e2) (P1.mono e2 p1) p2
theorem c_un {r : V → Hp → VK → Prop} (ha : Cm (ta σ) G P1) (hr : ∀ x G1, Ex G G1 → P1.p x G1 → Cm (r x) G1 P) : Cm (tUn r ta σ) G P := Cm.bind (t := ta σ) (u := fun x H Q => r x H Q) ha hr
theorem c_nil : Cm (tNil σ) G (MP.args []) := Cm.ret .nil
theorem c_cons {tr : TA} {Ps : List (MP V)} (ha : Cm (ta σ) G P) (hr : Cm (tr σ) G (MP.args Ps)) : Cm (tCons ta tr σ) G (MP.args (P :: Ps)) :=
  Cm.bind (t := ta σ) (u := fun x H Q => tr σ H fun xs H2 => Q (x :: xs) H2) ha fun x G1 e1 p1 => Cm.bind (t := tr σ) (u := fun xs H Q => Q (x :: xs) H) (hr.up e1) fun xs G2 e2 p2 => Cm.ret (.cons (P.mono e2 p1) p2)
/-- arguments that are data -/
theorem allD {G : Hp} {vs : List V} : ∀ {ds : List PyData}, AllP vs (ds.map (MP.d K)) G → DpAll K G vs ds := fun {ds} h => by
  induction ds generalizing vs with
  | nil => cases h; exact .nil
  | cons d ds ih =>
    cases h with
    | cons a b => exact .cons a (ih b)
theorem c_dnil : Cm (tNil σ) G (MP.ds K []) := Cm.ret .nil
theorem c_dcons {tr : TA} (ha : Cm (ta σ) G (MP.d K d)) (hr : Cm (tr σ) G (MP.ds K ds)) : Cm (tCons ta tr σ) G (MP.ds K (d :: ds)) :=
  Cm.bind (t := ta σ) (u := fun x H Q => tr σ H fun xs H2 => Q (x :: xs) H2) ha fun x G1 e1 p1 => Cm.bind (t := tr σ) (u := fun xs H Q => Q (x :: xs) H) (hr.up e1) fun xs G2 e2 p2 => Cm.ret (.cons (Dp.up e2 _ _ p1) p2)
/-- a new object -/
theorem c_new {o : HO} (h : ∀ p, G p = none → P.p (.ref p) (upd G p o)) : Cm (fun H Q => ∀ p, H p = none → Q (.ref p) (upd H p o)) G P := fun H x Q q p hp =>
  q _ (upd G p o) _ (Ex.new hp) (Nw.new x hp) (h p (fresh_back x hp))
theorem dp_new_tup {p : Addr} {vs : List V} (hp : G p = none) (h : DpAll K G vs ds) : Dp K (upd G p (.tup vs)) (.ref p) (.tuple ds) := .tup (SqT.of upd_same) (DpAll.up (Ex.new hp) _ _ h)
theorem dp_new_lst {p : Addr} {vs : List V} (hp : G p = none) (h : DpAll K G vs ds) : Dp K (upd G p (.lst vs)) (.ref p) (.list ds) := .lst (SqL.of upd_same) (DpAll.up (Ex.new hp) _ _ h)
theorem sz (h : ds.length ≤ 100000) {vs : List V} (a : DpAll K G vs ds) : vs.length ≤ sizeLine := by rw [DpAll.length a]; exact sz_of h
theorem c_and {α : Type} {A : Prop} {t : Hp → (α → Hp → Prop) → Prop} {R : MP α} (h : A) (k : Cm t G R) : Cm (fun H Q => A ∧ t H Q) G R := fun H x Q q => ⟨h, k H x Q q⟩
theorem c_tup {t : TA} (h : Cm (t σ) G (MP.ds K ds)) (hl : ds.length ≤ 100000) : Cm (tTup t σ) G (MP.d K (.tuple ds)) :=
  Cm.bind (t := t σ) (u := fun (xs : List V) (H1 : Hp) (Q : V → Hp → Prop) => xs.length ≤ sizeLine ∧ ∀ p, H1 p = none → Q (V.ref p) (upd H1 p (.tup xs))) h fun xs G1 e1 p1 => c_and (sz hl p1) (c_new fun p hp => dp_new_tup hp p1)
theorem c_lst {t : TA} (h : Cm (t σ) G (MP.ds K ds)) (hl : ds.length ≤ 100000) : Cm (tLst t σ) G (MP.d K (.list ds)) :=
  Cm.bind (t := t σ) (u := fun (xs : List V) (H1 : Hp) (Q : V → Hp → Prop) => xs.length ≤ sizeLine ∧ ∀ p, H1 p = none → Q (V.ref p) (upd H1 p (.lst xs))) h fun xs G1 e1 p1 => c_and (sz hl p1) (c_new fun p hp => dp_new_lst hp p1)
theorem dp_tup {a : V} (h : Dp K G a (.tuple ds)) : ∃ p xs, a = .ref p ∧ SqT K G p xs ∧ DpAll K G xs ds := by cases h with | tup h1 h2 => exact ⟨_, _, rfl, h1, h2⟩
theorem dp_lst {a : V} (h : Dp K G a (.list ds)) : ∃ p xs, a = .ref p ∧ SqL K G p xs ∧ DpAll K G xs ds := by cases h with | lst h1 h2 => exact ⟨_, _, rfl, h1, h2⟩
theorem dp_int {a : V} {i : Int} (h : Dp K G a (.int i)) : a = .int i := by cases h; rfl
theorem dp_bl {a : V} {i : Bool} (h : Dp K G a (.bool i)) : a = .bl i := by cases h; rfl
theorem dp_str {a : V} {i : Str} (h : Dp K G a (.str i)) : a = .str i := by cases h; rfl
theorem dp_non {a : V} (h : Dp K G a .none) : a = .non := by cases h; rfl
end
end Ah
/-! Ah2: operators of any kind, and what they give on data. -/
namespace Ah
open PySem PySem.Spec PyProof.Rows L2 Evl

/-! ### union rules -/
def rAddS : R2 := fun x y H Q => ∃ i j, x = .str i ∧ y = .str j ∧ i.length + j.length ≤ sizeLine ∧ Q (.str (i ++ j)) H
def rAddG (K : PySem.W.Frag) : R2 := fun x y H Q => rI0 (fun i j => .int (i + j)) x y H Q ∨ rAddS x y H Q ∨ rCat x y H Q ∨ rCatA K x y H Q
def rInG (K : PySem.W.Frag) (neg : Bool) : R2 := fun x y H Q => ∃ d ds, Dp K H x d ∧ (Dp K H y (.list ds) ∨ Dp K H y (.tuple ds)) ∧ SeqAt.shaped d = true ∧ SeqAt.shaped (.list ds) = true ∧
  Q (.bl (if neg then !(ds.any fun z => PyData.eqv z d) else ds.any fun z => PyData.eqv z d)) H
def rLenG (K : PySem.W.Frag) : List V → Hp → VK → Prop := fun xs H Q => ∃ x n, xs = [x] ∧ LenV K x H n ∧ Q (.int n) H
def rIsiG (K : PySem.W.Frag) : List V → Hp → VK → Prop := fun xs H Q => rIsi K xs H Q ∨ rIsiT K xs H Q
def rSlG (K : PySem.W.Frag) : V → Option Int → Option Int → Hp → VK → Prop := fun x lo hi H Q => rSlL K x lo hi H Q ∨ rSlA K x lo hi H Q
def rMax2 : List V → Hp → VK → Prop := fun xs H Q => ∃ i j, xs = [.int i, .int j] ∧ Q (.int (if j > i then j else i)) H
def rIntG : List V → Hp → VK → Prop := fun xs H Q => (∃ i, xs = [.int i] ∧ Q (.int i) H) ∨ ∃ k, xs = [.bl k] ∧ Q (.int (if k then 1 else 0)) H
def rListG (K : PySem.W.Frag) : List V → Hp → VK → Prop := fun xs H Q => ∃ p ys, xs = [.ref p] ∧ (SqL K H p ys ∨ SqT K H p ys) ∧ ∀ l, H l = none → Q (.ref l) (upd H l (.lst ys))
def rTupG (K : PySem.W.Frag) : List V → Hp → VK → Prop := fun xs H Q => ∃ p ys, xs = [.ref p] ∧ ((SqL K H p ys ∧ ∀ l, H l = none → Q (.ref l) (upd H l (.tup ys))) ∨ (SqT K H p ys ∧ Q (.ref p) H))
def rStrI : List V → Hp → VK → Prop := fun xs H Q => ∃ i, xs = [.int i] ∧ i.natAbs.log2 < 1920 ∧ Q (.str (toString i)) H
abbrev rIsN : R2 := fun x y H Q => y = .non ∧ Q (.bl (decide (x = .non))) H
abbrev rNotN : R2 := fun x y H Q => y = .non ∧ Q (.bl (!decide (x = .non))) H
abbrev rSubI : R2 := rI0 fun i j => .int (i - j)
abbrev rMulI : R2 := rI CMul fun i j => .int (i * j)
abbrev rDivI : R2 := rI CDivN fun i j => .int (i.fdiv j)
abbrev rModI : R2 := rI (fun _ j => j ≠ 0) fun i j => .int (i.fmod j)
abbrev rPowI : R2 := rI CPow fun i j => .int (i ^ j.toNat)
abbrev rLtI : R2 := rI0 fun i j => .bl (decide (i < j))
abbrev rLeI : R2 := rI0 fun i j => .bl (decide (i ≤ j))
abbrev rGtI : R2 := rI0 fun i j => .bl (decide (j < i))
abbrev rGeI : R2 := rI0 fun i j => .bl (decide (j ≤ i))
section
variable {X : Cx}
theorem op_addG : OpR X (binaryOp .Add) (rAddG X.K) := op_add.or (OpR.or op_add_str (OpR.or op_cat op_catA))
theorem op_inG (hu : X.A.units + 65 < cLine) : OpR X (compareOp .In) (rInG X.K false) := by
  intro pins s σ H x y v u Q I rx ry h
  obtain ⟨d, ds, hd, he, sd, se, q⟩ := h
  obtain ⟨as, r1⟩ := Dp.reads I d x v hd rx
  rcases he with he | he
  · obtain ⟨bs, r2⟩ := Dp.reads I (.list ds) y u he ry
    exact SeqAt.in_list_reads r2 r1 (SeqAt.canLay_of_shaped se) (SeqAt.canLay_of_shaped sd) (room_in_shaped sd hu) ⟨.bl _, H, I, rfl, q⟩
  · obtain ⟨bs, r2⟩ := Dp.reads I (.tuple ds) y u he ry
    exact SeqAt.in_tuple_reads r2 r1 (SeqAt.canLay_of_shaped se) (SeqAt.canLay_of_shaped sd) (room_in_shaped sd hu) ⟨.bl _, H, I, rfl, q⟩
theorem op_notInG (hu : X.A.units + 65 < cLine) : OpR X (compareOp .NotIn) (rInG X.K true) := by
  intro pins s σ H x y v u Q I rx ry h
  obtain ⟨d, ds, hd, he, sd, se, q⟩ := h
  obtain ⟨as, r1⟩ := Dp.reads I d x v hd rx
  rcases he with he | he
  · obtain ⟨bs, r2⟩ := Dp.reads I (.list ds) y u he ry
    exact SeqAt.notIn_list_reads r2 r1 (SeqAt.canLay_of_shaped se) (SeqAt.canLay_of_shaped sd) (room_in_shaped sd hu) ⟨.bl _, H, I, rfl, q⟩
  · obtain ⟨bs, r2⟩ := Dp.reads I (.tuple ds) y u he ry
    exact SeqAt.notIn_tuple_reads r2 r1 (SeqAt.canLay_of_shaped se) (SeqAt.canLay_of_shaped sd) (room_in_shaped sd hu) ⟨.bl _, H, I, rfl, q⟩
theorem call_lenG : CallR X (.builtin "len") (rLenG X.K) := call_len
theorem call_isiG : CallR X (.builtin "isinstance") (rIsiG X.K) := by
  intro pins s σ H xs us Q I r h
  rcases h with h | h
  · exact call_isi pins s σ H xs us Q I r h
  · exact call_isiT pins s σ H xs us Q I r h
theorem sl_G : SlR X (rSlG X.K) := by
  intro pins s σ H x v vl vu lo hi sl Q I rx hs pl pu h
  rcases h with h | h
  · exact sl_list pins s σ H x v vl vu lo hi sl Q I rx hs pl pu h
  · exact sl_tupA pins s σ H x v vl vu lo hi sl Q I rx hs pl pu h
theorem call_max2G (hc : X.calm = true) : CallR X (.builtin "max") rMax2 := call_max2 hc
theorem call_intG : CallR X (.type "int") rIntG := call_int1
theorem call_listG : CallR X (.type "list") (rListG X.K) := call_list_of
theorem call_tupG : CallR X (.type "tuple") (rTupG X.K) := call_tuple_of
theorem call_strI : CallR X (.type "str") rStrI := call_str_int
end

/-! ### on data -/
section
variable {K : PySem.W.Frag} {σ : L2.St} {G : Hp} {ta tb te : TE} {tt tu : TT} {P P1 P2 : MP V} {v : V} {d e : PyData} {ds es : List PyData}
theorem shaped_lst {d : PyData} (h : SeqAt.shaped d = true) : SeqAt.shaped d = true := h
/-- v op w gives z, the heap unchanged -/
theorem c_val {r : R2} {x y z : V} {G : Hp} {P : MP V} (h : ∀ H, Ex G H → ∀ Q : VK, Q z H → r x y H Q) (p : P.p z G) : Cm (r x y) G P := fun H e Q q => h H e Q (q z G H (Ex.refl H) (Nw.refl e) p)
theorem c_eq (ha : Cm (ta σ) G (MP.d K d)) (hb : Cm (tb σ) G (MP.d K e)) (sd : SeqAt.shaped d = true) (se : SeqAt.shaped e = true) : Cm (tOp (rEqD K) ta tb σ) G (MP.d K (.bool (PyData.eqv d e))) :=
  c_op ha hb fun x y G1 e1 p q => c_val (z := .bl (PyData.eqv d e)) (fun H eh Q h => ⟨d, e, Dp.up eh _ _ p, Dp.up eh _ _ q, sd, se, h⟩) (.bl _)
theorem c_ne (ha : Cm (ta σ) G (MP.d K d)) (hb : Cm (tb σ) G (MP.d K e)) (sd : SeqAt.shaped d = true) (se : SeqAt.shaped e = true) : Cm (tOp (rNeD K) ta tb σ) G (MP.d K (.bool (!PyData.eqv d e))) :=
  c_op ha hb fun x y G1 e1 p q => c_val (z := .bl (!PyData.eqv d e)) (fun H eh Q h => ⟨d, e, Dp.up eh _ _ p, Dp.up eh _ _ q, sd, se, h⟩) (.bl _)
theorem c_inL {n : Bool} (ha : Cm (ta σ) G (MP.d K d)) (hb : Cm (tb σ) G (MP.d K (.list ds))) (sd : SeqAt.shaped d = true) (se : SeqAt.shaped (.list ds) = true) :
    Cm (tOp (rInG K n) ta tb σ) G (MP.d K (.bool (if n then !(ds.any fun z => PyData.eqv z d) else ds.any fun z => PyData.eqv z d))) :=
  c_op ha hb fun x y G1 e1 p q => c_val (z := .bl _) (fun H eh Q h => ⟨d, ds, Dp.up eh _ _ p, .inl (Dp.up eh _ _ q), sd, se, h⟩) (.bl _)
theorem c_inT {n : Bool} (ha : Cm (ta σ) G (MP.d K d)) (hb : Cm (tb σ) G (MP.d K (.tuple ds))) (sd : SeqAt.shaped d = true) (se : SeqAt.shaped (.list ds) = true) :
    Cm (tOp (rInG K n) ta tb σ) G (MP.d K (.bool (if n then !(ds.any fun z => PyData.eqv z d) else ds.any fun z => PyData.eqv z d))) :=
  c_op ha hb fun x y G1 e1 p q => c_val (z := .bl _) (fun H eh Q h => ⟨d, ds, Dp.up eh _ _ p, .inr (Dp.up eh _ _ q), sd, se, h⟩) (.bl _)
theorem c_isN (ha : Cm (ta σ) G (MP.d K d)) : Cm (tOp rIsN ta (tC .non) σ) G (MP.d K (.bool (match d with | .none => true | _ => false))) :=
  c_op (P2 := MP.d K .none) ha c_non fun x y G1 e1 p q => by
    have hy := dp_non q
    subst hy
    refine c_val (z := .bl _) (fun H eh Q h => ⟨rfl, ?_⟩) (.bl _)
    cases p <;> exact h
theorem c_notN (ha : Cm (ta σ) G (MP.d K d)) : Cm (tOp rNotN ta (tC .non) σ) G (MP.d K (.bool (match d with | .none => false | _ => true))) :=
  c_op (P2 := MP.d K .none) ha c_non fun x y G1 e1 p q => by
    have hy := dp_non q
    subst hy
    refine c_val (z := .bl _) (fun H eh Q h => ⟨rfl, ?_⟩) (.bl _)
    cases p <;> exact h
/-- ints -/
theorem c_I0 {g : Int → Int → V} {i j : Int} {z : PyData} (ha : Cm (ta σ) G (MP.d K (.int i))) (hb : Cm (tb σ) G (MP.d K (.int j))) (hz : ∀ G, Dp K G (g i j) z) : Cm (tOp (rI0 g) ta tb σ) G (MP.d K z) :=
  c_op ha hb fun x y G1 e1 p q => by
    rw [dp_int p, dp_int q]
    exact c_val (z := g i j) (fun H eh Q h => ⟨i, j, rfl, rfl, h⟩) (hz G1)
theorem c_I {C : Int → Int → Prop} {g : Int → Int → V} {i j : Int} {z : PyData} (ha : Cm (ta σ) G (MP.d K (.int i))) (hb : Cm (tb σ) G (MP.d K (.int j))) (hc : C i j) (hz : ∀ G, Dp K G (g i j) z) : Cm (tOp (rI C g) ta tb σ) G (MP.d K z) :=
  c_op ha hb fun x y G1 e1 p q => by
    rw [dp_int p, dp_int q]
    exact c_val (z := g i j) (fun H eh Q h => ⟨i, j, rfl, rfl, hc, h⟩) (hz G1)
theorem c_addI {i j : Int} (ha : Cm (ta σ) G (MP.d K (.int i))) (hb : Cm (tb σ) G (MP.d K (.int j))) : Cm (tOp (rAddG K) ta tb σ) G (MP.d K (.int (i + j))) :=
  c_op ha hb fun x y G1 e1 p q => by
    rw [dp_int p, dp_int q]
    exact c_val (z := .int (i + j)) (fun H eh Q h => .inl ⟨i, j, rfl, rfl, h⟩) (.int _)
theorem c_addS {i j : Str} (ha : Cm (ta σ) G (MP.d K (.str i))) (hb : Cm (tb σ) G (MP.d K (.str j))) (hl : i.length + j.length ≤ 100000) : Cm (tOp (rAddG K) ta tb σ) G (MP.d K (.str (i ++ j))) :=
  c_op ha hb fun x y G1 e1 p q => by
    rw [dp_str p, dp_str q]
    exact c_val (z := .str (i ++ j)) (fun H eh Q h => .inr (.inl ⟨i, j, rfl, rfl, sz_of hl, h⟩)) (.str _)
theorem c_addT (ha : Cm (ta σ) G (MP.d K (.tuple ds))) (hb : Cm (tb σ) G (MP.d K (.tuple es))) (hl : ds.length + es.length ≤ 100000) : Cm (tOp (rAddG K) ta tb σ) G (MP.d K (.tuple (ds ++ es))) :=
  c_op ha hb fun x y G1 e1 p q => by
    obtain ⟨a, xs, rfl, h1, h2⟩ := dp_tup p
    obtain ⟨b, ys, rfl, k1, k2⟩ := dp_tup q
    intro H eh Q hq
    refine .inr (.inr (.inr ⟨a, b, xs, ys, rfl, rfl, ex_t eh h1, ex_t eh k1, by rw [DpAll.length h2, DpAll.length k2]; exact sz_of hl, fun e => ?_, fun _ e => ?_, fun _ _ p' hp => ?_⟩))
    · subst e
      cases h2
      exact hq _ G1 H (Ex.refl H) (Nw.refl eh) (.tup k1 k2)
    · subst e
      cases k2
      rw [List.append_nil] at hq
      exact hq _ G1 H (Ex.refl H) (Nw.refl eh) (.tup h1 h2)
    · exact hq _ _ _ (Ex.new hp) (Nw.new eh hp) (dp_new_tup (fresh_back eh hp) (DpAll.app h2 k2))
/-- a stable list that may be read from the heap itself -/
theorem c_ixL {i : Int} (ha : Cm (ta σ) G (MP.d K (.list ds))) (hb : Cm (tb σ) G (MP.d K (.int i))) (hd : atI ds i = some d) : Cm (tOp (rIx K) ta tb σ) G (MP.d K d) :=
  c_op ha hb fun x y G1 e1 p q => by
    obtain ⟨a, xs, rfl, h1, h2⟩ := dp_lst p
    rw [dp_int q]
    have hl := DpAll.length h2
    unfold atI at hd
    rw [← hl] at hd
    obtain ⟨j, hj, hd⟩ := Option.bind_eq_some_iff.mp hd
    obtain ⟨z, hz, pz⟩ := DpAll.get h2 hd
    refine c_val (z := z) (fun H eh Q h => .inl ⟨a, xs, i, z, rfl, rfl, ex_l eh h1, ?_, h⟩) pz
    unfold atI
    rw [hj]
    exact hz
theorem c_ixT {i : Int} (ha : Cm (ta σ) G (MP.d K (.tuple ds))) (hb : Cm (tb σ) G (MP.d K (.int i))) (hd : atI ds i = some d) : Cm (tOp (rIx K) ta tb σ) G (MP.d K d) :=
  c_op ha hb fun x y G1 e1 p q => by
    obtain ⟨a, xs, rfl, h1, h2⟩ := dp_tup p
    rw [dp_int q]
    have hl := DpAll.length h2
    unfold atI at hd
    rw [← hl] at hd
    obtain ⟨j, hj, hd⟩ := Option.bind_eq_some_iff.mp hd
    obtain ⟨z, hz, pz⟩ := DpAll.get h2 hd
    refine c_val (z := z) (fun H eh Q h => .inr (.inl ⟨a, xs, i, z, rfl, rfl, ex_t eh h1, ?_, h⟩)) pz
    unfold atI
    rw [hj]
    exact hz
/-- one-argument calls -/
theorem c_cb1 {r : List V → Hp → VK → Prop} (ha : Cm (ta σ) G P1) (hr : ∀ x G1, Ex G G1 → P1.p x G1 → Cm (r [x]) G1 P) : Cm (tCB r (tCons ta tNil) σ) G P :=
  Cm.bind (t := ta σ) (u := fun x H Q => r [x] H Q) ha hr
theorem c_cb2 {r : List V → Hp → VK → Prop} (ha : Cm (ta σ) G P1) (hb : Cm (tb σ) G P2) (hr : ∀ x y G1, Ex G G1 → P1.p x G1 → P2.p y G1 → Cm (r [x, y]) G1 P) : Cm (tCB r (tCons ta (tCons tb tNil)) σ) G P :=
  Cm.bind (t := ta σ) (u := fun x H Q => tb σ H fun y H2 => r [x, y] H2 Q) ha fun x G1 e1 p1 => Cm.bind (t := tb σ) (u := fun y H Q => r [x, y] H Q) (hb.up e1) fun y G2 e2 p2 => hr x y G2 (e1.trans e2) (P1.mono e2 p1) p2
theorem c_valN {r : List V → Hp → VK → Prop} {xs : List V} {z : V} {G : Hp} {P : MP V} (h : ∀ H, Ex G H → ∀ Q : VK, Q z H → r xs H Q) (p : P.p z G) : Cm (r xs) G P := fun H e Q q => h H e Q (q z G H (Ex.refl H) (Nw.refl e) p)
theorem c_lenL (ha : Cm (ta σ) G (MP.d K (.list ds))) : Cm (tCB (rLenG K) (tCons ta tNil) σ) G (MP.d K (.int ds.length)) :=
  c_cb1 ha fun x G1 e1 p => by
    obtain ⟨a, xs, rfl, h1, h2⟩ := dp_lst p
    refine c_valN (z := .int xs.length) (fun H eh Q h => ⟨_, xs.length, rfl, .inl ⟨xs, ex_l eh h1, rfl⟩, h⟩) ?_
    rw [DpAll.length h2]
    exact .int _
theorem c_lenT (ha : Cm (ta σ) G (MP.d K (.tuple ds))) : Cm (tCB (rLenG K) (tCons ta tNil) σ) G (MP.d K (.int ds.length)) :=
  c_cb1 ha fun x G1 e1 p => by
    obtain ⟨a, xs, rfl, h1, h2⟩ := dp_tup p
    refine c_valN (z := .int xs.length) (fun H eh Q h => ⟨_, xs.length, rfl, .inr ⟨xs, ex_t eh h1, rfl⟩, h⟩) ?_
    rw [DpAll.length h2]
    exact .int _
theorem c_intI {i : Int} (ha : Cm (ta σ) G (MP.d K (.int i))) : Cm (tCB rIntG (tCons ta tNil) σ) G (MP.d K (.int i)) :=
  c_cb1 ha fun x G1 e1 p => by
    rw [dp_int p]
    exact c_valN (z := .int i) (fun H eh Q h => .inl ⟨i, rfl, h⟩) (.int _)
theorem c_intB {b : Bool} (ha : Cm (ta σ) G (MP.d K (.bool b))) : Cm (tCB rIntG (tCons ta tNil) σ) G (MP.d K (.int (if b then 1 else 0))) :=
  c_cb1 ha fun x G1 e1 p => by
    rw [dp_bl p]
    exact c_valN (z := .int (if b then 1 else 0)) (fun H eh Q h => .inr ⟨b, rfl, h⟩) (.int _)
theorem c_strI {i : Int} (ha : Cm (ta σ) G (MP.d K (.int i))) (hi : i.natAbs.log2 < 1920) : Cm (tCB rStrI (tCons ta tNil) σ) G (MP.d K (.str (toString i))) :=
  c_cb1 ha fun x G1 e1 p => by
    rw [dp_int p]
    exact c_valN (z := .str (toString i)) (fun H eh Q h => ⟨i, rfl, hi, h⟩) (.str _)
theorem c_max2 {i j : Int} (ha : Cm (ta σ) G (MP.d K (.int i))) (hb : Cm (tb σ) G (MP.d K (.int j))) : Cm (tCB rMax2 (tCons ta (tCons tb tNil)) σ) G (MP.d K (.int (if j > i then j else i))) :=
  c_cb2 ha hb fun x y G1 e1 p q => by
    rw [dp_int p, dp_int q]
    exact c_valN (z := .int (if j > i then j else i)) (fun H eh Q h => ⟨i, j, rfl, h⟩) (.int _)
theorem c_newV {o : HO} {G : Hp} {P : MP V} {r : Hp → VK → Prop} (hr : ∀ H, Ex G H → ∀ Q : VK, (∀ p, H p = none → Q (.ref p) (upd H p o)) → r H Q) (h : ∀ p, G p = none → P.p (.ref p) (upd G p o)) : Cm r G P := fun H e Q q =>
  hr H e Q fun p hp => q _ _ _ (Ex.new hp) (Nw.new e hp) (h p (fresh_back e hp))
theorem c_listL (ha : Cm (ta σ) G (MP.d K (.list ds))) : Cm (tCB (rListG K) (tCons ta tNil) σ) G (MP.d K (.list ds)) :=
  c_cb1 ha fun x G1 e1 p => by
    obtain ⟨a, xs, rfl, h1, h2⟩ := dp_lst p
    exact c_newV (o := .lst xs) (fun H eh Q h => ⟨a, xs, rfl, .inl (ex_l eh h1), h⟩) fun p hp => dp_new_lst hp h2
theorem c_listT (ha : Cm (ta σ) G (MP.d K (.tuple ds))) : Cm (tCB (rListG K) (tCons ta tNil) σ) G (MP.d K (.list ds)) :=
  c_cb1 ha fun x G1 e1 p => by
    obtain ⟨a, xs, rfl, h1, h2⟩ := dp_tup p
    exact c_newV (o := .lst xs) (fun H eh Q h => ⟨a, xs, rfl, .inr (ex_t eh h1), h⟩) fun p hp => dp_new_lst hp h2
theorem c_tupL (ha : Cm (ta σ) G (MP.d K (.list ds))) : Cm (tCB (rTupG K) (tCons ta tNil) σ) G (MP.d K (.tuple ds)) :=
  c_cb1 ha fun x G1 e1 p => by
    obtain ⟨a, xs, rfl, h1, h2⟩ := dp_lst p
    exact c_newV (o := .tup xs) (fun H eh Q h => ⟨a, xs, rfl, .inl ⟨ex_l eh h1, h⟩⟩) fun p hp => dp_new_tup hp h2
/-- slices -/
def cutD (ds : List PyData) (lo hi : Option Int) : List PyData := (ds.drop (HT.sIx ds.length 0 lo)).take (HT.sIx ds.length ds.length hi - HT.sIx ds.length 0 lo)
theorem cut_dp {xs : List V} {lo hi : Option Int} (h : DpAll K G xs ds) : DpAll K G (cutV xs lo hi) (cutD ds lo hi) := by
  unfold cutV cutD
  rw [DpAll.length h]
  exact DpAll.take _ (DpAll.drop _ h)
theorem c_part {i : Int} (ha : Cm (ta σ) G (MP.d K (.int i))) : Cm (tPart ta σ) G (MP.eq (some i)) :=
  Cm.bind (t := ta σ) (u := fun (x : V) (H1 : Hp) (Q : Option Int → Hp → Prop) => ∃ i, x = .int i ∧ Q (some i) H1) ha fun x G1 e1 p => by
    rw [dp_int p]
    exact fun H eh Q h => ⟨i, rfl, h (some i) G1 H (Ex.refl H) (Nw.refl eh) rfl⟩
theorem c_nopart : Cm (tNoPart σ) G (MP.eq none) := fun H eh Q h => h none G H (Ex.refl H) (Nw.refl eh) rfl
theorem c_sl {tl th : TO} {lo hi : Option Int} {r : V → Option Int → Option Int → Hp → VK → Prop} (ha : Cm (ta σ) G P1) (h1 : Cm (tl σ) G (MP.eq lo)) (h2 : Cm (th σ) G (MP.eq hi)) (hr : ∀ x G1, Ex G G1 → P1.p x G1 → Cm (r x lo hi) G1 P) : Cm (tSl r ta tl th σ) G P :=
  Cm.bind (t := ta σ) (u := fun (x : V) (H1 : Hp) (Q : VK) => tl σ H1 fun l H2 => th σ H2 fun u H3 => r x l u H3 Q) ha fun x G1 e1 p1 =>
    Cm.bind (t := tl σ) (u := fun (l : Option Int) (H2 : Hp) (Q : VK) => th σ H2 fun u H3 => r x l u H3 Q) (h1.up e1) fun l G2 e2 p2 =>
      Cm.bind (t := th σ) (u := fun (u : Option Int) (H3 : Hp) (Q : VK) => r x l u H3 Q) (h2.up (e1.trans e2)) fun u G3 e3 p3 => by
        have q2 : l = lo := p2
        have q3 : u = hi := p3
        subst q2 q3
        exact hr x G3 ((e1.trans e2).trans e3) (P1.mono (e2.trans e3) p1)
theorem c_slL {tl th : TO} {lo hi : Option Int} (ha : Cm (ta σ) G (MP.d K (.list ds))) (h1 : Cm (tl σ) G (MP.eq lo)) (h2 : Cm (th σ) G (MP.eq hi)) : Cm (tSl (rSlG K) ta tl th σ) G (MP.d K (.list (cutD ds lo hi))) :=
  c_sl ha h1 h2 fun x G1 e1 p => by
    obtain ⟨a, xs, rfl, h1, h2⟩ := dp_lst p
    exact c_newV (o := .lst (cutV xs lo hi)) (fun H eh Q h => .inl ⟨a, xs, rfl, ex_l eh h1, h⟩) fun p hp => dp_new_lst hp (cut_dp h2)
theorem c_slT {tl th : TO} {lo hi : Option Int} (ha : Cm (ta σ) G (MP.d K (.tuple ds))) (h1 : Cm (tl σ) G (MP.eq lo)) (h2 : Cm (th σ) G (MP.eq hi)) : Cm (tSl (rSlG K) ta tl th σ) G (MP.d K (.tuple (cutD ds lo hi))) :=
  c_sl ha h1 h2 fun x G1 e1 p => by
    obtain ⟨a, xs, rfl, h1, h2⟩ := dp_tup p
    intro H eh Q hq
    refine .inr ⟨a, xs, rfl, ex_t eh h1, fun hw => ?_, fun _ p' hp => ?_⟩
    · refine hq _ G1 H (Ex.refl H) (Nw.refl eh) ?_
      have e : cutD ds lo hi = ds := by
        unfold cutD
        rw [← DpAll.length h2, hw.1, hw.2, List.drop_zero, Nat.sub_zero, DpAll.length h2, List.take_length]
      rw [e]
      exact .tup h1 h2
    · exact hq _ _ _ (Ex.new hp) (Nw.new eh hp) (dp_new_tup (fresh_back eh hp) (cut_dp h2))
/-- isinstance -/
def tyD : PyData → String
  | .none => "NoneType"
  | .bool _ => "bool"
  | .int _ => "int"
  | .str _ => "str"
  | .list _ => "list"
  | .tuple _ => "tuple"
  | .dict _ => "dict"
theorem ty_of {x : V} {d : PyData} (h : Dp K G x d) : TyX K G x (.type (tyD d)) := by
  cases h with
  | non => exact .base .non
  | bl b => exact .base (.bl b)
  | int i => exact .base (.int i)
  | str s => exact .base (.str s)
  | lst h1 h2 =>
    rcases h1 with (h1 | ⟨o, h1⟩) | ⟨o, its, n, hk, hc, _⟩
    · exact .base (.lst h1)
    · exact .base (.frz h1)
    · exact .kList hk hc
  | tup h1 h2 =>
    rcases h1 with (h1 | ⟨o, h1⟩) | ⟨o, its, n, hk, hc, _⟩
    · exact .base (.tup h1)
    · exact .fTuple h1
    · exact .kTuple hk hc
theorem c_isi {T : String} {b : Bool} (ha : Cm (ta σ) G (MP.d K d)) (hk : kitB (tyD d) T = some b) : Cm (tCB (rIsiG K) (tCons ta (tCons (tC (.ty T)) tNil)) σ) G (MP.d K (.bool b)) :=
  c_cb2 (P2 := MP.eq (.ty T)) ha (c_c rfl) fun x y G1 e1 p q => by
    have hy : y = .ty T := q
    subst hy
    exact c_valN (z := .bl b) (fun H eh Q h => .inl ⟨x, _, _, _, b, rfl, .ty T, ty_of (Dp.up eh _ _ p), kit_ty hk, h⟩) (.bl _)
/-- tests and choices -/
theorem c_test {b : Bool} (h : Cm (te σ) G (MP.d K (.bool b))) : Cm (tTest te σ) G (MP.eq b) :=
  Cm.bind (t := te σ) (u := fun (x : V) (H : Hp) (Q : Bool → Hp → Prop) => ∃ k, x = .bl k ∧ Q k H) h fun x G1 e1 p => by
    rw [dp_bl p]
    exact fun H eh Q h => ⟨b, rfl, h b G1 H (Ex.refl H) (Nw.refl eh) rfl⟩
theorem c_tB {b : Bool} (h : Cm (te σ) G (MP.d K (.bool b))) : Cm (tB te σ) G (MP.eq b) := c_test h
theorem c_tand {a b : Bool} (h : Cm (tt σ) G (MP.eq a)) (k : a = true → Cm (tu σ) G (MP.eq b)) : Cm (tAnd tt tu σ) G (MP.eq (a && b)) :=
  Cm.bind (t := tt σ) (u := fun (c : Bool) (H : Hp) (Q : Bool → Hp → Prop) => if c = true then tu σ H Q else Q false H) h fun c G1 e1 p => by
    have e : c = a := p
    subst e
    cases c with
    | true => exact (k rfl).up e1
    | false => exact Cm.ret (P := MP.eq false) rfl
theorem c_tor {a b : Bool} (h : Cm (tt σ) G (MP.eq a)) (k : a = false → Cm (tu σ) G (MP.eq b)) : Cm (tOr tt tu σ) G (MP.eq (a || b)) :=
  Cm.bind (t := tt σ) (u := fun (c : Bool) (H : Hp) (Q : Bool → Hp → Prop) => if c = true then Q true H else tu σ H Q) h fun c G1 e1 p => by
    have e : c = a := p
    subst e
    cases c with
    | true => exact Cm.ret (P := MP.eq true) rfl
    | false => exact (k rfl).up e1
theorem c_tnot {a : Bool} (h : Cm (tt σ) G (MP.eq a)) : Cm (tNot tt σ) G (MP.eq (!a)) :=
  Cm.bind (t := tt σ) (u := fun (c : Bool) (H : Hp) (Q : Bool → Hp → Prop) => Q (!c) H) h fun c G1 e1 p => Cm.ret (by rw [show c = a from p])
theorem c_andV {a b : Bool} (h : Cm (ta σ) G (MP.d K (.bool a))) (k : a = true → Cm (tb σ) G (MP.d K (.bool b))) : Cm (tAndV ta tb σ) G (MP.d K (.bool (a && b))) :=
  Cm.bind (t := ta σ) (u := fun (x : V) (H : Hp) (Q : VK) => ∃ c, x = .bl c ∧ if c = true then tb σ H Q else Q (.bl false) H) h fun x G1 e1 p => by
    rw [dp_bl p]
    intro H eh Q hq
    refine ⟨a, rfl, ?_⟩
    cases a with
    | true => exact (k rfl).up e1 H eh Q hq
    | false => exact hq _ G1 H (Ex.refl H) (Nw.refl eh) (.bl false)
theorem c_orV {a b : Bool} (h : Cm (ta σ) G (MP.d K (.bool a))) (k : a = false → Cm (tb σ) G (MP.d K (.bool b))) : Cm (tOrV ta tb σ) G (MP.d K (.bool (a || b))) :=
  Cm.bind (t := ta σ) (u := fun (x : V) (H : Hp) (Q : VK) => ∃ c, x = .bl c ∧ if c = true then Q (.bl true) H else tb σ H Q) h fun x G1 e1 p => by
    rw [dp_bl p]
    intro H eh Q hq
    refine ⟨a, rfl, ?_⟩
    cases a with
    | true => exact hq _ G1 H (Ex.refl H) (Nw.refl eh) (.bl true)
    | false => exact (k rfl).up e1 H eh Q hq
theorem c_notV {a : Bool} (h : Cm (ta σ) G (MP.d K (.bool a))) : Cm (tNotV ta σ) G (MP.d K (.bool (!a))) :=
  Cm.bind (t := ta σ) (u := fun (x : V) (H : Hp) (Q : VK) => ∃ c, x = .bl c ∧ Q (.bl (!c)) H) h fun x G1 e1 p => by
    rw [dp_bl p]
    exact fun H eh Q hq => ⟨a, rfl, hq _ G1 H (Ex.refl H) (Nw.refl eh) (.bl _)⟩
theorem c_if {b : Bool} (h : Cm (tt σ) G (MP.eq b)) (h1 : b = true → Cm (ta σ) G P) (h2 : b = false → Cm (tb σ) G P) : Cm (tIf tt ta tb σ) G P :=
  Cm.bind (t := tt σ) (u := fun (c : Bool) (H : Hp) (Q : VK) => if c = true then ta σ H Q else tb σ H Q) h fun c G1 e1 p => by
    have e : c = b := p
    subst e
    cases c with
    | true => exact (h1 rfl).up e1
    | false => exact (h2 rfl).up e1
theorem c_to {t : Hp → VK → Prop} (h : Cm t G (MP.d K d)) (e : d = d') : Cm t G (MP.d K d') := by rw [← e]; exact h
theorem c_teq {α : Type} {a b : α} {t : Hp → (α → Hp → Prop) → Prop} (h : Cm t G (MP.eq a)) (e : a = b) : Cm t G (MP.eq b) := by rw [← e]; exact h
/-- a chained comparison of ints -/
theorem c_chainI {g g' : Int → Int → Bool} {tc : TE} {i j k : Int} (ha : Cm (ta σ) G (MP.d K (.int i))) (hb : Cm (tb σ) G (MP.d K (.int j))) (hc : Cm (tc σ) G (MP.d K (.int k))) :
    Cm (tChain (rI0 fun i j => .bl (g i j)) (rI0 fun i j => .bl (g' i j)) ta tb tc σ) G (MP.d K (.bool (g i j && g' j k))) :=
  Cm.bind (t := ta σ) (u := fun (x : V) (H : Hp) (Q : VK) => tb σ H fun y H2 => rI0 (fun i j => .bl (g i j)) x y H2 fun z H3 => ∃ k, z = .bl k ∧ (if k = true then tc σ H3 fun w' H4 => rI0 (fun i j => .bl (g' i j)) y w' H4 Q else Q (.bl false) H3)) ha fun x G1 e1 p1 =>
    Cm.bind (t := tb σ) (u := fun (y : V) (H : Hp) (Q : VK) => rI0 (fun i j => .bl (g i j)) x y H fun z H3 => ∃ k, z = .bl k ∧ (if k = true then tc σ H3 fun w' H4 => rI0 (fun i j => .bl (g' i j)) y w' H4 Q else Q (.bl false) H3)) (hb.up e1) fun y G2 e2 p2 => by
      rw [dp_int p1, dp_int p2]
      intro H eh Q hq
      refine ⟨i, j, rfl, rfl, g i j, rfl, ?_⟩
      cases hg : g i j with
      | false =>
        rw [hg] at hq
        exact hq _ G2 H (Ex.refl H) (Nw.refl eh) (.bl false)
      | true =>
        rw [hg] at hq
        refine (hc.up (e1.trans e2)) H eh _ fun w G3 H3 e3 n3 p3 => ?_
        rw [dp_int p3]
        exact ⟨j, k, rfl, rfl, hq _ G3 H3 e3 n3 (.bl _)⟩
end
end Ah
/-! Ah3: bodies of defs, promises of pure defs. -/
namespace Ah
open PySem PySem.Spec PyProof.Rows L2 Evl

/-- a body as a computation -/
def bd (t : TS) (σ : L2.St) : Hp → VK → Prop := fun H Q => t { nx := fun _ H' => Q .non H', rt := Q } σ H
section
variable {K : PySem.W.Frag} {σ : L2.St} {G : Hp} {te : TE} {tt : TT} {t u tr : TS} {P R : MP V} {v : V} {d e : PyData} {ds es : List PyData}
theorem b_ret (h : Cm (te σ) G P) : Cm (bd (tRet te) σ) G P := h
theorem b_retN (h : P.p .non G) : Cm (bd tRetN σ) G P := Cm.ret (a := V.non) h
theorem b_next (h : P.p .non G) : Cm (bd tNext σ) G P := Cm.ret (a := V.non) h
theorem b_asg {i : Nat} (h : Cm (te σ) G R) (k : ∀ v G1, Ex G G1 → R.p v G1 → Cm (bd tr (σ.set i (some v))) G1 P) : Cm (bd (tSeq (tAsg te (gName i)) tr) σ) G P :=
  Cm.bind (t := te σ) (u := fun (v : V) (H : Hp) (Q : VK) => tr { nx := fun _ H' => Q .non H', rt := Q } (σ.set i (some v)) H) h k
theorem b_drop (h : Cm (te σ) G R) (k : ∀ G1, Ex G G1 → Cm (bd tr σ) G1 P) : Cm (bd (tSeq (tDrop te) tr) σ) G P :=
  Cm.bind (t := te σ) (u := fun (v : V) (H : Hp) (Q : VK) => tr { nx := fun _ H' => Q .non H', rt := Q } σ H) h fun v G1 e1 p1 => k G1 e1
/-- if, and what follows -/
theorem b_ifL {b : Bool} (h : Cm (tt σ) G (MP.eq b)) (h1 : b = true → Cm (bd t σ) G P) (h2 : b = false → Cm (bd u σ) G P) : Cm (bd (tIfS tt t u) σ) G P :=
  Cm.bind (t := tt σ) (u := fun (c : Bool) (H : Hp) (Q : VK) => if c = true then t { nx := fun _ H' => Q .non H', rt := Q } σ H else u { nx := fun _ H' => Q .non H', rt := Q } σ H) h fun c G1 e1 p => by
    have e : c = b := p
    subst e
    cases c with
    | true => exact (h1 rfl).up e1
    | false => exact (h2 rfl).up e1
/-- if a: return ..; rest -/
theorem b_if {b : Bool} (h : Cm (tt σ) G (MP.eq b)) (h1 : b = true → Cm (bd (tSeq t tr) σ) G P) (h2 : b = false → Cm (bd (tSeq u tr) σ) G P) : Cm (bd (tSeq (tIfS tt t u) tr) σ) G P :=
  Cm.bind (t := tt σ) (u := fun (c : Bool) (H : Hp) (Q : VK) => if c = true then tSeq t tr { nx := fun _ H' => Q .non H', rt := Q } σ H else tSeq u tr { nx := fun _ H' => Q .non H', rt := Q } σ H) h fun c G1 e1 p => by
    have e : c = b := p
    subst e
    cases c with
    | true => exact (h1 rfl).up e1
    | false => exact (h2 rfl).up e1
theorem b_rets (h : Cm (te σ) G P) : Cm (bd (tSeq (tRet te) tr) σ) G P := h
theorem b_nexts (h : Cm (bd tr σ) G P) : Cm (bd (tSeq tNext tr) σ) G P := h
theorem b_seqA {t1 t2 t3 : TS} (h : Cm (bd (tSeq t1 (tSeq t2 t3)) σ) G P) : Cm (bd (tSeq (tSeq t1 t2) t3) σ) G P := h
/-- what a pure def promises: for each i, arguments as args i tells, a result as res i tells -/
def spOf {ι : Type} (args : ι → List (MP V)) (res : ι → MP V) : Sp := fun vs H Q _ => ∃ (i : ι) (G : Hp), Ex G H ∧ AllP vs (args i) G ∧
  ∀ v G' H', Ex H H' → Nw H G G' H' → (res i).p v G' → Q v H'
theorem spOf_len {ι : Type} {args : ι → List (MP V)} {res : ι → MP V} {n : Nat} (hn : ∀ i, (args i).length = n) : ∀ vs H Q E, spOf args res vs H Q E → vs.length = n := fun vs H Q E h => by
  obtain ⟨i, G, _, h, _⟩ := h
  rw [AllP.length h, hn i]
/-- it is kept by a body that computes so -/
theorem spOf_body {ι : Type} {args : ι → List (MP V)} {res : ι → MP V} {N : List Str} {vs : List V} {H : Hp} {Q : VK} {E : XK} (h : spOf args res vs H Q E)
    (k : ∀ i G, AllP vs (args i) G → Cm (bd t (start N vs)) G (res i)) : t { nx := fun _ H' => Q .non H', rt := Q } (start N vs) H := by
  obtain ⟨i, G, e, ha, q⟩ := h
  exact k i G ha H e Q q
/-- a call of it -/
theorem c_call {ι : Type} {args : ι → List (MP V)} {res : ι → MP V} {ta : TA} {E : XK} (i : ι) (h : Cm (ta σ) G (MP.args (args i))) : Cm (tCall (spOf args res) [] E ta σ) G (res i) :=
  Cm.bind (t := ta σ) (u := fun (vs : List V) (H : Hp) (Q : VK) => spOf args res (vs ++ []) H Q E) h fun vs G1 e1 p => fun H eh Q hq => ⟨i, G1, eh, by rw [List.append_nil]; exact p, hq⟩
end
/-- a def that may be called by its name -/
structure Cal (P : Program) (w : World) (K : PySem.W.Frag) (mg : Str → Option Value) (base : Heap) (CX : CXT) (k : Nat) (x : Str) (sp : Sp) : Prop where
  ex : ∃ (f : Addr) (fd : FuncData) (ps : List Str), FnOk P w K mg base CX k f fd ps sp ∧ mg x = some (.ref f) ∧ PySem.W.keepIn K (.ref f) = true ∧ Binds K fd ps []
section
variable {X : Cx} {k j : Nat} {x : Str} {sp : Sp} {p pos : Pos} {e : Expr} {es : List Expr} {t : TA}
theorem pe_cal (c : Cal X.prog X.w X.K X.mg X.base CX0 k x sp) (hr : Room j X.A) (hk : k ≤ j) (hg : Gl X x) (ha : PA X (e :: es) t)
    (hdb : (x == ("__debug__" : Str)) = false := by decide) (he : starEach (e :: es) X.env = (false, eval e X.env) :: starEach es X.env := by rfl) (hpl : (backTo pos (starEach es X.env)).any (·.1) = false := by rfl) :
    PE X (.Call (.Name x p) (e :: es) [] pos) (tCall sp [] E0 t) := by
  obtain ⟨f, fd, ps, F, hm, kp, b⟩ := c.ex
  exact pe_call F (hr.mono hk) hg hm kp b .nil pass0 ha hdb he hpl
theorem pe_cal0 (c : Cal X.prog X.w X.K X.mg X.base CX0 k x sp) (hr : Room j X.A) (hk : k ≤ j) (hg : Gl X x) (hdb : (x == ("__debug__" : Str)) = false := by decide) :
    PE X (.Call (.Name x p) [] [] pos) (tCall sp [] E0 tNil) := by
  obtain ⟨f, fd, ps, F, hm, kp, b⟩ := c.ex
  exact pe_call0 F (hr.mono hk) hg hm kp b .nil pass0 hdb
end
end Ah
/-! Ah4: the source of draws. -/
namespace Ah
open PySem PySem.Spec PyProof.Rows L2 Evl

/-- the addresses of the text's classes and constants -/
structure Ad where
  KEYS : Addr
  PARTS : Addr
  WORDS : Addr
  ROWS : Addr
  Book : Addr
theorem hu65 {A : Around} {k : Nat} (hr : Room k A) : A.units + 65 < cLine := by
  have h := hr.un
  omega
/-! ### a list or a tuple walked -/
def iSeq (K : PySem.W.Frag) (tl : TE) : TI := fun σ H R => tl σ H fun x H1 => (∃ a, x = .ref a ∧ (∃ xs, SqL K H1 a xs) ∧ R (Itl K a) H1) ∨ (∃ a, x = .ref a ∧ (∃ xs, SqT K H1 a xs) ∧ R (Itt K a) H1)
theorem pi_seq {X : Cx} {tg l : Expr} {tl : TE} (hl : PE X l tl) : PI X tg l (iSeq X.K tl) := by
  refine ⟨fun pins s σ H R I h => thn (hl.run pins s σ H _ I h) fun v s1 ⟨x, H1, I1, r1, q1⟩ => ?_⟩
  rcases q1 with ⟨a, e, ⟨xs, hq⟩, q⟩ | ⟨a, e, ⟨xs, hq⟩, q⟩
  · subst e
    obtain rfl : v = Value.ref a := r1
    obtain ⟨its, rv, p, hz⟩ := I1.list hq
    exact wpAny_pyIter_list p.isList (pi_one (tk := s1.toks) I1 _ (turn_list a _) ⟨_, Heap.get?_push_size _ rfl, rfl, rfl⟩ q)
  · subst e
    obtain rfl : v = Value.ref a := r1
    obtain ⟨its, rv, p, hz⟩ := I1.tuple hq
    exact wpAny_pyIter_tuple (show s1.heap.IsTuple a its.toArray from p) (pi_one (tk := s1.toks) I1 _ (turn_tuple a _) ⟨_, Heap.get?_push_size _ rfl, rfl, rfl⟩ q)
/-! ### uses of readings -/
section
variable {K : PySem.W.Frag} {H : Hp} {Q : VK}
theorem u_ixL {p : Addr} {xs : List V} {i : Int} {v : V} (h : SqL K H p xs) (ha : atI xs i = some v) (q : Q v H) : rIx K (.ref p) (.int i) H Q := .inl ⟨p, xs, i, v, rfl, rfl, h, ha, q⟩
theorem u_ixT {p : Addr} {xs : List V} {i : Int} {v : V} (h : SqT K H p xs) (ha : atI xs i = some v) (q : Q v H) : rIx K (.ref p) (.int i) H Q := .inr (.inl ⟨p, xs, i, v, rfl, rfl, h, ha, q⟩)
theorem u_addI {i j : Int} (q : Q (.int (i + j)) H) : rAddG K (.int i) (.int j) H Q := .inl ⟨i, j, rfl, rfl, q⟩
theorem u_cat {a b : Addr} {xs ys : List V} (h1 : H a = some (.lst xs)) (h2 : H b = some (.lst ys)) (hl : xs.length + ys.length ≤ 100000) (q : ∀ p, H p = none → Q (.ref p) (upd H p (.lst (xs ++ ys)))) : rAddG K (.ref a) (.ref b) H Q :=
  .inr (.inr (.inl ⟨a, b, xs, ys, rfl, rfl, h1, h2, sz_of hl, q⟩))
end
structure Src (H : Hp) (h c : Addr) : Prop where
  ex : ∃ (s i : Int) (cells : List Int), H h = some (.lst [.int s, .ref c, .int i]) ∧ H c = some (.lst (cells.map V.int)) ∧ cells.length ≤ 63 ∧ 0 ≤ s ∧ s < 2147483647
/-- all but the source's two lists is as it was -/
def Fr (h c : Addr) (H H' : Hp) : Prop := ∀ b o, H b = some o → b ≠ h → b ≠ c → H' b = some o
theorem Fr.trans {h c : Addr} {H H1 H2 : Hp} (a : Fr h c H H1) (b : Fr h c H1 H2) : Fr h c H H2 := fun d o e h1 h2 => b d o (a d o e h1 h2) h1 h2
theorem Fr.refl {h c : Addr} {H : Hp} : Fr h c H H := fun _ _ e _ _ => e
theorem Fr.of {h c : Addr} {H H1 : Hp} (e : Ex H H1) : Fr h c H H1 := fun d o x _ _ => e d o x
theorem Fr.ex {h c : Addr} {G H H1 : Hp} (f : Fr h c H H1) (e : Ex G H) (gh : G h = none) (gc : G c = none) : Ex G H1 := fun b o x =>
  f b o (e b o x) (fun z => by rw [z, gh] at x; cases x) (fun z => by rw [z, gc] at x; cases x)
theorem Src.ne {H : Hp} {h c : Addr} (S : Src H h c) : h ≠ c := by
  obtain ⟨s, i, cells, h1, h2, _⟩ := S.ex
  refine ne_of h1 h2 fun z => ?_
  injection z with z
  match cells, z with
  | [], z => cases z
  | [_], z => cases z
  | a :: b :: r, z => injection z with _ z; injection z with z; cases z
theorem Src.ext {H H' : Hp} {h c : Addr} (S : Src H h c) (e : Ex H H') : Src H' h c := by
  obtain ⟨s, i, cells, h1, h2, h3⟩ := S.ex
  exact ⟨s, i, cells, e _ _ h1, e _ _ h2, h3⟩
theorem fmod_lt {a b : Int} (hb : 0 < b) : 0 ≤ a.fmod b ∧ a.fmod b < b := by
  rw [Int.fmod_eq_emod_of_nonneg a (by omega)]
  exact ⟨Int.emod_nonneg a (by omega), Int.emod_lt_of_pos a hb⟩
/-! ### _law_mix -/
def sp__law_mix (K : PySem.W.Frag) (w : World) (c : Ad) : Sp := fun vs H Q _ => ∃ (a : Addr) (ns : List Int) (seed : Int), vs = [.ref a, .int seed] ∧ SqL K H a (ns.map V.int) ∧ ns.length ≤ 63 ∧ 0 ≤ seed ∧ seed < 2147483647 ∧
  ∀ h d H', H h = none → H d = none → Same H H' → Src H' h d → Q (.ref h) H'
theorem len__law_mix {K : PySem.W.Frag} {w : World} {c : Ad} {vs : List V} {H : Hp} {Q : VK} {E : XK} (h : sp__law_mix K w c vs H Q E) : vs.length = 2 := by
  obtain ⟨a, ns, seed, rfl, _⟩ := h
  rfl
def t__law_mix (K : PySem.W.Frag) (w : World) (c : Ad) : TS :=
  (tSeq (tAsg (tVar 1) (gName 2))
    (tSeq (tFor (iSeq K (tVar 0)) (gName 3)
    (tAsg (tOp rModI (tCB rIntG (tCons (tOp (rAddG K) (tOp (rAddG K) (tOp rMulI (tVar 2) (tC (.int 48271))) (tOp rModI (tCB rIntG (tCons (tVar 3) tNil)) (tC (.int 2147483629)))) (tC (.int 1))) tNil)) (tC (.int 2147483647))) (gName 2)))
    (tRet (tLst (tCons (tVar 2) (tCons (tCB (rListG K) (tCons (tVar 0) tNil)) (tCons (tC (.int 0)) tNil)))))))
abbrev Dn (Q : VK) : Ends := { nx := fun _ H' => Q .non H', rt := Q }
theorem rd__law_mix {K : PySem.W.Frag} {w : World} {c : Ad} {vs : List V} {H : Hp} {Q : VK} {E : XK} (h : sp__law_mix K w c vs H Q E) : t__law_mix K w c (Dn Q) (vs.map some ++ List.replicate (4 - vs.length) none) H := by
  obtain ⟨a, ns, seed, rfl, hS, hl, h0, h1, k⟩ := h
  refine ⟨_, rfl, _, rfl, .inl ⟨a, rfl, ⟨_, hS⟩, ?_⟩⟩
  refine for_list (xs := ns.map V.int) (fun i σ H' => H' = H ∧ ∃ (s : Int) (x : Option V), σ = [some (.ref a), some (.int seed), some (.int s), x] ∧ 0 ≤ s ∧ s < 2147483647) ⟨rfl, seed, none, rfl, h0, h1⟩ ?_ ?_ ?_
  · rintro i σ H' _ ⟨rfl, _⟩
    exact hS
  · rintro i x σ H' hx ⟨rfl, s, y, rfl, g0, g1⟩
    obtain ⟨n, hn, rfl⟩ : ∃ n, ns[i]? = some n ∧ x = .int n := by
      rw [List.getElem?_map] at hx
      cases q : ns[i]? with
      | none => rw [q] at hx; cases hx
      | some n => rw [q] at hx; cases hx; exact ⟨n, rfl, rfl⟩
    refine ⟨_, rfl, _, _, rfl, rfl, .inr ⟨by decide, by decide⟩, _, rfl, .inl ⟨_, rfl, _, _, rfl, rfl, (by decide : (2147483629 : Int) ≠ 0), ?_⟩⟩
    refine u_addI (u_addI (.inl ⟨_, rfl, _, _, rfl, rfl, (by decide : (2147483647 : Int) ≠ 0), rfl, _, _, rfl, ?_, ?_⟩))
    · exact (fmod_lt (by decide)).1
    · exact (fmod_lt (by decide)).2
  · rintro σ H' ⟨rfl, s, y, rfl, g0, g1⟩
    refine ⟨_, rfl, _, rfl, a, _, rfl, .inl hS, fun d hd => ⟨by show 3 ≤ sizeLine; decide, fun p hp => ?_⟩⟩
    refine k p d _ (fresh_back (Ex.new hd) hp) hd ((Ex.new hd).trans (Ex.new hp)) ⟨s, 0, ns, upd_same, ?_, hl, g0, g1⟩
    rw [upd_ne (ne_of_none upd_same hp), upd_same]
/-! ### _law_next -/
def sp__law_next (K : PySem.W.Frag) (w : World) (c : Ad) : Sp := fun vs H Q _ => ∃ (h d : Addr) (cap : Int), vs = [.ref h, .int cap] ∧ Src H h d ∧ 0 < cap ∧ cap < 1000000000 ∧
  ∀ (r : Int) H', 0 ≤ r → r < cap → Src H' h d → Fr h d H H' → Q (.int r) H'
theorem len__law_next {K : PySem.W.Frag} {w : World} {c : Ad} {vs : List V} {H : Hp} {Q : VK} {E : XK} (h : sp__law_next K w c vs H Q E) : vs.length = 2 := by
  obtain ⟨a, ns, seed, rfl, _⟩ := h
  rfl
def t__law_next (K : PySem.W.Frag) (w : World) (c : Ad) : TS :=
  (tSeq (tAsg (tOp (rIx K) (tOp (rAddG K) (tOp (rIx K) (tVar 0) (tC (.int 1))) (tLst (tCons (tC (.int 0)) tNil))) (tOp rModI (tCB rIntG (tCons (tOp (rIx K) (tVar 0) (tC (.int 2))) tNil)) (tCB rMax2 (tCons (tC (.int 1)) (tCons (tCB (rLenG K) (tCons (tOp (rIx K) (tVar 0) (tC (.int 1))) tNil)) tNil))))) (gName 2))
    (tSeq (tIfS (tTest (tOp rGeI (tVar 2) (tOp rPowI (tC (.int 10)) (tC (.int 18))))) (tSeq (tAsg (tOp rDivI (tVar 2) (tVar 1)) (gSub (tOp (rIx K) (tVar 0) (tC (.int 1))) (tOp rModI (tCB rIntG (tCons (tOp (rIx K) (tVar 0) (tC (.int 2))) tNil)) (tCB (rLenG K) (tCons (tOp (rIx K) (tVar 0) (tC (.int 1))) tNil))) rSetL))
    (tRet (tOp rModI (tCB rIntG (tCons (tVar 2) tNil)) (tVar 1)))) tNext)
    (tSeq (tAsg (tOp rModI (tCB rIntG (tCons (tOp (rAddG K) (tOp (rAddG K) (tOp rMulI (tOp (rIx K) (tVar 0) (tC (.int 0))) (tC (.int 48271))) (tOp rMulI (tVar 2) (tC (.int 69621)))) (tC (.int 11))) tNil)) (tC (.int 2147483647))) (gSub (tVar 0) (tC (.int 0)) rSetL))
    (tSeq (tAsg (tOp (rAddG K) (tOp (rIx K) (tVar 0) (tC (.int 2))) (tC (.int 1))) (gSub (tVar 0) (tC (.int 2)) rSetL))
    (tRet (tOp rModI (tCB rIntG (tCons (tOp rDivI (tOp (rIx K) (tVar 0) (tC (.int 0))) (tC (.int 7))) tNil)) (tVar 1)))))))
theorem atI_of {α : Type} {xs : List α} {i : Int} {j : Nat} {v : α} (h0 : 0 ≤ i) (hj : i.toNat = j) (h : xs[j]? = some v) : atI xs i = some v := by
  have e : i = (j : Int) := by omega
  rw [e]
  exact atI_nat h
theorem set_ints {cells : List Int} {j : Nat} {z : Int} : (cells.map V.int).set j (.int z) = (cells.set j z).map V.int := (List.map_set).symm
theorem ixN_of {n : Nat} {i : Int} {j : Nat} (h : i = (j : Int)) (hj : j < n) : ixN n i = some j := by rw [h]; exact ixN_nat hj
theorem rd__law_next {K : PySem.W.Frag} {w : World} {c : Ad} {vs : List V} {H : Hp} {Q : VK} {E : XK} (h : sp__law_next K w c vs H Q E) : t__law_next K w c (Dn Q) (vs.map some ++ List.replicate (3 - vs.length) none) H := by
  obtain ⟨h, d, cap, rfl, S, c0, c1, k⟩ := h
  have hne := S.ne
  obtain ⟨s, i, cells, hh, hd, hl, s0, s1⟩ := id S.ex
  refine ⟨_, rfl, u_ixL (SqL.of hh) rfl ⟨by show 1 ≤ sizeLine; decide, fun p hp => ?_⟩⟩
  have e1 : Ex H (upd H p (.lst [.int 0])) := Ex.new hp
  refine u_cat (e1 _ _ hd) upd_same (by rw [List.length_map]; show _ + 1 ≤ _; omega) fun q hq => ?_
  generalize hH1 : upd (upd H p (.lst [.int 0])) q (.lst (cells.map V.int ++ [.int 0])) = H1
  have e2 : Ex H H1 := by rw [← hH1]; exact e1.trans (Ex.new hq)
  have hq1 : H1 q = some (.lst (cells.map V.int ++ [.int 0])) := by rw [← hH1, upd_same]
  refine ⟨_, rfl, u_ixL (SqL.of (e2 _ _ hh)) rfl (.inl ⟨_, rfl, _, rfl, u_ixL (SqL.of (e2 _ _ hh)) rfl ⟨_, (cells.map V.int).length, rfl, .inl ⟨_, SqL.of (e2 _ _ hd), rfl⟩, _, _, rfl, ?_⟩⟩)⟩
  rw [List.length_map]
  generalize hm : (if (cells.length : Int) > 1 then (cells.length : Int) else 1) = m
  have m0 : 0 < m := by rw [← hm]; split <;> omega
  have m1 : m ≤ cells.length + 1 ∧ (0 < cells.length → m = cells.length) := by rw [← hm]; split <;> omega
  refine ⟨_, _, rfl, rfl, by show m ≠ 0; omega, ?_⟩
  obtain ⟨j0, j1⟩ := fmod_lt (a := i) m0
  generalize hj : i.fmod m = j at j0 j1
  -- the cell
  obtain ⟨x, hx, hx2⟩ : ∃ x, (cells.map V.int ++ [V.int 0])[j.toNat]? = some (.int x) ∧ (1000000000000000000 ≤ x → j.toNat < cells.length) := by
    by_cases hc : j.toNat < cells.length
    · exact ⟨cells[j.toNat], by rw [List.getElem?_append_left (by rw [List.length_map]; exact hc), List.getElem?_map, List.getElem?_eq_getElem hc]; rfl, fun _ => hc⟩
    · have z : cells.length = 0 := by
        cases q : cells with
        | nil => rfl
        | cons a r =>
          have hc : ¬ j.toNat < cells.length := hc
          rw [q] at hc m1
          simp only [List.length_cons] at hc m1
          have := m1.2 (by omega)
          omega
      have z2 : cells = [] := List.eq_nil_of_length_eq_zero z
      subst z2
      have z3 : j.toNat = 0 := by
        have := m1.1
        simp only [List.length_nil] at this
        omega
      rw [z3]
      exact ⟨0, rfl, fun z => absurd z (by decide)⟩
  refine u_ixL (SqL.of hq1) (atI_of (by rw [hj]; exact j0) (by rw [hj]) hx) ?_
  refine ⟨_, rfl, _, _, rfl, rfl, ⟨by decide, by decide, by decide⟩, _, _, rfl, rfl, _, rfl, ?_⟩
  refine ite2 (fun hb => ?_) (fun hb => ?_)
  · have hb : 1000000000000000000 ≤ x := of_decide_eq_true hb
    have hj := hx2 hb
    refine ⟨_, rfl, _, rfl, _, _, rfl, rfl, ⟨by omega, by omega⟩, _, rfl, u_ixL (SqL.of (e2 _ _ hh)) rfl ?_⟩
    refine ⟨_, rfl, u_ixL (SqL.of (e2 _ _ hh)) rfl (.inl ⟨_, rfl, _, rfl, u_ixL (SqL.of (e2 _ _ hh)) rfl ⟨_, (cells.map V.int).length, rfl, .inl ⟨_, SqL.of (e2 _ _ hd), rfl⟩, ?_⟩⟩)⟩
    rw [List.length_map]
    have hm2 : m = cells.length := m1.2 (by omega)
    rw [← hm2]
    refine ⟨_, _, rfl, rfl, by show m ≠ 0; omega, ?_⟩
    have hi : i.fmod m = (j.toNat : Int) := by omega
    refine ⟨d, _, _, j.toNat, rfl, rfl, e2 _ _ hd, ixN_of hi (by rw [List.length_map]; exact hj), ?_⟩
    refine ⟨_, rfl, .inl ⟨_, rfl, _, rfl, _, _, rfl, rfl, by show cap ≠ 0; omega, ?_⟩⟩
    refine k _ _ (fmod_lt c0).1 (fmod_lt c0).2 ⟨s, i, cells.set j.toNat (x.fdiv cap), ?_, ?_, by rw [List.length_set]; exact hl, s0, s1⟩ fun b o hb h1 h2 => ?_
    · rw [upd_ne hne]; exact e2 _ _ hh
    · rw [upd_same, set_ints]
    · rw [upd_ne h2]; exact e2 _ _ hb
  · refine ⟨_, rfl, u_ixL (SqL.of (e2 _ _ hh)) rfl ⟨_, _, rfl, rfl, .inr ⟨by decide, by decide⟩, _, rfl, _, _, rfl, rfl, .inr ⟨by decide, by decide⟩, u_addI (u_addI (.inl ⟨_, rfl, _, _, rfl, rfl, (by decide : (2147483647 : Int) ≠ 0), ?_⟩))⟩⟩
    generalize hs : ((s * 48271 + x * 69621 + 11).fmod 2147483647) = s'
    have s2 : 0 ≤ s' ∧ s' < 2147483647 := by rw [← hs]; exact fmod_lt (by decide)
    refine ⟨_, rfl, h, _, 0, 0, rfl, rfl, e2 _ _ hh, rfl, ?_⟩
    refine ⟨_, rfl, u_ixL (SqL.of upd_same) rfl (u_addI ⟨_, rfl, h, _, 2, 2, rfl, rfl, upd_same, rfl, ?_⟩)⟩
    rw [upd_upd]
    refine ⟨_, rfl, u_ixL (SqL.of upd_same) rfl ⟨_, _, rfl, rfl, ⟨by decide, by decide⟩, .inl ⟨_, rfl, _, rfl, _, _, rfl, rfl, by show cap ≠ 0; omega, ?_⟩⟩⟩
    refine k _ _ (fmod_lt c0).1 (fmod_lt c0).2 ⟨s', i + 1, cells, by rw [upd_same, ← hs] <;> rfl, ?_, hl, s2.1, s2.2⟩ fun b o hb h1 h2 => ?_
    · rw [upd_ne (Ne.symm hne)]; exact e2 _ _ hd
    · rw [upd_ne h1]; exact e2 _ _ hb
/-! ### _law_pick -/
def sp__law_pick (K : PySem.W.Frag) (w : World) (c : Ad) : Sp := fun vs H Q _ => ∃ (h d a : Addr) (xs : List V) (G : Hp), vs = [.ref h, .ref a] ∧ Src H h d ∧ Ex G H ∧ G h = none ∧ G d = none ∧ SqL K G a xs ∧ 0 < xs.length ∧ xs.length ≤ 100000 ∧
  ∀ (v : V) H', v ∈ xs → Src H' h d → Fr h d H H' → Q v H'
theorem len__law_pick {K : PySem.W.Frag} {w : World} {c : Ad} {vs : List V} {H : Hp} {Q : VK} {E : XK} (h : sp__law_pick K w c vs H Q E) : vs.length = 2 := by
  obtain ⟨a, ns, seed, _, _, rfl, _⟩ := h
  rfl
def t__law_pick (K : PySem.W.Frag) (w : World) (c : Ad) : TS :=
  (tRet (tOp (rIx K) (tVar 1) (tCall (sp__law_next K w c) [] E0 (tCons (tVar 0) (tCons (tCB (rLenG K) (tCons (tVar 1) tNil)) tNil)))))
theorem rd__law_pick {K : PySem.W.Frag} {w : World} {c : Ad} {vs : List V} {H : Hp} {Q : VK} {E : XK} (h : sp__law_pick K w c vs H Q E) : t__law_pick K w c (Dn Q) (vs.map some ++ List.replicate (2 - vs.length) none) H := by
  obtain ⟨h, d, a, xs, G, rfl, S, e, gh, gd, hx, l0, l1, k⟩ := h
  refine ⟨_, rfl, _, rfl, _, rfl, _, xs.length, rfl, .inl ⟨_, ex_l e hx, rfl⟩, h, d, _, rfl, S, by omega, by omega, fun r H' r0 r1 S' f => ?_⟩
  have hr : r.toNat < xs.length := by omega
  exact u_ixL (ex_l (f.ex e gh gd) hx) (atI_of r0 rfl (List.getElem?_eq_getElem hr)) (k _ H' (List.getElem_mem hr) S' f)
end Ah
/-! Ah5: dicts of the written part, their keys texts. -/
namespace Ah
open PySem PySem.Spec PyProof.Rows L2 Evl

/-- the entries of a written dict -/
def EnL (P : Params) : List DictEntry → List (Str × V) → Prop
  | [], [] => True
  | e :: es, q :: r => (∃ t, e.key = .str q.1 t) ∧ e.hash = PyData.keyHash P q.1 ∧ RelV q.2 e.val ∧ EnL P es r
  | _, _ => False
structure KD (K : PySem.W.Frag) (w : World) (d : Addr) (kvs : List (Str × V)) : Prop where
  at_ : ∃ es n, K.lookup d = some ⟨.type "dict", none, .dict es n, #[]⟩ ∧ EnL w.params es.toList kvs
  low : (d == sysModules) = false
  nd : (kvs.map (·.1)).Nodup
  len : kvs.length ≤ 1000
def mixOf (kvs : List (Str × V)) : List (Key × V) := kvs.map fun q => (Sum.inr q.1, q.2)
theorem mixOf_len (kvs : List (Str × V)) : (mixOf kvs).length = kvs.length := List.length_map _
section
variable {P : Program} {w : World}
theorem enl_pairs : ∀ {es : List DictEntry} {kvs : List (Str × V)}, EnL w.params es kvs → ∃ vs : List (Key × Value), KV (mixOf kvs) vs ∧ Pairs (mixKind P w) es vs ∧ vs.map (·.1) = (kvs.map (·.1)).map Sum.inr ∧ ∀ e ∈ es, ∃ k, (mixKind P w).is k e.key = true ∧ e.hash = (mixKind P w).hash k
  | [], [], _ => ⟨[], .nil, .nil, rfl, fun _ h => nomatch h⟩
  | [], _ :: _, h => h.elim
  | _ :: _, [], h => h.elim
  | e :: es, q :: r, h => by
    obtain ⟨⟨t, h1⟩, h2, h3, h4⟩ := h
    obtain ⟨vs, g1, g2, g3, g4⟩ := enl_pairs h4
    have k1 : keyIs (Sum.inr q.1) e.key = true := by rw [h1]; exact keyIs_str _ _
    refine ⟨(Sum.inr q.1, e.val) :: vs, .cons ⟨rfl, h3⟩ g1, .cons k1 rfl g2, by rw [List.map_cons, List.map_cons, List.map_cons, g3], fun x hx => ?_⟩
    rcases List.mem_cons.mp hx with rfl | hx
    · exact ⟨Sum.inr q.1, k1, h2⟩
    · exact g4 x hx
/-- what stands at d in every heap that bears the written part -/
theorem KD.look {K : PySem.W.Frag} {d : Addr} {kvs : List (Str × V)} (D : KD K w d kvs) {h : Heap} (X : K.In h) : ∃ (o : Obj) (es : Array DictEntry) (n : Nat) (vs : List (Key × Value)), h.get? d = some o ∧ o.ExactDict ∧ o.data = .dict es n ∧ es.size = kvs.length ∧
    KV (mixOf kvs) vs ∧ h.DictAt (mixKind P w) d vs n := by
  obtain ⟨es, n, hl, he⟩ := D.at_
  obtain ⟨vs, g1, g2, g3, g4⟩ := enl_pairs (P := P) he
  have ho := X d _ hl
  refine ⟨_, es, n, vs, ho, ⟨rfl, rfl, rfl⟩, rfl, ?_, g1, ⟨_, es, ho, ⟨rfl, rfl, rfl⟩, rfl, fun e hm => g4 e (by simpa using hm), g2, ?_⟩⟩
  · have e1 := g2.length
    have e2 : (mixOf kvs).length = vs.length := Paired.length g1
    rw [mixOf_len] at e2
    rw [Array.length_toList] at e1
    omega
  · rw [g3]
    exact D.nd.map _ fun a b hne e => hne (Sum.inr.inj e)
end
section
variable {X : Cx} {pins : List (Addr × Obj)} {σ : L2.St} {H : Hp} {s : Shared} {d : Addr} {kvs : List (Str × V)}
theorem KD.inv (D : KD X.K X.w d kvs) (I : Inv X pins σ H s) : ∃ (o : Obj) (es : Array DictEntry) (n : Nat) (vs : List (Key × Value)), s.heap.get? d = some o ∧ o.ExactDict ∧ o.data = .dict es n ∧ es.size = kvs.length ∧
    KV (mixOf kvs) vs ∧ s.heap.DictAt (mixKind X.prog X.w) d vs n := D.look (P := X.prog) I.kIn
/-- the value at a key -/
theorem mix_find {x : Str} {v : V} : ∀ {kvs : List (Str × V)} {vs : List (Key × Value)}, KV (mixOf kvs) vs → kvs.lookup x = some v → ∃ u, valueAt vs (Sum.inr x) = some u ∧ RelV v u
  | [], _, _, h => by cases h
  | q :: r, _, h, e => by
    cases h with
    | @cons a b l1 l2 h1 h2 =>
      unfold valueAt
      rw [List.find?_cons]
      rw [List.lookup_cons] at e
      have e1 : b.1 = Sum.inr q.1 := h1.1.symm
      by_cases hx : x = q.1
      · subst hx
        rw [beq_self_eq_true] at e
        have e : q.2 = v := Option.some.inj e
        rw [e1, decide_eq_true rfl]
        exact ⟨b.2, rfl, by rw [← e]; exact h1.2⟩
      · rw [beq_eq_false_iff_ne.mpr hx] at e
        rw [e1, decide_eq_false fun z => hx (Sum.inr.inj z).symm]
        exact mix_find h2 e
theorem mix_none {x : Str} : ∀ {kvs : List (Str × V)} {vs : List (Key × Value)}, KV (mixOf kvs) vs → kvs.lookup x = none → valueAt vs (Sum.inr x) = none
  | [], _, h, _ => by cases h; rfl
  | q :: r, _, h, e => by
    cases h with
    | @cons a b l1 l2 h1 h2 =>
      unfold valueAt
      rw [List.find?_cons]
      rw [List.lookup_cons] at e
      have e1 : b.1 = Sum.inr q.1 := h1.1.symm
      by_cases hx : x = q.1
      · subst hx
        rw [beq_self_eq_true] at e
        cases e
      · rw [beq_eq_false_iff_ne.mpr hx] at e
        rw [e1, decide_eq_false fun z => hx (Sum.inr.inj z).symm]
        exact mix_none h2 e
theorem mix_some {x : Str} {kvs : List (Str × V)} {vs : List (Key × Value)} (h : KV (mixOf kvs) vs) : (valueAt vs (Sum.inr x)).isSome = (kvs.lookup x).isSome := by
  cases q : kvs.lookup x with
  | none => rw [mix_none h q] <;> rfl
  | some v =>
    obtain ⟨u, e, _⟩ := mix_find h q
    rw [e] <;> rfl
/-- d[x] -/
def rIxW (K : PySem.W.Frag) (w : World) : R2 := fun x y H Q => ∃ p z kvs v, x = .ref p ∧ y = .str z ∧ KD K w p kvs ∧ kvs.lookup z = some v ∧ Q v H
theorem ix_W : IxR X (rIxW X.K X.w) := by
  intro value slice pins s σ H x y v u Q I rx ry h hs
  obtain ⟨p, z, kvs, r, rfl, rfl, D, hz, q⟩ := h
  obtain rfl : v = Value.ref p := rx
  obtain ⟨t, rfl⟩ := ry
  obtain ⟨o, es, n, vs, ho, hx, hd, hn, hk, hat⟩ := D.inv I
  obtain ⟨u0, hu, ru⟩ := mix_find hk hz
  have hm := hat.dictOf.mapOf
  exact tail_any hm.typeIs slot_dict_getitem.lookup (wpAny_getItem_of (knd := mixKind X.prog X.w) (mixKind_str X.prog X.w z t) hm hu ⟨r, H, I.tok _, ru, q⟩) hs
/-- x in d -/
def rInW (K : PySem.W.Frag) (w : World) : R2 := fun x y H Q => ∃ p z kvs, x = .str z ∧ y = .ref p ∧ KD K w p kvs ∧ Q (.bl (kvs.lookup z).isSome) H
theorem op_inW : OpR X (compareOp .In) (rInW X.K X.w) := by
  intro pins s σ H x y v u Q I rx ry h
  obtain ⟨p, z, kvs, rfl, rfl, D, q⟩ := h
  obtain ⟨t, rfl⟩ := rx
  cases ry
  obtain ⟨o, es, n, vs, ho, hx, hd, hn, hk, hat⟩ := D.inv I
  refine wpAny_in_of (knd := mixKind X.prog X.w) (mixKind_str X.prog X.w z t) D.low hat.dictOf.mapOf ?_
  rw [mix_some hk]
  exact ⟨.bl _, H, I.tok _, rfl, q⟩
/-- len(d), list(d) -/
def rLenW (K : PySem.W.Frag) (w : World) : List V → Hp → VK → Prop := fun xs H Q => ∃ p kvs, xs = [.ref p] ∧ KD K w p kvs ∧ Q (.int kvs.length) H
theorem call_lenW : CallR X (.builtin "len") (rLenW X.K X.w) := by
  intro pins s σ H xs us Q I r h
  obtain ⟨p, kvs, rfl, D, q⟩ := h
  obtain ⟨u, rfl, ru⟩ := vals1 r
  cases ru
  obtain ⟨o, es, n, vs, ho, hx, hd, hn, hk, hat⟩ := D.inv I
  have e : kvs.length = vs.length := by
    rw [← mixOf_len kvs]
    exact Paired.length hk
  have hl := D.len
  refine call_len_dict D.low hat.dictOf (by omega) ?_
  rw [← e]
  exact ⟨.int kvs.length, H, I.tok _, ⟨_, rfl⟩, q⟩
def rListW (K : PySem.W.Frag) (w : World) : List V → Hp → VK → Prop := fun xs H Q => ∃ p kvs, xs = [.ref p] ∧ KD K w p kvs ∧ ∀ l, H l = none → Q (.ref l) (upd H l (.lst (kvs.map fun q => V.str q.1)))
theorem call_listW (hc : X.calm = true) : CallR X (.type "list") (rListW X.K X.w) := by
  intro pins s σ H xs us Q I r h
  obtain ⟨p, kvs, rfl, D, q⟩ := h
  obtain ⟨u, rfl, ru⟩ := vals1 r
  cases ru
  obtain ⟨o, es, n, vs, ho, hx, hd, hn, hk, hat⟩ := D.inv I
  have e : kvs.length = vs.length := by
    rw [← mixOf_len kvs]
    exact Paired.length hk
  have hl := D.len
  have hsz : kvs.length ≤ sizeLine := Nat.le_trans hl (by decide)
  refine PySem.W.kdl_call (PySem.W.kdl_dict (knd := mixKind X.prog X.w) (kvs := vs) (ep := n) D.low) (I.ok.hd hc) hat (by omega) fun h' tk acc c' hkeep hS hacc => ?_
  have rel : Vals (kvs.map fun q => V.str q.1) acc.toList := by
    refine vals_of_at (by
      have e9 : acc.toList.length = acc.size := by simp
      rw [List.length_map, e9, hacc.1]
      exact e) fun j x y hj1 hj2 => ?_
    obtain ⟨k, z, hz, hi⟩ := hacc.2 j y (by rw [← Array.getElem?_toList]; exact hj2)
    have e1 : (mixOf kvs).map (·.1) = vs.map (·.1) := KV.keys hk
    have e2 : ((mixOf kvs).map (·.1))[j]? = some k := by
      rw [e1, List.getElem?_map, hz] <;> rfl
    unfold mixOf at e2
    rw [List.map_map, List.getElem?_map] at e2
    rw [List.getElem?_map] at hj1
    cases hq : kvs[j]? with
    | none => rw [hq] at hj1; cases hj1
    | some q0 =>
      rw [hq] at hj1 e2
      cases hj1
      cases e2
      exact keyIs_rel (k := Sum.inr q0.1) hi
  refine ⟨.ref s.heap.objs.size, _, I.laid hkeep (Nat.le_refl _) (o := .lst (kvs.map fun q => V.str q.1)) ⟨by rw [List.length_map]; exact hsz, acc.toList, c', rel, by rw [Array.toArray_toList]; exact hS⟩, rfl, q _ (I.hok.fresh (Nat.le_refl _))⟩
end
/-! ### walks -/
/-- its keys; its pairs -/
def ItkW (kvs : List (Str × V)) : It := ⟨fun i _ => i < kvs.length, fun i H x H' => H' = H ∧ ∃ q, kvs[i]? = some q ∧ x = .str q.1, fun i _ => kvs.length ≤ i⟩
def ItiW (kvs : List (Str × V)) : It := ⟨fun i _ => i < kvs.length, fun i H x H' => ∃ T q, kvs[i]? = some q ∧ x = .ref T ∧ H T = none ∧ H' = upd H T (.tup [.str q.1, q.2]), fun i _ => kvs.length ≤ i⟩
def iKeysW (K : PySem.W.Frag) (w : World) (td : TE) : TI := fun σ H R => td σ H fun x H1 => ∃ d kvs, x = .ref d ∧ KD K w d kvs ∧ R (ItkW kvs) H1
def iItemsW (K : PySem.W.Frag) (w : World) (td : TE) : TI := fun σ H R => td σ H fun x H1 => ∃ d kvs, x = .ref d ∧ KD K w d kvs ∧ R (ItiW kvs) H1
theorem kv_at {kvs : List (Str × V)} {vs : List (Key × Value)} (h : KV (mixOf kvs) vs) {i : Nat} {q : Str × V} (e : kvs[i]? = some q) : ∃ u, vs[i]? = some (Sum.inr q.1, u) ∧ RelV q.2 u := by
  refine kv_get h (k := Sum.inr q.1) (v := q.2) ?_
  unfold mixOf
  rw [List.getElem?_map, e] <;> rfl
section
variable {P : Program} {w : World} {K : PySem.W.Frag} {d : Addr} {kvs : List (Str × V)}
theorem walk_keysW {tg : Expr} {n : Nat} (it : Addr) (D : KD K w d kvs) (hn : ∀ h, K.In h → ∃ o es, h.get? d = some o ∧ o.data = .dict es n) : Turn P w K tg (ItkW kvs) [it] it (fun i h => h.IsKeyIter it d i kvs.length n) where
  mem := List.mem_singleton.mpr rfl
  obj := fun i h st b hb => by
    obtain rfl := List.mem_singleton.mp hb
    obtain ⟨oi, e, c, dd⟩ := st
    exact ⟨oi, e, fun v z => by rw [dd] at z; cases z⟩
  keep := fun i h h' st k => st.at fun oi e => k it (List.mem_singleton.mpr rfl) oi e
  item := by
    intro X e1 e2 e3 calm i pins s σ H E I hf st hi
    subst e1 e2 e3
    have hi : i < kvs.length := hi
    obtain ⟨f0, f1, f2, f3, f4, f5⟩ := hf it (List.mem_singleton.mpr rfl)
    obtain ⟨o, es, m, vs, ho, hx, hd, hsz, hk, hat⟩ := D.inv I
    obtain ⟨o', es', ho', hd'⟩ := hn s.heap I.kIn
    rw [ho] at ho'
    cases ho'
    rw [hd] at hd'
    cases hd'
    obtain ⟨u, hu, ru⟩ := kv_at hk (List.getElem?_eq_getElem hi)
    have hl : kvs.length = vs.length := by rw [← mixOf_len kvs]; exact Paired.length hk
    rw [hl] at st
    refine wpAny_pyNext_dict_item st hat hu fun key h' hkey st' sb => ?_
    have I1 : Inv X pins σ H { s with heap := h' } := I.turned (t' := s.toks) (fun b ob hb e => (sb.2 b hb).trans e) f0 f1 f3 f4 f5
    obtain ⟨oi, e, c, dd⟩ := id st'
    have rk : RelV (.str kvs[i].1) key := relV_key (show keyIs (Sum.inr kvs[i].1) key = true from hkey)
    refine ⟨key, rfl, go_of (s := { s with heap := h' }) e c dd (by decide) ⟨_, H, I1, rk, ⟨rfl, kvs[i], List.getElem?_eq_getElem hi, rfl⟩, ?_, fun b hb => (hf b hb).1⟩⟩
    show h'.IsKeyIter it d (i + 1) kvs.length _
    rw [hl]
    exact st'
  done := by
    intro X e1 e2 e3 calm i pins s σ H E I hf st hi
    subst e1 e2 e3
    obtain ⟨f0, f1, f2, f3, f4, f5⟩ := hf it (List.mem_singleton.mpr rfl)
    obtain ⟨o, es, m, vs, ho, hx, hd, hsz, hk, hat⟩ := D.inv I
    obtain ⟨o', es', ho', hd'⟩ := hn s.heap I.kIn
    rw [ho] at ho'
    cases ho'
    rw [hd] at hd'
    cases hd'
    exact next_key_end (I.ok.hd calm) st ho hd hsz hi fun h' eb => ⟨rfl, I.turned (t' := s.toks) (fun b ob hb e => eb b ob hb e) f0 f1 f3 f4 f5⟩
  self := fun A i s Q E st h => wpAny_pyIter_keyiter st h
theorem walk_itemsW {elts : List Expr} {kk n : Nat} {tpos : Pos} (it : Addr) (D : KD K w d kvs) (hn : ∀ h, K.In h → ∃ o es, h.get? d = some o ∧ o.data = .dict es n) :
    Turn P w K (.Tuple elts kk tpos) (ItiW kvs) [it] it (fun i h => ∃ a b, IsItemIter h it d i kvs.length n a b) where
  mem := List.mem_singleton.mpr rfl
  obj := fun i h st b hb => by
    obtain rfl := List.mem_singleton.mp hb
    obtain ⟨x, y, e⟩ := st
    exact ⟨_, e, fun v z => nomatch z⟩
  keep := fun i h h' st k => let ⟨x, y, e⟩ := st; ⟨x, y, k it (List.mem_singleton.mpr rfl) _ e⟩
  item := by
    intro X e1 e2 e3 calm i pins s σ H E I hf st hi
    subst e1 e2 e3
    have hi : i < kvs.length := hi
    obtain ⟨o, es, m, vs, ho, hx, hd, hsz, hk, hat⟩ := D.inv I
    obtain ⟨o', es', ho', hd'⟩ := hn s.heap I.kIn
    rw [ho] at ho'
    cases ho'
    rw [hd] at hd'
    cases hd'
    obtain ⟨u, hu, ru⟩ := kv_at hk (List.getElem?_eq_getElem hi)
    have hl : kvs.length = vs.length := by rw [← mixOf_len kvs]; exact Paired.length hk
    obtain ⟨x, y, he⟩ := st
    rw [hl] at he
    have hlt : it < s.heap.objs.size := Heap.lt_size he
    refine wpAny_pyNext_items_item he hat hu fun key h' hkey hio hT hz hkp => ?_
    have rk : RelV (.str kvs[i].1) key := relV_key (show keyIs (Sum.inr kvs[i].1) key = true from hkey)
    refine ⟨_, rfl, wpAny_letOwnedTupleGo_items (s := { s with heap := h' }) hio fun h2 he' sb => ?_⟩
    have hT2 := (sb.2 _ (Nat.ne_of_gt hlt)).trans hT
    have fresh : ObjOk X.prog X.w (upd H s.heap.objs.size (.tup [.str kvs[i].1, kvs[i].2])) h2 s.heap.objs.size (.tup [.str kvs[i].1, kvs[i].2]) :=
      ⟨by show 2 ≤ sizeLine; decide, [key, u], .cons rk (.cons ru .nil), _, hT2, rfl, _, rfl⟩
    have I1 := I.turnedNew (t' := s.toks) (ch := [it]) (h' := h2) (fun b ob hb e => (sb.2 b (by simpa using hb)).trans (hkp b ob (by simpa using hb) e)) hf (Nat.le_refl _) fresh
    refine ⟨.ref s.heap.objs.size, _, I1, rfl, ⟨_, kvs[i], List.getElem?_eq_getElem hi, rfl, I.hok.fresh (Nat.le_refl _), rfl⟩, ⟨key, u, by rw [hl]; exact he'⟩, fun b hb => ?_⟩
    obtain rfl := List.mem_singleton.mp hb
    rw [upd_ne (Nat.ne_of_lt hlt)]
    exact (hf b hb).1
  done := by
    intro X e1 e2 e3 calm i pins s σ H E I hf st hi
    subst e1 e2 e3
    obtain ⟨f0, f1, f2, f3, f4, f5⟩ := hf it (List.mem_singleton.mpr rfl)
    obtain ⟨o, es, m, vs, ho, hx, hd, hsz, hk, hat⟩ := D.inv I
    obtain ⟨o', es', ho', hd'⟩ := hn s.heap I.kIn
    rw [ho] at ho'
    cases ho'
    rw [hd] at hd'
    cases hd'
    have hl : kvs.length = vs.length := by rw [← mixOf_len kvs]; exact Paired.length hk
    have hi : kvs.length ≤ i := hi
    obtain ⟨x, y, he⟩ := st
    rw [hl] at he
    exact wpAny_pyNext_items_end (I.ok.hd calm) he hat (List.getElem?_eq_none (by omega)) fun h' eb => ⟨rfl, I.turned (t' := s.toks) (fun b ob hb e => eb b ob hb e) f0 f1 f3 f4 f5⟩
  self := fun A i s Q E st h => let ⟨_, _, e⟩ := st; PySem.W.kcp_self e h
theorem KD.ep (D : KD K w d kvs) : ∃ n, ∀ h, K.In h → ∃ o es, h.get? d = some o ∧ o.data = .dict es n := by
  obtain ⟨es, n, hl, _⟩ := D.at_
  exact ⟨n, fun h X => ⟨_, es, X d _ hl, rfl⟩⟩
end
section
variable {X : Cx} {tg e : Expr} {td : TE} {apos cpos : Pos}
theorem pi_keysW (he : PE X e td) : PI X tg e (iKeysW X.K X.w td) := by
  refine ⟨fun pins s σ H R I h => thn (he.run pins s σ H _ I h) fun u s1 ⟨x, H1, I1, rx, d, kvs, ex, D, q⟩ => ?_⟩
  subst ex
  obtain rfl : u = Value.ref d := rx
  obtain ⟨o, es, n, vs, ho, hx, hd, hsz, hk, hat⟩ := D.inv I1
  obtain ⟨m, hm⟩ := D.ep
  obtain ⟨o', es', ho', hd'⟩ := hm s1.heap I1.kIn
  rw [ho] at ho'
  cases ho'
  rw [hd] at hd'
  cases hd'
  refine iter_keys D.low ho hx hd (pi_one (tk := s1.toks) I1 _ (walk_keysW _ D hm) ⟨_, Heap.get?_push_size _ rfl, rfl, ?_⟩ q)
  rw [hsz] <;> rfl
theorem pi_itemsW {elts : List Expr} {kk : Nat} {tpos : Pos} (he : PE X e td) (hbase : attributeBase e "items" X.env (eval e X.env) = eval e X.env := by rfl) (hline : (apos.endLine == cpos.line) = true := by rfl) :
    PI X (.Tuple elts kk tpos) (.Call (.Attribute e "items" apos) [] [] cpos) (iItemsW X.K X.w td) := by
  refine ⟨fun pins s σ H R I h => wpAny_Call_method (T := "dict") (id := "dict.items") hbase rfl hline F.plainAttrs_dict F.slot_dict_items F.type_dict_items (thn (he.run pins s σ H _ I h) fun u s1 ⟨x, H1, I1, rx, d, kvs, ex, D, q⟩ => ?_)⟩
  subst ex
  obtain rfl : u = Value.ref d := rx
  obtain ⟨o, es, n, vs, ho, hx, hd, hsz, hk, hat⟩ := D.inv I1
  obtain ⟨m, hm⟩ := D.ep
  obtain ⟨o', es', ho', hd'⟩ := hm s1.heap I1.kIn
  rw [ho] at ho'
  cases ho'
  rw [hd] at hd'
  cases hd'
  have hl : kvs.length = vs.length := by rw [← mixOf_len kvs]; exact Paired.length hk
  refine ⟨hat.dictOf.typeIs, hat.dictOf.mapOf.noDict, ?_⟩
  have I2 : Inv X pins σ H1 { s1 with heap := s1.heap.push { cls := .type "dict_items", data := .fields #[.ref d] } } := I1.kept (t' := s1.toks) fun b ob q => Heap.get?_push_of_some _ q
  have fin : wpAny (model X.prog X.w) X.A (pyIter (.ref s1.heap.objs.size)) (PIE X pins σ (.Tuple elts kk tpos) R) X.xe { s1 with heap := s1.heap.push { cls := .type "dict_items", data := .fields #[.ref d] } } := by
    refine wpAny_pyIter_items (d := d) (knd := mixKind X.prog X.w) ⟨_, Heap.get?_push_size _ rfl, rfl, rfl⟩ (hat.push _) (pi_one (tk := s1.toks) I2 _ (walk_itemsW _ D hm) ⟨.none, .none, ?_⟩ q)
    rw [hl]
    exact Heap.get?_push_size _ rfl
  show wpAny _ _ (callWith cpos (.builtin "dict.items") [.ref d] [] []) _ X.xe s1
  exact method_meetsIn F.slot_dict_items F.entry_dict_items rfl (PySem.evalArgs_none ⟨rfl, hat.dictOf.typeIs, F.args_dict_items_1 _, _, meets_dict_items (mixKind X.prog X.w) d D.low, ⟨vs, hat.dictOf⟩, fin⟩)
end
end Ah
/-! Ah6: rules, books as data; drawing them. -/
namespace Ah
open PySem PySem.Spec PyProof.Rows L2 Evl

/-! ### data -/
inductive Mis where
  | none | place | waits
  deriving DecidableEq
structure Rule where
  twice : Bool
  edStay : Bool
  fills : Bool
  joStay : Bool
  mis : Mis
  empty : Bool
  deriving DecidableEq
def Mis.s : Mis → Str
  | .none => "none" | .place => "place" | .waits => "waits"
def Rule.kvs (r : Rule) : List (Str × Str) := [("again", bif r.twice then "twice" else "skip"), ("editions", bif r.edStay then "stays" else "moves"), ("fill", bif r.fills then "fills" else "beside"),
  ("joined", bif r.joStay then "stays" else "moves"), ("missing", r.mis.s), ("swept", bif r.empty then "empty" else "all")]
/-- a dict from texts to texts -/
def kvD (l : List (Str × Str)) : List (Key × V) := l.map fun q => (Sum.inr q.1, .str q.2)
/-- keys: false a, true b; days: false 1, true 2 -/
def kS (k : Bool) : Str := bif k then "b" else "a"
def dI (d : Bool) : Int := bif d then 2 else 1
abbrev Row := Bool × Bool
def rowD (r : Row) : PyData := .tuple [.str (kS r.1), .int (dI r.2)]
structure Bk where
  rows : List Row
  rule : Rule
  join : Bool
  sweep : Bool
def Bk.ok (b : Bk) : Prop := b.rows.length = 1 ∨ b.rows.length = 2
def Bk.words (b : Bk) : List Str := (bif b.join then [("join" : Str)] else []) ++ (bif b.sweep then [("sweep" : Str)] else [])
def rowsD (b : Bk) : PyData := .tuple (b.rows.map rowD)
def wordsD (b : Bk) : PyData := .tuple (b.words.map PyData.str)
def partsL : List (List Str) := [["again", "skip", "twice"], ["editions", "moves", "stays"], ["fill", "beside", "fills"], ["joined", "moves", "stays"], ["missing", "none", "place", "waits"], ["swept", "all", "empty"]]
def partsD : PyData := .list (partsL.map fun l => .list (l.map PyData.str))
section
variable {K : PySem.W.Frag} {σ : L2.St} {G : Hp} {ta tb te : TE} {P P1 P2 : MP V} {d e : PyData} {ds es : List PyData}
/-- a tracked list of data -/
abbrev MP.l (K : PySem.W.Frag) (ds : List PyData) : MP V := ⟨fun v G => ∃ a xs, v = .ref a ∧ G a = some (.lst xs) ∧ DpAll K G xs ds, fun e h => let ⟨a, xs, h1, h2, h3⟩ := h; ⟨a, xs, h1, e _ _ h2, DpAll.up e _ _ h3⟩⟩
theorem l_d {t : Hp → VK → Prop} (h : Cm t G (MP.l K ds)) : Cm t G (MP.d K (.list ds)) := h.imp fun v G' _ p => by
  obtain ⟨a, xs, rfl, h2, h3⟩ := p
  exact .lst (SqL.of h2) h3
theorem c_lstl {t : TA} (h : Cm (t σ) G (MP.ds K ds)) (hl : ds.length ≤ 100000) : Cm (tLst t σ) G (MP.l K ds) :=
  Cm.bind (t := t σ) (u := fun (xs : List V) (H1 : Hp) (Q : V → Hp → Prop) => xs.length ≤ sizeLine ∧ ∀ p, H1 p = none → Q (V.ref p) (upd H1 p (.lst xs))) h fun xs G1 e1 p1 => c_and (sz hl p1) (c_new fun p hp => ⟨p, xs, rfl, upd_same, DpAll.up (Ex.new hp) _ _ p1⟩)
theorem c_addL (ha : Cm (ta σ) G (MP.l K ds)) (hb : Cm (tb σ) G (MP.l K es)) (hl : ds.length + es.length ≤ 100000) : Cm (tOp (rAddG K) ta tb σ) G (MP.l K (ds ++ es)) :=
  c_op ha hb fun x y G1 e1 p q => by
    obtain ⟨a, xs, rfl, h1, h2⟩ := p
    obtain ⟨b, ys, rfl, k1, k2⟩ := q
    exact c_newV (o := .lst (xs ++ ys)) (fun H eh Q h => u_cat (eh _ _ h1) (eh _ _ k1) (by rw [DpAll.length h2, DpAll.length k2]; exact hl) h) fun p hp => ⟨p, _, rfl, upd_same, DpAll.up (Ex.new hp) _ _ (DpAll.app h2 k2)⟩
theorem c_mono (h : Cm (te σ) G P) : Cm (te σ) G P := h
end
/-! ### _law_parts -/
abbrev sp__law_parts (K : PySem.W.Frag) (w : World) (c : Ad) : Sp := spOf (ι := Unit) (fun _ => []) (fun _ => MP.l K (partsL.map fun l => .list (l.map PyData.str)))
theorem len__law_parts {K : PySem.W.Frag} {w : World} {c : Ad} {vs : List V} {H : Hp} {Q : VK} {E : XK} (h : sp__law_parts K w c vs H Q E) : vs.length = 0 := spOf_len (fun _ => rfl) vs H Q E h
def t__law_parts (K : PySem.W.Frag) (w : World) (c : Ad) : TS :=
  (tSeq (tAsg (tLst (tCons (tLst (tCons (tC (.str "again")) (tCons (tC (.str "skip")) (tCons (tC (.str "twice")) tNil)))) (tCons (tLst (tCons (tC (.str "editions")) (tCons (tC (.str "moves")) (tCons (tC (.str "stays")) tNil)))) (tCons (tLst (tCons (tC (.str "fill")) (tCons (tC (.str "beside")) (tCons (tC (.str "fills")) tNil)))) tNil)))) (gName 0))
    (tRet (tOp (rAddG K) (tVar 0) (tLst (tCons (tLst (tCons (tC (.str "joined")) (tCons (tC (.str "moves")) (tCons (tC (.str "stays")) tNil)))) (tCons (tLst (tCons (tC (.str "missing")) (tCons (tC (.str "none")) (tCons (tC (.str "place")) (tCons (tC (.str "waits")) tNil))))) (tCons (tLst (tCons (tC (.str "swept")) (tCons (tC (.str "all")) (tCons (tC (.str "empty")) tNil)))) tNil)))))))
theorem c_strs3 {K : PySem.W.Frag} {σ : L2.St} {G : Hp} {a b c : Str} : Cm (tLst (tCons (tC (.str a)) (tCons (tC (.str b)) (tCons (tC (.str c)) tNil))) σ) G (MP.d K (.list [.str a, .str b, .str c])) :=
  c_lst (c_dcons c_str (c_dcons c_str (c_dcons c_str c_dnil))) (by show 3 ≤ 100000; decide)
theorem rd__law_parts {K : PySem.W.Frag} {w : World} {c : Ad} {vs : List V} {H : Hp} {Q : VK} {E : XK} (h : sp__law_parts K w c vs H Q E) : t__law_parts K w c (Dn Q) (vs.map some ++ List.replicate (1 - vs.length) none) H := by
  obtain ⟨_, G, e, ha, q⟩ := h
  cases ha
  refine (b_asg (R := MP.l K _) (c_lstl (c_dcons c_strs3 (c_dcons c_strs3 (c_dcons c_strs3 c_dnil))) (by show 3 ≤ 100000; decide)) fun v G1 e1 p1 => ?_ : Cm (bd (t__law_parts K w c) [none]) G (MP.l K (partsL.map fun l => .list (l.map PyData.str)))) H e Q q
  exact b_ret (c_addL (c_var (P := MP.l K _) rfl p1) (c_lstl (c_dcons c_strs3 (c_dcons (c_lst (c_dcons c_str (c_dcons c_str (c_dcons c_str (c_dcons c_str c_dnil)))) (by show 4 ≤ 100000; decide)) (c_dcons c_strs3 c_dnil))) (by show 3 ≤ 100000; decide)) (by show 6 ≤ 100000; decide))
end Ah
/-! Ah7: comprehensions over data; all, any. -/
namespace Ah
open PySem PySem.Spec PyProof.Rows L2 Evl

section
variable {K : PySem.W.Frag} {σ : L2.St} {G : Hp} {tl te : TE} {tt : TT} {g : TG} {ds : List PyData} {vs : List Nat}
/-- one turn of a comprehension over data: the target takes the item, the test says q, the element is f -/
def CTurn (K : PySem.W.Frag) (σ : L2.St) (vs : List Nat) (g : TG) (tt : TT) (te : TE) (q : Bool) (e : PyData) (v : V) (G1 : Hp) : Prop :=
  ∃ σ2, wipe σ2 vs = wipe σ vs ∧ (∀ H1, Ex G1 H1 → ∀ Q : L2.St → Hp → Prop, Q σ2 H1 → g v (wipe σ vs) H1 Q) ∧ Cm (tt σ2) G1 (MP.eq q) ∧ (q = true → Cm (te σ2) G1 (MP.d K e))
/-- the word of such a loop: the new list at D holds the data es -/
def CW (K : PySem.W.Frag) (H1 G1 : Hp) (D : Addr) (es : List PyData) (H' : Hp) : Prop :=
  ∃ (G' : Hp) (acc : List V), Ex H1 H' ∧ Nw H1 G1 G' H' ∧ G' D = none ∧ H' D = some (.lst acc) ∧ DpAll K G' acc es
theorem cw_start {H1 G1 : Hp} {D : Addr} (e : Ex G1 H1) (hD : H1 D = none) : CW K H1 G1 D [] (upd H1 D (.lst [])) :=
  ⟨G1, [], Ex.new hD, Nw.own e hD, fresh_back e hD, upd_same, .nil⟩
theorem cw_turn2 {H1 G1 H' : Hp} {D : Addr} {es : List PyData} {q : Bool} {d : PyData} {v : V} (hD : H1 D = none) (hl : es.length < 100000)
    (w : ∃ (G' : Hp) (acc : List V), Ex H1 H' ∧ Nw H1 G1 G' H' ∧ G' D = none ∧ H' D = some (.lst acc) ∧ DpAll K G' acc es ∧ CTurn K σ vs g tt te q d v G') : g v (wipe σ vs) H' fun σ2 H2 => wipe σ2 vs = wipe σ vs ∧ tt σ2 H2 fun b H3 =>
      if b = true then te σ2 H3 fun y H4 => ∃ acc, H4 D = some (.lst acc) ∧ acc.length < sizeLine ∧ CW K H1 G1 D (if q = true then es ++ [d] else es) (upd H4 D (.lst (acc ++ [y]))) else CW K H1 G1 D (if q = true then es ++ [d] else es) H3 := by
  obtain ⟨G', acc, e1, n1, gD, hD', ha, σ2, hw, hg, ct, ce⟩ := w
  refine hg H' n1.le _ ⟨hw, ct H' n1.le _ fun b G2 H2 e2 n2 p2 => ?_⟩
  have p2 : b = q := p2
  subst p2
  have gD2 : G2 D = none := n2.old D (by rw [hD']; exact fun z => nomatch z) gD
  cases b with
  | false =>
    rw [if_neg Bool.false_ne_true, if_neg Bool.false_ne_true]
    exact ⟨G2, acc, e1.trans e2, n1.trans e1 n2, gD2, e2 _ _ hD', DpAll.up n2.ex _ _ ha⟩
  | true =>
    rw [if_pos rfl, if_pos rfl]
    refine (ce rfl).up n2.ex H2 n2.le _ fun y G3 H3 e3 n3 p3 => ?_
    have h3 : H3 D = some (.lst acc) := e3 _ _ (e2 _ _ hD')
    have gD3 : G3 D = none := n3.old D (by rw [e2 _ _ hD']; exact fun z => nomatch z) gD2
    refine ⟨acc, h3, by rw [DpAll.length ha]; exact sz_lt hl, G3, acc ++ [y], Ex.mut ((e1.trans e2).trans e3) hD, ?_, gD3, upd_same, DpAll.app (DpAll.up (n2.ex.trans n3.ex) _ _ ha) (.cons p3 .nil)⟩
    have n4 := (n1.trans e1 n2).trans (e1.trans e2) n3
    exact ⟨n4.ex, Ex.mut n4.le gD3, n4.old⟩
theorem cw_turn {H1 G1 H' : Hp} {D : Addr} {es : List PyData} {q : Bool} {d : PyData} {v : V} (hD : H1 D = none) (w : CW K H1 G1 D es H') (hl : es.length < 100000)
    (ht : ∀ G', Ex G1 G' → CTurn K σ vs g tt te q d v G') : g v (wipe σ vs) H' fun σ2 H2 => wipe σ2 vs = wipe σ vs ∧ tt σ2 H2 fun b H3 =>
      if b = true then te σ2 H3 fun y H4 => ∃ acc, H4 D = some (.lst acc) ∧ acc.length < sizeLine ∧ CW K H1 G1 D (if q = true then es ++ [d] else es) (upd H4 D (.lst (acc ++ [y]))) else CW K H1 G1 D (if q = true then es ++ [d] else es) H3 := by
  obtain ⟨G', acc, e1, n1, gD, hD', ha⟩ := w
  exact cw_turn2 hD hl ⟨G', acc, e1, n1, gD, hD', ha, ht G' n1.ex⟩
theorem cw_end {H1 G1 H' : Hp} {D : Addr} {es : List PyData} (hD : H1 D = none) (g1 : G1 D = none) (w : CW K H1 G1 D es H') : ∃ G', Nw H1 G1 G' H' ∧ Ex H1 H' ∧ (MP.l K es).p (.ref D) G' := by
  obtain ⟨G', acc, e1, n1, gD, hD', ha⟩ := w
  refine ⟨upd G' D (.lst acc), ⟨n1.ex.trans (Ex.new gD), fun b o h => ?_, fun b hb hg => ?_⟩, e1, D, acc, rfl, upd_same, DpAll.up (Ex.new gD) _ _ ha⟩
  · by_cases hb : b = D
    · subst hb; rw [upd_same] at h; rw [hD', ← h]
    · rw [upd_ne hb] at h; exact n1.le b o h
  · rw [upd_ne (fun z => hb (by rw [z]; exact hD))]
    exact n1.old b hb hg
theorem snocRec {α : Type} {M : List α → Prop} (nil : M []) (snoc : ∀ l a, M l → M (l ++ [a])) (l : List α) : M l := by
  have h : ∀ r : List α, M r.reverse := fun r => by
    induction r with
    | nil => exact nil
    | cons a r ih => rw [List.reverse_cons]; exact snoc _ _ ih
  have e := h l.reverse
  rwa [List.reverse_reverse] at e
/-- what is made of the first i items -/
def picked (q : Nat → Bool) (f : Nat → PyData) (i : Nat) : List PyData := ((List.range i).filter q).map f
theorem picked_succ (q : Nat → Bool) (f : Nat → PyData) (i : Nat) : picked q f (i + 1) = if q i = true then picked q f i ++ [f i] else picked q f i := by
  unfold picked
  rw [List.range_succ, List.filter_append, List.map_append]
  cases h : q i with
  | true => rw [List.filter_cons, if_pos h, if_pos rfl] <;> rfl
  | false =>
    rw [List.filter_cons, if_neg (by rw [h]; exact Bool.false_ne_true), if_neg Bool.false_ne_true]
    exact List.append_nil _
theorem picked_len (q : Nat → Bool) (f : Nat → PyData) (i : Nat) : (picked q f i).length ≤ i := by
  unfold picked
  rw [List.length_map]
  have h := List.length_filter_le q (List.range i)
  rwa [List.length_range] at h
theorem picked_all (f : Nat → PyData) (q : Nat → Bool) : ∀ (ds : List PyData) (F : PyData → PyData) (t : PyData → Bool), (∀ i d, ds[i]? = some d → q i = t d ∧ (t d = true → f i = F d)) → picked q f ds.length = (ds.filter t).map F := by
  intro ds
  induction ds using snocRec with
  | nil => intro F t h; rfl
  | snoc l a ih =>
    intro F t h
    rw [List.length_append, List.length_singleton, picked_succ, List.filter_append, List.map_append, ih F t fun i d e => h i d (by rw [List.getElem?_append_left (List.getElem?_eq_some_iff.mp e).1]; exact e)]
    obtain ⟨h1, h2⟩ := h l.length a (by simp)
    rw [h1]
    cases ht : t a with
    | true => rw [if_pos rfl, h2 ht, List.filter_cons, if_pos ht] <;> rfl
    | false => rw [if_neg Bool.false_ne_true, List.filter_cons, if_neg (by rw [ht]; exact Bool.false_ne_true)]; simp
end
end Ah
namespace Ah
open PySem PySem.Spec PyProof.Rows L2 Evl
section
variable {K : PySem.W.Frag} {σ : L2.St} {G : Hp} {tl te : TE} {tt : TT} {g : TG} {ds : List PyData} {vs : List Nat} {t : PyData → Bool} {F : PyData → PyData}
theorem lc_end {H H1 H' : Hp} {G G1 : Hp} {D : Addr} {es : List PyData} {Q : VK} (n1 : Nw H G G1 H1) (e1 : Ex H H1) (hD : H1 D = none) (w : CW K H1 G1 D es H')
    (k : ∀ v G' H', Ex H H' → Nw H G G' H' → (MP.l K es).p v G' → Q v H') : Q (.ref D) H' := by
  obtain ⟨G', n2, e2, p⟩ := cw_end hD (fresh_back n1.le hD) w
  exact k _ G' H' (e1.trans e2) (n1.trans e1 n2) p
theorem c_lcL (hl : Cm (tl σ) G (MP.d K (.list ds))) (hn : ds.length ≤ 90000)
    (turn : ∀ v d G1, Ex G G1 → d ∈ ds → Dp K G1 v d → CTurn K σ vs g tt te (t d) (F d) v G1) : Cm (tLc (iSeq K tl) g tt te vs σ) G (MP.l K ((ds.filter t).map F)) := fun H e Q k =>
  hl H e _ fun x G1 H1 e1 n1 p1 => by
    obtain ⟨a, xs, rfl, h1, h2⟩ := dp_lst p1
    have hlen := DpAll.length h2
    refine .inl ⟨a, rfl, ⟨xs, ex_l n1.le h1⟩, fun D hD => ?_⟩
    refine lc_list (xs := xs) (fun i H' => CW K H1 G1 D (picked (fun i => t (ds.getD i .none)) (fun i => F (ds.getD i .none)) i) H') (cw_start n1.le hD) ?_ ?_ ?_
    · rintro i H' _ ⟨G', acc, _, n, _⟩
      exact ex_l (n.ex.trans n.le) h1
    · intro i x H' hx w
      obtain ⟨d, hd, pd⟩ := DpAll.at_ h2 hx
      have eg : ds.getD i .none = d := by rw [List.getD_eq_getElem?_getD, hd] <;> rfl
      rw [picked_succ, eg]
      have hi := (List.getElem?_eq_some_iff.mp hd).1
      refine cw_turn hD w (by have := picked_len (fun i => t (ds.getD i .none)) (fun i => F (ds.getD i .none)) i; omega) fun G' eG => ?_
      exact turn x d G' (n1.ex.trans eG) (List.mem_of_getElem? hd) (Dp.up eG _ _ pd)
    · intro H' w
      rw [hlen, picked_all _ _ ds F t fun i d e => by
        have eg : ds.getD i .none = d := by rw [List.getD_eq_getElem?_getD, e] <;> rfl
        exact ⟨congrArg t eg, fun _ => congrArg F eg⟩] at w
      exact lc_end n1 e1 hD w k
theorem c_lcT (hl : Cm (tl σ) G (MP.d K (.tuple ds))) (hn : ds.length ≤ 90000)
    (turn : ∀ v d G1, Ex G G1 → d ∈ ds → Dp K G1 v d → CTurn K σ vs g tt te (t d) (F d) v G1) : Cm (tLc (iSeq K tl) g tt te vs σ) G (MP.l K ((ds.filter t).map F)) := fun H e Q k =>
  hl H e _ fun x G1 H1 e1 n1 p1 => by
    obtain ⟨a, xs, rfl, h1, h2⟩ := dp_tup p1
    have hlen := DpAll.length h2
    refine .inr ⟨a, rfl, ⟨xs, ex_t n1.le h1⟩, fun D hD => ?_⟩
    refine lc_tup (xs := xs) (fun i H' => CW K H1 G1 D (picked (fun i => t (ds.getD i .none)) (fun i => F (ds.getD i .none)) i) H') (cw_start n1.le hD) ?_ ?_ ?_
    · rintro i H' _ ⟨G', acc, _, n, _⟩
      exact ex_t (n.ex.trans n.le) h1
    · intro i x H' hx w
      obtain ⟨d, hd, pd⟩ := DpAll.at_ h2 hx
      have eg : ds.getD i .none = d := by rw [List.getD_eq_getElem?_getD, hd] <;> rfl
      rw [picked_succ, eg]
      have hi := (List.getElem?_eq_some_iff.mp hd).1
      refine cw_turn hD w (by have := picked_len (fun i => t (ds.getD i .none)) (fun i => F (ds.getD i .none)) i; omega) fun G' eG => ?_
      exact turn x d G' (n1.ex.trans eG) (List.mem_of_getElem? hd) (Dp.up eG _ _ pd)
    · intro H' w
      rw [hlen, picked_all _ _ ds F t fun i d e => by
        have eg : ds.getD i .none = d := by rw [List.getD_eq_getElem?_getD, e] <;> rfl
        exact ⟨congrArg t eg, fun _ => congrArg F eg⟩] at w
      exact lc_end n1 e1 hD w k
/-- over range(n) -/
theorem c_lcR {ta : TA} {n : Nat} {t : Nat → Bool} {F : Nat → PyData} (ha : Cm (ta σ) G (MP.ds K [.int n])) (hn : n ≤ 90000)
    (turn : ∀ (i : Nat) G1, Ex G G1 → i < n → CTurn K σ vs g tt te (t i) (F i) (.int i) G1) : Cm (tLc (iRng1 ta) g tt te vs σ) G (MP.l K (((List.range n).filter t).map F)) := fun H e Q k =>
  ha H e _ fun xs G1 H1 e1 n1 p1 => by
    cases p1 with
    | cons pa pb =>
      cases pb
      rw [dp_int pa]
      refine ⟨n, rfl, by omega, by omega, fun D hD => ?_⟩
      have hn' : (n : Int).toNat = n := by omega
      rw [hn']
      refine lc_range (lo := 0) (n := n) (fun i H' => CW K H1 G1 D (picked t F i) H') (cw_start n1.le hD) (fun i H' hi w => ?_) fun H' w => lc_end n1 e1 hD w k
      have e0 : (0 : Int) + (i : Int) = (i : Int) := Int.zero_add _
      rw [picked_succ, e0]
      exact cw_turn hD w (by have := picked_len t F i; omega) fun G' eG => turn i G' (n1.ex.trans eG) hi
/-- the target one name -/
theorem ct_name {j : Nat} {q : Bool} {d : PyData} {v : V} {G1 : Hp} (hw : wipe ((wipe σ vs).set j (some v)) vs = wipe σ vs) (ht : Cm (tt ((wipe σ vs).set j (some v))) G1 (MP.eq q)) (he : q = true → Cm (te ((wipe σ vs).set j (some v))) G1 (MP.d K d)) :
    CTurn K σ vs (gName j) tt te q d v G1 := ⟨_, hw, fun H1 _ Q k => k, ht, he⟩
/-- the target a pair of names -/
theorem ct_pair {i j : Nat} {q : Bool} {d : PyData} {v x y : V} {G1 : Hp} {a : Addr} (hv : v = .ref a) (ha : SqT K G1 a [x, y]) (hw : wipe (((wipe σ vs).set i (some x)).set j (some y)) vs = wipe σ vs) (ht : Cm (tt (((wipe σ vs).set i (some x)).set j (some y))) G1 (MP.eq q))
    (he : q = true → Cm (te (((wipe σ vs).set i (some x)).set j (some y))) G1 (MP.d K d)) : CTurn K σ vs (gTup K 2 (gCons (gName i) (gCons (gName j) gNil))) tt te q d v G1 :=
  ⟨_, hw, fun H1 e Q k => ⟨a, [x, y], hv, ex_t e ha, rfl, _, _, rfl, _, _, rfl, rfl, k⟩, ht, he⟩
theorem c_yes : Cm (tYes σ) G (MP.eq true) := Cm.ret (P := MP.eq true) rfl
theorem filter_yes (ds : List PyData) : ds.filter (fun _ => true) = ds := List.filter_eq_self.mpr fun _ _ => rfl
/-- all(..), any(..) of truth values -/
theorem dps_bools : ∀ {bs : List Bool} {xs : List V} {G : Hp}, DpAll K G xs (bs.map PyData.bool) → xs = bs.map V.bl
  | [], _, _, h => by cases h; rfl
  | b :: bs, _, _, h => by
    cases h with
    | cons h1 h2 => rw [dp_bl h1, dps_bools h2] <;> rfl
theorem c_all {ta : TE} {bs : List Bool} (ha : Cm (ta σ) G (MP.l K (bs.map PyData.bool))) : Cm (tCB (rAll K) (tCons ta tNil) σ) G (MP.d K (.bool (bs.all id))) :=
  c_cb1 ha fun x G1 e1 p => by
    obtain ⟨a, xs, rfl, h1, h2⟩ := p
    rw [dps_bools h2] at h1
    exact c_valN (z := .bl (bs.all id)) (fun H eh Q h => ⟨a, bs, rfl, SqL.of (eh _ _ h1), h⟩) (.bl _)
theorem c_any {ta : TE} {bs : List Bool} (ha : Cm (ta σ) G (MP.l K (bs.map PyData.bool))) : Cm (tCB (rAny K) (tCons ta tNil) σ) G (MP.d K (.bool (bs.any id))) :=
  c_cb1 ha fun x G1 e1 p => by
    obtain ⟨a, xs, rfl, h1, h2⟩ := p
    rw [dps_bools h2] at h1
    exact c_valN (z := .bl (bs.any id)) (fun H eh Q h => ⟨a, bs, rfl, SqL.of (eh _ _ h1), h⟩) (.bl _)
end
end Ah
/-! Ah8: equality with dicts within; own ==. -/
namespace Ah
open PySem PySem.Spec PyProof.Rows L2 Evl

/-- two dicts of texts by texts -/
def kvEq (l m : List (Str × Str)) : Bool := l.length == m.length && l.all fun p => (m.lookup p.1).isSome && decide (l.lookup p.1 = m.lookup p.1)
theorem valV_kv (x : Str) : ∀ l : List (Str × Str), valV (kvD l) (Sum.inr x : Key) = (l.lookup x).map V.str
  | [] => rfl
  | q :: r => by
    have ih := valV_kv x r
    unfold valV at ih ⊢
    unfold kvD at ih ⊢
    rw [List.map_cons, List.find?_cons, List.lookup_cons]
    by_cases h : q.1 = x
    · subst h
      rw [decide_eq_true rfl, beq_self_eq_true] <;> rfl
    · rw [decide_eq_false fun z => h (Sum.inr.inj z), beq_eq_false_iff_ne.mpr fun z => h z.symm]
      exact ih
section
variable {X : Cx} {pins : List (Addr × Obj)} {σ : L2.St} {H : Hp} {s : Shared}
theorem tree_data {n : Nat} (hn : 64 ≤ n) (I : Inv X pins σ H s) {x y : V} {v u : Value} {d e : PyData} (hx : Dp X.K H x d) (hy : Dp X.K H y e) (rx : RelV x v) (ry : RelV y u) (sd : SeqAt.shaped d = true) (se : SeqAt.shaped e = true) : PySem.W.EqTree X.prog X.w s n v u (PyData.eqv d e) := by
  obtain ⟨as, r1⟩ := Dp.reads I d x v hx rx
  obtain ⟨bs, r2⟩ := Dp.reads I e y u hy ry
  exact .leaf fun A hu => SeqAt.eqAt_reads d e A s v u as bs r1 r2 (SeqAt.canLay_of_shaped sd) (SeqAt.canLay_of_shaped se) (SeqAt.room_of_shaped sd (by omega))
theorem relO_some {v : Option V} {u : Option Value} (r : RelO v u) : u.isSome = v.isSome := by
  cases v with
  | none => rw [r.none_of] <;> rfl
  | some x => obtain ⟨y, e, _⟩ := r.some_of; rw [e] <;> rfl
theorem lookup_at : ∀ {l : List (Str × Str)} {j : Nat} {q : Str × Str}, (l.map (·.1)).Nodup → l[j]? = some q → l.lookup q.1 = some q.2
  | [], _, _, _, e => by simp at e
  | a :: r, 0, q, _, e => by
    have e : a = q := by simpa using e
    subst e
    rw [List.lookup_cons, beq_self_eq_true]
  | a :: r, j + 1, q, hn, e => by
    have hn : (a.1 :: r.map (·.1)).Nodup := hn
    obtain ⟨h1, h2⟩ := List.nodup_cons.mp hn
    have e : r[j]? = some q := by simpa using e
    have hne : ¬ q.1 = a.1 := fun z => h1 (List.mem_map.mpr ⟨q, List.mem_of_getElem? e, z⟩)
    rw [List.lookup_cons, beq_eq_false_iff_ne.mpr hne]
    exact lookup_at h2 e
theorem all_kv {m : List (Str × Str)} {vb : List (Key × Value)} (rb : KV (kvD m) vb) (f : Str → Bool) : ∀ {k : List (Str × Str)} {va : List (Key × Value)}, KV (kvD k) va →
    (va.all fun p => (valueAt vb p.1).isSome && (match p.1 with | .inr x => f x | .inl _ => false)) = k.all fun p => (m.lookup p.1).isSome && f p.1
  | [], _, h => by cases h; rfl
  | q :: r, _, h => by
    cases h with
    | @cons a b l1 l2 h1 h2 =>
      obtain ⟨bk, bv⟩ := b
      obtain ⟨h3, h4⟩ := h1
      have h3 : Sum.inr q.1 = bk := h3
      subst h3
      rw [List.all_cons, List.all_cons, all_kv (k := r) rb f h2, relO_some (rb.val (Sum.inr q.1)), valV_kv, Option.isSome_map]
theorem tree_dict (I : Inv X pins σ H s) {a b : Addr} {l m : List (Str × Str)} (ha : H a = some (.dK (kvD l))) (hb : H b = some (.dK (kvD m))) (hab : a ≠ b) (hl : (l.map (·.1)).Nodup) : PySem.W.EqTree X.prog X.w s 65 (.ref a) (.ref b) (kvEq l m) := by
  obtain ⟨_, ya, va, ra, da⟩ := (show ObjOk X.prog X.w H s.heap a (.dK (kvD l)) from I.hok a _ ha)
  obtain ⟨_, yb, vb, rb, db⟩ := (show ObjOk X.prog X.w H s.heap b (.dK (kvD m)) from I.hok b _ hb)
  have t := PySem.W.EqTree.dicts (n := 64) (e := fun k => match k with | .inr x => decide (l.lookup x = m.lookup x) | .inl _ => false) hab ya yb da db fun k v y hm hv => by
    obtain ⟨j, hj⟩ := List.getElem?_of_mem hm
    obtain ⟨z, hz, rz⟩ := KV.at' ra hj
    unfold kvD at hz
    rw [List.getElem?_map] at hz
    cases hq : l[j]? with
    | none => rw [hq] at hz; cases hz
    | some q =>
      rw [hq] at hz
      have hz : (Sum.inr q.1, V.str q.2) = (k, z) := Option.some.inj hz
      cases hz
      have e1 : l.lookup q.1 = some q.2 := by
        exact lookup_at hl hq
      have r2 : RelO (valV (kvD m) (Sum.inr q.1)) (some y) := by rw [← hv]; exact rb.val _
      rw [valV_kv] at r2
      cases e2 : m.lookup q.1 with
      | none => rw [e2] at r2; exact r2.elim
      | some w =>
        rw [e2] at r2
        obtain ⟨t1, rfl⟩ := (show ∃ t, v = Value.str q.2 t from rz)
        obtain ⟨t2, rfl⟩ := (show ∃ t, y = Value.str w t from r2)
        show PySem.W.EqTree X.prog X.w s 64 _ _ (decide (l.lookup q.1 = m.lookup q.1))
        rw [e1, e2]
        refine .leaf fun A hu prog' w' E' Q' hq' => wpAny_eqBool_str ?_
        have e3 : decide (some q.2 = some w) = decide (q.2 = w) := by simp
        rw [e3] at hq'
        exact hq'
  have e : (va.length == vb.length && va.all fun p => (valueAt vb p.1).isSome && (match p.1 with | .inr x => decide (l.lookup x = m.lookup x) | .inl _ => false)) = kvEq l m := by
    have h1 : (kvD l).length = va.length := Paired.length ra
    have h2 : (kvD m).length = vb.length := Paired.length rb
    unfold kvEq
    rw [all_kv rb _ ra, ← h1, ← h2]
    unfold kvD
    rw [List.length_map, List.length_map]
  rw [← e]
  exact t
theorem kvEq_self {l : List (Str × Str)} (hl : (l.map (·.1)).Nodup) : kvEq l l = true := by
  unfold kvEq
  rw [beq_self_eq_true, Bool.true_and]
  refine List.all_eq_true.mpr fun q hq => ?_
  obtain ⟨j, hj⟩ := List.getElem?_of_mem hq
  rw [lookup_at hl hj, decide_eq_true rfl] <;> rfl
end
/-- (data, dict, data) == (data, dict, data) -/
def rEq3 (K : PySem.W.Frag) : R2 := fun x y H Q => ∃ (a b p q : Addr) (r1 w1 r2 w2 : V) (dr dw er ew : PyData) (l m : List (Str × Str)), x = .ref a ∧ y = .ref b ∧ SqT K H a [r1, .ref p, w1] ∧ SqT K H b [r2, .ref q, w2] ∧
  (Dp K H r1 dr ∧ Dp K H w1 dw ∧ Dp K H r2 er ∧ Dp K H w2 ew) ∧ (SeqAt.shaped dr = true ∧ SeqAt.shaped dw = true ∧ SeqAt.shaped er = true ∧ SeqAt.shaped ew = true) ∧
  H p = some (.dK (kvD l)) ∧ H q = some (.dK (kvD m)) ∧ (l.map (·.1)).Nodup ∧ Q (.bl (PyData.eqv dr er && (kvEq l m && PyData.eqv dw ew))) H
theorem kvD_inj : ∀ {l m : List (Str × Str)}, kvD l = kvD m → l = m
  | [], [], _ => rfl
  | [], _ :: _, h => nomatch h
  | _ :: _, [], h => nomatch h
  | a :: r, b :: t, h => by
    have h : (Sum.inr a.1, V.str a.2) :: kvD r = (Sum.inr b.1, V.str b.2) :: kvD t := h
    injection h with h1 h2
    obtain ⟨a1, a2⟩ := a
    obtain ⟨b1, b2⟩ := b
    simp only [Prod.mk.injEq, Sum.inr.injEq, V.str.injEq] at h1
    rw [h1.1, h1.2, kvD_inj h2]
theorem op_eq3 {X : Cx} (hu : X.A.units + 66 < cLine) : OpR X (compareOp .Eq) (rEq3 X.K) := by
  intro pins s σ H x y v u Q I rx ry h
  obtain ⟨a, b, p, q, r1, w1, r2, w2, dr, dw, er, ew, l, m, rfl, rfl, ha, hb, ⟨h1, h2, h3, h4⟩, ⟨s1, s2, s3, s4⟩, hp, hq, hn, k⟩ := h
  obtain rfl : v = Value.ref a := rx
  obtain rfl : u = Value.ref b := ry
  obtain ⟨us, rv, ta, _⟩ := I.tuple ha
  obtain ⟨ws, rw', tb, _⟩ := I.tuple hb
  cases rv with
  | cons v1 rv => cases rv with
    | cons v2 rv => cases rv with
      | cons v3 rv =>
        cases rv
        cases rw' with
        | cons u1 rw' => cases rw' with
          | cons u2 rw' => cases rw' with
            | cons u3 rw' =>
              cases rw'
              rename_i y1 y2 y3 z1 z2 z3
              obtain rfl : y2 = Value.ref p := v2
              obtain rfl : z2 = Value.ref q := u2
              have t2 : PySem.W.EqTree X.prog X.w s 65 (.ref p) (.ref q) (kvEq l m) := by
                by_cases e : p = q
                · subst e
                  rw [hp] at hq
                  have e2 : l = m := kvD_inj (by injection hq with hq; injection hq)
                  subst e2
                  rw [kvEq_self hn]
                  exact .same
                · exact tree_dict I hp hq e hn
              have t1 := (tree_data (n := 65) (by decide) I h1 h3 v1 u1 s1 s3)
              have t3 := (tree_data (n := 65) (by decide) I h2 h4 v3 u3 s2 s4)
              refine PySem.W.eq_tuplesT (n := 65) (e := fun j => match j with | 0 => PyData.eqv dr er | 1 => kvEq l m | _ => PyData.eqv dw ew) ta tb (fun j g1 g2 => ?_) (by omega) (fin_bl I k ?_)
              · match j, g1, g2 with
                | 0, _, _ => exact t1
                | 1, _, _ => exact t2
                | 2, _, _ => exact t3
                | j + 3, g1, _ => exact absurd g1 (by simp)
              · show (PyData.eqv dr er && (kvEq l m && PyData.eqv dw ew)) = ((PyData.eqv dr er && (kvEq l m && (PyData.eqv dw ew && true))) && true)
                rw [Bool.and_true, Bool.and_true]
/-! ### an own == -/
def rEqO (K : PySem.W.Frag) (C : Addr) (sp : Sp) : R2 := fun x y H Q => ∃ a dx fs b, x = .ref a ∧ y = .ref b ∧ H a = some (.ins C dx fs) ∧ ((∃ dy gs, H b = some (.ins C dy gs)) ∨ ∃ xs, H b = some (.lst xs)) ∧ sp [.ref a, .ref b] H (fun v H' => (∃ k, v = .bl k) ∧ Q v H') E0
theorem op_own {X : Cx} {CX : CXT} {n : Nat} {C f : Addr} {fd : FuncData} {ps : List Str} {sp : Sp} (F : FnOk X.prog X.w X.K X.mg X.base CX n f fd ps sp) (hr : Room n X.A) (hs : PySem.W.findIn X.K (.ref C) "__eq__" = some (some (.ref f))) (hf : PySem.W.isFn X.K (.ref f) = true)
    (hl : PySem.W.notFirst X.K C (.type "list") = true) (hb : Binds X.K fd ps []) (hx : Passes CX X E0) : OpR X (compareOp .Eq) (rEqO X.K C sp) := by
  intro pins s σ H x y v u Q I rx ry h
  obtain ⟨a, dx, fs, b, rfl, rfl, ha, hb', hsp⟩ := h
  obtain rfl : v = Value.ref a := rx
  obtain rfl : u = Value.ref b := ry
  obtain ⟨mA, J, _⟩ := ins_get I.hok ha
  obtain ⟨od, J, _⟩ := J.look
  obtain ⟨m, hF⟩ := I.fr
  have goal : wpAny (model X.prog X.w) X.A (call (.ref f) [.ref a, .ref b]) (PySem.W.CmpBack (EP X pins σ Q)) X.xe s := by
    have l2 := F.len _ _ _ _ hsp
    have r2 : Vals [V.ref a, V.ref b] [Value.ref a, Value.ref b] := .cons rfl (.cons rfl .nil)
    have z := run_fn (Q := fun v H' => (∃ k, v = .bl k) ∧ Q v H') F hr hb .nil hx I r2 (by rw [List.append_nil]; exact hsp)
    refine thn z fun u s' ⟨v', H', I', rv, ⟨k, hk⟩, q⟩ => ?_
    subst hk
    obtain rfl : u = Value.bool k := rv
    exact ⟨.bl k, H', I', rfl, q⟩
  show wpAny (model X.prog X.w) X.A (richCompare .Eq (.ref a) (.ref b)) (EP X pins σ Q) X.xe s
  rcases hb' with ⟨dy, gs, hb'⟩ | ⟨xs, hb'⟩
  · obtain ⟨mB, J', _⟩ := ins_get I.hok hb'
    obtain ⟨od', J', _⟩ := J'.look
    exact PySem.W.cmp_K (op := .Eq) (tb := .ref C) hr.units0 hF I.ok.mod.kin J J'.type (by simp [PySem.W.notFirst]) hs hf goal
  · obtain ⟨_, its, n', _, e⟩ := (show ObjOk X.prog X.w H s.heap b (.lst xs) from I.hok b _ hb')
    exact PySem.W.cmp_K (op := .Eq) (tb := .type "list") hr.units0 hF I.ok.mod.kin J ((PySem.W.Looks.ld e).andThen .now) hl hs hf goal
end Ah
/-! Ah9: dicts of texts as data; classes made by their names. -/
namespace Ah
open PySem PySem.Spec PyProof.Rows L2 Evl

section
variable {K : PySem.W.Frag} {w : World} {σ : L2.St} {G : Hp} {td tk te : TE} {P P1 P2 : MP V} {l : List (Str × Str)} {x y : Str}
/-- a dict of texts by texts -/
abbrev MP.dk (l : List (Str × Str)) : MP V := ⟨fun v G => ∃ p, v = .ref p ∧ G p = some (.dK (kvD l)), fun e h => let ⟨p, h1, h2⟩ := h; ⟨p, h1, e _ _ h2⟩⟩
/-- a written dict -/
abbrev MP.kd (K : PySem.W.Frag) (w : World) (kvs : List (Str × V)) : MP V := ⟨fun v _ => ∃ p, v = .ref p ∧ KD K w p kvs, fun _ h => h⟩
theorem c_dget (h1 : Cm (td σ) G (MP.dk l)) (h2 : Cm (tk σ) G (MP.d K (.str x))) (hl : l.lookup x = some y) : Cm (tDGet td tk σ) G (MP.d K (.str y)) :=
  Cm.bind (t := td σ) (u := fun (x : V) (H1 : Hp) (Q : VK) => tk σ H1 fun y H2 => ∃ a v, x = .ref a ∧ DGet H2 a y (some v) ∧ Q v H2) h1 fun v G1 e1 p1 =>
    Cm.bind (t := tk σ) (u := fun (y : V) (H2 : Hp) (Q : VK) => ∃ a z, v = .ref a ∧ DGet H2 a y (some z) ∧ Q z H2) (h2.up e1) fun u G2 e2 p2 => by
      obtain ⟨p, rfl, hp⟩ := p1
      rw [dp_str p2]
      intro H eh Q hq
      have hd := DGet.k (k := Sum.inr x) (eh _ _ (e2 _ _ hp))
      rw [valV_kv, hl] at hd
      exact ⟨p, .str y, rfl, hd, hq _ G2 H (Ex.refl H) (Nw.refl eh) (.str y)⟩
theorem c_din {b : Bool} (h1 : Cm (tk σ) G (MP.d K (.str x))) (h2 : Cm (td σ) G (MP.dk l)) (hl : (l.lookup x).isSome = b) : Cm (tDIn tk td σ) G (MP.d K (.bool b)) :=
  Cm.bind (t := tk σ) (u := fun (y : V) (H1 : Hp) (Q : VK) => td σ H1 fun x H2 => ∃ a o, x = .ref a ∧ DGet H2 a y o ∧ Q (.bl o.isSome) H2) h1 fun v G1 e1 p1 =>
    Cm.bind (t := td σ) (u := fun (x : V) (H2 : Hp) (Q : VK) => ∃ a o, x = .ref a ∧ DGet H2 a v o ∧ Q (.bl o.isSome) H2) (h2.up e1) fun u G2 e2 p2 => by
      obtain ⟨p, rfl, hp⟩ := p2
      rw [dp_str p1]
      intro H eh Q hq
      have hd := DGet.k (k := Sum.inr x) (eh _ _ hp)
      rw [valV_kv] at hd
      refine ⟨p, _, rfl, hd, ?_⟩
      rw [Option.isSome_map, hl]
      exact hq _ G2 H (Ex.refl H) (Nw.refl eh) (.bl b)
/-- of written dicts -/
theorem c_ixW {kvs : List (Str × V)} {v : V} (h1 : Cm (td σ) G (MP.kd K w kvs)) (h2 : Cm (tk σ) G (MP.d K (.str x))) (hl : kvs.lookup x = some v) (hp : ∀ G', Ex G G' → P.p v G') : Cm (tOp (rIxW K w) td tk σ) G P :=
  c_op h1 h2 fun a b G1 e1 p q => by
    obtain ⟨p, rfl, D⟩ := p
    rw [dp_str q]
    exact c_val (z := v) (fun H eh Q h => ⟨p, x, kvs, v, rfl, rfl, D, hl, h⟩) (hp G1 e1)
theorem c_inW {kvs : List (Str × V)} {b : Bool} (h1 : Cm (tk σ) G (MP.d K (.str x))) (h2 : Cm (td σ) G (MP.kd K w kvs)) (hl : (kvs.lookup x).isSome = b) : Cm (tOp (rInW K w) tk td σ) G (MP.d K (.bool b)) :=
  c_op h1 h2 fun a c G1 e1 ps q => by
    obtain ⟨p, rfl, D⟩ := q
    rw [dp_str ps]
    refine c_val (z := .bl b) (fun H eh Q h => ⟨p, x, kvs, rfl, rfl, D, ?_⟩) (.bl b)
    rw [hl]
    exact h
theorem c_lenW {kvs : List (Str × V)} (h1 : Cm (td σ) G (MP.kd K w kvs)) : Cm (tCB (rLenW K w) (tCons td tNil) σ) G (MP.d K (.int kvs.length)) :=
  c_cb1 h1 fun x G1 e1 p => by
    obtain ⟨p, rfl, D⟩ := p
    exact c_valN (z := .int kvs.length) (fun H eh Q h => ⟨p, kvs, rfl, D, h⟩) (.int _)
theorem dps_str : ∀ (xs : List Str) (G : Hp), DpAll K G (xs.map V.str) (xs.map PyData.str)
  | [], _ => .nil
  | x :: xs, G => .cons (.str x) (dps_str xs G)
theorem c_listW {kvs : List (Str × V)} (h1 : Cm (td σ) G (MP.kd K w kvs)) : Cm (tCB (rListW K w) (tCons td tNil) σ) G (MP.l K ((kvs.map (·.1)).map PyData.str)) :=
  c_cb1 h1 fun x G1 e1 p => by
    obtain ⟨p, rfl, D⟩ := p
    refine c_newV (o := .lst (kvs.map fun q => V.str q.1)) (fun H eh Q h => ⟨p, kvs, rfl, D, h⟩) fun p hp => ⟨p, _, rfl, upd_same, ?_⟩
    have z := dps_str (K := K) (kvs.map (·.1)) (upd G1 p (.lst (kvs.map fun q => V.str q.1)))
    rwa [List.map_map] at z
/-- len(d) -/
def rLenD : List V → Hp → VK → Prop := fun xs H Q => ∃ a kvs, xs = [V.ref a] ∧ H a = some (.dK kvs) ∧ Q (.int kvs.length) H
theorem c_lenD (h1 : Cm (td σ) G (MP.dk l)) : Cm (tCB rLenD (tCons td tNil) σ) G (MP.d K (.int l.length)) :=
  c_cb1 h1 fun x G1 e1 p => by
    obtain ⟨p, rfl, hp⟩ := p
    refine c_valN (z := .int (kvD l).length) (fun H eh Q h => ⟨p, _, rfl, eh _ _ hp, h⟩) ?_
    unfold kvD
    rw [List.length_map]
    exact .int _
end
theorem call_lenK {X : Cx} : CallR X (.builtin "len") rLenD := call_lenD
/-! ### classes made by name -/
structure Mak (P : Program) (w : World) (K : PySem.W.Frag) (mg : Str → Option Value) (base : Heap) (CX : CXT) (k : Nat) (x : Str) (C : Addr) (sp : Sp) : Prop where
  ex : ∃ (f : Addr) (fd : FuncData) (ps : List Str), Mk K C f ∧ FnOk P w K mg base CX k f fd ps sp ∧ mg x = some (.ref C) ∧ Binds K fd ps []
theorem pe_mak {X : Cx} {k j : Nat} {x : Str} {C : Addr} {sp : Sp} {p pos : Pos} {e : Expr} {es : List Expr} {t : TA} (c : Mak X.prog X.w X.K X.mg X.base CX0 k x C sp) (hr : Room j X.A) (hk : k + 1 ≤ j) (hg : Gl X x) (ha : PA X (e :: es) t)
    (hdb : (x == ("__debug__" : Str)) = false := by decide) (he : starEach (e :: es) X.env = (false, eval e X.env) :: starEach es X.env := by rfl) (hpl : (backTo pos (starEach es X.env)).any (·.1) = false := by rfl) :
    PE X (.Call (.Name x p) (e :: es) [] pos) (tMake C sp [] E0 t) := by
  obtain ⟨f, fd, ps, M, F, hm, b⟩ := c.ex
  exact pe_make M F (hr.mono hk) hg hm b .nil pass0 ha hdb he hpl
end Ah
/-! Ah10: what a book asks of its rows, rule and words. -/
namespace Ah
open PySem PySem.Spec PyProof.Rows L2 Evl

def kvParts : List (Str × List Str) := [("again", ["skip", "twice"]), ("editions", ["moves", "stays"]), ("fill", ["beside", "fills"]), ("joined", ["moves", "stays"]), ("missing", ["none", "place", "waits"]), ("swept", ["all", "empty"])]
def kvRows : List (Str × Row) := [("a1", (false, false)), ("a2", (false, true)), ("b1", (true, false)), ("b2", (true, true))]
/-- what the top has written -/
structure Ax (K : PySem.W.Frag) (w : World) (c : Ad) : Prop where
  keys : ∀ G, Dp K G (.ref c.KEYS) (.tuple [.str "a", .str "b"])
  wds : ∀ G, Dp K G (.ref c.WORDS) (.tuple [.str "join", .str "sweep"])
  parts : ∃ vs : List V, KD K w c.PARTS ((kvParts.map (·.1)).zip vs) ∧ vs.length = 6 ∧ ∀ G, DpAll K G vs (kvParts.map fun q => .tuple (q.2.map PyData.str))
  cl : Cls K c.Book
  nW : NoAttr K c.Book "wanted"
  nT : NoAttr K c.Book "terms"
  nK : NoAttr K c.Book "kinds"

/-! ### words, integers, editions -/
def isStrD : PyData → Bool
  | .str _ => true
  | _ => false
def isIntD : PyData → Bool
  | .int _ => true
  | .bool _ => true
  | _ => false
def isBoolD : PyData → Bool
  | .bool _ => true
  | _ => false
def isTupD : PyData → Bool
  | .tuple _ => true
  | _ => false
def isListD : PyData → Bool
  | .list _ => true
  | _ => false
theorem kit_str (d : PyData) : kitB (tyD d) "str" = some (isStrD d) := match d with
  | .none => (by decide +kernel : kitB "NoneType" "str" = some false)
  | .bool _ => (by decide +kernel : kitB "bool" "str" = some false)
  | .int _ => (by decide +kernel : kitB "int" "str" = some false)
  | .str _ => (by decide +kernel : kitB "str" "str" = some true)
  | .list _ => (by decide +kernel : kitB "list" "str" = some false)
  | .tuple _ => (by decide +kernel : kitB "tuple" "str" = some false)
  | .dict _ => (by decide +kernel : kitB "dict" "str" = some false)
theorem kit_int (d : PyData) : kitB (tyD d) "int" = some (isIntD d) := match d with
  | .none => (by decide +kernel : kitB "NoneType" "int" = some false)
  | .bool _ => (by decide +kernel : kitB "bool" "int" = some true)
  | .int _ => (by decide +kernel : kitB "int" "int" = some true)
  | .str _ => (by decide +kernel : kitB "str" "int" = some false)
  | .list _ => (by decide +kernel : kitB "list" "int" = some false)
  | .tuple _ => (by decide +kernel : kitB "tuple" "int" = some false)
  | .dict _ => (by decide +kernel : kitB "dict" "int" = some false)
theorem kit_bool (d : PyData) : kitB (tyD d) "bool" = some (isBoolD d) := match d with
  | .none => (by decide +kernel : kitB "NoneType" "bool" = some false)
  | .bool _ => (by decide +kernel : kitB "bool" "bool" = some true)
  | .int _ => (by decide +kernel : kitB "int" "bool" = some false)
  | .str _ => (by decide +kernel : kitB "str" "bool" = some false)
  | .list _ => (by decide +kernel : kitB "list" "bool" = some false)
  | .tuple _ => (by decide +kernel : kitB "tuple" "bool" = some false)
  | .dict _ => (by decide +kernel : kitB "dict" "bool" = some false)
theorem kit_tup (d : PyData) : kitB (tyD d) "tuple" = some (isTupD d) := match d with
  | .none => (by decide +kernel : kitB "NoneType" "tuple" = some false)
  | .bool _ => (by decide +kernel : kitB "bool" "tuple" = some false)
  | .int _ => (by decide +kernel : kitB "int" "tuple" = some false)
  | .str _ => (by decide +kernel : kitB "str" "tuple" = some false)
  | .list _ => (by decide +kernel : kitB "list" "tuple" = some false)
  | .tuple _ => (by decide +kernel : kitB "tuple" "tuple" = some true)
  | .dict _ => (by decide +kernel : kitB "dict" "tuple" = some false)
theorem kit_list (d : PyData) : kitB (tyD d) "list" = some (isListD d) := match d with
  | .none => (by decide +kernel : kitB "NoneType" "list" = some false)
  | .bool _ => (by decide +kernel : kitB "bool" "list" = some false)
  | .int _ => (by decide +kernel : kitB "int" "list" = some false)
  | .str _ => (by decide +kernel : kitB "str" "list" = some false)
  | .list _ => (by decide +kernel : kitB "list" "list" = some true)
  | .tuple _ => (by decide +kernel : kitB "tuple" "list" = some false)
  | .dict _ => (by decide +kernel : kitB "dict" "list" = some false)
/-- d is one of some words -/
def isWordD (d : PyData) (ws : List Str) : Bool := match d with
  | .str s => ws.any fun x => x == s
  | _ => false
def isIntIn (d : PyData) (lo hi : Int) : Bool := match d with
  | .int i => decide (lo ≤ i) && decide (i ≤ hi)
  | _ => false
def isEdD (d : PyData) (least : Int) : Bool := match d with
  | .tuple [x, y] => isWordD x ["a", "b"] && isIntIn y least 2
  | _ => false
/-- a text that may be compared -/
def okS : PyData → Prop
  | .str s => SeqAt.shaped (.str s) = true
  | _ => True
structure WordIn where
  d : PyData
  ws : List Str
  tup : Bool
  ok : okS d
  shp : SeqAt.shaped (.list (ws.map PyData.str)) = true
section
variable {K : PySem.W.Frag} {w : World} {c : Ad} {σ : L2.St} {G : Hp}
abbrev MP.strs (K : PySem.W.Frag) (ws : List Str) (tup : Bool) : MP V := MP.d K (if tup then .tuple (ws.map PyData.str) else .list (ws.map PyData.str))
abbrev sp_is_word (K : PySem.W.Frag) (w : World) (c : Ad) : Sp := spOf (ι := WordIn) (fun i => [MP.d K i.d, MP.strs K i.ws i.tup]) (fun i => MP.d K (.bool (isWordD i.d i.ws)))
theorem len_is_word {vs : List V} {H : Hp} {Q : VK} {E : XK} (h : sp_is_word K w c vs H Q E) : vs.length = 2 := spOf_len (by intro i; rfl) vs H Q E h
def t_is_word (K : PySem.W.Frag) (w : World) (c : Ad) : TS :=
  (tRet (tAndV (tCB (rIsiG K) (tCons (tVar 0) (tCons (tC (.ty "str")) tNil))) (tOp (rInG K false) (tVar 0) (tVar 1))))
theorem any_word (ws : List Str) (s : Str) : ((ws.map PyData.str).any fun z => PyData.eqv z (.str s)) = ws.any fun x => x == s := by
  rw [List.any_map]
  rfl
theorem rd_is_word {vs : List V} {H : Hp} {Q : VK} {E : XK} (h : sp_is_word K w c vs H Q E) : t_is_word K w c (Dn Q) (vs.map some ++ List.replicate (2 - vs.length) none) H := by
  obtain ⟨⟨d, ws, tup, ok, shp⟩, G, e, ha, q⟩ := h
  cases ha with
  | cons p1 ha => cases ha with
    | cons p2 ha =>
      cases ha
      rename_i x y
      have h1 : Cm (tVar 0 [some x, some y]) G (MP.d K d) := c_var rfl p1
      have key : Cm (bd (t_is_word K w c) [some x, some y]) G (MP.d K (.bool (isWordD d ws))) := by
        refine b_ret ?_
        cases d with
        | str s =>
          refine c_to (c_andV (b := ws.any fun x => x == s) (c_isi h1 (kit_str _)) fun _ => ?_) (by rfl)
          cases tup with
          | true => exact c_to (c_inT h1 (c_var (P := MP.d K (.tuple (ws.map PyData.str))) rfl p2) ok shp) (by rw [if_neg Bool.false_ne_true, any_word])
          | false => exact c_to (c_inL h1 (c_var (P := MP.d K (.list (ws.map PyData.str))) rfl p2) ok shp) (by rw [if_neg Bool.false_ne_true, any_word])
        | _ => exact c_to (c_andV (b := false) (c_isi h1 (kit_str _)) fun z => absurd z Bool.false_ne_true) rfl
      exact key H e Q q
abbrev sp_is_integer (K : PySem.W.Frag) (w : World) (c : Ad) : Sp := spOf (ι := PyData × Int × Int) (fun i => [MP.d K i.1, MP.d K (.int i.2.1), MP.d K (.int i.2.2)]) (fun i => MP.d K (.bool (isIntIn i.1 i.2.1 i.2.2)))
theorem len_is_integer {vs : List V} {H : Hp} {Q : VK} {E : XK} (h : sp_is_integer K w c vs H Q E) : vs.length = 3 := spOf_len (by intro i; rfl) vs H Q E h
def t_is_integer (K : PySem.W.Frag) (w : World) (c : Ad) : TS :=
  (tRet (tAndV (tCB (rIsiG K) (tCons (tVar 0) (tCons (tC (.ty "int")) tNil))) (tAndV (tNotV (tCB (rIsiG K) (tCons (tVar 0) (tCons (tC (.ty "bool")) tNil)))) (tChain rLeI rLeI (tVar 1) (tVar 0) (tVar 2)))))
theorem rd_is_integer {vs : List V} {H : Hp} {Q : VK} {E : XK} (h : sp_is_integer K w c vs H Q E) : t_is_integer K w c (Dn Q) (vs.map some ++ List.replicate (3 - vs.length) none) H := by
  obtain ⟨⟨d, lo, hi⟩, G, e, ha, q⟩ := h
  cases ha with
  | cons p1 ha => cases ha with
    | cons p2 ha => cases ha with
      | cons p3 ha =>
        cases ha
        rename_i x y z
        have h1 : Cm (tVar 0 [some x, some y, some z]) G (MP.d K d) := c_var rfl p1
        have key : Cm (bd (t_is_integer K w c) [some x, some y, some z]) G (MP.d K (.bool (isIntIn d lo hi))) := by
          refine b_ret ?_
          cases d with
          | int i =>
            refine c_to (c_andV (b := decide (lo ≤ i) && decide (i ≤ hi)) (c_isi h1 (kit_int _)) fun _ => c_to (c_andV (b := decide (lo ≤ i) && decide (i ≤ hi)) (c_notV (c_isi h1 (kit_bool _))) fun _ => ?_) rfl) rfl
            exact c_chainI (g := fun i j => decide (i ≤ j)) (g' := fun i j => decide (i ≤ j)) (c_var (P := MP.d K (.int lo)) rfl p2) h1 (c_var (P := MP.d K (.int hi)) rfl p3)
          | bool b => exact c_to (c_andV (b := false) (c_isi h1 (kit_int _)) fun _ => c_to (c_andV (b := false) (c_notV (c_isi h1 (kit_bool _))) fun z => absurd z Bool.false_ne_true) rfl) rfl
          | _ => exact c_to (c_andV (b := false) (c_isi h1 (kit_int _)) fun z => absurd z Bool.false_ne_true) rfl
        exact key H e Q q
structure EdIn where
  d : PyData
  least : Int
  ok : ∀ x y, d = .tuple [x, y] → okS x
theorem shp_keys : SeqAt.shaped (.list ([("a" : Str), "b"].map PyData.str)) = true := by decide +kernel
abbrev sp_is_edition (K : PySem.W.Frag) (w : World) (c : Ad) : Sp := spOf (ι := EdIn) (fun i => [MP.d K i.d, MP.d K (.int i.least)]) (fun i => MP.d K (.bool (isEdD i.d i.least)))
theorem len_is_edition {vs : List V} {H : Hp} {Q : VK} {E : XK} (h : sp_is_edition K w c vs H Q E) : vs.length = 2 := spOf_len (by intro i; rfl) vs H Q E h
def t_is_edition (K : PySem.W.Frag) (w : World) (c : Ad) : TS :=
  (tRet (tAndV (tCB (rIsiG K) (tCons (tVar 0) (tCons (tC (.ty "tuple")) tNil))) (tAndV (tOp (rEqD K) (tCB (rLenG K) (tCons (tVar 0) tNil)) (tC (.int 2))) (tAndV (tCall (sp_is_word K w c) [] E0 (tCons (tOp (rIx K) (tVar 0) (tC (.int 0))) (tCons (tC (.ref c.KEYS)) tNil))) (tCall (sp_is_integer K w c) [] E0 (tCons (tOp (rIx K) (tVar 0) (tC (.int 1))) (tCons (tVar 1) (tCons (tC (.int 2)) tNil))))))))
theorem shp_int (i : Int) : SeqAt.shaped (.int i) = true := by rfl
theorem rd_is_edition (X : Ax K w c) {vs : List V} {H : Hp} {Q : VK} {E : XK} (h : sp_is_edition K w c vs H Q E) : t_is_edition K w c (Dn Q) (vs.map some ++ List.replicate (2 - vs.length) none) H := by
  obtain ⟨⟨d, least, ok⟩, G, e, ha, q⟩ := h
  cases ha with
  | cons p1 ha => cases ha with
    | cons p2 ha =>
      cases ha
      rename_i x y
      have h1 : Cm (tVar 0 [some x, some y]) G (MP.d K d) := c_var rfl p1
      have key : Cm (bd (t_is_edition K w c) [some x, some y]) G (MP.d K (.bool (isEdD d least))) := by
        refine b_ret ?_
        cases d with
        | tuple ds =>
          have hlen : Cm (tOp (rEqD K) (tCB (rLenG K) (tCons (tVar 0) tNil)) (tC (.int 2)) [some x, some y]) G (MP.d K (.bool ((ds.length : Int) == 2))) := c_eq (c_lenT h1) c_int (shp_int _) (shp_int _)
          refine c_to (c_andV (b := isEdD (.tuple ds) least) (c_isi h1 (kit_tup _)) fun _ => ?_) (by rfl)
          match ds, h1, ok, hlen with
          | [a, b], h1, ok, hlen =>
            refine c_to (c_andV (b := isEdD (.tuple [a, b]) least) hlen fun _ => ?_) rfl
            refine c_andV (c_call (args := fun i : WordIn => [MP.d K i.d, MP.strs K i.ws i.tup]) (res := fun i => MP.d K (.bool (isWordD i.d i.ws))) ⟨a, ["a", "b"], true, ok _ _ rfl, shp_keys⟩ (c_cons (c_ixT h1 c_int rfl) (c_cons (c_c (X.keys G)) c_nil))) fun _ => ?_
            exact c_call (args := fun i : PyData × Int × Int => [MP.d K i.1, MP.d K (.int i.2.1), MP.d K (.int i.2.2)]) (res := fun i => MP.d K (.bool (isIntIn i.1 i.2.1 i.2.2))) (b, least, 2) (c_cons (c_ixT h1 c_int rfl) (c_cons (c_var (P := MP.d K (.int least)) rfl p2) (c_cons c_int c_nil)))
          | [], h1, ok, hlen => exact c_to (c_andV (b := false) hlen fun z => absurd z (by decide)) rfl
          | [_], h1, ok, hlen => exact c_to (c_andV (b := false) hlen fun z => absurd z (by show ¬ ((1 : Int) == 2) = true; decide)) rfl
          | _ :: _ :: _ :: r, h1, ok, hlen =>
            have z : (((r.length + 3 : Nat) : Int) == 2) = false := beq_eq_false_iff_ne.mpr (by omega)
            refine c_to (c_andV (b := false) (c_to hlen (congrArg PyData.bool z)) fun z => absurd z (by decide)) rfl
        | _ => exact c_to (c_andV (b := false) (c_isi h1 (kit_tup _)) fun z => absurd z Bool.false_ne_true) rfl
      exact key H e Q q
end
end Ah
/-! Ah11: walks over dicts. -/
namespace Ah
open PySem PySem.Spec PyProof.Rows L2 Evl

/-! ### forms of loops over a written dict -/
theorem for_itemsW {kvs : List (Str × V)} {g : TG} {tb : TS} {D : Ends} {σ : L2.St} {H : Hp} (Pv : Nat → L2.St → Hp → Prop) (h0 : Pv 0 σ H)
    (hs : ∀ i q T σ H, kvs[i]? = some q → Pv i σ H → H T = none → g (.ref T) σ (upd H T (.tup [.str q.1, q.2])) fun σ2 H2 => tb { D with nx := Pv (i + 1), ct := Pv (i + 1), bk := D.nx } σ2 H2) (hd : ∀ σ H, Pv kvs.length σ H → D.nx σ H) :
    ∃ W : Nat → Nat → L2.St → Hp → Prop, (∃ m, W 0 m σ H) ∧ ∀ i m σ H, W i m σ H →
      ((ItiW kvs).stop i H ∧ D.nx σ H) ∨ ((ItiW kvs).go i H ∧ ∃ N : L2.St → Hp → Prop, (∀ σ' H', N σ' H' → ∃ m', m' < m ∧ W (i + 1) m' σ' H') ∧ ∀ x H', (ItiW kvs).yld i H x H' → g x σ H' fun σ2 H2 => tb { D with nx := N, ct := N, bk := D.nx } σ2 H2) := by
  refine ⟨fun i m σ H => m = kvs.length - i ∧ i ≤ kvs.length ∧ Pv i σ H, ⟨kvs.length, rfl, Nat.zero_le _, h0⟩, ?_⟩
  rintro i m σ H ⟨rfl, hi, p⟩
  by_cases hlt : i < kvs.length
  · refine .inr ⟨hlt, Pv (i + 1), fun σ' H' p' => ⟨_, by omega, rfl, hlt, p'⟩, fun x H' y => ?_⟩
    obtain ⟨T, q, hq, e1, hT, e2⟩ := y
    subst e1 e2
    exact hs i q T σ H hq p hT
  · have e : i = kvs.length := by omega
    subst e
    exact .inl ⟨Nat.le_refl _, hd σ H p⟩
section
variable {K : PySem.W.Frag} {w : World} {σ : L2.St} {G : Hp} {te td tk tv : TE} {tt : TT} {P : MP V} {tr t u : TS}
theorem u_yes {σ : L2.St} {H : Hp} {Q : Bool → Hp → Prop} (h : Q true H) : tYes σ H Q := h
theorem b_ifN (h : Cm (tt σ) G (MP.eq false)) (k : Cm (bd tr σ) G P) : Cm (bd (tSeq (tIfS tt tNever tNext) tr) σ) G P := b_if h (fun z => absurd z Bool.false_ne_true) fun _ => k
/-- in the middle of a body: a test that is false -/
theorem u_ifN {D : Ends} {H : Hp} (h : Cm (tt σ) G (MP.eq false)) (e : Ex G H) (k : ∀ G' H', Ex H H' → Nw H G G' H' → tr D σ H') : tSeq (tIfS tt tNever tNext) tr D σ H :=
  h H e _ fun b G' H' e1 n1 p => by
    have p : b = false := p
    subst p
    exact iteF (k G' H' e1 n1)
theorem c_isiK {l : List (Str × Str)} (h : Cm (te σ) G (MP.dk l)) : Cm (tCB (rIsiG K) (tCons te (tCons (tC (.ty "dict")) tNil)) σ) G (MP.d K (.bool true)) :=
  c_cb2 (P2 := MP.eq (.ty "dict")) h (c_c rfl) fun x y G1 e1 p q => by
    have hy : y = .ty "dict" := q
    subst hy
    obtain ⟨a, rfl, ha⟩ := p
    exact c_valN (z := .bl true) (fun H eh Q h => .inl ⟨_, _, _, _, true, rfl, .ty "dict", .base (.dK (eh _ _ ha)), kit_ty (by decide +kernel), h⟩) (.bl _)
/-- a quiet loop over a written dict's pairs: for each, a test that is false -/
theorem b_forW {kvs : List (Str × V)} {i j : Nat} (σf : Option V → Option V → L2.St) (x0 y0 : Option V) (hσ : σ = σf x0 y0) (hset : ∀ x y a b, ((σf x y).set i (some a)).set j (some b) = σf (some a) (some b)) (hd : Cm (td σ) G (MP.kd K w kvs))
    (turn : ∀ q G1, q ∈ kvs → Ex G G1 → Cm (tt (σf (some (.str q.1)) (some q.2))) G1 (MP.eq false)) (hP : ∀ {G1}, Ex G G1 → P.p .non G1) :
    Cm (bd (tFor (iItemsW K w td) (gTup K 2 (gCons (gName i) (gCons (gName j) gNil))) (tIfS tt tNever tNext)) σ) G P := fun H e Q q =>
  hd H e _ fun a G1 H1 e1 n1 p1 => by
    obtain ⟨p, rfl, D⟩ := p1
    refine ⟨p, kvs, rfl, D, for_itemsW (fun n σ' H' => Ex H H' ∧ (∃ G', Nw H G G' H') ∧ ∃ x y, σ' = σf x y) ⟨e1, ⟨G1, n1⟩, x0, y0, hσ⟩ ?_ ?_⟩
    · rintro n r T σ' H' hr ⟨e2, ⟨G', n2⟩, x, y, rfl⟩ hT
      refine ⟨T, [.str r.1, r.2], rfl, SqT.of upd_same, rfl, _, _, rfl, _, _, rfl, rfl, ?_⟩
      rw [hset]
      have n3 := n2.trans e2 (Nw.own (o := .tup [.str r.1, r.2]) n2.le hT)
      refine turn r G' (List.mem_of_getElem? hr) n2.ex _ n3.le _ fun b G3 H3 e3 n4 p3 => ?_
      have p3 : b = false := p3
      subst p3
      exact iteF ⟨(e2.trans (Ex.new hT)).trans e3, ⟨G3, n3.trans (e2.trans (Ex.new hT)) n4⟩, _, _, rfl⟩
    · rintro σ' H' ⟨e2, ⟨G', n2⟩, _⟩
      exact q .non G' H' e2 n2 (hP n2.ex)
/-! ### a comprehension over the keys, the pairs of a dict that is locked meanwhile -/
def hide (G : Hp) (d : Addr) : Hp := fun b => if b = d then none else G b
theorem hide_ne {G : Hp} {b d : Addr} (h : b ≠ d) : hide G d b = G b := by unfold hide; rw [if_neg h]
theorem hide_same {G : Hp} {d : Addr} : hide G d d = none := by unfold hide; rw [if_pos rfl]
theorem hide_le {G : Hp} {d : Addr} : Ex (hide G d) G := fun b o h => by
  by_cases hb : b = d
  · subst hb; rw [hide_same] at h; cases h
  · rwa [hide_ne hb] at h
theorem hide_ex {G H : Hp} {d : Addr} {o : HO} (e : Ex G H) : Ex (hide G d) (upd H d o) := fun b u h => by
  by_cases hb : b = d
  · subst hb; rw [hide_same] at h; cases h
  · rw [hide_ne hb] at h; rw [upd_ne hb]; exact e b u h
/-- unlocking -/
theorem unlock {H H' G G' : Hp} {d : Addr} {od : Obj} {u : HO} (e : Ex G H) (hd : G d = some u) (e1 : Ex (upd H d (.frz od u)) H') (n : Nw (upd H d (.frz od u)) (hide G d) G' H') : Ex H (upd H' d u) ∧ Nw H G (upd G' d u) (upd H' d u) ∧ Ex G' (upd G' d u) := by
  have hH := e d u hd
  have gd : G' d = none := n.old d (by rw [upd_same]; exact fun z => nomatch z) hide_same
  refine ⟨fun b o h => ?_, ⟨fun b o h => ?_, fun b o h => ?_, fun b hb hg => ?_⟩, Ex.new gd⟩
  · by_cases hb : b = d
    · subst hb; rw [upd_same, ← h, hH]
    · rw [upd_ne hb]; exact e1 b o (by rw [upd_ne hb]; exact h)
  · by_cases hb : b = d
    · subst hb; rw [upd_same, ← h, hd]
    · rw [upd_ne hb]; exact n.ex b o (by rw [hide_ne hb]; exact h)
  · by_cases hb : b = d
    · subst hb; rw [upd_same] at h ⊢; exact h
    · rw [upd_ne hb] at h ⊢; exact n.le b o h
  · have hne : b ≠ d := fun z => by rw [z, hd] at hg; cases hg
    rw [upd_ne hne]
    exact n.old b (by rw [upd_ne hne]; exact hb) (by rw [hide_ne hne]; exact hg)
theorem picked_map {α : Type} (F : α → PyData) (l : List α) (f : Nat → PyData) (h : ∀ i a, l[i]? = some a → f i = F a) : picked (fun _ => true) f l.length = l.map F := by
  unfold picked
  rw [List.filter_eq_self.mpr fun _ _ => rfl]
  refine List.ext_getElem? fun i => ?_
  rw [List.getElem?_map, List.getElem?_map]
  by_cases hi : i < l.length
  · rw [List.getElem?_range hi, List.getElem?_eq_getElem hi]
    exact congrArg some (h i _ (List.getElem?_eq_getElem hi))
  · rw [List.getElem?_eq_none (by rw [List.length_range]; omega), List.getElem?_eq_none (by omega)] <;> rfl
theorem kvD_at {l : List (Str × Str)} {i : Nat} {k : Key} {v : V} (h : (kvD l)[i]? = some (k, v)) : ∃ q, l[i]? = some q ∧ k = Sum.inr q.1 ∧ v = .str q.2 := by
  unfold kvD at h
  rw [List.getElem?_map] at h
  cases z : l[i]? with
  | none => rw [z] at h; cases h
  | some q => rw [z] at h; cases h; exact ⟨q, rfl, rfl, rfl⟩
/-- [te for k in d] -/
theorem c_lcKeys {l : List (Str × Str)} {j : Nat} {vs : List Nat} {F : Str × Str → PyData} {d : Addr} (hn : l.length ≤ 90000) (hG : G d = some (.dK (kvD l))) (htd : ∀ H1 (Q : VK), Ex (hide G d) H1 → Q (.ref d) H1 → td σ H1 Q)
    (turn : ∀ q G1, q ∈ l → CTurn K σ vs (gName j) tt te true (F q) (.str q.1) G1) : Cm (tLockE (tLc (iKeys td) (gName j) tt te vs) σ) G (MP.l K (l.map F)) := fun H e Q k => by
  refine ⟨d, .dK (kvD l), e _ _ hG, trivial, fun od => ?_⟩
  refine htd _ _ (hide_ex e) ⟨d, od, rfl, .inl ⟨kvD l, upd_same, fun D hD => ?_⟩⟩
  have hdD : d ≠ D := ne_of_none upd_same hD
  have lk : ∀ {H'}, Ex (upd H d (.frz od (.dK (kvD l)))) H' → H' d = some (.frz od (.dK (kvD l))) := fun x => x _ _ upd_same
  refine ⟨fun i m H' => m = l.length - i ∧ i ≤ l.length ∧ CW K (upd H d (.frz od (.dK (kvD l)))) (hide G d) D (picked (fun _ => true) (fun i => F (l.getD i ("", ""))) i) H', ⟨l.length, rfl, Nat.zero_le _, cw_start (hide_ex e) hD⟩, ?_⟩
  rintro i m H' ⟨rfl, hi, w⟩
  have len : (kvD l).length = l.length := List.length_map _
  by_cases hlt : i < l.length
  · refine .inr ⟨⟨lk w.choose_spec.choose_spec.1, by rw [len]; exact hlt⟩, fun H'' => CW K (upd H d (.frz od (.dK (kvD l)))) (hide G d) D (picked (fun _ => true) (fun i => F (l.getD i ("", ""))) (i + 1)) H'', fun H'' w' => ⟨_, by omega, rfl, hlt, w'⟩, fun x H'' y => ?_⟩
    obtain ⟨e1, kk, vv, hkv, e2⟩ := y
    subst e1
    obtain ⟨q, hq, e3, e4⟩ := kvD_at hkv
    subst e3
    have e2 : x = .str q.1 := e2
    subst e2
    have eg : l.getD i ("", "") = q := by rw [List.getD_eq_getElem?_getD, hq] <;> rfl
    rw [picked_succ, eg]
    exact cw_turn hD w (by have := picked_len (fun _ => true) (fun i => F (l.getD i ("", ""))) i; omega) fun G' _ => turn q G' (List.mem_of_getElem? hq)
  · have ei : i = l.length := by omega
    subst ei
    rw [picked_map F l _ fun i a h => by rw [List.getD_eq_getElem?_getD, h] <;> rfl] at w
    refine .inl ⟨⟨lk w.choose_spec.choose_spec.1, by rw [len]; exact Nat.le_refl _⟩, lk w.choose_spec.choose_spec.1, ?_⟩
    obtain ⟨G', n, e1, p⟩ := cw_end hD (by rw [hide_ne (Ne.symm hdD)]; exact fresh_back e ((upd_ne (Ne.symm hdD)).symm.trans hD)) w
    obtain ⟨x1, x2, x3⟩ := unlock e hG e1 n
    exact k _ _ _ x1 x2 ((MP.l K (l.map F)).mono x3 p)
/-- [te for k, v in d.items()] -/
theorem c_lcItems {l : List (Str × Str)} {a b : Nat} {vs : List Nat} {F : Str × Str → PyData} {d : Addr} (hn : l.length ≤ 90000) (hG : G d = some (.dK (kvD l))) (htd : ∀ H1 (Q : VK), Ex (hide G d) H1 → Q (.ref d) H1 → td σ H1 Q)
    (turn : ∀ q (G1 : Hp) T, q ∈ l → G1 T = some (.tup [.str q.1, .str q.2]) → CTurn K σ vs (gTup K 2 (gCons (gName a) (gCons (gName b) gNil))) tt te true (F q) (.ref T) G1) : Cm (tLockE (tLc (iItems td) (gTup K 2 (gCons (gName a) (gCons (gName b) gNil))) tt te vs) σ) G (MP.l K (l.map F)) := fun H e Q k => by
  refine ⟨d, .dK (kvD l), e _ _ hG, trivial, fun od => ?_⟩
  refine htd _ _ (hide_ex e) ⟨d, od, kvD l, rfl, upd_same, fun D hD => ?_⟩
  have hdD : d ≠ D := ne_of_none upd_same hD
  have lk : ∀ {H'}, Ex (upd H d (.frz od (.dK (kvD l)))) H' → H' d = some (.frz od (.dK (kvD l))) := fun x => x _ _ upd_same
  refine ⟨fun i m H' => m = l.length - i ∧ i ≤ l.length ∧ CW K (upd H d (.frz od (.dK (kvD l)))) (hide G d) D (picked (fun _ => true) (fun i => F (l.getD i ("", ""))) i) H', ⟨l.length, rfl, Nat.zero_le _, cw_start (hide_ex e) hD⟩, ?_⟩
  rintro i m H' ⟨rfl, hi, w⟩
  have len : (kvD l).length = l.length := List.length_map _
  by_cases hlt : i < l.length
  · refine .inr ⟨⟨lk w.choose_spec.choose_spec.1, by rw [len]; exact hlt⟩, fun H'' => CW K (upd H d (.frz od (.dK (kvD l)))) (hide G d) D (picked (fun _ => true) (fun i => F (l.getD i ("", ""))) (i + 1)) H'', fun H'' w' => ⟨_, by omega, rfl, hlt, w'⟩, fun x H'' y => ?_⟩
    obtain ⟨T, kk, vv, hkv, e2, hT, e1⟩ := y
    subst e1
    obtain ⟨q, hq, e3, e4⟩ := kvD_at hkv
    subst e3 e4 e2
    have eg : l.getD i ("", "") = q := by rw [List.getD_eq_getElem?_getD, hq] <;> rfl
    rw [picked_succ, eg]
    obtain ⟨G', acc, x1, n1, gD, hD', ha⟩ := w
    have gT := fresh_back n1.le hT
    have hTD : D ≠ T := ne_of_none hD' hT
    exact cw_turn2 hD (by have := picked_len (fun _ => true) (fun i => F (l.getD i ("", ""))) i; omega) ⟨upd G' T (.tup [.str q.1, .str q.2]), acc, x1.trans (Ex.new hT), n1.trans x1 (Nw.new n1.le hT), by rw [upd_ne hTD]; exact gD, by rw [upd_ne hTD]; exact hD', DpAll.up (Ex.new gT) _ _ ha, turn q _ T (List.mem_of_getElem? hq) upd_same⟩
  · have ei : i = l.length := by omega
    subst ei
    rw [picked_map F l _ fun i a h => by rw [List.getD_eq_getElem?_getD, h] <;> rfl] at w
    refine .inl ⟨⟨lk w.choose_spec.choose_spec.1, by rw [len]; exact Nat.le_refl _⟩, lk w.choose_spec.choose_spec.1, ?_⟩
    obtain ⟨G', n, e1, p⟩ := cw_end hD (by rw [hide_ne (Ne.symm hdD)]; exact fresh_back e ((upd_ne (Ne.symm hdD)).symm.trans hD)) w
    obtain ⟨x1, x2, x3⟩ := unlock e hG e1 n
    exact k _ _ _ x1 x2 ((MP.l K (l.map F)).mono x3 p)
/-! ### {k: e for k in a written dict} -/
theorem putK_snoc {l : List (Str × Str)} {x y : Str} (h : x ∉ l.map (·.1)) : putK (kvD l) (Sum.inr x : Key) (.str y) = kvD (l ++ [(x, y)]) := by
  have hn : valV (kvD l) (Sum.inr x : Key) = none := by
    rw [valV_kv]
    cases q : l.lookup x with
    | none => rfl
    | some z =>
      have : x ∈ l.map (·.1) := by
        clear h
        induction l with
        | nil => cases q
        | cons a r ih =>
          rw [List.lookup_cons] at q
          by_cases hx : x = a.1
          · rw [hx]; exact List.mem_cons_self
          · rw [beq_eq_false_iff_ne.mpr hx] at q
            exact List.mem_cons_of_mem _ (ih q)
      exact absurd this h
  rw [putK_new _ hn]
  unfold kvD
  rw [List.map_append] <;> rfl
theorem c_dcW {kvs : List (Str × V)} {j : Nat} {vs : List Nat} {f : Str → Str} (hd : Cm (td σ) G (MP.kd K w kvs))
    (turn : ∀ q G1, q ∈ kvs → Ex G G1 → ∃ σ2, σ2 = (wipe σ vs).set j (some (.str q.1)) ∧ wipe σ2 vs = wipe σ vs ∧ Cm (tk σ2) G1 (MP.d K (.str q.1)) ∧ Cm (tv σ2) G1 (MP.d K (.str (f q.1)))) :
    Cm (tDc (iKeysW K w td) (gName j) tYes tk tv vs σ) G (MP.dk (kvs.map fun q => (q.1, f q.1))) := fun H e Q k => hd H e _ fun a G1 H1 e1 n1 p1 => by
  obtain ⟨p, rfl, D0⟩ := p1
  refine ⟨p, kvs, rfl, D0, fun D hD => ?_⟩
  refine ⟨fun i m H' => m = kvs.length - i ∧ i ≤ kvs.length ∧ ∃ G', Ex H1 H' ∧ Nw H1 G1 G' H' ∧ G' D = none ∧ H' D = some (.dK (kvD ((kvs.take i).map fun q => (q.1, f q.1)))),
    ⟨kvs.length, rfl, Nat.zero_le _, G1, Ex.new hD, Nw.own n1.le hD, fresh_back n1.le hD, upd_same⟩, ?_⟩
  rintro i m H' ⟨rfl, hi, G', e2, n2, gD, hD'⟩
  by_cases hlt : i < kvs.length
  · refine .inr ⟨hlt, fun H'' => ∃ G', Ex H1 H'' ∧ Nw H1 G1 G' H'' ∧ G' D = none ∧ H'' D = some (.dK (kvD ((kvs.take (i + 1)).map fun q => (q.1, f q.1)))), fun H'' x => ⟨_, by omega, rfl, hlt, x⟩, fun x H'' y => ?_⟩
    obtain ⟨z, q, hq, rfl⟩ := y
    subst z
    obtain ⟨σ2, hs, hw, ck, cv⟩ := turn q G' (List.mem_of_getElem? hq) (n1.ex.trans n2.ex)
    subst hs
    refine ⟨hw, u_yes ?_⟩
    dsimp only
    rw [if_pos rfl]
    refine ck H'' n2.le _ fun y G3 H3 e3 n3 p3 => cv.up n3.ex H3 n3.le _ fun z G4 H4 e4 n4 p4 => ?_
    have h4 : H4 D = _ := e4 _ _ (e3 _ _ hD')
    have x1 := ((e2.trans e3).trans e4)
    have x2 := (n2.trans e2 n3).trans (e2.trans e3) n4
    have g4 : G4 D = none := n4.old D (by rw [e3 _ _ hD']; exact fun z => nomatch z) (n3.old D (by rw [hD']; exact fun z => nomatch z) gD)
    refine ⟨_, Sum.inr q.1, dp_str p3, h4, ?_, G4, Ex.mut x1 hD, ⟨x2.ex, Ex.mut x2.le g4, x2.old⟩, g4, ?_⟩
    · have hl := D0.len
      unfold kvD
      rw [List.length_map, List.length_map, List.length_take]
      exact Nat.lt_of_le_of_lt (Nat.le_trans (Nat.min_le_right _ _) hl) (by decide)
    · have ez : z = .str (f q.1) := dp_str p4
      rw [upd_same, ez, putK_snoc, List.take_succ, hq, List.map_append]
      · rfl
      · intro hm
        rw [List.map_map] at hm
        obtain ⟨r, hr, er⟩ := List.mem_map.mp hm
        obtain ⟨n, hn1, hn2⟩ := List.mem_take_iff_getElem.mp hr
        have h5 : kvs[n]? = some r := by rw [List.getElem?_eq_getElem (by omega)]; exact congrArg some hn2
        have hnd := D0.nd
        have a1 : (kvs.map (·.1))[n]? = some q.1 := by rw [List.getElem?_map, h5]; exact congrArg some er
        have a2 : (kvs.map (·.1))[i]? = some q.1 := by rw [List.getElem?_map, hq] <;> rfl
        have := nd_ix hnd a1 a2
        omega
  · have ei : i = kvs.length := by omega
    subst ei
    rw [List.take_length] at hD'
    refine .inl ⟨Nat.le_refl _, ?_⟩
    have gd : G1 D = none := fresh_back n1.le hD
    refine k _ (upd G' D (.dK (kvD (kvs.map fun q => (q.1, f q.1))))) H' (e1.trans e2) (n1.trans e1 ⟨n2.ex.trans (Ex.new gD), fun b o h => ?_, fun b hb hg => ?_⟩) ⟨D, rfl, upd_same⟩
    · by_cases hb : b = D
      · subst hb; rw [upd_same] at h; rw [hD', ← h]
      · rw [upd_ne hb] at h; exact n2.le b o h
    · rw [upd_ne (fun z => hb (by rw [z]; exact hD))]
      exact n2.old b hb hg
end
end Ah
/-! Ah12: books made. -/
namespace Ah
open PySem PySem.Spec PyProof.Rows L2 Evl

section
variable {K : PySem.W.Frag} {w : World} {c : Ad} {σ : L2.St} {G : Hp} {tl te : TE} {g : TG} {ds : List PyData} {vs : List Nat}
theorem all_map (ds : List PyData) (f : PyData → Bool) : (ds.filter (fun _ => true)).map (fun d => PyData.bool (f d)) = (ds.map f).map PyData.bool := by
  rw [filter_yes, List.map_map] <;> rfl
theorem c_allT (f : PyData → Bool) (hl : Cm (tl σ) G (MP.d K (.tuple ds))) (hn : ds.length ≤ 90000)
    (turn : ∀ v d G1, Ex G G1 → d ∈ ds → Dp K G1 v d → CTurn K σ vs g tYes te true (.bool (f d)) v G1) : Cm (tCB (rAll K) (tCons (tLc (iSeq K tl) g tYes te vs) tNil) σ) G (MP.d K (.bool (ds.all f))) := by
  have h := c_lcT (t := fun _ => true) (F := fun d => .bool (f d)) hl hn turn
  rw [all_map] at h
  refine c_to (c_all h) ?_
  rw [List.all_map] <;> rfl
theorem c_allL (f : PyData → Bool) (hl : Cm (tl σ) G (MP.d K (.list ds))) (hn : ds.length ≤ 90000)
    (turn : ∀ v d G1, Ex G G1 → d ∈ ds → Dp K G1 v d → CTurn K σ vs g tYes te true (.bool (f d)) v G1) : Cm (tCB (rAll K) (tCons (tLc (iSeq K tl) g tYes te vs) tNil) σ) G (MP.d K (.bool (ds.all f))) := by
  have h := c_lcL (t := fun _ => true) (F := fun d => .bool (f d)) hl hn turn
  rw [all_map] at h
  refine c_to (c_all h) ?_
  rw [List.all_map] <;> rfl
/-- calls of the three looks -/
theorem c_isWord {ta tb : TE} {d : PyData} {ws : List Str} (tup : Bool) (ha : Cm (ta σ) G (MP.d K d)) (hb : Cm (tb σ) G (MP.strs K ws tup)) (ok : okS d) (shp : SeqAt.shaped (.list (ws.map PyData.str)) = true) :
    Cm (tCall (sp_is_word K w c) [] E0 (tCons ta (tCons tb tNil)) σ) G (MP.d K (.bool (isWordD d ws))) :=
  c_call (args := fun i : WordIn => [MP.d K i.d, MP.strs K i.ws i.tup]) (res := fun i => MP.d K (.bool (isWordD i.d i.ws))) ⟨d, ws, tup, ok, shp⟩ (c_cons ha (c_cons hb c_nil))
theorem c_isEd {ta tb : TE} {d : PyData} {least : Int} (ha : Cm (ta σ) G (MP.d K d)) (hb : Cm (tb σ) G (MP.d K (.int least))) (ok : ∀ x y, d = .tuple [x, y] → okS x) :
    Cm (tCall (sp_is_edition K w c) [] E0 (tCons ta (tCons tb tNil)) σ) G (MP.d K (.bool (isEdD d least))) :=
  c_call (args := fun i : EdIn => [MP.d K i.d, MP.d K (.int i.least)]) (res := fun i => MP.d K (.bool (isEdD i.d i.least))) ⟨d, least, ok⟩ (c_cons ha (c_cons hb c_nil))
theorem Ax.kd (X : Ax K w c) : ∃ kvs, kvs.map (·.1) = kvParts.map (·.1) ∧ KD K w c.PARTS kvs ∧ ∀ (i : Nat) (q : Str × V), kvs[i]? = some q → ∃ r : Str × List Str, kvParts[i]? = some r ∧ q.1 = r.1 ∧ ∀ G, Dp K G q.2 (.tuple (r.2.map PyData.str)) := by
  obtain ⟨vs, D, hl, hd⟩ := X.parts
  refine ⟨_, ?_, D, fun i q hq => ?_⟩
  · rw [List.map_fst_zip]
    rw [hl]
    decide
  · obtain ⟨q1, q2⟩ := q
    obtain ⟨h1, h2⟩ := List.getElem?_zip_eq_some.mp hq
    rw [List.getElem?_map] at h1
    cases hr : kvParts[i]? with
    | none => rw [hr] at h1; cases h1
    | some r =>
      rw [hr] at h1
      refine ⟨r, rfl, (Option.some.inj h1).symm, fun G => ?_⟩
      obtain ⟨v, e1, e2⟩ := DpAll.get (hd G) (i := i) (d := .tuple (r.2.map PyData.str)) (by rw [List.getElem?_map, hr] <;> rfl)
      have e1 : vs[i]? = some v := e1
      have h2 : vs[i]? = some q2 := h2
      rw [e1] at h2
      cases h2
      exact e2
end
/-! ### rules -/
theorem parts_nodup : (kvParts.map (·.1)).Nodup := by decide +kernel
theorem rule_keys (r : Rule) : r.kvs.map (·.1) = kvParts.map (·.1) := rfl
theorem rule_nodup (r : Rule) : (r.kvs.map (·.1)).Nodup := by rw [rule_keys]; exact parts_nodup
theorem rule_len (r : Rule) : r.kvs.length = 6 := rfl
theorem bif_mem {b : Bool} {x y : Str} : (bif b then y else x) ∈ [x, y] := by cases b <;> simp
theorem mis_mem {m : Mis} : m.s ∈ [("none" : Str), "place", "waits"] := by cases m <;> simp [Mis.s]
/-- each part's word is one of those that it may have -/
theorem rule_word (r : Rule) : ∀ (i : Nat) (q : Str × Str), r.kvs[i]? = some q → ∃ p : Str × List Str, kvParts[i]? = some p ∧ q.1 = p.1 ∧ q.2 ∈ p.2 := by
  obtain ⟨a, b, c, d, m, e⟩ := r
  intro i q h
  match i, h with
  | 0, h => cases h; exact ⟨_, rfl, rfl, bif_mem⟩
  | 1, h => cases h; exact ⟨_, rfl, rfl, bif_mem⟩
  | 2, h => cases h; exact ⟨_, rfl, rfl, bif_mem⟩
  | 3, h => cases h; exact ⟨_, rfl, rfl, bif_mem⟩
  | 4, h => cases h; exact ⟨_, rfl, rfl, mis_mem⟩
  | 5, h => cases h; exact ⟨_, rfl, rfl, bif_mem⟩
  | i + 6, h => exact absurd h (by show ¬ (([] : List (Str × Str))[i]? = some q); simp)
theorem parts_shaped : ∀ p ∈ kvParts, SeqAt.shaped (.list (p.2.map PyData.str)) = true := by decide +kernel
theorem keys_shaped : SeqAt.shaped (.list ((kvParts.map (·.1)).map PyData.str)) = true := by decide +kernel
theorem key_ok : ∀ p ∈ kvParts, SeqAt.shaped (.str p.1) = true := by decide +kernel
theorem words_ok : ∀ p ∈ kvParts, ∀ x ∈ p.2, SeqAt.shaped (.str x) = true := by decide +kernel
theorem isWord_mem {x : Str} {ws : List Str} (h : x ∈ ws) : isWordD (.str x) ws = true := List.any_eq_true.mpr ⟨x, h, beq_self_eq_true x⟩
theorem rule_lookup (r : Rule) {i : Nat} {q : Str × Str} (h : r.kvs[i]? = some q) : r.kvs.lookup q.1 = some q.2 := lookup_at (rule_nodup r) h
section
variable {K : PySem.W.Frag} {w : World} {c : Ad} {σ : L2.St} {G : Hp}
abbrev sp_check_rule (K : PySem.W.Frag) (w : World) (c : Ad) : Sp := spOf (ι := Rule) (fun r => [MP.dk r.kvs]) (fun _ => MP.d K .none)
theorem len_check_rule {vs : List V} {H : Hp} {Q : VK} {E : XK} (h : sp_check_rule K w c vs H Q E) : vs.length = 1 := spOf_len (by intro i; rfl) vs H Q E h
def t_check_rule (K : PySem.W.Frag) (w : World) (c : Ad) : TS :=
  (tSeq (tIfS (tOr (tNot (tB (tCB (rIsiG K) (tCons (tVar 0) (tCons (tC (.ty "dict")) tNil))))) (tOr (tTest (tOp (rNeD K) (tCB rLenD (tCons (tVar 0) tNil)) (tCB (rLenW K w) (tCons (tC (.ref c.PARTS)) tNil)))) (tNot (tB (tCB (rAll K) (tCons (tLockE (tLc (iKeys (tVar 0)) (gName 1) tYes (tCall (sp_is_word K w c) [] E0 (tCons (tVar 1) (tCons (tCB (rListW K w) (tCons (tC (.ref c.PARTS)) tNil)) tNil))) [1])) tNil)))))) tNever tNext)
    (tFor (iItemsW K w (tC (.ref c.PARTS))) (gTup K 2 (gCons (gName 1) (gCons (gName 2) gNil)))
    (tIfS (tNot (tB (tCall (sp_is_word K w c) [] E0 (tCons (tDGet (tVar 0) (tVar 1)) (tCons (tVar 2) tNil))))) tNever tNext)))
theorem l_strs {ws : List Str} {t : Hp → VK → Prop} {G : Hp} (h : Cm t G (MP.l K (ws.map PyData.str))) : Cm t G (MP.strs K ws false) := l_d h
theorem rd_check_rule (X : Ax K w c) {vs : List V} {H : Hp} {Q : VK} {E : XK} (h : sp_check_rule K w c vs H Q E) : t_check_rule K w c (Dn Q) (vs.map some ++ List.replicate (3 - vs.length) none) H := by
  obtain ⟨r, G, e, ha, q⟩ := h
  cases ha with
  | cons p1 ha =>
    cases ha
    rename_i x
    obtain ⟨p, rfl, hp⟩ := id p1
    obtain ⟨kvs, k1, D, k3⟩ := X.kd
    have key : Cm (bd (t_check_rule K w c) [some (.ref p), none, none]) G (MP.d K .none) := by
      have h0 : ∀ {G1 : Hp} {a b : Option V}, Ex G G1 → Cm (tVar 0 [some (.ref p), a, b]) G1 (MP.dk r.kvs) := fun eG => c_var rfl ⟨p, rfl, eG _ _ hp⟩
      have hP : ∀ {G1 : Hp} {σ : L2.St}, Cm (tC (.ref c.PARTS) σ) G1 (MP.kd K w kvs) := c_c ⟨_, rfl, D⟩
      have hlen : kvs.length = 6 := by
        have : (kvs.map (·.1)).length = 6 := by rw [k1]; decide
        rwa [List.length_map] at this
      refine b_ifN (c_teq (c_tor (b := false) (c_tnot (c_tB (c_isiK (h0 (Ex.refl G))))) fun _ => c_teq (c_tor (a := false) (b := false) (c_test (c_to (c_ne (c_lenD (h0 (Ex.refl G))) (c_lenW hP) (shp_int _) (shp_int _)) (by rw [hlen]; rfl))) fun _ => c_teq (c_tnot (a := true) (c_tB (K := K) ?_)) rfl) rfl) rfl) ?_
      · have z := c_lcKeys (K := K) (σ := [some (.ref p), none, none]) (G := G) (tt := tYes) (j := 1) (vs := [1]) (F := fun q : Str × Str => .bool (isWordD (.str q.1) (kvParts.map (·.1)))) (l := r.kvs) (d := p) (td := tVar 0)
          (te := tCall (sp_is_word K w c) [] E0 (tCons (tVar 1) (tCons (tCB (rListW K w) (tCons (tC (.ref c.PARTS)) tNil)) tNil))) (by rw [rule_len]; decide) hp (fun H1 Q _ hq => ⟨_, rfl, hq⟩) fun q G1 hq => by
            obtain ⟨j, hj⟩ := List.getElem?_of_mem hq
            obtain ⟨pr, hpr, e1, _⟩ := rule_word r j q hj
            refine ct_name rfl c_yes fun _ => c_isWord false (c_var (P := MP.d K (.str q.1)) rfl (.str _)) (l_strs (by rw [← k1]; exact c_listW hP)) ?_ keys_shaped
            show SeqAt.shaped (.str q.1) = true
            rw [e1]
            exact key_ok pr (List.mem_of_getElem? hpr)
        have e2 : (r.kvs.map fun q : Str × Str => PyData.bool (isWordD (.str q.1) (kvParts.map (·.1)))) = (r.kvs.map fun q : Str × Str => isWordD (.str q.1) (kvParts.map (·.1))).map PyData.bool := by rw [List.map_map] <;> rfl
        rw [e2] at z
        refine c_to (c_all z) (congrArg PyData.bool ?_)
        refine List.all_eq_true.mpr fun b hb => ?_
        obtain ⟨q, hq, rfl⟩ := List.mem_map.mp hb
        refine isWord_mem ?_
        rw [← rule_keys r]
        exact List.mem_map.mpr ⟨q, hq, rfl⟩
      · refine b_forW (K := K) (w := w) (kvs := kvs) (i := 1) (j := 2) (fun a b => [some (.ref p), a, b]) none none rfl (fun _ _ _ _ => rfl) hP (fun q G1 hq eG => ?_) fun _ => .non
        obtain ⟨j, hj⟩ := List.getElem?_of_mem hq
        obtain ⟨pr, hpr, e1, e2⟩ := k3 j q hj
        have hjl : j < r.kvs.length := by rw [rule_len]; have := (List.getElem?_eq_some_iff.mp hj).1; omega
        obtain ⟨pr2, hpr2, e3, e4⟩ := rule_word r j _ (List.getElem?_eq_getElem hjl)
        rw [hpr] at hpr2
        cases hpr2
        have lk := rule_lookup r (List.getElem?_eq_getElem hjl)
        rw [e3, ← e1] at lk
        refine c_teq (c_tnot (a := true) (c_tB (c_to (c_isWord (d := .str (r.kvs[j]'hjl).2) (ws := pr.2) true (c_dget (h0 eG) (c_var (P := MP.d K (.str q.1)) rfl (.str _)) lk) (c_var (P := MP.d K (.tuple (pr.2.map PyData.str))) rfl (e2 G1)) ?_ (parts_shaped pr (List.mem_of_getElem? hpr))) ?_))) rfl
        · exact words_ok pr (List.mem_of_getElem? hpr) _ e4
        · rw [isWord_mem e4]
    exact key H e Q q
end
end Ah
/-! Ah13: Book. -/
namespace Ah
open PySem PySem.Spec PyProof.Rows L2 Evl

/-- the attributes of a book -/
def bkF (vr : V) (pt : Addr) (vw : V) : List (Str × V) := putF "kinds" vw (putF "terms" (.ref pt) (putF "wanted" vr []))
theorem nkt : ¬ (("kinds" : Str) = "terms") := by decide +kernel
theorem nkw : ¬ (("kinds" : Str) = "wanted") := by decide +kernel
theorem ntw : ¬ (("terms" : Str) = "wanted") := by decide +kernel
theorem bkF_w (vr : V) (pt : Addr) (vw : V) : (bkF vr pt vw).lookup ("wanted" : Str) = some vr := by
  unfold bkF
  rw [lookup_putF, if_neg (Ne.symm nkw), lookup_putF, if_neg (Ne.symm ntw), lookup_putF, if_pos rfl]
theorem bkF_t (vr : V) (pt : Addr) (vw : V) : (bkF vr pt vw).lookup ("terms" : Str) = some (.ref pt) := by
  unfold bkF
  rw [lookup_putF, if_neg (Ne.symm nkt), lookup_putF, if_pos rfl]
theorem bkF_k (vr : V) (pt : Addr) (vw : V) : (bkF vr pt vw).lookup ("kinds" : Str) = some vw := by
  unfold bkF
  rw [lookup_putF, if_pos rfl]
theorem bkF_len (vr : V) (pt : Addr) (vw : V) : (bkF vr pt vw).length ≤ 3 := by
  unfold bkF
  have h1 := length_putF "wanted" vr []
  have h2 := length_putF "terms" (.ref pt) (putF "wanted" vr [])
  have h3 := length_putF "kinds" vw (putF "terms" (.ref pt) (putF "wanted" vr []))
  simp only [List.length_nil] at h1
  omega
def BkAt (K : PySem.W.Frag) (c : Ad) (b : Bk) (v : V) (G : Hp) : Prop := ∃ x dx vr pt vw, v = .ref x ∧ G x = some (.ins c.Book dx (bkF vr pt vw)) ∧ Dp K G vr (rowsD b) ∧ G pt = some (.dK (kvD b.rule.kvs)) ∧ Dp K G vw (wordsD b)
abbrev MP.bk (K : PySem.W.Frag) (c : Ad) (b : Bk) : MP V := ⟨BkAt K c b, fun e h => let ⟨x, dx, vr, pt, vw, h1, h2, h3, h4, h5⟩ := h; ⟨x, dx, vr, pt, vw, h1, e _ _ h2, Dp.up e _ _ h3, e _ _ h4, Dp.up e _ _ h5⟩⟩
theorem row_ok (r : Row) : isEdD (rowD r) 1 = true := by
  obtain ⟨a, b⟩ := r
  cases a <;> cases b <;> decide +kernel
theorem ks_ok (k : Bool) : SeqAt.shaped (.str (kS k)) = true := by cases k <;> decide +kernel
theorem words_in (b : Bk) : b.words = [] ∨ b.words = [("join" : Str)] ∨ b.words = [("sweep" : Str)] ∨ b.words = [("join" : Str), "sweep"] := by
  obtain ⟨_, _, j, s⟩ := b
  cases j <;> cases s
  · exact .inl rfl
  · exact .inr (.inr (.inl rfl))
  · exact .inr (.inl rfl)
  · exact .inr (.inr (.inr rfl))
/-- what holds of every list of words -/
theorem words_all {M : List Str → Prop} (b : Bk) (h0 : M []) (h1 : M ["join"]) (h2 : M ["sweep"]) (h3 : M ["join", "sweep"]) : M b.words := by
  rcases words_in b with e | e | e | e <;> rw [e] <;> assumption
theorem words_shp (b : Bk) : SeqAt.shaped (.list (b.words.map PyData.str)) = true := words_all (M := fun l => SeqAt.shaped (.list (l.map PyData.str)) = true) b (by decide +kernel) (by decide +kernel) (by decide +kernel) (by decide +kernel)
section
variable {K : PySem.W.Frag} {w : World} {c : Ad} {σ : L2.St} {G : Hp}
def sp_Book_init (K : PySem.W.Frag) (w : World) (c : Ad) : Sp := fun vs H Q _ => ∃ (x dx : Addr) (vr vd vw : V) (b : Bk) (G : Hp), vs = [.ref x, vr, vd, vw] ∧ Ex G H ∧ G x = none ∧ H x = some (.ins c.Book dx []) ∧ Dp K G vr (rowsD b) ∧ (MP.dk b.rule.kvs).p vd G ∧ Dp K G vw (wordsD b) ∧ b.ok ∧
  ∀ pt G' H', (∀ q o, H q = some o → q ≠ x → H' q = some o) → Nw H G G' H' → G' pt = some (.dK (kvD b.rule.kvs)) → H' x = some (.ins c.Book dx (bkF vr pt vw)) → Q .non H'
theorem len_Book_init {vs : List V} {H : Hp} {Q : VK} {E : XK} (h : sp_Book_init K w c vs H Q E) : vs.length = 4 := by
  obtain ⟨x, dx, vr, vd, vw, b, G, rfl, _⟩ := h
  rfl
def t_Book_init (K : PySem.W.Frag) (w : World) (c : Ad) : TS :=
  (tSeq (tIfS (tOr (tNot (tB (tCB (rIsiG K) (tCons (tVar 1) (tCons (tC (.ty "tuple")) tNil))))) (tNot (tTest (tChain rLeI rLeI (tC (.int 1)) (tCB (rLenG K) (tCons (tVar 1) tNil)) (tC (.int 2)))))) tNever tNext)
    (tSeq (tIfS (tNot (tB (tCB (rAll K) (tCons (tLc (iSeq K (tVar 1)) (gName 4) tYes (tCall (sp_is_edition K w c) [] E0 (tCons (tVar 4) (tCons (tC (.int 1)) tNil))) [4]) tNil)))) tNever tNext)
    (tSeq (tDrop (tCall (sp_check_rule K w c) [] E0 (tCons (tVar 2) tNil)))
    (tSeq (tIfS (tOr (tNot (tB (tCB (rIsiG K) (tCons (tVar 3) (tCons (tC (.ty "tuple")) tNil))))) (tNot (tB (tCB (rAll K) (tCons (tLc (iSeq K (tVar 3)) (gName 5) tYes (tCall (sp_is_word K w c) [] E0 (tCons (tVar 5) (tCons (tC (.ref c.WORDS)) tNil))) [5]) tNil))))) tNever tNext)
    (tSeq (tIfS (tTest (tOp (rNeD K) (tLc (iSeq K (tC (.ref c.WORDS))) (gName 5) (tTest (tOp (rInG K false) (tVar 5) (tVar 3))) (tVar 5) [5]) (tCB (rListG K) (tCons (tVar 3) tNil)))) tNever tNext)
    (tSeq (sFld K (tVar 0) (tVar 1) "wanted")
    (tSeq (sFld K (tVar 0) (tDc (iKeysW K w (tC (.ref c.PARTS))) (gName 6) tYes (tVar 6) (tDGet (tVar 2) (tVar 6)) [6]) "terms")
    (sFld K (tVar 0) (tVar 3) "kinds"))))))))
theorem u_drop {te : TE} {tr : TS} {D : Ends} {H : Hp} {P : MP V} (h : Cm (te σ) G P) (e : Ex G H) (k : ∀ G' H', Ex H H' → Nw H G G' H' → tr D σ H') : tSeq (tDrop te) tr D σ H := h H e _ fun v G' H' e1 n1 _ => k G' H' e1 n1
theorem map_fst_eq (r : Rule) {kvs : List (Str × V)} {f : Str → Str} (k1 : kvs.map (·.1) = kvParts.map (·.1)) (hf : ∀ q ∈ r.kvs, f q.1 = q.2) : (kvs.map fun q => (q.1, f q.1)) = r.kvs := by
  have e : (kvs.map fun q => (q.1, f q.1)) = (kvs.map (·.1)).map fun x => (x, f x) := by rw [List.map_map] <;> rfl
  rw [e, k1, ← rule_keys r, List.map_map]
  refine (List.map_congr_left fun q hq => ?_).trans (List.map_id _)
  exact Prod.ext rfl (hf q hq)
theorem rd_Book_init (X : Ax K w c) {vs : List V} {H : Hp} {Q : VK} {E : XK} (h : sp_Book_init K w c vs H Q E) : t_Book_init K w c (Dn Q) (vs.map some ++ List.replicate (7 - vs.length) none) H := by
  obtain ⟨x, dx, vr, vd, vw, b, G, rfl, e, gx, hx, hr, ⟨pd, rfl, hd⟩, hw, ok, k⟩ := h
  obtain ⟨kvs, k1, D, k3⟩ := X.kd
  show t_Book_init K w c (Dn Q) [some (.ref x), some vr, some (.ref pd), some vw, none, none, none] H
  have c1 : ∀ {G1 : Hp} {a1 a2 a3 : Option V}, Ex G G1 → Cm (tVar 1 [some (.ref x), some vr, some (.ref pd), some vw, a1, a2, a3]) G1 (MP.d K (.tuple (b.rows.map rowD))) := fun eG => c_var rfl (Dp.up eG _ _ hr)
  have c2 : ∀ {G1 : Hp} {a1 a2 a3 : Option V}, Ex G G1 → Cm (tVar 2 [some (.ref x), some vr, some (.ref pd), some vw, a1, a2, a3]) G1 (MP.dk b.rule.kvs) := fun eG => c_var rfl ⟨pd, rfl, eG _ _ hd⟩
  have c3 : ∀ {G1 : Hp} {a1 a2 a3 : Option V}, Ex G G1 → Cm (tVar 3 [some (.ref x), some vr, some (.ref pd), some vw, a1, a2, a3]) G1 (MP.d K (.tuple (b.words.map PyData.str))) := fun eG => c_var rfl (Dp.up eG _ _ hw)
  have hrl : b.rows.length ≤ 2 := by rcases ok with z | z <;> omega
  have hwl : (b.words.map PyData.str).length ≤ 2 := words_all (M := fun l => (l.map PyData.str).length ≤ 2) b (by decide) (by decide) (by decide) (by decide)
  refine u_ifN (c_teq (c_tor (b := false) (c_tnot (c_tB (c_isi (c1 (Ex.refl G)) (kit_tup _)))) fun _ => c_teq (c_tnot (a := true) (c_test (c_to (c_chainI (g := fun i j => decide (i ≤ j)) (g' := fun i j => decide (i ≤ j)) c_int (c_lenT (c1 (Ex.refl G))) c_int) ?_))) rfl) rfl) e fun G1 H1 e1 n1 => ?_
  · rw [List.length_map]
    rcases ok with z | z <;> rw [z] <;> rfl
  refine u_ifN (c_teq (c_tnot (a := true) (c_tB (c_to (c_allT (K := K) (fun d => isEdD d 1) (c1 n1.ex) (by rw [List.length_map]; omega) fun v d G2 eG hm hv => ct_name rfl c_yes fun _ => c_isEd (c_var (P := MP.d K d) rfl hv) c_int ?_) ?_))) rfl) n1.le fun G2 H2 e2 n2 => ?_
  · intro a a' hd'
    obtain ⟨r, _, rfl⟩ := List.mem_map.mp hm
    injection hd' with hd'
    injection hd' with h1 _
    subst h1
    exact ks_ok _
  · rw [List.all_eq_true.mpr]
    intro d hm
    obtain ⟨r, _, rfl⟩ := List.mem_map.mp hm
    exact row_ok r
  have x2 : Ex G G2 := n1.ex.trans n2.ex
  refine u_drop (c_call (args := fun r : Rule => [MP.dk r.kvs]) (res := fun _ => MP.d K .none) b.rule (c_cons (c2 x2) c_nil)) n2.le fun G3 H3 e3 n3 => ?_
  have x3 : Ex G G3 := x2.trans n3.ex
  refine u_ifN (c_teq (c_tor (b := false) (c_tnot (c_tB (c_isi (c3 x3) (kit_tup _)))) fun _ => c_teq (c_tnot (a := true) (c_tB (c_to (c_allT (K := K) (fun d => isWordD d ["join", "sweep"]) (c3 x3) (by omega) fun v d G4 eG hm hv => ct_name rfl c_yes fun _ => c_isWord (d := d) (ws := ["join", "sweep"]) true (c_var (P := MP.d K d) rfl hv) (c_c (X.wds G4)) ?_ (by decide +kernel)) ?_))) rfl) rfl) n3.le fun G4 H4 e4 n4 => ?_
  · obtain ⟨s, hs, rfl⟩ := List.mem_map.mp hm
    exact words_all (M := fun l => s ∈ l → SeqAt.shaped (.str s) = true) b (fun z => nomatch z) (by intro z; rw [List.mem_singleton.mp z]; decide +kernel) (by intro z; rw [List.mem_singleton.mp z]; decide +kernel)
      (by intro z; rcases List.mem_cons.mp z with z | z; · rw [z]; decide +kernel
          · rw [List.mem_singleton.mp z]; decide +kernel) hs
  · exact congrArg PyData.bool (words_all (M := fun l => (l.map PyData.str).all (fun d => isWordD d ["join", "sweep"]) = true) b (by decide +kernel) (by decide +kernel) (by decide +kernel) (by decide +kernel))
  have x4 : Ex G G4 := x3.trans n4.ex
  refine u_ifN (c_test (c_to (c_ne (l_d (c_lcT (K := K) (ds := [.str "join", .str "sweep"]) (t := fun d => (b.words.map PyData.str).any fun z => PyData.eqv z d) (F := fun d => d) (c_c (X.wds G4)) (by decide) fun v d G5 eG hm hv => ct_name rfl (c_test (c_to (c_inT (n := false) (c_var (P := MP.d K d) rfl hv) (c3 (x4.trans eG)) ?_ (words_shp b)) rfl)) fun _ => c_var (P := MP.d K d) rfl hv)) (c_listT (c3 x4)) ?_ ?_) ?_)) n4.le fun G5 H5 e5 n5 => ?_
  · rcases List.mem_cons.mp hm with z | z
    · rw [z]; decide +kernel
    · rw [List.mem_singleton.mp z]; decide +kernel
  · exact words_all (M := fun l => SeqAt.shaped (.list (List.map (fun d => d) (List.filter (fun d => (l.map PyData.str).any fun z => PyData.eqv z d) [.str "join", .str "sweep"]))) = true) b (by decide +kernel) (by decide +kernel) (by decide +kernel) (by decide +kernel)
  · exact words_shp b
  · exact congrArg PyData.bool (words_all (M := fun l => (!PyData.eqv (.list (List.map (fun d => d) (List.filter (fun d => (l.map PyData.str).any fun z => PyData.eqv z d) [.str "join", .str "sweep"]))) (.list (l.map PyData.str))) = false) b (by decide +kernel) (by decide +kernel) (by decide +kernel) (by decide +kernel))
  have x5 : Ex G G5 := x4.trans n5.ex
  have n05 : Nw H G G5 H5 := (((n1.trans e1 n2).trans (e1.trans e2) n3).trans ((e1.trans e2).trans e3) n4).trans (((e1.trans e2).trans e3).trans e4) n5
  have e05 : Ex H H5 := (((e1.trans e2).trans e3).trans e4).trans e5
  have gx5 : G5 x = none := n05.old x (by rw [hx]; exact fun z => nomatch z) gx
  -- self.wanted = rows
  refine ⟨_, rfl, _, rfl, x, c.Book, dx, [], rfl, e05 _ _ hx, X.cl, X.nW, by show 0 < 1000; decide, ?_⟩
  -- self.terms = {..}
  have eU : Ex G5 (upd H5 x (.ins c.Book dx (putF "wanted" vr []))) := n05.le.mut gx5
  change sFld K (tVar 0) (tDc (iKeysW K w (tC (.ref c.PARTS))) (gName 6) tYes (tVar 6) (tDGet (tVar 2) (tVar 6)) [6]) "terms" _ _ _
  unfold sFld
  refine (c_dcW (K := K) (w := w) (G := G5) (σ := [some (.ref x), some vr, some (.ref pd), some vw, none, none, none]) (j := 6) (vs := [6]) (tk := tVar 6) (tv := tDGet (tVar 2) (tVar 6)) (td := tC (.ref c.PARTS)) (kvs := kvs) (f := fun y => (b.rule.kvs.lookup y).getD "") (c_c ⟨_, rfl, D⟩) fun q G6 hq eG => ⟨_, rfl, rfl, c_var rfl (.str _), c_dget (c2 (x5.trans eG)) (c_var (P := MP.d K (.str q.1)) rfl (.str _)) ?_⟩) _ eU _ fun v G6 H6 e6 n6 p6 => ?_
  · have hm : q.1 ∈ b.rule.kvs.map (·.1) := by rw [rule_keys, ← k1]; exact List.mem_map.mpr ⟨q, hq, rfl⟩
    obtain ⟨r, hr', er⟩ := List.mem_map.mp hm
    obtain ⟨j, hj⟩ := List.getElem?_of_mem hr'
    have := rule_lookup b.rule hj
    rw [er] at this
    rw [this] <;> rfl
  rw [map_fst_eq (f := fun y => (b.rule.kvs.lookup y).getD "") b.rule k1 fun q hq => by
    obtain ⟨j, hj⟩ := List.getElem?_of_mem hq
    rw [rule_lookup b.rule hj] <;> rfl] at p6
  obtain ⟨pt, rfl, hpt⟩ := p6
  have hx6 : H6 x = some (.ins c.Book dx (putF "wanted" vr [])) := e6 _ _ upd_same
  refine ⟨_, rfl, x, c.Book, dx, _, rfl, hx6, X.cl, X.nT, ?_, ?_⟩
  · have := length_putF "wanted" vr []
    simp only [List.length_nil] at this
    omega
  -- self.kinds = words
  refine ⟨_, rfl, _, rfl, x, c.Book, dx, _, rfl, upd_same, X.cl, X.nK, ?_, ?_⟩
  · have h1 := length_putF "wanted" vr []
    have h2 := length_putF "terms" (.ref pt) (putF "wanted" vr [])
    simp only [List.length_nil] at h1
    omega
  rw [upd_upd]
  have gx6 : G6 x = none := n6.old x (by rw [upd_same]; exact fun z => nomatch z) gx5
  have hne : ∀ q o, H q = some o → q ≠ x → upd H6 x (.ins c.Book dx (bkF vr pt vw)) q = some o := fun q o hq hqx => by
    rw [upd_ne hqx]
    exact e6 _ _ (by rw [upd_ne hqx]; exact e05 _ _ hq)
  refine k pt G6 _ hne ⟨n05.ex.trans n6.ex, n6.le.mut gx6, fun q hq hg => ?_⟩ hpt upd_same
  by_cases hqx : q = x
  · rw [hqx]; exact gx6
  · exact n6.old q (by rw [upd_ne hqx]; exact ne_ex e05 hq) (n05.old q hq hg)
/-- Book(rows, rule, words) -/
theorem c_mkBook {ta tb td : TE} (b : Bk) (ok : b.ok) (h1 : Cm (ta σ) G (MP.d K (rowsD b))) (h2 : Cm (tb σ) G (MP.dk b.rule.kvs)) (h3 : Cm (td σ) G (MP.d K (wordsD b))) :
    Cm (tMake c.Book (sp_Book_init K w c) [] E0 (tCons ta (tCons tb (tCons td tNil))) σ) G (MP.bk K c b) := fun H e Q k =>
  c_cons h1 (c_cons h2 (c_cons h3 c_nil)) H e _ fun vs G1 H1 e1 n1 p1 => by
    cases p1 with
    | cons a1 p1 => cases p1 with
      | cons a2 p1 => cases p1 with
        | cons a3 p1 =>
          cases p1
          rename_i vr vd vw
          intro x dx nx ndx hne
          have e2 : Ex H1 (upd (upd H1 dx (.own x)) x (.ins c.Book dx [])) := (Ex.new ndx).trans (Ex.new (by rw [upd_ne (Ne.symm hne)]; exact nx))
          have gx := fresh_back n1.le nx
          refine ⟨x, dx, _, _, _, b, G1, rfl, n1.le.trans e2, gx, upd_same, a1, a2, a3, ok, fun pt G' H' f n hpt hx => ⟨rfl, ?_⟩⟩
          have gx' : G' x = none := n.old x (by rw [upd_same]; exact fun z => nomatch z) gx
          have e3 : Ex H1 H' := fun q o hq => f q o (e2 q o hq) (ne_of_none hq nx)
          have n3 : Nw H1 G1 (upd G' x (.ins c.Book dx (bkF vr pt vw))) H' := by
            refine ⟨n.ex.trans (Ex.new gx'), fun q o hq => ?_, fun q hq hg => ?_⟩
            · by_cases hqx : q = x
              · subst hqx; rw [upd_same] at hq; rw [hx, ← hq]
              · rw [upd_ne hqx] at hq; exact n.le q o hq
            · have hqx : q ≠ x := fun z => hq (by rw [z]; exact nx)
              rw [upd_ne hqx]
              exact n.old q (ne_ex e2 hq) hg
          exact k _ _ H' (e1.trans e3) (n1.trans e1 n3) ⟨x, dx, _, pt, _, rfl, upd_same, Dp.up (n.ex.trans (Ex.new gx')) _ _ a1, (Ex.new gx') _ _ hpt, Dp.up (n.ex.trans (Ex.new gx')) _ _ a3⟩
end
end Ah
/-! Ah14: drawing a book. -/
namespace Ah
open PySem PySem.Spec PyProof.Rows L2 Evl

/-- from a stable G of H to a stable G' of H', the source drawn from meanwhile -/
structure Dr (h d : Addr) (H G G' H' : Hp) : Prop where
  fr : Fr h d H H'
  ex : Ex G G'
  le : Ex G' H'
  old : ∀ b, H b ≠ none → G b = none → G' b = none
  src : Src H' h d
section
variable {h d : Addr} {H H1 H2 G G1 G2 : Hp}
theorem Src.nh (S : Src H h d) : H h ≠ none := by
  obtain ⟨s, i, cells, h1, _⟩ := S.ex
  rw [h1]; exact fun z => nomatch z
theorem Src.nd (S : Src H h d) : H d ≠ none := by
  obtain ⟨s, i, cells, _, h1, _⟩ := S.ex
  rw [h1]; exact fun z => nomatch z
theorem Dr.of (e : Ex H H1) (n : Nw H G G1 H1) (S : Src H h d) : Dr h d H G G1 H1 := ⟨Fr.of e, n.ex, n.le, n.old, S.ext e⟩
theorem Fr.some {b : Addr} (f : Fr h d H H1) (S : Src H1 h d) (hb : H b ≠ none) : H1 b ≠ none := by
  by_cases e1 : b = h
  · subst e1; exact S.nh
  · by_cases e2 : b = d
    · subst e2; exact S.nd
    · cases q : H b with
      | none => exact absurd q hb
      | some o => rw [f b o q e1 e2]; exact fun z => nomatch z
theorem Dr.trans (a : Dr h d H G G1 H1) (b : Dr h d H1 G1 G2 H2) : Dr h d H G G2 H2 :=
  ⟨a.fr.trans b.fr, a.ex.trans b.ex, b.le, fun c hc hg => b.old c (a.fr.some a.src hc) (a.old c hc hg), b.src⟩
theorem Dr.refl (e : Ex G H) (S : Src H h d) : Dr h d H G G H := ⟨Fr.refl, Ex.refl G, e, fun _ _ z => z, S⟩
/-- the source drawn from, nothing new that is stable -/
theorem Dr.drawn (e : Ex G H) (gh : G h = none) (gd : G d = none) (f : Fr h d H H1) (S : Src H1 h d) : Dr h d H G G H1 := ⟨f, Ex.refl G, f.ex e gh gd, fun _ _ z => z, S⟩
theorem Dr.gh (a : Dr h d H G G1 H1) (S : Src H h d) (g : G h = none) : G1 h = none := a.old h S.nh g
theorem Dr.gd (a : Dr h d H G G1 H1) (S : Src H h d) (g : G d = none) : G1 d = none := a.old d S.nd g
end
section
variable {K : PySem.W.Frag} {w : World} {c : Ad} {σ : L2.St} {G H : Hp} {ta te : TE} {ds : List PyData} {h d : Addr} {Q : VK} {i : Nat}
theorem u_next {n : Int} (hi : σ[i]? = some (some (.ref h))) (S : Src H h d) (h0 : 0 < n) (h1 : n < 1000000000) (k : ∀ (r : Int) H', 0 ≤ r → r < n → Src H' h d → Fr h d H H' → Q (.int r) H') :
    tCall (sp__law_next K w c) [] E0 (tCons (tVar i) (tCons (tC (.int n)) tNil)) σ H Q := ⟨_, hi, h, d, n, rfl, S, h0, h1, k⟩
theorem u_pick (hi : σ[i]? = some (some (.ref h))) (ha : Cm (ta σ) G (MP.d K (.list ds))) (e : Ex G H) (S : Src H h d) (gh : G h = none) (gd : G d = none) (hl : 0 < ds.length) (hl2 : ds.length ≤ 100000)
    (k : ∀ v x G' H', x ∈ ds → Dp K G' v x → Dr h d H G G' H' → Q v H') : tCall (sp__law_pick K w c) [] E0 (tCons (tVar i) (tCons ta tNil)) σ H Q := by
  refine ⟨_, hi, ha H e _ fun a G1 H1 e1 n1 p1 => ?_⟩
  obtain ⟨a, xs, rfl, hs, hd⟩ := dp_lst p1
  have D1 := Dr.of e1 n1 S
  have g1 := D1.gh S gh
  have g2 := D1.gd S gd
  refine ⟨h, d, a, xs, G1, rfl, D1.src, n1.le, g1, g2, hs, by rw [DpAll.length hd]; exact hl, by rw [DpAll.length hd]; exact hl2, fun v H' hv S' f => ?_⟩
  obtain ⟨j, hj⟩ := List.getElem?_of_mem hv
  obtain ⟨x, hx, px⟩ := DpAll.at_ hd hj
  exact k v x G1 H' (List.mem_of_getElem? hx) px (D1.trans (Dr.drawn n1.le g1 g2 f S'))
end
theorem Src.upd {H : Hp} {h d p : Addr} {o : HO} (S : Src H h d) (h1 : p ≠ h) (h2 : p ≠ d) : Src (L2.upd H p o) h d := by
  obtain ⟨s, i, cells, a, b, r⟩ := S.ex
  exact ⟨s, i, cells, by rw [upd_ne (Ne.symm h1)]; exact a, by rw [upd_ne (Ne.symm h2)]; exact b, r⟩
/-! ### rules put together -/
def okKvs (l : List (Str × Str)) : Prop := ∀ (j : Nat) (q : Str × Str), l[j]? = some q → ∃ p : Str × List Str, kvParts[j]? = some p ∧ q.1 = p.1 ∧ q.2 ∈ p.2
theorem bool_of {x y z : Str} (h : z ∈ [x, y]) : ∃ b : Bool, z = bif b then y else x := by
  rcases List.mem_cons.mp h with e | e
  · exact ⟨false, e⟩
  · exact ⟨true, List.mem_singleton.mp e⟩
theorem mis_of {z : Str} (h : z ∈ [("none" : Str), "place", "waits"]) : ∃ m : Mis, z = m.s := by
  rcases List.mem_cons.mp h with e | h
  · exact ⟨.none, e⟩
  · rcases List.mem_cons.mp h with e | h
    · exact ⟨.place, e⟩
    · exact ⟨.waits, List.mem_singleton.mp h⟩
theorem rule_of {l : List (Str × Str)} (hl : l.length = 6) (h : okKvs l) : ∃ r : Rule, l = r.kvs := by
  match l, hl, h with
  | [q0, q1, q2, q3, q4, q5], _, h =>
    obtain ⟨p, e, a1, a2⟩ := h 0 q0 rfl
    cases e
    obtain ⟨p, e, b1, b2⟩ := h 1 q1 rfl
    cases e
    obtain ⟨p, e, c1, c2⟩ := h 2 q2 rfl
    cases e
    obtain ⟨p, e, d1, d2⟩ := h 3 q3 rfl
    cases e
    obtain ⟨p, e, m1, m2⟩ := h 4 q4 rfl
    cases e
    obtain ⟨p, e, e1, e2⟩ := h 5 q5 rfl
    cases e
    obtain ⟨a, a2⟩ := bool_of a2
    obtain ⟨b, b2⟩ := bool_of b2
    obtain ⟨c, c2⟩ := bool_of c2
    obtain ⟨d, d2⟩ := bool_of d2
    obtain ⟨m, m2⟩ := mis_of m2
    obtain ⟨e, e2⟩ := bool_of e2
    refine ⟨⟨a, b, c, d, m, e⟩, ?_⟩
    rw [← Prod.eta q0, ← Prod.eta q1, ← Prod.eta q2, ← Prod.eta q3, ← Prod.eta q4, ← Prod.eta q5, a1, a2, b1, b2, c1, c2, d1, d2, m1, m2, e1, e2] <;> rfl
def putS (l : List (Str × Str)) (x y : Str) : List (Str × Str) := if l.any (fun q => decide (q.1 = x)) then l.map (fun q => if q.1 = x then (q.1, y) else q) else l ++ [(x, y)]
theorem put_kv (l : List (Str × Str)) (x y : Str) : putK (kvD l) (Sum.inr x : Key) (.str y) = kvD (putS l x y) := by
  have e1 : ((kvD l).any fun kv => decide (kv.1 = Sum.inr x)) = l.any fun q => decide (q.1 = x) := by
    unfold kvD
    rw [List.any_map]
    refine congrArg (fun f => l.any f) (funext fun q => ?_)
    show decide (Sum.inr q.1 = (Sum.inr x : Key)) = decide (q.1 = x)
    by_cases e : q.1 = x
    · rw [e, decide_eq_true rfl, decide_eq_true rfl]
    · rw [decide_eq_false e, decide_eq_false fun z => e (Sum.inr.inj z)]
  unfold putK putS
  rw [e1]
  split
  · unfold kvD
    rw [List.map_map, List.map_map]
    refine List.map_congr_left fun q _ => ?_
    show (if (Sum.inr q.1 : Key) = Sum.inr x then _ else _) = ((fun q : Str × Str => ((Sum.inr q.1 : Key), V.str q.2)) (if q.1 = x then (q.1, y) else q))
    by_cases e : q.1 = x
    · rw [if_pos e, if_pos (congrArg Sum.inr e)]
    · rw [if_neg e, if_neg fun z => e (Sum.inr.inj z)]
  · unfold kvD
    rw [List.map_append] <;> rfl
theorem put_missing (r : Rule) : putS r.kvs "missing" "place" = ({ r with mis := .place } : Rule).kvs := by
  have e1 : (r.kvs.any fun q => decide (q.1 = ("missing" : Str))) = true := by
    have : (r.kvs.map (·.1)).any (fun x => decide (x = ("missing" : Str))) = true := by rw [rule_keys]; decide +kernel
    rwa [List.any_map] at this
  unfold putS
  rw [if_pos e1]
  unfold Rule.kvs
  obtain ⟨a, b, c, d, m, e⟩ := r
  cases m <;> cases a <;> cases b <;> cases c <;> cases d <;> cases e <;> decide +kernel
theorem put_again (r : Rule) : putS r.kvs "again" "skip" = ({ r with twice := false } : Rule).kvs := by
  have e1 : (r.kvs.any fun q => decide (q.1 = ("again" : Str))) = true := by
    have : (r.kvs.map (·.1)).any (fun x => decide (x = ("again" : Str))) = true := by rw [rule_keys]; decide +kernel
    rwa [List.any_map] at this
  unfold putS
  rw [if_pos e1]
  unfold Rule.kvs
  obtain ⟨a, b, c, d, m, e⟩ := r
  cases m <;> cases a <;> cases b <;> cases c <;> cases d <;> cases e <;> decide +kernel
section
variable {K : PySem.W.Frag} {w : World} {c : Ad}
def sp__law_rule (K : PySem.W.Frag) (w : World) (c : Ad) : Sp := fun vs H Q _ => ∃ (h d : Addr), vs = [.ref h] ∧ Src H h d ∧ ∀ (r : Rule) p H', H p = none → H' p = some (.dK (kvD r.kvs)) → Src H' h d → Fr h d H H' → Q (.ref p) H'
theorem len__law_rule {vs : List V} {H : Hp} {Q : VK} {E : XK} (h : sp__law_rule K w c vs H Q E) : vs.length = 1 := by
  obtain ⟨_, _, rfl, _⟩ := h
  rfl
def t__law_rule (K : PySem.W.Frag) (w : World) (c : Ad) : TS :=
  (tSeq (tAsg tDNewK (gName 1))
    (tSeq (tFor (iSeq K (tCall (sp__law_parts K w c) [] E0 tNil)) (gName 2)
    (sDPut (tVar 1) (tOp (rIx K) (tVar 2) (tC (.int 0))) (tCall (sp__law_pick K w c) [] E0 (tCons (tVar 0) (tCons (tSl (rSlG K) (tVar 2) (tPart (tC (.int 1))) tNoPart) tNil)))))
    (tSeq (tIfS (tTest (tOp (rEqD K) (tCall (sp__law_next K w c) [] E0 (tCons (tVar 0) (tCons (tC (.int 3)) tNil))) (tC (.int 0)))) (sDPut (tVar 1) (tC (.str "missing")) (tC (.str "place"))) tNext)
    (tRet (tVar 1)))))
def noH : Hp := fun _ => none
theorem noH_ex {H : Hp} : Ex noH H := fun _ _ z => nomatch z
theorem parts_at {i : Nat} {x : PyData} (h : (partsL.map fun l => PyData.list (l.map PyData.str))[i]? = some x) : ∃ p : Str × List Str, kvParts[i]? = some p ∧ x = .list (.str p.1 :: p.2.map PyData.str) := by
  have e : (partsL.map fun l => PyData.list (l.map PyData.str)) = kvParts.map fun p => .list (.str p.1 :: p.2.map PyData.str) := rfl
  rw [e, List.getElem?_map] at h
  cases q : kvParts[i]? with
  | none => rw [q] at h; cases h
  | some p => rw [q] at h; exact ⟨p, rfl, (Option.some.inj h).symm⟩
theorem parts_pos : ∀ p ∈ kvParts, 0 < p.2.length ∧ p.2.length ≤ 3 := by decide +kernel
theorem okKvs.snoc {l : List (Str × Str)} {i : Nat} {pt : Str × List Str} {s : Str} (h : okKvs l) (hn : l.length = i) (hp : kvParts[i]? = some pt) (hs : s ∈ pt.2) : okKvs (l ++ [(pt.1, s)]) := by
  intro j q hj
  rw [List.getElem?_append] at hj
  split at hj
  · exact h j q hj
  · next hlt =>
    have : j = i := by
      have := (List.getElem?_eq_some_iff.mp hj).1
      simp at this
      omega
    subst this
    rw [hn, Nat.sub_self] at hj
    cases hj
    exact ⟨pt, hp, rfl, hs⟩
theorem kv_keys_nd : ∀ i < 6, ∀ j < 6, (kvParts[i]?).map (·.1) = (kvParts[j]?).map (·.1) → i = j := by decide +kernel
theorem okKvs.fresh {l : List (Str × Str)} {i : Nat} {pt : Str × List Str} (h : okKvs l) (hn : l.length = i) (hp : kvParts[i]? = some pt) : (l.any fun q => decide (q.1 = pt.1)) = false := by
  rw [Bool.eq_false_iff]
  intro ha
  obtain ⟨q, hq, he⟩ := List.any_eq_true.mp ha
  have he := of_decide_eq_true he
  obtain ⟨j, hj⟩ := List.getElem?_of_mem hq
  obtain ⟨p2, h2, h3, _⟩ := h j q hj
  have hjl := (List.getElem?_eq_some_iff.mp hj).1
  have := kv_keys_nd j (List.getElem?_eq_some_iff.mp h2).1 i (List.getElem?_eq_some_iff.mp hp).1 (by rw [h2, hp, Option.map_some, Option.map_some, ← he, h3])
  omega
theorem rd__law_rule {vs : List V} {H : Hp} {Q : VK} {E : XK} (h : sp__law_rule K w c vs H Q E) : t__law_rule K w c (Dn Q) (vs.map some ++ List.replicate (3 - vs.length) none) H := by
  obtain ⟨h, d, rfl, S, k⟩ := h
  intro p hp
  have S1 : Src (upd H p (.dK [])) h d := S.ext (Ex.new hp)
  refine ⟨(), noH, noH_ex, .nil, fun v G H1 e1 n1 p1 => ?_⟩
  obtain ⟨a, xs, rfl, ha, hd⟩ := p1
  have D1 : Dr h d H noH G H1 := ⟨Fr.of ((Ex.new hp).trans e1), noH_ex, n1.le, fun b hb g => n1.old b (by rw [upd_ne (fun z => hb (by rw [z]; exact hp))]; exact hb) g, S1.ext e1⟩
  have gp : G p = none := n1.old p (by rw [upd_same]; exact fun z => nomatch z) rfl
  have gh := D1.gh S rfl
  have gd := D1.gd S rfl
  have hph : p ≠ h := fun z => S.nh (by rw [← z]; exact hp)
  have hpd : p ≠ d := fun z => S.nd (by rw [← z]; exact hp)
  have hst : ∀ {G' H2 : Hp} {l : List (Str × Str)}, Dr h d H noH G' H2 → G' p = none → Dr h d H noH G' (upd H2 p (.dK (kvD l))) := fun D g => ⟨fun b o hb h1 h2 => by
    rw [upd_ne (fun z => by rw [z, hp] at hb; cases hb)]; exact D.fr b o hb h1 h2, D.ex, D.le.mut g, D.old, D.src.upd hph hpd⟩
  refine .inl ⟨a, rfl, ⟨xs, SqL.of (n1.le _ _ ha)⟩, ?_⟩
  have hxl : xs.length = 6 := (DpAll.length hd).trans rfl
  refine for_list (xs := xs) (fun i σ H' => (∃ x, σ = [some (.ref h), some (.ref p), x]) ∧ (∃ G', Dr h d H noH G' H' ∧ G' p = none ∧ G' a = G a ∧ Ex G G') ∧ ∃ l : List (Str × Str), H' p = some (.dK (kvD l)) ∧ l.length = i ∧ okKvs l)
    ⟨⟨none, rfl⟩, ⟨G, D1, gp, rfl, Ex.refl G⟩, [], e1 _ _ upd_same, rfl, fun j q z => by simp at z⟩ ?_ ?_ ?_
  · rintro i σ H' _ ⟨_, ⟨G', D, _, _, eG⟩, _⟩
    exact SqL.of (D.le _ _ (eG _ _ ha))
  · rintro i x σ H' hx ⟨⟨y, rfl⟩, ⟨G', D, gp', _, eG⟩, l, hl, hn, hok⟩
    obtain ⟨pd, hpd', px⟩ := DpAll.at_ hd hx
    obtain ⟨pt, hpt, rfl⟩ := parts_at hpd'
    have px' := Dp.up eG _ _ px
    have hmem := List.mem_of_getElem? hpt
    have cx : ∀ {G2 : Hp}, Ex G' G2 → Cm (tVar 2 [some (.ref h), some (.ref p), some x]) G2 (MP.d K (.list (.str pt.1 :: pt.2.map PyData.str))) := fun e2 => c_var rfl (Dp.up e2 _ _ px')
    refine u_pick (ds := pt.2.map PyData.str) rfl (c_to (c_slL (cx (Ex.refl _)) (c_part (K := K) c_int) c_nopart) ?_) D.le D.src (D.gh S rfl) (D.gd S rfl) (by rw [List.length_map]; exact (parts_pos pt hmem).1) (by rw [List.length_map]; have := (parts_pos pt hmem).2; omega) fun v z G2 H2 hz pz D2 => ?_
    · refine congrArg PyData.list ?_
      unfold cutD
      simp [HT.sIx]
      exact List.take_of_length_le (by rw [List.length_map] <;> exact Nat.le_refl _)
    · obtain ⟨s, hs, rfl⟩ := List.mem_map.mp hz
      have ev := dp_str pz
      subst ev
      have hl2 : H2 p = some (.dK (kvD l)) := D2.fr _ _ hl hph hpd
      have gp2 : G2 p = none := D2.old p (by rw [hl]; exact fun z => nomatch z) gp'
      refine ⟨_, rfl, (c_ixL (cx D2.ex) c_int (atI_of (by decide) rfl rfl) : Cm (tOp (rIx K) (tVar 2) (tC (.int 0)) [some (.ref h), some (.ref p), some x]) G2 (MP.d K (.str pt.1))) H2 D2.le _ fun u G3 H3 e3 n3 p3 => ?_⟩
      have eu := dp_str p3
      subst eu
      have hl3 : H3 p = some (.dK (kvD l)) := e3 _ _ hl2
      have hlen := (List.getElem?_eq_some_iff.mp hpt).1
      have D3 := (D.trans D2).trans (Dr.of e3 n3 D2.src)
      have gp3 : G3 p = none := n3.old p (by rw [hl2]; exact fun z => nomatch z) gp2
      have ep : putK (kvD l) (Sum.inr pt.1 : Key) (.str s) = kvD (l ++ [(pt.1, s)]) := by
        rw [put_kv]
        unfold putS
        rw [hok.fresh hn hpt] <;> rfl
      refine ⟨p, _, rfl, DPut.k (k := Sum.inr pt.1) hl3 ?_, ⟨x, rfl⟩, ⟨G3, ?_, gp3, ?_, eG.trans (D2.ex.trans n3.ex)⟩, l ++ [(pt.1, s)], ?_, by rw [List.length_append, hn] <;> rfl, hok.snoc hn hpt hs⟩
      · unfold kvD
        rw [List.length_map, hn]
        exact Nat.lt_trans hlen (by decide)
      · rw [ep]; exact hst D3 gp3
      · rw [(eG.trans (D2.ex.trans n3.ex)) _ _ ha, ha]
      · rw [upd_same, ep]
  · rintro σ H' ⟨⟨x, rfl⟩, ⟨G', D, gp', _, eG⟩, l, hl, hn, hok⟩
    obtain ⟨r, rfl⟩ := rule_of (hn.trans hxl) hok
    refine u_next rfl D.src (by decide) (by decide) fun n H2 _ _ S2 f2 => ?_
    have hl2 : H2 p = some (.dK (kvD r.kvs)) := f2 _ _ hl hph hpd
    have D2 := D.trans (Dr.drawn D.le (D.gh S rfl) (D.gd S rfl) f2 S2)
    refine ⟨.int n, .int 0, .int _, .int _, rfl, rfl, _, rfl, ?_⟩
    cases PyData.eqv (.int n) (.int 0) with
    | true =>
      refine ⟨_, rfl, p, _, rfl, DPut.k (k := Sum.inr "missing") hl2 (by rw [kvD, List.length_map, hn, hxl]; decide), _, rfl, ?_⟩
      rw [put_kv, put_missing]
      exact k _ p _ hp upd_same (hst (l := ({ r with mis := .place } : Rule).kvs) D2 gp').src (hst (l := ({ r with mis := .place } : Rule).kvs) D2 gp').fr
    | false => exact ⟨_, rfl, k r p _ hp hl2 S2 D2.fr⟩
end
end Ah
/-! Ah15: computations that draw from the source. -/
namespace Ah
open PySem PySem.Spec PyProof.Rows L2 Evl

abbrev MP.ex {α ι : Type} (f : ι → MP α) : MP α := ⟨fun v G => ∃ i, (f i).p v G, fun e h => let ⟨i, q⟩ := h; ⟨i, (f i).mono e q⟩⟩
/-- t draws from the source at h, d, and answers a P -/
def Dw {α : Type} (h d : Addr) (t : Hp → (α → Hp → Prop) → Prop) (G : Hp) (P : MP α) : Prop :=
  ∀ H, Ex G H → Src H h d → G h = none → G d = none → ∀ Q : α → Hp → Prop, (∀ a G' H', P.p a G' → Dr h d H G G' H' → Q a H') → t H Q
theorem Dr.up {h d : Addr} {G G1 G' H H' : Hp} (hg : Ex G G1) (h1 : Ex G1 H) (g1 : G1 h = none) (g2 : G1 d = none) (n : Dr h d H G G' H') : Dr h d H G1 (mrg G1 G') H' ∧ Ex G' (mrg G1 G') := by
  have key : ∀ b u, G1 b = some u → H' b = some u := fun b u q => n.fr b u (h1 b u q) (fun z => by rw [z, g1] at q; cases q) (fun z => by rw [z, g2] at q; cases q)
  refine ⟨⟨n.fr, fun b o h => mrg_some h, fun b o h => ?_, fun b hb hn => ?_, n.src⟩, fun b o h => ?_⟩
  · cases q : G1 b with
    | some u => rw [mrg_some q] at h; cases h; exact key b _ q
    | none => rw [mrg_none q] at h; exact n.le b o h
  · rw [mrg_none hn]; exact n.old b hb (fresh_back hg hn)
  · cases q : G1 b with
    | some u =>
      rw [mrg_some q]
      have z1 := n.le b o h
      rw [key b _ q] at z1
      exact z1
    | none => rw [mrg_none q]; exact h
section
variable {α β : Type} {t : Hp → (α → Hp → Prop) → Prop} {u : α → Hp → (β → Hp → Prop) → Prop} {G G1 : Hp} {P P' : MP α} {R : MP β} {h d : Addr}
theorem Dw.of (k : Cm t G P) : Dw h d t G P := fun H e S gh gd Q q => k H e Q fun a G' H' e1 n1 p1 => q a G' H' p1 (Dr.of e1 n1 S)
theorem Dw.ret {a : α} (k : P.p a G) : Dw h d (fun H Q => Q a H) G P := Dw.of (Cm.ret k)
theorem Dw.bind (k : Dw h d t G P) (l : ∀ a G1, Ex G G1 → P.p a G1 → Dw h d (u a) G1 R) : Dw h d (fun H Q => t H fun a H1 => u a H1 Q) G R := fun H e S gh gd Q q =>
  k H e S gh gd _ fun a G1 H1 p1 D1 => l a G1 D1.ex p1 H1 D1.le D1.src (D1.gh S gh) (D1.gd S gd) Q fun b G2 H2 r2 D2 => q b G2 H2 r2 (D1.trans D2)
theorem Dw.up (k : Dw h d t G P) (hg : Ex G G1) : Dw h d t G1 P := fun H e S gh gd Q q =>
  k H (hg.trans e) S (fresh_back hg gh) (fresh_back hg gd) Q fun a G' H' p1 D1 => by
    obtain ⟨n2, x2⟩ := Dr.up hg e gh gd D1
    exact q a _ H' (P.mono x2 p1) n2
theorem Dw.imp (k : Dw h d t G P) (l : ∀ a G', Ex G G' → P.p a G' → P'.p a G') : Dw h d t G P' := fun H e S gh gd Q q => k H e S gh gd Q fun a G' H' p1 D1 => q a G' H' (l a G' D1.ex p1) D1
end
section
variable {K : PySem.W.Frag} {w : World} {c : Ad} {σ : L2.St} {G : Hp} {ta tb te tl : TE} {tas : TA} {ds : List PyData} {h d : Addr} {P P1 P2 R : MP V} {r : R2} {i : Nat} {tt : TT} {t u tr : TS} {x y : PyData}
theorem d_op (h1 : Dw h d (ta σ) G P1) (h2 : Dw h d (tb σ) G P2) (hr : ∀ x y G1, Ex G G1 → P1.p x G1 → P2.p y G1 → Cm (r x y) G1 P) : Dw h d (tOp r ta tb σ) G P :=
  Dw.bind (t := ta σ) (u := fun (x : V) (H : Hp) (Q : VK) => tb σ H fun y H2 => r x y H2 Q) h1 fun x G1 e1 p1 =>
    Dw.bind (t := tb σ) (u := fun (y : V) (H : Hp) (Q : VK) => r x y H Q) (h2.up e1) fun y G2 e2 p2 => .of (hr x y G2 (e1.trans e2) (P1.mono e2 p1) p2)
theorem d_addI {f g : Int → Prop} {ι κ : Type} {fi : ι → Int} {fj : κ → Int} (h1 : Dw h d (ta σ) G (MP.ex fun i : ι => MP.d K (.int (fi i)))) (h2 : Dw h d (tb σ) G (MP.ex fun j : κ => MP.d K (.int (fj j)))) :
    Dw h d (tOp (rAddG K) ta tb σ) G (MP.ex fun p : ι × κ => MP.d K (.int (fi p.1 + fj p.2))) :=
  d_op h1 h2 fun x y G1 e1 ⟨i, p⟩ ⟨j, q⟩ => by
    rw [dp_int p, dp_int q]
    exact c_val (z := .int (fi i + fj j)) (fun H eh Q h => u_addI h) ⟨(i, j), .int _⟩
theorem d_nil : Dw h d (tNil σ) G (MP.args []) := .of c_nil
theorem d_cons {Ps : List (MP V)} (h1 : Dw h d (te σ) G P) (h2 : Dw h d (tas σ) G (MP.args Ps)) : Dw h d (tCons te tas σ) G (MP.args (P :: Ps)) :=
  Dw.bind (t := te σ) (u := fun (x : V) (H : Hp) (Q : List V → Hp → Prop) => tas σ H fun xs H2 => Q (x :: xs) H2) h1 fun x G1 e1 p1 =>
    Dw.bind (t := tas σ) (u := fun (xs : List V) (H : Hp) (Q : List V → Hp → Prop) => Q (x :: xs) H) (h2.up e1) fun xs G2 e2 p2 => .ret (.cons (P.mono e2 p1) p2)
theorem d_next {n : Nat} (hi : σ[i]? = some (some (.ref h))) (h0 : 0 < n) (h1 : n < 1000000000) : Dw h d (tCall (sp__law_next K w c) [] E0 (tCons (tVar i) (tCons (tC (.int n)) tNil)) σ) G (MP.ex fun r : Fin n => MP.d K (.int r.val)) :=
  fun H e S gh gd Q q => u_next hi S (by omega) (by omega) fun r H' r0 r1 S' f => q _ G H' ⟨⟨r.toNat, by omega⟩, by
    have : (r.toNat : Int) = r := by omega
    show Dp K G _ (.int (r.toNat : Int))
    rw [this]
    exact .int r⟩ (Dr.drawn e gh gd f S')
theorem d_pick (hi : σ[i]? = some (some (.ref h))) (ha : Cm (ta σ) G (MP.d K (.list ds))) (hl : 0 < ds.length) (hl2 : ds.length ≤ 100000) :
    Dw h d (tCall (sp__law_pick K w c) [] E0 (tCons (tVar i) (tCons ta tNil)) σ) G (MP.ex fun x : { x // x ∈ ds } => MP.d K x.val) :=
  fun H e S gh gd Q q => u_pick hi ha e S gh gd hl hl2 fun v x G' H' hx px D => q v G' H' ⟨⟨x, hx⟩, px⟩ D
theorem d_rule (hi : σ[i]? = some (some (.ref h))) : Dw h d (tCall (sp__law_rule K w c) [] E0 (tCons (tVar i) tNil) σ) G (MP.ex fun r : Rule => MP.dk r.kvs) :=
  fun H e S gh gd Q q => ⟨_, hi, h, d, rfl, S, fun r p H' hp hH S' f => by
    have ex := f.ex e gh gd
    have gp : G p = none := fresh_back e hp
    refine q _ (upd G p (.dK (kvD r.kvs))) H' ⟨r, p, rfl, upd_same⟩ ⟨f, Ex.new gp, fun b o hb => ?_, fun b hb hn => ?_, S'⟩
    · by_cases hbp : b = p
      · subst hbp; rw [upd_same] at hb; rw [hH]; exact hb
      · rw [upd_ne hbp] at hb; exact ex b o hb
    · rw [upd_ne (fun z => hb (by rw [z]; exact hp))]; exact hn⟩
/-! ### bodies that draw -/
theorem db_ret (k : Dw h d (te σ) G P) : Dw h d (bd (tRet te) σ) G P := k
theorem db_asg {i : Nat} (k : Dw h d (te σ) G R) (l : ∀ v G1, Ex G G1 → R.p v G1 → Dw h d (bd tr (σ.set i (some v))) G1 P) : Dw h d (bd (tSeq (tAsg te (gName i)) tr) σ) G P :=
  Dw.bind (t := te σ) (u := fun (v : V) (H : Hp) (Q : VK) => tr { nx := fun _ H' => Q .non H', rt := Q } (σ.set i (some v)) H) k l
theorem db_if {b : Bool} (k : Cm (tt σ) G (MP.eq b)) (h1 : b = true → Dw h d (bd (tSeq t tr) σ) G P) (h2 : b = false → Dw h d (bd (tSeq u tr) σ) G P) : Dw h d (bd (tSeq (tIfS tt t u) tr) σ) G P :=
  Dw.bind (t := tt σ) (u := fun (c : Bool) (H : Hp) (Q : VK) => if c = true then tSeq t tr { nx := fun _ H' => Q .non H', rt := Q } σ H else tSeq u tr { nx := fun _ H' => Q .non H', rt := Q } σ H) (.of k) fun c G1 e1 p => by
    have e : c = b := p
    subst e
    cases c with
    | true => exact (h1 rfl).up e1
    | false => exact (h2 rfl).up e1
/-! ### statements of a law's loop -/
def St (h d : Addr) (t : TS) (D : Ends) (σ : L2.St) (G : Hp) : Prop := ∀ H, Ex G H → Src H h d → G h = none → G d = none → t D σ H
variable {D : Ends}
theorem s_asg {i : Nat} (k : Dw h d (te σ) G R) (l : ∀ v G1, Ex G G1 → R.p v G1 → St h d tr D (σ.set i (some v)) G1) : St h d (tSeq (tAsg te (gName i)) tr) D σ G :=
  fun H e S gh gd => k H e S gh gd _ fun a G1 H1 p1 D1 => l a G1 D1.ex p1 H1 D1.le D1.src (D1.gh S gh) (D1.gd S gd)
theorem s_if {b : Bool} (k : Dw h d (tt σ) G (MP.eq b)) (h1 : b = true → St h d t D σ G) (h2 : b = false → St h d u D σ G) : St h d (tIfS tt t u) D σ G :=
  fun H e S gh gd => k H e S gh gd _ fun a G1 H1 p1 D1 => by
    have p1 : a = b := p1
    subst p1
    cases a with
    | true => exact h1 rfl H1 (D1.ex.trans D1.le) D1.src gh gd
    | false => exact h2 rfl H1 (D1.ex.trans D1.le) D1.src gh gd
theorem s_next (k : ∀ H, Ex G H → Src H h d → D.nx σ H) : St h d tNext D σ G := fun H e S _ _ => k H e S
/-! ### a comprehension over range that draws -/
/-- the new list at A holds i data that S tells -/
def CD (K : PySem.W.Frag) (S : PyData → Prop) (h d : Addr) (H1 G1 : Hp) (A : Addr) (i : Nat) (H' : Hp) : Prop :=
  ∃ (G' : Hp) (acc : List V) (es : List PyData), es.length = i ∧ (∀ e ∈ es, S e) ∧ Dr h d H1 G1 G' H' ∧ G' A = none ∧ H' A = some (.lst acc) ∧ DpAll K G' acc es
theorem d_lcR {ta : TA} {g : TG} {te : TE} {vs : List Nat} {S : PyData → Prop} {ι : Type} {fn : ι → Nat} {fd : ι → PyData} (ha : Dw h d (ta σ) G (MP.args [MP.ex fun i : ι => MP.d K (.int (fn i : Nat))])) (hn : ∀ i, fn i ≤ 90000)
    (turn : ∀ (v : V) G1, Ex G G1 → ∃ σ2, wipe σ2 vs = wipe σ vs ∧ (∀ H1, Ex G1 H1 → ∀ Q : L2.St → Hp → Prop, Q σ2 H1 → g v (wipe σ vs) H1 Q) ∧ Dw h d (te σ2) G1 (MP.ex fun x : { x // S x } => MP.d K x.val)) :
    Dw h d (tLc (iRng1 ta) g tYes te vs σ) G (MP.ex fun p : { p : ι × List PyData // p.2.length = fn p.1 ∧ ∀ x ∈ p.2, S x } => MP.l K p.val.2) := fun H e S0 gh gd Q q =>
  ha H e S0 gh gd _ fun xs G1 H1 p1 D1 => by
    match xs, p1 with
    | [a], .cons ⟨j, pa⟩ _ =>
      rw [dp_int pa]
      have hj := hn j
      refine ⟨fn j, rfl, by omega, by omega, fun A hA => ?_⟩
      have gA : G1 A = none := fresh_back D1.le hA
      have hAh : A ≠ h := fun z => D1.src.nh (by rw [← z]; exact hA)
      have hAd : A ≠ d := fun z => D1.src.nd (by rw [← z]; exact hA)
      refine lc_range (lo := 0) (n := ((fn j : Nat) : Int).toNat) (fun i H' => CD K S h d H1 G1 A i H') ⟨G1, [], [], rfl, fun _ z => absurd z (List.not_mem_nil), ⟨Fr.of (Ex.new hA), Ex.refl G1, D1.le.trans (Ex.new hA), fun _ _ z => z, D1.src.upd hAh hAd⟩, gA, upd_same, .nil⟩ ?_ ?_
      · rintro i H' hi ⟨G', acc, es, hl, hS, D2, gA', hA', pa'⟩
        obtain ⟨σ2, hw, hg, hd⟩ := turn (.int (0 + i)) G' (D1.ex.trans D2.ex)
        refine hg H' D2.le _ ⟨hw, ?_⟩
        refine u_yes (iteT ?_)
        refine hd H' D2.le D2.src (D2.gh D1.src (D1.gh S0 gh)) (D2.gd D1.src (D1.gd S0 gd)) _ fun y G3 H3 ⟨⟨z, hz⟩, pz⟩ D3 => ?_
        have h3 : H3 A = some (.lst acc) := D3.fr _ _ hA' hAh hAd
        have g3 : G3 A = none := D3.old A (by rw [hA']; exact fun z => nomatch z) gA'
        have D4 := D2.trans D3
        refine ⟨acc, h3, by rw [DpAll.length pa', hl]; exact sz_lt (by omega), G3, acc ++ [y], es ++ [z], by rw [List.length_append, hl] <;> rfl, fun e he => ?_, ⟨fun b o hb h1 h2 => ?_, D4.ex, D4.le.mut g3, D4.old, D4.src.upd hAh hAd⟩, g3, upd_same, DpAll.app (DpAll.up D3.ex _ _ pa') (.cons pz .nil)⟩
        · rcases List.mem_append.mp he with he | he
          · exact hS e he
          · rw [List.mem_singleton.mp he]; exact hz
        · rw [upd_ne (fun z => by rw [z, hA] at hb; cases hb)]; exact D4.fr b o hb h1 h2
      · rintro H' ⟨G', acc, es, hl, hS, D2, gA', hA', pa'⟩
        have D3 := D1.trans D2
        refine q _ (upd G' A (.lst acc)) H' ⟨⟨(j, es), by rw [hl] <;> rfl, hS⟩, A, acc, rfl, upd_same, DpAll.up (Ex.new gA') _ _ pa'⟩ ⟨D3.fr, D3.ex.trans (Ex.new gA'), fun b o hb => ?_, fun b hb hn => ?_, D3.src⟩
        · by_cases hbA : b = A
          · subst hbA; rw [upd_same] at hb; rw [hA']; exact hb
          · rw [upd_ne hbA] at hb; exact D3.le b o hb
        · rw [upd_ne (fun z => D1.fr.some D1.src hb (by rw [z]; exact hA))]; exact D3.old b hb hn
end
end Ah
/-! Ah16: drawing a book; texts. -/
namespace Ah
open PySem PySem.Spec PyProof.Rows L2 Evl

/-! ### join, split, stars, copies of dicts -/
def rJoin (K : PySem.W.Frag) : V → List V → Hp → VK → Prop := fun x xs H Q => ∃ a p, ∃ ys : List Str, x = .str a ∧ xs = [.ref p] ∧ (SqL K H p (ys.map V.str) ∨ SqT K H p (ys.map V.str)) ∧ (ys.map (·.length)).sum + ys.length * a.length ≤ 16777216 ∧ Q (.str (Txt.join a ys)) H
def rSplit : V → List V → Hp → VK → Prop := fun x xs H Q => ∃ a b, x = .str a ∧ xs = [.str b] ∧ (b.length == 0) = false ∧ a.length + 2 ≤ sizeLine ∧ rNewStrs (Txt.split a b) H Q
def rDictK : List V → Hp → VK → Prop := fun xs H Q => ∃ (a : Addr) (kvs : List (Key × V)), xs = [.ref a] ∧ Rd H a (.dK kvs) ∧ ∀ p, H p = none → Q (.ref p) (upd H p (.dK kvs))
theorem call_dictK {X : Cx} : CallR X (.type "dict") rDictK := call_dictD
theorem sum_le (n : Nat) : ∀ l : List Str, (∀ x ∈ l, x.length ≤ n) → (l.map (·.length)).sum ≤ l.length * n
  | [], _ => by simp
  | x :: l, h => by
    have h1 := h x (List.mem_cons_self ..)
    have h2 := sum_le n l fun z hz => h z (List.mem_cons_of_mem _ hz)
    rw [List.map_cons, List.sum_cons, List.length_cons, Nat.succ_mul]
    omega
section
variable {K : PySem.W.Frag} {w : World} {c : Ad} {σ : L2.St} {G : Hp} {ta tb te td : TE} {tas : TA} {ds es : List PyData} {h d : Addr} {P R : MP V} {l : List (Str × Str)}
theorem strs_of : ∀ {xs : List V} {ys : List Str} {G : Hp}, DpAll K G xs (ys.map PyData.str) → xs = ys.map V.str
  | [], [], _, _ => rfl
  | _, y :: ys, _, h => by
    cases h with
    | cons a b => rw [dp_str a, strs_of b] <;> rfl
theorem c_m1 {r : V → List V → Hp → VK → Prop} {P2 : MP V} {a : Str} (h1 : Cm (ta σ) G (MP.d K (.str a))) (h2 : Cm (tb σ) G P2) (k : ∀ y G1, Ex G G1 → P2.p y G1 → Cm (r (.str a) [y]) G1 P) : Cm (tM1 r ta tb σ) G P :=
  Cm.bind (t := ta σ) (u := fun (x : V) (H : Hp) (Q : VK) => (∃ a, x = .str a) ∧ tb σ H fun y H2 => r x [y] H2 Q) h1 fun x G1 e1 p1 => by
    rw [dp_str p1]
    exact c_and ⟨a, rfl⟩ (Cm.bind (t := tb σ) (u := fun (y : V) (H : Hp) (Q : VK) => r (.str a) [y] H Q) (h2.up e1) fun y G2 e2 p2 => k y G2 (e1.trans e2) p2)
theorem c_join {a : Str} {ys : List Str} {n : Nat} (h1 : Cm (ta σ) G (MP.d K (.str a))) (h2 : Cm (tb σ) G (MP.d K (.list (ys.map PyData.str)))) (hy : ∀ y ∈ ys, y.length ≤ n) (hz : ys.length * (n + a.length) ≤ 16777216) :
    Cm (tM1 (rJoin K) ta tb σ) G (MP.d K (.str (Txt.join a ys))) :=
  c_m1 h1 h2 fun y G1 e1 q => by
    obtain ⟨b, xs, rfl, k1, k2⟩ := dp_lst q
    rw [strs_of k2] at k1
    refine c_val (r := fun x y => rJoin K x [y]) (z := .str (Txt.join a ys)) (fun H eh Q h => ⟨a, b, ys, rfl, rfl, .inl (ex_l eh k1), ?_, h⟩) (.str _)
    have := sum_le n ys hy
    rw [Nat.mul_add] at hz
    omega
theorem c_split {a b : Str} (h1 : Cm (ta σ) G (MP.d K (.str a))) (h2 : Cm (tb σ) G (MP.d K (.str b))) (hb : (b.length == 0) = false) (ha : a.length ≤ 90000) :
    Cm (tM1 rSplit ta tb σ) G (MP.l K ((Txt.split a b).map PyData.str)) :=
  c_m1 h1 h2 fun y G1 e1 q => by
    rw [dp_str q]
    refine c_newV (r := rSplit (.str a) [.str b]) (o := .lst ((Txt.split a b).map V.str)) (fun H eh Q h => ⟨a, b, rfl, rfl, hb, ?_, h⟩) fun p hp => ⟨p, _, rfl, upd_same, dps_str _ _⟩
    exact sz_of (by omega)
theorem c_dictK (h1 : Cm (ta σ) G (MP.dk l)) : Cm (tCB rDictK (tCons ta tNil) σ) G (MP.dk l) :=
  c_cb1 h1 fun x G1 e1 p => by
    obtain ⟨p, rfl, hp⟩ := p
    exact c_newV (o := .dK (kvD l)) (fun H eh Q h => ⟨p, _, rfl, .inl (eh _ _ hp), h⟩) fun p hp => ⟨p, rfl, upd_same⟩
/-- [*a, ..] -/
theorem c_star (h1 : Cm (ta σ) G (MP.d K (.list ds))) (h2 : Cm (tas σ) G (MP.ds K es)) : Cm (StX.tStar K ta tas σ) G (MP.ds K (ds ++ es)) :=
  Cm.bind (t := ta σ) (u := fun (x : V) (H : Hp) (Q : List V → Hp → Prop) => ∃ p xs, x = V.ref p ∧ (SqT K H p xs ∨ SqL K H p xs) ∧ tas σ H fun ys H2 => Q (xs ++ ys) H2) h1 fun x G1 e1 p1 => by
    obtain ⟨b, xs, rfl, k1, k2⟩ := dp_lst p1
    exact fun H e Q q => ⟨b, xs, rfl, .inr (ex_l e k1), h2.up e1 H e _ fun ys G2 H2 e2 n2 p2 => q _ G2 H2 e2 n2 (DpAll.app (DpAll.up n2.ex _ _ k2) p2)⟩
theorem c_starT (h1 : Cm (ta σ) G (MP.d K (.tuple ds))) (h2 : Cm (tas σ) G (MP.ds K es)) : Cm (StX.tStar K ta tas σ) G (MP.ds K (ds ++ es)) :=
  Cm.bind (t := ta σ) (u := fun (x : V) (H : Hp) (Q : List V → Hp → Prop) => ∃ p xs, x = V.ref p ∧ (SqT K H p xs ∨ SqL K H p xs) ∧ tas σ H fun ys H2 => Q (xs ++ ys) H2) h1 fun x G1 e1 p1 => by
    obtain ⟨b, xs, rfl, k1, k2⟩ := dp_tup p1
    exact fun H e Q q => ⟨b, xs, rfl, .inl (ex_t e k1), h2.up e1 H e _ fun ys G2 H2 e2 n2 p2 => q _ G2 H2 e2 n2 (DpAll.app (DpAll.up n2.ex _ _ k2) p2)⟩
end
/-! ### _law_with -/
section
variable {K : PySem.W.Frag} {w : World} {c : Ad}
abbrev sp__law_with (K : PySem.W.Frag) (w : World) (c : Ad) : Sp := fun vs H Q _ => ∃ (p : Addr) (l : List (Str × Str)) (x y : Str), vs = [.ref p, .str x, .str y] ∧ H p = some (.dK (kvD l)) ∧ l.length < 1000 ∧ ∀ q, H q = none → Q (.ref q) (upd H q (.dK (kvD (putS l x y))))
theorem len__law_with {vs : List V} {H : Hp} {Q : VK} {E : XK} (h : sp__law_with K w c vs H Q E) : vs.length = 3 := by
  obtain ⟨_, _, _, _, rfl, _⟩ := h
  rfl
def t__law_with (K : PySem.W.Frag) (w : World) (c : Ad) : TS :=
  (tSeq (tAsg (tCB rDictK (tCons (tVar 0) tNil)) (gName 3))
    (tSeq (sDPut (tVar 3) (tVar 1) (tVar 2))
    (tRet (tVar 3))))
theorem rd__law_with {vs : List V} {H : Hp} {Q : VK} {E : XK} (h : sp__law_with K w c vs H Q E) : t__law_with K w c (Dn Q) (vs.map some ++ List.replicate (4 - vs.length) none) H := by
  obtain ⟨p, l, x, y, rfl, hp, hl, k⟩ := h
  refine ⟨_, rfl, p, _, rfl, .inl hp, fun q hq => ⟨_, rfl, _, rfl, _, rfl, q, _, rfl, DPut.k (k := Sum.inr x) upd_same ?_, _, rfl, ?_⟩⟩
  · unfold kvD
    rw [List.length_map]
    exact sz_lt (by omega)
  · rw [upd_upd, put_kv]
    exact k q hq
variable {σ : L2.St} {G : Hp} {ta tb te td : TE} {h d : Addr} {i : Nat}
theorem c_with {l : List (Str × Str)} {x y : Str} (h1 : Cm (ta σ) G (MP.dk l)) (h2 : Cm (tb σ) G (MP.d K (.str x))) (h3 : Cm (td σ) G (MP.d K (.str y))) (hl : l.length < 1000) : Cm (tCall (sp__law_with K w c) [] E0 (tCons ta (tCons tb (tCons td tNil))) σ) G (MP.dk (putS l x y)) := fun H e Q k =>
  c_cons h1 (c_cons h2 (c_cons h3 c_nil)) H e _ fun vs G1 H1 e1 n1 p1 => by
    cases p1 with
    | cons a1 p1 => cases p1 with
      | cons a2 p1 => cases p1 with
        | cons a3 p1 =>
          cases p1
          obtain ⟨p, rfl, hp⟩ := a1
          rw [dp_str a2, dp_str a3]
          exact ⟨p, l, x, y, rfl, n1.le _ _ hp, hl, fun q hq => k _ (upd G1 q _) _ (e1.trans (Ex.new hq)) (n1.trans e1 (Nw.new n1.le hq)) ⟨q, rfl, upd_same⟩⟩
end
/-! ### _law_draw -/
section
variable {K : PySem.W.Frag} {w : World} {c : Ad} {σ : L2.St} {G : Hp} {ta tb te td : TE} {h d : Addr} {i : Nat}
/-- a row of a law: what a book is made of -/
abbrev MP.rw (K : PySem.W.Frag) (b : Bk) : MP V := ⟨fun v G => ∃ a v0 v1 v2, v = .ref a ∧ G a = some (.lst [v0, v1, v2]) ∧ Dp K G v0 (rowsD b) ∧ (MP.dk b.rule.kvs).p v1 G ∧ Dp K G v2 (wordsD b),
  fun e h => let ⟨a, v0, v1, v2, h1, h2, h3, h4, h5⟩ := h; ⟨a, v0, v1, v2, h1, e _ _ h2, Dp.up e _ _ h3, (MP.dk b.rule.kvs).mono e h4, Dp.up e _ _ h5⟩⟩
def Bk.sound (b : Bk) : Prop := b.ok ∧ (b.rows.length = 2 → b.rule.twice = false ∧ ¬ (b.join = true ∧ b.sweep = true))
abbrev BkS := { b : Bk // b.sound }
def sp__law_draw (K : PySem.W.Frag) (w : World) (c : Ad) : Sp := fun vs H Q _ => ∃ (h d : Addr), vs = [.ref h] ∧ Src H h d ∧ ∀ (b : BkS) v G' H', (MP.rw K b.val).p v G' → Dr h d H noH G' H' → Q v H'
theorem len__law_draw {vs : List V} {H : Hp} {Q : VK} {E : XK} (h : sp__law_draw K w c vs H Q E) : vs.length = 1 := by
  obtain ⟨_, _, rfl, _⟩ := h
  rfl
def t__law_draw (K : PySem.W.Frag) (w : World) (c : Ad) : TS :=
  (tSeq (tAsg (tCB (rTupG K) (tCons (tLc (iRng1 (tCons (tOp (rAddG K) (tC (.int 1)) (tCall (sp__law_next K w c) [] E0 (tCons (tVar 0) (tCons (tC (.int 2)) tNil)))) tNil)) (gName 3) tYes (tTup (tCons (tCall (sp__law_pick K w c) [] E0 (tCons (tVar 0) (tCons (tLst (tCons (tC (.str "a")) (tCons (tC (.str "b")) tNil))) tNil))) (tCons (tOp (rAddG K) (tC (.int 1)) (tCall (sp__law_next K w c) [] E0 (tCons (tVar 0) (tCons (tC (.int 2)) tNil)))) tNil))) [3]) tNil)) (gName 1))
    (tSeq (tAsg (tCall (sp__law_rule K w c) [] E0 (tCons (tVar 0) tNil)) (gName 2))
    (tSeq (tIfS (tTest (tOp (rEqD K) (tCB (rLenG K) (tCons (tVar 1) tNil)) (tC (.int 1)))) (tRet (tLst (tCons (tVar 1) (tCons (tVar 2) (tCons (tCall (sp__law_pick K w c) [] E0 (tCons (tVar 0) (tCons (tLst (tCons (tTup tNil) (tCons (tTup (tCons (tC (.str "join")) tNil)) (tCons (tTup (tCons (tC (.str "sweep")) tNil)) (tCons (tTup (tCons (tC (.str "join")) (tCons (tC (.str "sweep")) tNil))) (tCons (tTup (tCons (tC (.str "join")) (tCons (tC (.str "sweep")) tNil))) tNil)))))) tNil))) tNil))))) tNext)
    (tRet (tLst (tCons (tVar 1) (tCons (tCall (sp__law_with K w c) [] E0 (tCons (tVar 2) (tCons (tC (.str "again")) (tCons (tC (.str "skip")) tNil)))) (tCons (tCall (sp__law_pick K w c) [] E0 (tCons (tVar 0) (tCons (tLst (tCons (tTup tNil) (tCons (tTup (tCons (tC (.str "join")) tNil)) (tCons (tTup (tCons (tC (.str "sweep")) tNil)) tNil)))) tNil))) tNil))))))))
theorem d_cb1 {r : List V → Hp → VK → Prop} {P1 P : MP V} (ha : Dw h d (ta σ) G P1) (k : ∀ x G1, Ex G G1 → P1.p x G1 → Cm (r [x]) G1 P) : Dw h d (tCB r (tCons ta tNil) σ) G P :=
  Dw.bind (t := ta σ) (u := fun (x : V) (H : Hp) (Q : VK) => r [x] H Q) ha fun x G1 e1 p1 => .of (k x G1 e1 p1)
abbrev MP.sm (K : PySem.W.Frag) (S : PyData → Prop) : MP V := MP.ex fun x : { x : PyData // S x } => MP.d K x.val
theorem d_tup2 {S1 S2 S : PyData → Prop} (h1 : Dw h d (ta σ) G (MP.sm K S1)) (h2 : Dw h d (tb σ) G (MP.sm K S2)) (hS : ∀ a b, S1 a → S2 b → S (.tuple [a, b])) : Dw h d (tTup (tCons ta (tCons tb tNil)) σ) G (MP.sm K S) :=
  Dw.bind (t := (tCons ta (tCons tb tNil)) σ) (u := fun (xs : List V) (H : Hp) (Q : VK) => xs.length ≤ sizeLine ∧ ∀ p, H p = none → Q (V.ref p) (upd H p (.tup xs))) (d_cons h1 (d_cons h2 d_nil)) fun xs G1 e1 p1 => by
    cases p1 with
    | cons a1 p1 => cases p1 with
      | cons a2 p1 =>
        cases p1
        obtain ⟨⟨a, ha⟩, pa⟩ := a1
        obtain ⟨⟨b, hb⟩, pb⟩ := a2
        exact .of (c_and (sz_of (n := 2) (by decide)) (c_new fun p hp => ⟨⟨_, hS a b ha hb⟩, dp_new_tup hp (.cons pa (.cons pb .nil))⟩))
theorem d_lst3 {P0 P1 P2 P : MP V} (h0 : Dw h d (ta σ) G P0) (h1 : Dw h d (tb σ) G P1) (h2 : Dw h d (te σ) G P2) (hP : ∀ G1 p v0 v1 v2, Ex G G1 → G1 p = some (.lst [v0, v1, v2]) → P0.p v0 G1 → P1.p v1 G1 → P2.p v2 G1 → P.p (.ref p) G1) :
    Dw h d (tLst (tCons ta (tCons tb (tCons te tNil))) σ) G P :=
  Dw.bind (t := (tCons ta (tCons tb (tCons te tNil))) σ) (u := fun (xs : List V) (H : Hp) (Q : VK) => xs.length ≤ sizeLine ∧ ∀ p, H p = none → Q (V.ref p) (upd H p (.lst xs))) (d_cons h0 (d_cons h1 (d_cons h2 d_nil))) fun xs G1 e1 p1 => by
    cases p1 with
    | cons a1 p1 => cases p1 with
      | cons a2 p1 => cases p1 with
        | cons a3 p1 =>
          cases p1
          exact .of (c_and (sz_of (n := 3) (by decide)) (c_new fun p hp => hP _ p _ _ _ (e1.trans (Ex.new hp)) upd_same (P0.mono (Ex.new hp) a1) (P1.mono (Ex.new hp) a2) (P2.mono (Ex.new hp) a3)))
abbrev Rows1 := { l : List Row // l.length = 1 ∨ l.length = 2 }
theorem rows_of : ∀ (ds : List PyData), (∀ x ∈ ds, ∃ r : Row, x = rowD r) → ∃ l : List Row, ds = l.map rowD
  | [], _ => ⟨[], rfl⟩
  | x :: ds, h => by
    obtain ⟨r, rfl⟩ := h x (List.mem_cons_self ..)
    obtain ⟨l, rfl⟩ := rows_of ds fun z hz => h z (List.mem_cons_of_mem _ hz)
    exact ⟨r :: l, rfl⟩
theorem d_12 (hi : σ[i]? = some (some (.ref h))) : Dw h d (tOp (rAddG K) (tC (.int 1)) (tCall (sp__law_next K w c) [] E0 (tCons (tVar i) (tCons (tC (.int 2)) tNil))) σ) G (MP.ex fun b : Bool => MP.d K (.int (dI b))) :=
  d_op (P1 := MP.d K (.int 1)) (.of c_int) (d_next (n := 2) hi (by decide) (by decide)) fun x y G1 e1 p ⟨r, q⟩ => by
    rw [dp_int p, dp_int q]
    refine c_val (z := .int (1 + r.val)) (fun H eh Q h => u_addI h) ⟨decide (r.val = 1), ?_⟩
    match r with
    | ⟨0, _⟩ => exact .int 1
    | ⟨1, _⟩ => exact .int 2
theorem d_rows (hi : σ[i]? = some (some (.ref h))) (hj : ∀ v, ((wipe σ [3]).set 3 (some v))[i]? = some (some (.ref h))) (hw : ∀ v, wipe ((wipe σ [3]).set 3 (some v)) [3] = wipe σ [3]) :
    Dw h d (tCB (rTupG K) (tCons (tLc (iRng1 (tCons (tOp (rAddG K) (tC (.int 1)) (tCall (sp__law_next K w c) [] E0 (tCons (tVar i) (tCons (tC (.int 2)) tNil)))) tNil)) (gName 3) tYes (tTup (tCons (tCall (sp__law_pick K w c) [] E0 (tCons (tVar i) (tCons (tLst (tCons (tC (.str "a")) (tCons (tC (.str "b")) tNil))) tNil))) (tCons (tOp (rAddG K) (tC (.int 1)) (tCall (sp__law_next K w c) [] E0 (tCons (tVar i) (tCons (tC (.int 2)) tNil)))) tNil))) [3]) tNil) σ) G
      (MP.ex fun l : Rows1 => MP.d K (.tuple (l.val.map rowD))) :=
  d_cb1 (d_lcR (S := fun x => ∃ r : Row, x = rowD r) (fn := fun b : Bool => (dI b).toNat) (fd := fun _ => .none) (d_cons (P := MP.ex fun b : Bool => MP.d K (.int (((dI b).toNat : Nat) : Int))) ((d_12 hi).imp fun a G' e p => by
      obtain ⟨b, p⟩ := p
      cases b
      · exact ⟨false, p⟩
      · exact ⟨true, p⟩) d_nil) (fun b => by cases b <;> decide) fun v G1 e1 => ⟨_, hw v, fun H1 _ Q k => k, d_tup2 (S1 := fun x => x ∈ [PyData.str "a", .str "b"]) (S2 := fun x => ∃ b : Bool, x = .int (dI b)) (d_pick (hj v) (c_lst (c_dcons c_str (c_dcons c_str c_dnil)) (by show 2 ≤ 100000; decide)) (by decide) (by decide))
        ((d_12 (hj v)).imp fun a G' e ⟨b, p⟩ => ⟨⟨_, b, rfl⟩, p⟩) fun a b ha ⟨x, hb⟩ => by
          subst hb
          rcases List.mem_cons.mp ha with e | ha
          · exact ⟨(false, x), by rw [e] <;> rfl⟩
          · exact ⟨(true, x), by rw [List.mem_singleton.mp ha] <;> rfl⟩⟩) fun x G1 e1 ⟨⟨⟨b, ds⟩, hl, hS⟩, p⟩ => by
    obtain ⟨a, xs, rfl, h1, h2⟩ := p
    obtain ⟨l, rfl⟩ := rows_of ds hS
    refine c_newV (o := .tup xs) (fun H eh Q h => ⟨a, xs, rfl, .inl ⟨SqL.of (eh _ _ h1), h⟩⟩) fun p hp => ⟨⟨l, ?_⟩, dp_new_tup hp h2⟩
    have hl : (l.map rowD).length = (dI b).toNat := hl
    rw [List.length_map] at hl
    cases b
    · exact .inl hl
    · exact .inr hl
theorem put_again_ok (r : Rule) : putS r.kvs "again" "skip" = ({ r with twice := false } : Rule).kvs := put_again r
def wlist5 : List PyData := [.tuple [], .tuple [.str "join"], .tuple [.str "sweep"], .tuple [.str "join", .str "sweep"], .tuple [.str "join", .str "sweep"]]
theorem w5 {x : PyData} (h : x ∈ wlist5) : ∃ j s : Bool, ∀ rs r, x = wordsD ⟨rs, r, j, s⟩ := by
  unfold wlist5 at h
  simp only [List.mem_cons, List.not_mem_nil, or_false] at h
  rcases h with e | e | e | e | e
  · exact ⟨false, false, fun _ _ => e⟩
  · exact ⟨true, false, fun _ _ => e⟩
  · exact ⟨false, true, fun _ _ => e⟩
  · exact ⟨true, true, fun _ _ => e⟩
  · exact ⟨true, true, fun _ _ => e⟩
theorem w3 {x : PyData} (h : x ∈ ([.tuple [], .tuple [.str "join"], .tuple [.str "sweep"]] : List PyData)) : ∃ j s : Bool, ¬ (j = true ∧ s = true) ∧ ∀ rs r, x = wordsD ⟨rs, r, j, s⟩ := by
  simp only [List.mem_cons, List.not_mem_nil, or_false] at h
  rcases h with e | e | e
  · exact ⟨false, false, by decide, fun _ _ => e⟩
  · exact ⟨true, false, by decide, fun _ _ => e⟩
  · exact ⟨false, true, by decide, fun _ _ => e⟩
theorem rd__law_draw {vs : List V} {H : Hp} {Q : VK} {E : XK} (h : sp__law_draw K w c vs H Q E) : t__law_draw K w c (Dn Q) (vs.map some ++ List.replicate (4 - vs.length) none) H := by
  obtain ⟨h, d, rfl, S, k⟩ := h
  have key : Dw h d (bd (t__law_draw K w c) [some (.ref h), none, none, none]) noH (MP.ex fun b : BkS => MP.rw K b.val) := by
    refine db_asg (d_rows rfl (fun _ => rfl) (fun _ => rfl)) fun v G1 e1 ⟨⟨rs, hrs⟩, p1⟩ => db_asg (d_rule rfl) fun v2 G2 e2 ⟨r, p2⟩ => ?_
    refine db_if (c_test (c_eq (c_lenT (c_var rfl (Dp.up e2 _ _ p1))) c_int rfl rfl)) (fun hb => ?_) (fun hb => ?_)
    · have hl : rs.length = 1 := by
        rcases hrs with h | h
        · exact h
        · rw [List.length_map, h] at hb; cases hb
      refine d_lst3 (.of (c_var (P := MP.d K (.tuple (rs.map rowD))) rfl (Dp.up e2 _ _ p1))) (.of (c_var (P := MP.dk r.kvs) rfl p2)) (d_pick (ds := wlist5) rfl (c_lst (c_dcons (c_tup c_dnil (by show 0 ≤ 100000; decide)) (c_dcons (c_tup (c_dcons c_str c_dnil) (by show 1 ≤ 100000; decide)) (c_dcons (c_tup (c_dcons c_str c_dnil) (by show 1 ≤ 100000; decide)) (c_dcons (c_tup (c_dcons c_str (c_dcons c_str c_dnil)) (by show 2 ≤ 100000; decide)) (c_dcons (c_tup (c_dcons c_str (c_dcons c_str c_dnil)) (by show 2 ≤ 100000; decide)) c_dnil))))) (by show 5 ≤ 100000; decide)) (by decide) (by decide))
        fun G3 p v0 v1 v3 e3 hp q0 q1 ⟨⟨x, hx⟩, q2⟩ => ?_
      obtain ⟨j, s, hw⟩ := w5 hx
      refine ⟨⟨⟨rs, r, j, s⟩, .inl hl, fun z => by rw [hl] at z; cases z⟩, p, v0, v1, v3, rfl, hp, q0, q1, ?_⟩
      rw [← hw rs r]
      exact q2
    · have hl : rs.length = 2 := by
        rcases hrs with h | h
        · rw [List.length_map, h] at hb; cases hb
        · exact h
      refine d_lst3 (.of (c_var (P := MP.d K (.tuple (rs.map rowD))) rfl (Dp.up e2 _ _ p1))) (.of (c_with (c_var (P := MP.dk r.kvs) rfl p2) c_str c_str (by show 6 < 1000; decide))) (d_pick rfl (c_lst (c_dcons (c_tup c_dnil (by show 0 ≤ 100000; decide)) (c_dcons (c_tup (c_dcons c_str c_dnil) (by show 1 ≤ 100000; decide)) (c_dcons (c_tup (c_dcons c_str c_dnil) (by show 1 ≤ 100000; decide)) c_dnil))) (by show 3 ≤ 100000; decide)) (by decide) (by decide))
        fun G3 p v0 v1 v3 e3 hp q0 q1 ⟨⟨x, hx⟩, q2⟩ => ?_
      obtain ⟨j, s, hjs, hw⟩ := w3 hx
      refine ⟨⟨⟨rs, { r with twice := false }, j, s⟩, .inr hl, fun _ => ⟨rfl, hjs⟩⟩, p, v0, v1, v3, rfl, hp, q0, ?_, ?_⟩
      · rw [← put_again r]; exact q1
      · rw [← hw rs { r with twice := false }]
        exact q2
  exact key H noH_ex S rfl rfl Q fun v G' H' ⟨b, p⟩ D => k b v G' H' p D
theorem d_draw (hi : σ[i]? = some (some (.ref h))) : Dw h d (tCall (sp__law_draw K w c) [] E0 (tCons (tVar i) tNil) σ) G (MP.ex fun b : BkS => MP.rw K b.val) :=
  fun H e S gh gd Q q => ⟨_, hi, h, d, rfl, S, fun b v G' H' p D => by
    obtain ⟨D2, x2⟩ := Dr.up (G := noH) noH_ex e gh gd D
    exact q v _ H' ⟨b, (MP.rw K b.val).mono x2 p⟩ D2⟩
end
end Ah
/-! Ah17: books made, compared, written. -/
namespace Ah
open PySem PySem.Spec PyProof.Rows L2 Evl

structure Axt (K : PySem.W.Frag) (w : World) (c : Ad) : Prop where
  ax : Ax K w c
  ins : C8.InsC K c.Book
  rows : ∃ vs : List V, KD K w c.ROWS ([("a1" : Str), "a2", "b1", "b2"].zip vs) ∧ vs.length = 4 ∧ ∀ G, DpAll K G vs ([(false, false), (false, true), (true, false), (true, true)].map rowD)
section
variable {K : PySem.W.Frag} {w : World} {c : Ad} {σ : L2.St} {G : Hp} {ta tb te td : TE} {b b1 b2 : Bk}
/-! ### parts of a row, of a book -/
theorem c_rw0 (h1 : Cm (ta σ) G (MP.rw K b)) : Cm (tOp (rIx K) ta (tC (.int 0)) σ) G (MP.d K (rowsD b)) :=
  c_op (P2 := MP.eq (.int 0)) h1 (c_c rfl) fun x y G1 e1 p q => by
    obtain ⟨a, v0, v1, v2, rfl, ha, h0, h1, h2⟩ := p
    have q : y = .int 0 := q
    subst q
    exact c_val (z := v0) (fun H eh Q h => u_ixL (SqL.of (eh _ _ ha)) rfl h) h0
theorem c_rw1 (h1 : Cm (ta σ) G (MP.rw K b)) : Cm (tOp (rIx K) ta (tC (.int 1)) σ) G (MP.dk b.rule.kvs) :=
  c_op (P2 := MP.eq (.int 1)) h1 (c_c rfl) fun x y G1 e1 p q => by
    obtain ⟨a, v0, v1, v2, rfl, ha, h0, h1, h2⟩ := p
    have q : y = .int 1 := q
    subst q
    exact c_val (z := v1) (fun H eh Q h => u_ixL (SqL.of (eh _ _ ha)) rfl h) h1
theorem c_rw2 (h1 : Cm (ta σ) G (MP.rw K b)) : Cm (tOp (rIx K) ta (tC (.int 2)) σ) G (MP.d K (wordsD b)) :=
  c_op (P2 := MP.eq (.int 2)) h1 (c_c rfl) fun x y G1 e1 p q => by
    obtain ⟨a, v0, v1, v2, rfl, ha, h0, h1, h2⟩ := p
    have q : y = .int 2 := q
    subst q
    exact c_val (z := v2) (fun H eh Q h => u_ixL (SqL.of (eh _ _ ha)) rfl h) h2
theorem c_bkw (X : Ax K w c) (h1 : Cm (ta σ) G (MP.bk K c b)) : Cm (tFld K ta "wanted" σ) G (MP.d K (rowsD b)) :=
  Cm.bind (t := ta σ) (u := fun (x : V) (H : Hp) (Q : VK) => ∃ a C dx fs v, x = .ref a ∧ H a = some (.ins C dx fs) ∧ Cls K C ∧ NoAttr K C "wanted" ∧ fs.lookup ("wanted" : Str) = some v ∧ Q v H) h1 fun x G1 e1 p1 => by
    obtain ⟨x, dx, vr, pt, vw, rfl, hx, hr, ht, hw⟩ := p1
    exact fun H eh Q q => ⟨x, _, dx, _, vr, rfl, eh _ _ hx, X.cl, X.nW, bkF_w _ _ _, q vr G1 H (Ex.refl H) (Nw.refl eh) hr⟩
theorem c_bkt (X : Ax K w c) (h1 : Cm (ta σ) G (MP.bk K c b)) : Cm (tFld K ta "terms" σ) G (MP.dk b.rule.kvs) :=
  Cm.bind (t := ta σ) (u := fun (x : V) (H : Hp) (Q : VK) => ∃ a C dx fs v, x = .ref a ∧ H a = some (.ins C dx fs) ∧ Cls K C ∧ NoAttr K C "terms" ∧ fs.lookup ("terms" : Str) = some v ∧ Q v H) h1 fun x G1 e1 p1 => by
    obtain ⟨x, dx, vr, pt, vw, rfl, hx, hr, ht, hw⟩ := p1
    exact fun H eh Q q => ⟨x, _, dx, _, .ref pt, rfl, eh _ _ hx, X.cl, X.nT, bkF_t _ _ _, q _ G1 H (Ex.refl H) (Nw.refl eh) ⟨pt, rfl, ht⟩⟩
theorem c_bkk (X : Ax K w c) (h1 : Cm (ta σ) G (MP.bk K c b)) : Cm (tFld K ta "kinds" σ) G (MP.d K (wordsD b)) :=
  Cm.bind (t := ta σ) (u := fun (x : V) (H : Hp) (Q : VK) => ∃ a C dx fs v, x = .ref a ∧ H a = some (.ins C dx fs) ∧ Cls K C ∧ NoAttr K C "kinds" ∧ fs.lookup ("kinds" : Str) = some v ∧ Q v H) h1 fun x G1 e1 p1 => by
    obtain ⟨x, dx, vr, pt, vw, rfl, hx, hr, ht, hw⟩ := p1
    exact fun H eh Q q => ⟨x, _, dx, _, vw, rfl, eh _ _ hx, X.cl, X.nK, bkF_k _ _ _, q vw G1 H (Ex.refl H) (Nw.refl eh) hw⟩
end
/-! ### _law_built -/
section
variable {K : PySem.W.Frag} {w : World} {c : Ad} {σ : L2.St} {G : Hp} {ta tb te td : TE} {b b1 b2 : Bk}
abbrev sp__law_built (K : PySem.W.Frag) (w : World) (c : Ad) : Sp := spOf (ι := { b : Bk // b.ok }) (fun b => [MP.rw K b.val]) (fun b => MP.bk K c b.val)
theorem len__law_built {vs : List V} {H : Hp} {Q : VK} {E : XK} (h : sp__law_built K w c vs H Q E) : vs.length = 1 := spOf_len (by intro i; rfl) vs H Q E h
def t__law_built (K : PySem.W.Frag) (w : World) (c : Ad) : TS :=
  (tRet (tMake c.Book (sp_Book_init K w c) [] E0 (tCons (tOp (rIx K) (tVar 0) (tC (.int 0))) (tCons (tOp (rIx K) (tVar 0) (tC (.int 1))) (tCons (tOp (rIx K) (tVar 0) (tC (.int 2))) tNil)))))
theorem rd__law_built {vs : List V} {H : Hp} {Q : VK} {E : XK} (h : sp__law_built K w c vs H Q E) : t__law_built K w c (Dn Q) (vs.map some ++ List.replicate (1 - vs.length) none) H := by
  obtain ⟨⟨b, ok⟩, G, e, ha, q⟩ := h
  cases ha with
  | cons a1 ha =>
    cases ha
    rename_i x
    have hx : Cm (tVar 0 [some x]) G (MP.rw K b) := c_var (P := MP.rw K b) rfl a1
    exact (b_ret (c_mkBook b ok (c_rw0 hx) (c_rw1 hx) (c_rw2 hx)) : Cm (bd (t__law_built K w c) [some x]) G (MP.bk K c b)) H e Q q
/-! ### Book.__eq__ -/
def bkEq (a b : Bk) : Bool := PyData.eqv (rowsD a) (rowsD b) && (kvEq a.rule.kvs b.rule.kvs && PyData.eqv (wordsD a) (wordsD b))
theorem rows_all {M : List Row → Prop} {b : Bk} (ok : b.ok) (h1 : ∀ k d, M [(k, d)]) (h2 : ∀ k d l e, M [(k, d), (l, e)]) : M b.rows := by
  obtain ⟨rs, r, j, s⟩ := b
  match rs, ok with
  | [(k, d)], _ => exact h1 k d
  | [(k, d), (l, e)], _ => exact h2 k d l e
  | [], h => rcases h with h | h <;> cases h
  | _ :: _ :: _ :: r, h => rcases h with h | h <;> simp at h
theorem rows_shaped {b : Bk} (ok : b.ok) : SeqAt.shaped (rowsD b) = true := rows_all (M := fun l => SeqAt.shaped (.tuple (l.map rowD)) = true) ok (by decide +kernel) (by decide +kernel)
theorem words_shaped (b : Bk) : SeqAt.shaped (wordsD b) = true := words_all (M := fun l => SeqAt.shaped (.tuple (l.map PyData.str)) = true) b (by decide +kernel) (by decide +kernel) (by decide +kernel) (by decide +kernel)
theorem rule_nd (r : Rule) : (r.kvs.map (·.1)).Nodup := by rw [rule_keys]; decide +kernel
abbrev sp_Book_eq (K : PySem.W.Frag) (w : World) (c : Ad) : Sp := spOf (ι := { b : Bk × Bk // b.1.ok ∧ b.2.ok }) (fun b => [MP.bk K c b.val.1, MP.bk K c b.val.2]) (fun b => MP.d K (.bool (bkEq b.val.1 b.val.2)))
theorem len_Book_eq {vs : List V} {H : Hp} {Q : VK} {E : XK} (h : sp_Book_eq K w c vs H Q E) : vs.length = 2 := spOf_len (by intro i; rfl) vs H Q E h
def t_Book_eq (K : PySem.W.Frag) (w : World) (c : Ad) : TS :=
  (tSeq (tIfS (tNot (tB (tCB (rIsiG K) (tCons (tVar 1) (tCons (tC (.ref c.Book)) tNil))))) (tRet (tC (.bl false))) tNext)
    (tRet (tOp (rEq3 K) (tTup (tCons (tFld K (tVar 0) "wanted") (tCons (tFld K (tVar 0) "terms") (tCons (tFld K (tVar 0) "kinds") tNil)))) (tTup (tCons (tFld K (tVar 1) "wanted") (tCons (tFld K (tVar 1) "terms") (tCons (tFld K (tVar 1) "kinds") tNil)))))))
theorem c_isBook (X : Axt K w c) (h1 : Cm (ta σ) G (MP.bk K c b)) : Cm (tCB (rIsiG K) (tCons ta (tCons (tC (.ref c.Book)) tNil)) σ) G (MP.d K (.bool true)) :=
  c_cb2 (P2 := MP.eq (.ref c.Book)) h1 (c_c rfl) fun x y G1 e1 p q => by
    have hy : y = .ref c.Book := q
    subst hy
    obtain ⟨x, dx, vr, pt, vw, rfl, hx, _⟩ := p
    exact c_valN (z := .bl true) (fun H eh Q h => .inl ⟨.ref x, _, _, _, true, rfl, .own _, .base (TyOf.ins (eh _ _ hx) X.ins.cl X.ins.ha X.ins.hn X.ins.htk X.ins.hm), X.ins.me, h⟩) (.bl _)
/-- (rows, rule, words) of a book -/
abbrev MP.t3 (K : PySem.W.Frag) (b : Bk) : MP V := ⟨fun v G => ∃ a v0 p v2, v = .ref a ∧ G a = some (.tup [v0, .ref p, v2]) ∧ Dp K G v0 (rowsD b) ∧ G p = some (.dK (kvD b.rule.kvs)) ∧ Dp K G v2 (wordsD b),
  fun e h => let ⟨a, v0, v1, v2, h1, h2, h3, h4, h5⟩ := h; ⟨a, v0, v1, v2, h1, e _ _ h2, Dp.up e _ _ h3, e _ _ h4, Dp.up e _ _ h5⟩⟩
theorem c_t3 (X : Ax K w c) (h1 : Cm (ta σ) G (MP.bk K c b)) : Cm (tTup (tCons (tFld K ta "wanted") (tCons (tFld K ta "terms") (tCons (tFld K ta "kinds") tNil))) σ) G (MP.t3 K b) :=
  Cm.bind (t := (tCons (tFld K ta "wanted") (tCons (tFld K ta "terms") (tCons (tFld K ta "kinds") tNil))) σ) (u := fun (xs : List V) (H : Hp) (Q : VK) => xs.length ≤ sizeLine ∧ ∀ p, H p = none → Q (V.ref p) (upd H p (.tup xs)))
    (c_cons (c_bkw X h1) (c_cons (c_bkt X h1) (c_cons (c_bkk X h1) c_nil))) fun xs G1 e1 p1 => by
    cases p1 with
    | cons a1 p1 => cases p1 with
      | cons a2 p1 => cases p1 with
        | cons a3 p1 =>
          cases p1
          obtain ⟨p, rfl, hp⟩ := a2
          exact c_and (sz_of (n := 3) (by decide)) (c_new fun q hq => ⟨q, _, p, _, rfl, upd_same, Dp.up (Ex.new hq) _ _ a1, Ex.new hq _ _ hp, Dp.up (Ex.new hq) _ _ a3⟩)
theorem rd_Book_eq (X : Axt K w c) {vs : List V} {H : Hp} {Q : VK} {E : XK} (h : sp_Book_eq K w c vs H Q E) : t_Book_eq K w c (Dn Q) (vs.map some ++ List.replicate (2 - vs.length) none) H := by
  obtain ⟨⟨⟨b1, b2⟩, o1, o2⟩, G, e, ha, q⟩ := h
  cases ha with
  | cons a1 ha => cases ha with
    | cons a2 ha =>
      cases ha
      rename_i x y
      have hx : Cm (tVar 0 [some x, some y]) G (MP.bk K c b1) := c_var (P := MP.bk K c b1) rfl a1
      have hy : Cm (tVar 1 [some x, some y]) G (MP.bk K c b2) := c_var (P := MP.bk K c b2) rfl a2
      refine (b_if (b := false) (c_teq (c_tnot (c_tB (c_isBook X hy))) rfl) (fun z => absurd z Bool.false_ne_true) fun _ => b_nexts (b_ret ?_) : Cm (bd (t_Book_eq K w c) [some x, some y]) G (MP.d K (.bool (bkEq b1 b2)))) H e Q q
      refine c_op (c_t3 X.ax hx) (c_t3 X.ax hy) fun u v G1 e1 ⟨a, v0, p, v2, hu, ha, k0, k1, k2⟩ ⟨a', v0', p', v2', hv, ha', k0', k1', k2'⟩ => c_val (z := .bl (bkEq b1 b2)) (fun H eh Q h => ?_) (.bl _)
      exact ⟨a, a', p, p', v0, v2, v0', v2', _, _, _, _, _, _, hu, hv, SqT.of (eh _ _ ha), SqT.of (eh _ _ ha'), ⟨Dp.up eh _ _ k0, Dp.up eh _ _ k2, Dp.up eh _ _ k0', Dp.up eh _ _ k2'⟩,
        ⟨rows_shaped o1, words_shaped _, rows_shaped o2, words_shaped _⟩, eh _ _ k1, eh _ _ k1', rule_nd _, h⟩
theorem eqv_self {b : Bk} (ok : b.ok) : bkEq b b = true := by
  have h1 : PyData.eqv (rowsD b) (rowsD b) = true := rows_all (M := fun l => PyData.eqv (.tuple (l.map rowD)) (.tuple (l.map rowD)) = true) ok (by decide +kernel) (by decide +kernel)
  have h2 : PyData.eqv (wordsD b) (wordsD b) = true := words_all (M := fun l => PyData.eqv (.tuple (l.map PyData.str)) (.tuple (l.map PyData.str)) = true) b (by decide +kernel) (by decide +kernel) (by decide +kernel) (by decide +kernel)
  unfold bkEq
  rw [h1, h2, kvEq_self (rule_nd _)] <;> rfl
/-- == of two books -/
theorem c_bkEq (o1 : b1.ok) (o2 : b2.ok) (h1 : Cm (ta σ) G (MP.bk K c b1)) (h2 : Cm (tb σ) G (MP.bk K c b2)) : Cm (tOp (rEqO K c.Book (sp_Book_eq K w c)) ta tb σ) G (MP.d K (.bool (bkEq b1 b2))) :=
  c_op h1 h2 fun x y G1 e1 p q => fun H e Q k => by
    have p0 := p
    have q0 := q
    obtain ⟨a, dx, vr, pt, vw, rfl, hx, _⟩ := p
    obtain ⟨a', dx', vr', pt', vw', rfl, hx', _⟩ := q
    refine ⟨a, dx, _, a', rfl, rfl, e _ _ hx, .inl ⟨_, _, e _ _ hx'⟩, ⟨(b1, b2), o1, o2⟩, G1, e, .cons p0 (.cons q0 .nil), fun v G' H' e2 n2 p2 => ⟨⟨_, dp_bl p2⟩, k v G' H' e2 n2 p2⟩⟩
end
end Ah
/-! Ah18: the text of a book. -/
namespace Ah
open PySem PySem.Spec PyProof.Rows L2 Evl

def rowT (r : Row) : Str := kS r.1 ++ (toString (dI r.2) : Str)
def bkParts (b : Bk) : List (List Str) := (("rows" : Str) :: b.rows.map rowT) :: ((b.rule.kvs.map fun q => [q.1, q.2]) ++ [("words" : Str) :: b.words])
def lineT (ps : List Str) : Str := Txt.join (" " : Str) ps
def bkLines (b : Bk) : List Str := (bkParts b).map lineT
def bkText (b : Bk) : Str := Txt.join ("\n" : Str) (bkLines b)
def okT (s : Str) : Bool := decide (s.length ≤ 10) && (!(TL.tl s).contains 32 && SeqAt.shaped (.str s))
def okP (ps : List Str) : Bool := !ps.isEmpty && (decide (ps.length ≤ 3) && (ps.all okT && (decide ((lineT ps).length ≤ 60) && (!(TL.tl (lineT ps)).contains 10 && SeqAt.shaped (.list (ps.map PyData.str))))))
theorem okP_row {b : Bk} (ok : b.ok) : okP (("rows" : Str) :: b.rows.map rowT) = true := rows_all (M := fun l => okP (("rows" : Str) :: l.map rowT) = true) ok (by decide +kernel) (by decide +kernel)
theorem okP_words (b : Bk) : okP (("words" : Str) :: b.words) = true := words_all (M := fun l => okP (("words" : Str) :: l) = true) b (by decide +kernel) (by decide +kernel) (by decide +kernel) (by decide +kernel)
theorem okP_all : ∀ p ∈ kvParts, ∀ s ∈ p.2, okP [p.1, s] = true := by decide +kernel
theorem okP_kv (r : Rule) : ∀ q ∈ r.kvs, okP [q.1, q.2] = true := fun q hq => by
  obtain ⟨i, hi⟩ := List.getElem?_of_mem hq
  obtain ⟨p, hp, e1, e2⟩ := rule_word r i q hi
  rw [e1]
  exact okP_all p (List.mem_of_getElem? hp) q.2 e2
theorem okP_bk {b : Bk} (ok : b.ok) : ∀ ps ∈ bkParts b, okP ps = true := fun ps h => by
  rcases List.mem_cons.mp h with e | h
  · rw [e]; exact okP_row ok
  · rcases List.mem_append.mp h with h | h
    · obtain ⟨q, hq, rfl⟩ := List.mem_map.mp h
      exact okP_kv b.rule q hq
    · rw [List.mem_singleton.mp h]; exact okP_words b
section
variable {ps : List Str}
theorem okP.ne (h : okP ps = true) : ps ≠ [] := by
  intro e
  subst e
  cases h
theorem okP.and (h : okP ps = true) : ps.length ≤ 3 ∧ (∀ p ∈ ps, okT p = true) ∧ (lineT ps).length ≤ 60 ∧ 10 ∉ TL.tl (lineT ps) ∧ SeqAt.shaped (.list (ps.map PyData.str)) = true := by
  unfold okP at h
  simp only [Bool.and_eq_true, decide_eq_true_eq, List.all_eq_true, Bool.not_eq_true'] at h
  obtain ⟨_, h1, h2, h3, h4, h5⟩ := h
  refine ⟨h1, h2, h3, fun z => ?_, h5⟩
  rw [List.contains_iff_mem.mpr z] at h4
  cases h4
theorem okT.and {s : Str} (h : okT s = true) : s.length ≤ 10 ∧ 32 ∉ TL.tl s ∧ SeqAt.shaped (.str s) = true := by
  unfold okT at h
  simp only [Bool.and_eq_true, decide_eq_true_eq, Bool.not_eq_true'] at h
  obtain ⟨h1, h2, h3⟩ := h
  refine ⟨h1, fun z => ?_, h3⟩
  rw [List.contains_iff_mem.mpr z] at h2
  cases h2
theorem split_line (h : okP ps = true) : Txt.split (lineT ps) (" " : Str) = ps :=
  TL.split_join (s := 32) (S := []) (by decide +kernel) (by decide +kernel) (okP.ne h) fun p hp => (okT.and ((okP.and h).2.1 p hp)).2.1
end
theorem split_text {b : Bk} (ok : b.ok) : Txt.split (bkText b) ("\n" : Str) = bkLines b :=
  TL.split_join (s := 10) (S := []) (by decide +kernel) (by decide +kernel) (by unfold bkLines bkParts; exact fun z => nomatch z) fun p hp => by
    obtain ⟨ps, hps, rfl⟩ := List.mem_map.mp hp
    exact (okP.and (okP_bk ok ps hps)).2.2.2.1
theorem join_len (n : Nat) (y : Str) : ∀ l : List Str, (∀ x ∈ l, x.length ≤ n) → (Str.join y l).length ≤ l.length * (n + y.length)
  | [], _ => by show (0 : Nat) ≤ _; omega
  | [x], h => by
    have h1 := h x (List.mem_cons_self ..)
    show x.length ≤ 1 * (n + y.length)
    omega
  | x :: z :: r, h => by
    have h1 := h x (List.mem_cons_self ..)
    have h2 := join_len n y (z :: r) fun u hu => h u (List.mem_cons_of_mem _ hu)
    show ((x ++ y ++ Str.join y (z :: r)).length) ≤ _
    rw [PySem.Str.length_append, PySem.Str.length_append, List.length_cons, Nat.succ_mul]
    omega
theorem lines_len {b : Bk} (ok : b.ok) : ∀ x ∈ bkLines b, x.length ≤ 60 := fun x hx => by
  obtain ⟨ps, hps, rfl⟩ := List.mem_map.mp hx
  exact (okP.and (okP_bk ok ps hps)).2.2.1
theorem lines_8 (b : Bk) : (bkLines b).length = 8 := rfl
theorem text_len {b : Bk} (ok : b.ok) : (bkText b).length ≤ 1000 := by
  unfold bkText
  rw [TL.join_eq]
  have h := join_len 60 ("\n" : Str) (bkLines b) (lines_len ok)
  rw [lines_8] at h
  exact Nat.le_trans h (by decide +kernel)
theorem line2 (x y : Str) : x ++ (" " : Str) ++ y = lineT [x, y] := by
  unfold lineT
  rw [TL.join_eq] <;> rfl
section
variable {K : PySem.W.Frag} {w : World} {c : Ad} {σ : L2.St} {G : Hp} {ta tb te td : TE} {b : Bk} {ds : List PyData}
theorem c_spc {x : Str} : Cm (tC (.str x) σ) G (MP.d K (.str x)) := c_str
/-- key + str(day) -/
theorem c_rowT {i j : Nat} {r : Row} (hi : σ[i]? = some (some (.str (kS r.1)))) (hj : σ[j]? = some (some (.int (dI r.2)))) : Cm (tOp (rAddG K) (tVar i) (tCB rStrI (tCons (tVar j) tNil)) σ) G (MP.d K (.str (rowT r))) :=
  c_addS (c_var hi (.str _)) (c_strI (c_var hj (.int _)) ((by decide +kernel : ∀ d, (dI d).natAbs.log2 < 1920) r.2)) ((by decide +kernel : ∀ a d, (kS a).length + (toString (dI d) : Str).length ≤ 100000) r.1 r.2)
theorem c_rowsLl {i j : Nat} {tl : TE} (ok : b.ok) (hl : Cm (tl σ) G (MP.d K (rowsD b))) (hw : ∀ x y, wipe (((wipe σ [i, j]).set i (some x)).set j (some y)) [i, j] = wipe σ [i, j]) (h1 : ∀ x y, (((wipe σ [i, j]).set i (some x)).set j (some y))[i]? = some (some x)) (h2 : ∀ x y, (((wipe σ [i, j]).set i (some x)).set j (some y))[j]? = some (some y)) :
    Cm (tLc (iSeq K tl) (gTup K 2 (gCons (gName i) (gCons (gName j) gNil))) tYes (tOp (rAddG K) (tVar i) (tCB rStrI (tCons (tVar j) tNil))) [i, j] σ) G (MP.l K ((b.rows.map rowT).map PyData.str)) := by
  have hlen : (b.rows.map rowD).length ≤ 90000 := by rw [List.length_map]; rcases ok with h | h <;> omega
  have e : ((b.rows.map rowT).map PyData.str) = ((b.rows.map rowD).filter fun _ => true).map fun d => match d with | .tuple [.str x, .int n] => .str (x ++ (toString n : Str)) | _ => .none := by
    rw [filter_yes, List.map_map, List.map_map] <;> rfl
  rw [e]
  refine c_lcT hl hlen fun v d G1 e1 hd pd => ?_
  obtain ⟨r, hr, rfl⟩ := List.mem_map.mp hd
  obtain ⟨a, xs, rfl, k1, k2⟩ := dp_tup pd
  cases k2 with
  | cons q1 k2 => cases k2 with
    | cons q2 k2 =>
      cases k2
      rw [dp_str q1, dp_int q2] at k1
      exact ct_pair (x := .str (kS r.1)) (y := .int (dI r.2)) rfl k1 (hw _ _) c_yes fun _ => c_rowT (h1 _ _) (h2 _ _)
theorem c_rowsL {i j : Nat} {tl : TE} (ok : b.ok) (hl : Cm (tl σ) G (MP.d K (rowsD b))) (hw : ∀ x y, wipe (((wipe σ [i, j]).set i (some x)).set j (some y)) [i, j] = wipe σ [i, j]) (h1 : ∀ x y, (((wipe σ [i, j]).set i (some x)).set j (some y))[i]? = some (some x)) (h2 : ∀ x y, (((wipe σ [i, j]).set i (some x)).set j (some y))[j]? = some (some y)) :
    Cm (tLc (iSeq K tl) (gTup K 2 (gCons (gName i) (gCons (gName j) gNil))) tYes (tOp (rAddG K) (tVar i) (tCB rStrI (tCons (tVar j) tNil))) [i, j] σ) G (MP.d K (.list ((b.rows.map rowT).map PyData.str))) := l_d (c_rowsLl ok hl hw h1 h2)
theorem c_star1 (h1 : Cm (ta σ) G (MP.d K (.list ds))) : Cm (StX.tStar K ta tNil σ) G (MP.ds K ds) := by
  have h := c_star h1 c_dnil
  rwa [List.append_nil] at h
theorem c_star1T (h1 : Cm (ta σ) G (MP.d K (.tuple ds))) : Cm (StX.tStar K ta tNil σ) G (MP.ds K ds) := by
  have h := c_starT h1 c_dnil
  rwa [List.append_nil] at h
theorem ms {ys : List Str} {x : Str} (h1 : Cm (ta σ) G (MP.d K (.str x))) {t : TA} (h2 : Cm (t σ) G (MP.ds K (ys.map PyData.str))) : Cm (tCons ta t σ) G (MP.ds K ((x :: ys).map PyData.str)) := c_dcons h1 h2
theorem c_lineT {te : TE} {ps : List Str} (ok : okP ps = true) (h : Cm (te σ) G (MP.d K (.list (ps.map PyData.str)))) : Cm (tM1 (rJoin K) (tC (.str " ")) te σ) G (MP.d K (.str (lineT ps))) :=
  c_join (n := 10) c_str h (fun y hy => (okT.and ((okP.and ok).2.1 y hy)).1) (by have := (okP.and ok).1; show ps.length * 11 ≤ _; omega)
theorem c_text {te : TE} (ok : b.ok) (h : Cm (te σ) G (MP.d K (.list ((bkLines b).map PyData.str)))) : Cm (tM1 (rJoin K) (tC (.str "\n")) te σ) G (MP.d K (.str (bkText b))) :=
  c_join (n := 60) c_str h (lines_len ok) (by rw [lines_8]; decide +kernel)
theorem Nw.put {H G G3 H3 : Hp} {p : Addr} {o : HO} (n : Nw H G G3 H3) (e : Ex H H3) (gp : G3 p = none) (hp : H p = none) : Nw H G (upd G3 p o) (upd H3 p o) ∧ Ex H (upd H3 p o) := by
  refine ⟨⟨n.ex.trans (Ex.new gp), fun b u h => ?_, fun b hb hg => ?_⟩, Ex.mut e hp⟩
  · by_cases hbp : b = p
    · subst hbp; rw [upd_same] at h ⊢; exact h
    · rw [upd_ne hbp] at h ⊢; exact n.le b u h
  · rw [upd_ne (fun z => hb (by rw [z]; exact hp))]; exact n.old b hb hg
/-! ### write -/
abbrev BkO := { b : Bk // b.ok }
abbrev sp_write (K : PySem.W.Frag) (w : World) (c : Ad) : Sp := spOf (ι := BkO) (fun b => [MP.bk K c b.val]) (fun b => MP.d K (.str (bkText b.val)))
theorem len_write {vs : List V} {H : Hp} {Q : VK} {E : XK} (h : sp_write K w c vs H Q E) : vs.length = 1 := spOf_len (by intro i; rfl) vs H Q E h
def t_write (K : PySem.W.Frag) (w : World) (c : Ad) : TS :=
  (tSeq (tAsg (tLst (tCons (tM1 (rJoin K) (tC (.str " ")) (tLst (tCons (tC (.str "rows")) (StX.tStar K (tLc (iSeq K (tFld K (tVar 0) "wanted")) (gTup K 2 (gCons (gName 2) (gCons (gName 3) gNil))) tYes (tOp (rAddG K) (tVar 2) (tCB rStrI (tCons (tVar 3) tNil))) [2, 3]) tNil)))) tNil)) (gName 1))
    (tSeq (tDrop (tBM K "list" rExtend (tVar 1) (tCons (tLockE (tLc (iItems (tFld K (tVar 0) "terms")) (gTup K 2 (gCons (gName 4) (gCons (gName 5) gNil))) tYes (tOp (rAddG K) (tOp (rAddG K) (tVar 4) (tC (.str " "))) (tVar 5)) [4, 5])) tNil)))
    (tRet (tM1 (rJoin K) (tC (.str "\n")) (tLst (StX.tStar K (tVar 1) (tCons (tM1 (rJoin K) (tC (.str " ")) (tLst (tCons (tC (.str "words")) (StX.tStar K (tFld K (tVar 0) "kinds") tNil)))) tNil)))))))
theorem rd_write (X : Ax K w c) {vs : List V} {H : Hp} {Q : VK} {E : XK} (h : sp_write K w c vs H Q E) : t_write K w c (Dn Q) (vs.map some ++ List.replicate (6 - vs.length) none) H := by
  obtain ⟨⟨b, ok⟩, G, e, ha, q⟩ := h
  cases ha with
  | cons a1 ha =>
    cases ha
    rename_i x
    have hb : ∀ {σ : L2.St} {G1 : Hp}, Ex G G1 → σ[0]? = some (some x) → Cm (tVar 0 σ) G1 (MP.bk K c b) := fun e1 hσ => c_var hσ ((MP.bk K c b).mono e1 a1)
    refine c_lineT (K := K) (okP_row ok) (c_lst (ms c_str (c_star1 (c_rowsL ok (c_bkw X (hb (Ex.refl G) rfl)) (fun _ _ => rfl) (fun _ _ => rfl) (fun _ _ => rfl)))) ?_) H e _ fun y G1 H1 e1 n1 p1 => ?_
    · rw [List.length_map, List.length_cons, List.length_map]; rcases ok with h | h <;> rw [h] <;> decide
    · have ey := dp_str p1
      subst ey
      refine ⟨sz_of (n := 1) (by decide), fun p hp => ?_⟩
      have hb1 := (MP.bk K c b).mono n1.ex a1
      have hb1' := hb1
      obtain ⟨bx, dx, vr, pt, vw, hbx, hx, hr, ht, hw⟩ := hb1'
      subst hbx
      have nep : bx ≠ pt := ne_of hx ht fun z => nomatch z
      have n2 : Nw H G G1 (upd H1 p (.lst [.str (lineT (("rows" : Str) :: b.rows.map rowT))])) := ⟨n1.ex, n1.le.trans (Ex.new hp), n1.old⟩
      refine ⟨_, rfl, .inl ⟨rfl, _, SqL.of upd_same⟩, ?_⟩
      refine (c_cons (c_lcItems (l := b.rule.kvs) (F := fun q => PyData.str (lineT [q.1, q.2])) (by show 6 ≤ 90000; decide) ht (fun H2 Q e2 k => ⟨_, rfl, bx, c.Book, dx, _, .ref pt, rfl, e2 _ _ (by rw [hide_ne nep]; exact hx), X.cl, X.nT, bkF_t _ _ _, k⟩) fun q G2 T hq hT => ?_) c_nil) _ n2.le _ fun vs G3 H3 e3 n3 p3 => ?_
      · refine ct_pair rfl (SqT.of hT) rfl c_yes fun _ => ?_
        have ok2 := okP_kv b.rule q hq
        have l1 := (okT.and ((okP.and ok2).2.1 q.1 (List.mem_cons_self ..))).1
        have l2 := (okT.and ((okP.and ok2).2.1 q.2 (List.mem_cons_of_mem _ (List.mem_cons_self ..)))).1
        rw [← line2]
        have l3 : (" " : Str).length = 1 := by decide +kernel
        exact c_addS (c_addS (c_var rfl (.str _)) c_str (by omega)) (c_var rfl (.str _)) (by rw [PySem.Str.length_append]; omega)
      · cases p3 with
        | cons a3 p3 =>
          cases p3
          obtain ⟨a, xs, rfl, ha, hxs⟩ := a3
          have hp3 := e3 _ _ upd_same
          have gp1 : G1 p = none := fresh_back n1.le hp
          have gp3 : G3 p = none := n3.old p (by rw [upd_same]; exact fun z => nomatch z) gp1
          refine ⟨p, a, _, xs, rfl, rfl, hp3, n3.le _ _ ha, by rw [DpAll.length hxs]; exact sz_of (n := 7) (by decide), ?_⟩
          have hx8 : DpAll K G3 ([V.str (lineT (("rows" : Str) :: b.rows.map rowT))] ++ xs) ((lineT (("rows" : Str) :: b.rows.map rowT) :: b.rule.kvs.map fun q => lineT [q.1, q.2]).map PyData.str) := by
            refine .cons (.str _) ?_
            rw [List.map_map]
            exact hxs
          obtain ⟨n4, e4⟩ := Nw.put (o := .lst ([V.str (lineT (("rows" : Str) :: b.rows.map rowT))] ++ xs)) (n2.trans (e1.trans (Ex.new hp)) n3) ((e1.trans (Ex.new hp)).trans e3) gp3 (fresh_back e1 hp)
          have hb4 : ∀ {σ : L2.St}, σ[0]? = some (some (.ref bx)) → Cm (tVar 0 σ) (upd G3 p (.lst ([V.str (lineT (("rows" : Str) :: b.rows.map rowT))] ++ xs))) (MP.bk K c b) := fun hσ => c_var hσ ((MP.bk K c b).mono (n3.ex.trans (Ex.new gp3)) hb1)
          refine c_text ok ?_ _ n4.le _ fun v G5 H5 e5 n5 p5 => q v G5 H5 (e4.trans e5) (n4.trans e4 n5) p5
          have hL : Cm (tVar 1 [some (.ref bx), some (.ref p), none, none, none, none]) (upd G3 p (.lst ([V.str (lineT (("rows" : Str) :: b.rows.map rowT))] ++ xs))) (MP.d K (.list ((lineT (("rows" : Str) :: b.rows.map rowT) :: b.rule.kvs.map fun q => lineT [q.1, q.2]).map PyData.str))) :=
            c_var rfl (.lst (SqL.of upd_same) (DpAll.up (Ex.new gp3) _ _ hx8))
          have hz := c_lst (K := K) (c_star hL (c_dcons (c_lineT (okP_words b) (c_lst (ms c_str (c_star1T (c_bkk X (hb4 rfl)))) (by have := (okP.and (okP_words b)).1; rw [List.length_map]; omega))) c_dnil)) (by show 8 ≤ 100000; decide)
          have ez : (bkLines b).map PyData.str = ((lineT (("rows" : Str) :: b.rows.map rowT) :: b.rule.kvs.map fun q => lineT [q.1, q.2]).map PyData.str) ++ [.str (lineT (("words" : Str) :: b.words))] := rfl
          rw [ez]
          exact hz
end
end Ah
/-! Ah19: the text of a book, read. -/
namespace Ah
open PySem PySem.Spec PyProof.Rows L2 Evl

theorem cut1 (d : PyData) (ds : List PyData) : cutD (d :: ds) (some 1) none = ds := by
  unfold cutD
  have e1 : HT.sIx (d :: ds).length 0 (some 1) = 1 := by unfold HT.sIx; simp
  have e2 : HT.sIx (d :: ds).length (d :: ds).length none = (d :: ds).length := rfl
  rw [e1, e2]
  exact List.take_of_length_le (by simp)
abbrev MP.ts (K : PySem.W.Frag) (xs : List Str) : MP V := MP.d K (.list (xs.map PyData.str))
section
variable {K : PySem.W.Frag} {w : World} {c : Ad} {σ : L2.St} {G : Hp} {ta tb te td : TE} {b : Bk} {ds : List PyData}
theorem c_hd {x : Str} {xs : List Str} (h : Cm (ta σ) G (MP.ts K (x :: xs))) : Cm (tOp (rIx K) ta (tC (.int 0)) σ) G (MP.d K (.str x)) := c_ixL h c_int (atI_of (by decide) rfl rfl)
theorem c_tl {x : Str} {xs : List Str} (h : Cm (ta σ) G (MP.ts K (x :: xs))) : Cm (tSl (rSlG K) ta (tPart (tC (.int 1))) tNoPart σ) G (MP.ts K xs) := c_to (c_slL h (c_part (K := K) c_int) c_nopart) (congrArg PyData.list (cut1 _ _))
theorem c_neS {x y : Str} (h1 : Cm (ta σ) G (MP.d K (.str x))) (h2 : Cm (tb σ) G (MP.d K (.str y))) (s1 : SeqAt.shaped (.str x) = true) (s2 : SeqAt.shaped (.str y) = true) : Cm (tTest (tOp (rNeD K) ta tb) σ) G (MP.eq (!(PyData.eqv (.str x) (.str y)))) := c_test (c_ne h1 h2 s1 s2)
theorem eqv_str (x : Str) : PyData.eqv (.str x) (.str x) = true := by
  show decide (x = x) = true
  exact decide_eq_true rfl
theorem c_neSame {x : Str} (h1 : Cm (ta σ) G (MP.d K (.str x))) (h2 : Cm (tb σ) G (MP.d K (.str x))) (s1 : SeqAt.shaped (.str x) = true) : Cm (tTest (tOp (rNeD K) ta tb) σ) G (MP.eq false) := c_teq (c_neS h1 h2 s1 s1) (by rw [eqv_str] <;> rfl)
theorem okT.sh {s : Str} (h : okT s = true) : SeqAt.shaped (.str s) = true := (okT.and h).2.2
/-! ### line_at -/
structure LineIn where
  lines : List Str
  i : Nat
  ps : List Str
  at_ : lines[i]? = some (lineT ps)
  ok : okP ps = true
abbrev sp_line_at (K : PySem.W.Frag) (w : World) (c : Ad) : Sp := spOf (ι := LineIn) (fun i => [MP.ts K i.lines, MP.d K (.int i.i)]) (fun i => MP.ts K i.ps)
theorem len_line_at {vs : List V} {H : Hp} {Q : VK} {E : XK} (h : sp_line_at K w c vs H Q E) : vs.length = 2 := spOf_len (by intro i; rfl) vs H Q E h
def t_line_at (K : PySem.W.Frag) (w : World) (c : Ad) : TS :=
  (tSeq (tIfS (tTest (tOp rGeI (tVar 1) (tCB (rLenG K) (tCons (tVar 0) tNil)))) tNever tNext)
    (tRet (tM1 rSplit (tOp (rIx K) (tVar 0) (tVar 1)) (tC (.str " ")))))
theorem rd_line_at {vs : List V} {H : Hp} {Q : VK} {E : XK} (h : sp_line_at K w c vs H Q E) : t_line_at K w c (Dn Q) (vs.map some ++ List.replicate (2 - vs.length) none) H := by
  obtain ⟨⟨lines, i, ps, hat, ok⟩, G, e, ha, q⟩ := h
  cases ha with
  | cons a1 ha => cases ha with
    | cons a2 ha =>
      cases ha
      rename_i x y
      have h1 : Cm (tVar 0 [some x, some y]) G (MP.ts K lines) := c_var rfl a1
      have h2 : Cm (tVar 1 [some x, some y]) G (MP.d K (.int i)) := c_var rfl a2
      have hi : i < lines.length := (List.getElem?_eq_some_iff.mp hat).1
      refine (b_ifN (c_test (c_to (c_I0 (z := .bool false) h2 (c_lenL h1) fun G => ?_) rfl)) (b_ret ?_) : Cm (bd (t_line_at K w c) [some x, some y]) G (MP.ts K ps)) H e Q q
      · have e1 : decide (((lines.map PyData.str).length : Int) ≤ (i : Int)) = false := decide_eq_false (by rw [List.length_map]; omega)
        rw [e1]
        exact .bl false
      · have hs := split_line ok
        rw [← hs]
        refine l_d (c_split (c_ixL h1 h2 (atI_of (by omega) rfl ?_)) c_str (by decide +kernel) ?_)
        · show (lines.map PyData.str)[((i : Nat) : Int).toNat]? = _
          rw [Int.toNat_natCast, List.getElem?_map, hat] <;> rfl
        · have := (okP.and ok).2.2.1
          omega
theorem c_line (i : LineIn) (h1 : Cm (ta σ) G (MP.ts K i.lines)) (h2 : Cm (tb σ) G (MP.d K (.int i.i))) : Cm (tCall (sp_line_at K w c) [] E0 (tCons ta (tCons tb tNil)) σ) G (MP.ts K i.ps) :=
  c_call (args := fun i : LineIn => [MP.ts K i.lines, MP.d K (.int i.i)]) (res := fun i => MP.ts K i.ps) i (c_cons h1 (c_cons h2 c_nil))
def line0 (b : BkO) : LineIn := ⟨bkLines b.val, 0, _, rfl, okP_row b.property⟩
def line7 (b : BkO) : LineIn := ⟨bkLines b.val, 7, _, rfl, okP_words b.val⟩
theorem lineK_at {b : Bk} {i : Nat} {q : Str × Str} (h : b.rule.kvs[i]? = some q) : (bkLines b)[i + 1]? = some (lineT [q.1, q.2]) := by
  have hi : i < (b.rule.kvs.map fun q => [q.1, q.2]).length := by rw [List.length_map]; exact (List.getElem?_eq_some_iff.mp h).1
  unfold bkLines bkParts
  rw [List.getElem?_map, List.getElem?_cons_succ, List.getElem?_append_left hi, List.getElem?_map, h] <;> rfl
def lineK (b : BkO) (i : Nat) (q : Str × Str) (h : b.val.rule.kvs[i]? = some q) : LineIn := ⟨bkLines b.val, i + 1, _, lineK_at h, okP_kv _ q (List.mem_of_getElem? h)⟩
/-! ### rows_at -/
def rowTab : List (Str × PyData) := [("a1", rowD (false, false)), ("a2", rowD (false, true)), ("b1", rowD (true, false)), ("b2", rowD (true, true))]
def rowOf : PyData → PyData
  | .str s => (rowTab.lookup s).getD .none
  | _ => .none
def inRows : PyData → Bool
  | .str s => (rowTab.lookup s).isSome
  | _ => false
theorem rowOf_T (r : Row) : rowTab.lookup (rowT r) = some (rowD r) := by
  obtain ⟨a, b⟩ := r
  cases a <;> cases b <;> rfl
theorem tab_of : ∀ {ks : List Str} {vs : List V} {ds : List PyData} {s : Str} {d : PyData} {G : Hp}, vs.length = ks.length → DpAll K G vs ds → (ks.zip ds).lookup s = some d → ∃ v, (ks.zip vs).lookup s = some v ∧ Dp K G v d
  | [], _, _, _, _, _, _, _, h => nomatch h
  | k :: ks, v :: vs, d' :: ds, s, d, G, hl, .cons a b, h => by
    rw [List.zip_cons_cons, List.lookup_cons] at h ⊢
    cases e : s == k with
    | true =>
      rw [e] at h
      cases h
      exact ⟨v, rfl, a⟩
    | false =>
      rw [e] at h
      exact tab_of (by simpa using hl) b h
  | k :: ks, [], _, _, _, _, hl, _, _ => nomatch hl
theorem Axt.rowAt (X : Axt K w c) (r : Row) : ∃ kvs v, KD K w c.ROWS kvs ∧ kvs.lookup (rowT r) = some v ∧ ∀ G, Dp K G v (rowD r) := by
  obtain ⟨vs, D, hl, hd⟩ := X.rows
  have h : ∀ G, ∃ v, ([("a1" : Str), "a2", "b1", "b2"].zip vs).lookup (rowT r) = some v ∧ Dp K G v (rowD r) := fun G => tab_of hl (hd G) (rowOf_T r)
  obtain ⟨v, h1, _⟩ := h noH
  refine ⟨_, v, D, h1, fun G => ?_⟩
  obtain ⟨u, h2, h3⟩ := h G
  rw [h1] at h2
  cases h2
  exact h3
abbrev sp_rows_at (K : PySem.W.Frag) (w : World) (c : Ad) : Sp := spOf (ι := BkO) (fun b => [MP.ts K (bkLines b.val)]) (fun b => MP.d K (rowsD b.val))
theorem len_rows_at {vs : List V} {H : Hp} {Q : VK} {E : XK} (h : sp_rows_at K w c vs H Q E) : vs.length = 1 := spOf_len (by intro i; rfl) vs H Q E h
def t_rows_at (K : PySem.W.Frag) (w : World) (c : Ad) : TS :=
  (tSeq (tAsg (tCall (sp_line_at K w c) [] E0 (tCons (tVar 0) (tCons (tC (.int 0)) tNil))) (gName 1))
    (tSeq (tIfS (tOr (tTest (tOp (rNeD K) (tOp (rIx K) (tVar 1) (tC (.int 0))) (tC (.str "rows")))) (tOr (tNot (tTest (tChain rLeI rLeI (tC (.int 2)) (tCB (rLenG K) (tCons (tVar 1) tNil)) (tOp (rAddG K) (tC (.int 2)) (tC (.int 1)))))) (tNot (tB (tCB (rAll K) (tCons (tLc (iSeq K (tSl (rSlG K) (tVar 1) (tPart (tC (.int 1))) tNoPart)) (gName 2) tYes (tOp (rInW K w) (tVar 2) (tC (.ref c.ROWS))) [2]) tNil)))))) tNever tNext)
    (tRet (tCB (rTupG K) (tCons (tLc (iSeq K (tSl (rSlG K) (tVar 1) (tPart (tC (.int 1))) tNoPart)) (gName 2) tYes (tOp (rIxW K w) (tC (.ref c.ROWS)) (tVar 2)) [2]) tNil)))))
theorem rd_rows_at (X : Axt K w c) {vs : List V} {H : Hp} {Q : VK} {E : XK} (h : sp_rows_at K w c vs H Q E) : t_rows_at K w c (Dn Q) (vs.map some ++ List.replicate (3 - vs.length) none) H := by
  obtain ⟨b, G, e, ha, q⟩ := h
  cases ha with
  | cons a1 ha =>
    cases ha
    rename_i x
    refine (b_asg (R := MP.ts K (("rows" : Str) :: b.val.rows.map rowT)) (c_line (line0 b) (c_var rfl a1) c_int) fun v G1 e1 p1 => ?_ : Cm (bd (t_rows_at K w c) [some x, none, none]) G (MP.d K (rowsD b.val))) H e Q q
    have hv : ∀ {G2 : Hp} {z : Option V}, Ex G1 G2 → Cm (tVar 1 [some x, some v, z]) G2 (MP.ts K (("rows" : Str) :: b.val.rows.map rowT)) := fun e2 => c_var rfl (Dp.up e2 _ _ p1)
    have hr : b.val.rows.length = 1 ∨ b.val.rows.length = 2 := b.property
    have hl9 : ((b.val.rows.map rowT).map PyData.str).length ≤ 90000 := by rw [List.length_map, List.length_map]; omega
    have hmem : ∀ {d : PyData}, d ∈ (b.val.rows.map rowT).map PyData.str → ∃ r, d = .str (rowT r) := fun h => by
      obtain ⟨s, hs, rfl⟩ := List.mem_map.mp h
      obtain ⟨r, _, rfl⟩ := List.mem_map.mp hs
      exact ⟨r, rfl⟩
    refine b_ifN (c_teq (c_tor (a := false) (b := false) (c_neSame (c_hd (hv (Ex.refl _))) c_str (by decide +kernel)) fun _ => c_teq (c_tor (a := false) (b := false) (c_teq (c_tnot (a := true) (c_test (c_to (c_chainI (g := fun i j => decide (i ≤ j)) (g' := fun i j => decide (i ≤ j)) c_int (c_lenL (hv (Ex.refl _))) (c_addI c_int c_int)) ?_))) rfl) fun _ => c_teq (c_tnot (a := true) (c_tB (c_to (c_allL inRows (c_tl (hv (Ex.refl _))) hl9 fun v2 d G2 e2 hd pd => ?_) ?_))) rfl) rfl) rfl) (b_ret ?_)
    · rw [List.length_map, List.length_cons, List.length_map]
      rcases hr with h | h <;> rw [h] <;> rfl
    · obtain ⟨r, rfl⟩ := hmem hd
      refine ct_name rfl c_yes fun _ => ?_
      obtain ⟨kvs, u, D, h1, _⟩ := X.rowAt r
      exact c_inW (c_var (P := MP.d K _) rfl pd) (c_c ⟨_, rfl, D⟩) (by rw [h1]; show true = inRows (.str (rowT r)); unfold inRows; simp only; rw [rowOf_T] <;> rfl)
    · refine congrArg PyData.bool (List.all_eq_true.mpr fun d hd => ?_)
      obtain ⟨r, rfl⟩ := hmem hd
      unfold inRows
      simp only
      rw [rowOf_T] <;> rfl
    · have e1 : b.val.rows.map rowD = (((b.val.rows.map rowT).map PyData.str).filter fun _ => true).map rowOf := by
        rw [filter_yes, List.map_map, List.map_map]
        refine List.map_congr_left fun r _ => ?_
        show _ = rowOf (.str (rowT r))
        unfold rowOf
        simp only
        rw [rowOf_T] <;> rfl
      show Cm _ G1 (MP.d K (.tuple (b.val.rows.map rowD)))
      rw [e1]
      refine c_tupL (l_d (c_lcL (c_tl (hv (Ex.refl _))) hl9 fun v2 d G2 e2 hd pd => ?_))
      obtain ⟨r, rfl⟩ := hmem hd
      refine ct_name rfl c_yes fun _ => ?_
      obtain ⟨kvs, u, D, h1, h2⟩ := X.rowAt r
      have e3 : rowOf (.str (rowT r)) = rowD r := by unfold rowOf; simp only; rw [rowOf_T] <;> rfl
      rw [e3]
      exact c_ixW (P := MP.d K (rowD r)) (c_c ⟨_, rfl, D⟩) (c_var (P := MP.d K _) rfl pd) h1 fun G' _ => h2 G'
/-! ### word_at -/
structure WdIn where
  b : BkO
  i : Nat
  q : Str × Str
  al : List Str
  at_ : b.val.rule.kvs[i]? = some q
  mem : q.2 ∈ al
  sh : SeqAt.shaped (.list (al.map PyData.str)) = true
abbrev sp_word_at (K : PySem.W.Frag) (w : World) (c : Ad) : Sp := spOf (ι := WdIn) (fun i => [MP.ts K (bkLines i.b.val), MP.d K (.int (i.i + 1 : Nat)), MP.d K (.str i.q.1), MP.d K (.tuple (i.al.map PyData.str))]) (fun i => MP.d K (.str i.q.2))
theorem len_word_at {vs : List V} {H : Hp} {Q : VK} {E : XK} (h : sp_word_at K w c vs H Q E) : vs.length = 4 := spOf_len (by intro i; rfl) vs H Q E h
def t_word_at (K : PySem.W.Frag) (w : World) (c : Ad) : TS :=
  (tSeq (tAsg (tCall (sp_line_at K w c) [] E0 (tCons (tVar 0) (tCons (tVar 1) tNil))) (gName 4))
    (tSeq (tIfS (tOr (tTest (tOp (rNeD K) (tCB (rLenG K) (tCons (tVar 4) tNil)) (tC (.int 2)))) (tOr (tTest (tOp (rNeD K) (tOp (rIx K) (tVar 4) (tC (.int 0))) (tVar 2))) (tTest (tOp (rInG K true) (tOp (rIx K) (tVar 4) (tC (.int 1))) (tVar 3))))) tNever tNext)
    (tRet (tOp (rIx K) (tVar 4) (tC (.int 1))))))
theorem any_mem {x : Str} : ∀ {al : List Str}, x ∈ al → (al.map PyData.str).any (fun z => PyData.eqv z (.str x)) = true
  | y :: al, h => by
    rw [List.map_cons, List.any_cons]
    rcases List.mem_cons.mp h with e | h
    · rw [← e, eqv_str, Bool.true_or]
    · rw [any_mem h, Bool.or_true]
theorem rd_word_at {vs : List V} {H : Hp} {Q : VK} {E : XK} (h : sp_word_at K w c vs H Q E) : t_word_at K w c (Dn Q) (vs.map some ++ List.replicate (5 - vs.length) none) H := by
  obtain ⟨⟨b, i, q1, al, hat, hm, sh⟩, G, e, ha, q⟩ := h
  cases ha with
  | cons a1 ha => cases ha with
    | cons a2 ha => cases ha with
      | cons a3 ha => cases ha with
        | cons a4 ha =>
          cases ha
          rename_i x0 x1 x2 x3
          refine (b_asg (R := MP.ts K [q1.1, q1.2]) (c_line (lineK b i q1 hat) (c_var rfl a1) (c_var rfl a2)) fun v G1 e1 p1 => ?_ : Cm (bd (t_word_at K w c) [some x0, some x1, some x2, some x3, none]) G (MP.d K (.str q1.2))) H e Q q
          have hv : Cm (tVar 4 [some x0, some x1, some x2, some x3, some v]) G1 (MP.ts K [q1.1, q1.2]) := c_var rfl p1
          have ok2 := okP_kv b.val.rule q1 (List.mem_of_getElem? hat)
          have s1 := okT.sh ((okP.and ok2).2.1 q1.1 (List.mem_cons_self ..))
          have s2 := okT.sh ((okP.and ok2).2.1 q1.2 (List.mem_cons_of_mem _ (List.mem_cons_self ..)))
          have h1 : Cm (tOp (rIx K) (tVar 4) (tC (.int 1)) [some x0, some x1, some x2, some x3, some v]) G1 (MP.d K (.str q1.2)) := c_ixL hv c_int rfl
          refine b_ifN (c_teq (c_tor (a := false) (b := false) (c_teq (c_test (c_ne (c_lenL hv) c_int rfl rfl)) rfl) fun _ => c_teq (c_tor (a := false) (b := false) (c_neSame (c_hd hv) (c_var rfl (Dp.up e1 _ _ a3)) s1) fun _ => c_teq (c_test (c_inT (n := true) h1 (c_var rfl (Dp.up e1 _ _ a4)) s2 sh)) ?_) rfl) rfl) (b_ret h1)
          rw [any_mem hm] <;> rfl
/-! ### words_at -/
abbrev sp_words_at (K : PySem.W.Frag) (w : World) (c : Ad) : Sp := spOf (ι := BkO) (fun b => [MP.ts K (bkLines b.val), MP.d K (.int 7)]) (fun b => MP.d K (wordsD b.val))
theorem len_words_at {vs : List V} {H : Hp} {Q : VK} {E : XK} (h : sp_words_at K w c vs H Q E) : vs.length = 2 := spOf_len (by intro i; rfl) vs H Q E h
def t_words_at (K : PySem.W.Frag) (w : World) (c : Ad) : TS :=
  (tSeq (tAsg (tCall (sp_line_at K w c) [] E0 (tCons (tVar 0) (tCons (tVar 1) tNil))) (gName 2))
    (tSeq (tIfS (tOr (tTest (tOp (rNeD K) (tOp (rIx K) (tVar 2) (tC (.int 0))) (tC (.str "words")))) (tTest (tOp (rNeD K) (tLc (iSeq K (tC (.ref c.WORDS))) (gName 3) (tTest (tOp (rInG K false) (tVar 3) (tSl (rSlG K) (tVar 2) (tPart (tC (.int 1))) tNoPart))) (tVar 3) [3]) (tSl (rSlG K) (tVar 2) (tPart (tC (.int 1))) tNoPart)))) tNever tNext)
    (tRet (tCB (rTupG K) (tCons (tSl (rSlG K) (tVar 2) (tPart (tC (.int 1))) tNoPart) tNil)))))
theorem rd_words_at (X : Ax K w c) {vs : List V} {H : Hp} {Q : VK} {E : XK} (h : sp_words_at K w c vs H Q E) : t_words_at K w c (Dn Q) (vs.map some ++ List.replicate (4 - vs.length) none) H := by
  obtain ⟨b, G, e, ha, q⟩ := h
  cases ha with
  | cons a1 ha => cases ha with
    | cons a2 ha =>
      cases ha
      rename_i x y
      refine (b_asg (R := MP.ts K (("words" : Str) :: b.val.words)) (c_line (line7 b) (c_var rfl a1) (c_var rfl a2)) fun v G1 e1 p1 => ?_ : Cm (bd (t_words_at K w c) [some x, some y, none, none]) G (MP.d K (wordsD b.val))) H e Q q
      have hv : ∀ {G2 : Hp} {z : Option V}, Ex G1 G2 → Cm (tVar 2 [some x, some y, some v, z]) G2 (MP.ts K (("words" : Str) :: b.val.words)) := fun e2 => c_var rfl (Dp.up e2 _ _ p1)
      refine b_ifN (c_teq (c_tor (a := false) (b := false) (c_neSame (c_hd (hv (Ex.refl _))) c_str (by decide +kernel)) fun _ => c_test (c_to (c_ne (l_d (c_lcT (K := K) (ds := [.str "join", .str "sweep"]) (t := fun d => (b.val.words.map PyData.str).any fun z => PyData.eqv z d) (F := fun d => d) (c_c (X.wds G1)) (by decide) fun v d G5 eG hm hw => ct_name rfl (c_test (c_to (c_inL (n := false) (c_var (P := MP.d K d) rfl hw) (c_tl (hv eG)) ?_ (words_shp b.val)) rfl)) fun _ => c_var (P := MP.d K d) rfl hw)) (c_tl (hv (Ex.refl _))) ?_ ?_) ?_)) rfl) (b_ret (c_tupL (c_tl (hv (Ex.refl _)))))
      · rcases List.mem_cons.mp hm with z | z
        · rw [z]; decide +kernel
        · rw [List.mem_singleton.mp z]; decide +kernel
      · exact words_all (M := fun l => SeqAt.shaped (.list (List.map (fun d => d) (List.filter (fun d => (l.map PyData.str).any fun z => PyData.eqv z d) [.str "join", .str "sweep"]))) = true) b.val (by decide +kernel) (by decide +kernel) (by decide +kernel) (by decide +kernel)
      · exact words_shp b.val
      · exact congrArg PyData.bool (words_all (M := fun l => (!PyData.eqv (.list (List.map (fun d => d) (List.filter (fun d => (l.map PyData.str).any fun z => PyData.eqv z d) [.str "join", .str "sweep"]))) (.list (l.map PyData.str))) = false) b.val (by decide +kernel) (by decide +kernel) (by decide +kernel) (by decide +kernel))
theorem take_put (r : Rule) {n : Nat} {q : Str × Str} (h : r.kvs[n]? = some q) : putS (r.kvs.take n) q.1 q.2 = r.kvs.take (n + 1) := by
  have hn := (List.getElem?_eq_some_iff.mp h).1
  have ok : okKvs (r.kvs.take n) := fun j z hz => by
    rw [List.getElem?_take] at hz
    split at hz
    · exact rule_word r j z hz
    · cases hz
  obtain ⟨p, hp, e1, e2⟩ := rule_word r n q h
  have hf := ok.fresh (i := n) (by rw [List.length_take]; omega) hp
  unfold putS
  rw [e1, hf, List.take_succ, h, ← e1] <;> rfl
theorem Nw.keep {H G G3 H3 : Hp} {p : Addr} {o : HO} (n : Nw H G G3 H3) (gp : G3 p = none) (hp : H p = none) (h3 : H3 p = some o) : Nw H G (upd G3 p o) H3 := by
  refine ⟨n.ex.trans (Ex.new gp), fun b u h => ?_, fun b hb hg => ?_⟩
  · by_cases hbp : b = p
    · subst hbp; rw [upd_same] at h; rw [h3, ← h]
    · rw [upd_ne hbp] at h; exact n.le b u h
  · rw [upd_ne (fun z => hb (by rw [z]; exact hp))]; exact n.old b hb hg
/-! ### read -/
abbrev sp_read (K : PySem.W.Frag) (w : World) (c : Ad) : Sp := spOf (ι := BkO) (fun b => [MP.d K (.str (bkText b.val))]) (fun b => MP.bk K c b.val)
theorem len_read {vs : List V} {H : Hp} {Q : VK} {E : XK} (h : sp_read K w c vs H Q E) : vs.length = 1 := spOf_len (by intro i; rfl) vs H Q E h
def t_read (K : PySem.W.Frag) (w : World) (c : Ad) : TS :=
  (tSeq (tPar3 1 2 3 (tCons (tM1 rSplit (tVar 0) (tC (.str "\n"))) (tCons tDNewK (tCons (tC (.int 1)) tNil))))
    (tSeq (tAsg (tCall (sp_rows_at K w c) [] E0 (tCons (tVar 1) tNil)) (gName 4))
    (tSeq (tFor (iItemsW K w (tC (.ref c.PARTS))) (gTup K 2 (gCons (gName 5) (gCons (gName 6) gNil)))
    (tSeq (sDPut (tVar 2) (tVar 5) (tCall (sp_word_at K w c) [] E0 (tCons (tVar 1) (tCons (tVar 3) (tCons (tVar 5) (tCons (tVar 6) tNil))))))
    (tAug 3 (tC (.int 1)) (ipI fun i j => i + j))))
    (tSeq (tAsg (tCall (sp_words_at K w c) [] E0 (tCons (tVar 1) (tCons (tVar 3) tNil))) (gName 7))
    (tSeq (tIfS (tTest (tOp rGtI (tCB (rLenG K) (tCons (tVar 1) tNil)) (tOp (rAddG K) (tVar 3) (tC (.int 1))))) tNever tNext)
    (tRet (tMake c.Book (sp_Book_init K w c) [] E0 (tCons (tVar 4) (tCons (tVar 2) (tCons (tVar 7) tNil))))))))))
theorem rd_read (X : Ax K w c) {vs : List V} {H : Hp} {Q : VK} {E : XK} (h : sp_read K w c vs H Q E) : t_read K w c (Dn Q) (vs.map some ++ List.replicate (8 - vs.length) none) H := by
  obtain ⟨b, G, e, ha, q⟩ := h
  cases ha with
  | cons a1 ha =>
    cases ha
    rename_i x
    obtain ⟨kvs, k1, D, k3⟩ := X.kd
    refine (c_split (K := K) (σ := [some x, none, none, none, none, none, none, none]) (a := bkText b.val) (b := "\n") (c_var rfl a1) c_str (by decide +kernel) (by have := text_len b.property; omega) : Cm _ G _) H e _ fun v1 G1 H1 e1 n1 p1 => ?_
    rw [split_text b.property] at p1
    obtain ⟨al, xl, rfl, hal, hxl⟩ := p1
    intro p hp
    refine ⟨_, _, _, rfl, ?_⟩
    have e2 := e1.trans (Ex.new (o := .dK []) hp)
    have n2 : Nw H G G1 (upd H1 p (.dK [])) := ⟨n1.ex, n1.le.trans (Ex.new hp), n1.old⟩
    have gp1 : G1 p = none := fresh_back n1.le hp
    have hp0 : H p = none := fresh_back e1 hp
    have hL : ∀ {G2 : Hp}, Ex G1 G2 → Dp K G2 (.ref al) (.list ((bkLines b.val).map PyData.str)) := fun e3 => .lst (SqL.of (e3 _ _ hal)) (DpAll.up e3 _ _ hxl)
    refine (c_call (args := fun b : BkO => [MP.ts K (bkLines b.val)]) (res := fun b => MP.d K (rowsD b.val)) b (c_cons (c_var rfl (hL (Ex.refl _))) c_nil)) _ n2.le _ fun v4 G3 H3 e3 n3 p3 => ?_
    have gp3 : G3 p = none := n3.old p (by rw [upd_same]; exact fun z => nomatch z) gp1
    refine ⟨_, kvs, rfl, D, for_itemsW (fun n σ' H' => (∃ x5 x6, σ' = [some x, some (.ref al), some (.ref p), some (.int (n + 1 : Nat)), some v4, x5, x6, none]) ∧ (∃ G', Nw H G G' H' ∧ Ex H H' ∧ Ex G3 G' ∧ G' p = none) ∧ H' p = some (.dK (kvD (b.val.rule.kvs.take n)))) ⟨⟨_, _, rfl⟩, ⟨G3, n2.trans e2 n3, e2.trans e3, Ex.refl _, gp3⟩, e3 _ _ upd_same⟩ ?_ ?_⟩
    · rintro n r T σ' H' hr ⟨⟨x5, x6, rfl⟩, ⟨G', n', e', x3, gp'⟩, hpd⟩ hT
      have hTp : T ≠ p := fun z => by rw [z, hpd] at hT; cases hT
      refine ⟨T, [.str r.1, r.2], rfl, SqT.of upd_same, rfl, _, _, rfl, _, _, rfl, rfl, ?_⟩
      have n4 := n'.trans e' (Nw.own (o := .tup [.str r.1, r.2]) n'.le hT)
      have e4 := e'.trans (Ex.new (o := .tup [.str r.1, r.2]) hT)
      obtain ⟨pt, hpt, er, hpr⟩ := k3 n r hr
      have hn6 : n < 6 := (List.getElem?_eq_some_iff.mp hpt).1
      obtain ⟨qq, hqq⟩ : ∃ qq, b.val.rule.kvs[n]? = some qq := ⟨_, List.getElem?_eq_getElem (by rw [rule_len]; exact hn6)⟩
      obtain ⟨pt', hpt', f1, f2⟩ := rule_word b.val.rule n qq hqq
      rw [hpt] at hpt'
      cases hpt'
      have i0 : WdIn := ⟨b, n, qq, pt.2, hqq, f2, parts_shaped pt (List.mem_of_getElem? hpt)⟩
      have er2 : r.1 = qq.1 := er.trans f1.symm
      refine (c_call (args := fun i : WdIn => [MP.ts K (bkLines i.b.val), MP.d K (.int (i.i + 1 : Nat)), MP.d K (.str i.q.1), MP.d K (.tuple (i.al.map PyData.str))]) (res := fun i => MP.d K (.str i.q.2)) ⟨b, n, qq, pt.2, hqq, f2, parts_shaped pt (List.mem_of_getElem? hpt)⟩
        (c_cons (c_var rfl (hL (n3.ex.trans x3))) (c_cons (c_var rfl (.int _)) (c_cons (c_var rfl (by rw [er2]; exact .str _)) (c_cons (c_var rfl (hpr G')) c_nil))))) _ n4.le _ fun u G5 H5 e5 n5 p5 => ?_
      have eu := dp_str p5
      subst eu
      have hp5 : H5 p = some (.dK (kvD (b.val.rule.kvs.take n))) := e5 _ _ (by rw [upd_ne (Ne.symm hTp)]; exact hpd)
      have gp5 : G5 p = none := n5.old p (by rw [upd_ne (Ne.symm hTp), hpd]; exact fun z => nomatch z) gp'
      have n6 := n4.trans e4 n5
      refine ⟨_, rfl, _, rfl, p, _, rfl, DPut.k (k := Sum.inr r.1) hp5 ?_, ?_⟩
      · unfold kvD
        rw [List.length_map, List.length_take]
        exact sz_lt (by omega)
      · refine ⟨_, rfl, _, _, rfl, rfl, ⟨some (.str r.1), some r.2, rfl⟩, ⟨G5, ⟨n6.ex, n6.le.mut gp5, n6.old⟩, Ex.mut (e4.trans e5) hp0, x3.trans n5.ex, gp5⟩, ?_⟩
        rw [upd_same, put_kv, er2]
        rw [take_put b.val.rule hqq]
    · rintro σ' H' ⟨⟨x5, x6, rfl⟩, ⟨G', n', e', x3, gp'⟩, hpd⟩
      have hk6 : kvs.length = 6 := by
        have := congrArg List.length k1
        rw [List.length_map, List.length_map] at this
        exact this
      rw [hk6] at hpd ⊢
      have n7 := Nw.keep n' gp' hp0 hpd
      have x7 : Ex G3 (upd G' p (.dK (kvD (b.val.rule.kvs.take 6)))) := x3.trans (Ex.new gp')
      generalize hG7 : upd G' p (.dK (kvD (b.val.rule.kvs.take 6))) = G7 at n7 x7
      have hp7 : G7 p = some (.dK (kvD b.val.rule.kvs)) := by rw [← hG7, upd_same] <;> rfl
      have key : Cm (bd (tSeq (tAsg (tCall (sp_words_at K w c) [] E0 (tCons (tVar 1) (tCons (tVar 3) tNil))) (gName 7)) (tSeq (tIfS (tTest (tOp rGtI (tCB (rLenG K) (tCons (tVar 1) tNil)) (tOp (rAddG K) (tVar 3) (tC (.int 1))))) tNever tNext)
          (tRet (tMake c.Book (sp_Book_init K w c) [] E0 (tCons (tVar 4) (tCons (tVar 2) (tCons (tVar 7) tNil))))))) [some x, some (.ref al), some (.ref p), some (.int ((6 + 1 : Nat) : Int)), some v4, x5, x6, none]) G7 (MP.bk K c b.val) := by
        refine b_asg (R := MP.d K (wordsD b.val)) (c_call (args := fun b : BkO => [MP.ts K (bkLines b.val), MP.d K (.int 7)]) (res := fun b => MP.d K (wordsD b.val)) b (c_cons (c_var rfl (hL (n3.ex.trans x7))) (c_cons (c_var rfl (.int 7)) c_nil))) fun v7 G8 e8 p8 => ?_
        have x8 : Ex G3 G8 := x7.trans e8
        refine b_ifN (c_test (c_to (c_I0 (z := .bool false) (c_lenL (c_var rfl (hL (n3.ex.trans x8)))) (c_addI (c_var rfl (.int 7)) c_int) fun G => ?_) rfl)) (b_ret (c_mkBook b.val b.property (c_var rfl (Dp.up x8 _ _ p3)) (c_var (P := MP.dk b.val.rule.kvs) rfl ⟨p, rfl, e8 _ _ hp7⟩) (c_var rfl p8)))
        exact .bl false
      exact key H' n7.le Q fun v G8 H8 e8 n8 p8 => q v G8 H8 (e'.trans e8) (n7.trans e' n8) p8
end
end Ah
/-! Ah20: the text that a law writes; the own == by its name; the law's end. -/
namespace Ah
open PySem PySem.Spec PyProof.Rows L2 Evl

theorem hu66 {A : Around} {k : Nat} (hr : Room k A) : A.units + 66 < cLine := by
  have h := hr.un
  omega
/-- the own == of a class -/
structure OwnQ (P : Program) (w : World) (K : PySem.W.Frag) (mg : Str → Option Value) (base : Heap) (k : Nat) (C : Addr) (sp : Sp) : Prop where
  ex : ∃ (f : Addr) (fd : FuncData) (ps : List Str), FnOk P w K mg base CX0 k f fd ps sp ∧ PySem.W.findIn K (.ref C) "__eq__" = some (some (.ref f)) ∧ PySem.W.isFn K (.ref f) = true ∧ PySem.W.notFirst K C (.type "list") = true ∧ Binds K fd ps []
theorem op_ownQ {X : Cx} {j k : Nat} {C : Addr} {sp : Sp} (c : OwnQ X.prog X.w X.K X.mg X.base k C sp) (hr : Room j X.A) (hk : k ≤ j) : OpR X (compareOp .Eq) (rEqO X.K C sp) := by
  obtain ⟨f, fd, ps, F, h1, h2, h3, b⟩ := c.ex
  exact op_own F (hr.mono hk) h1 h2 h3 b pass0
/-! ### texts that may be compared -/
theorem strok_app {x y : Str} (h1 : PyData.strOk x = true) (h2 : PyData.strOk y = true) : PyData.strOk (x ++ y) = true := by
  unfold PyData.strOk at *
  rw [Str.cps_append, Array.all_append, h1, h2] <;> rfl
theorem strok_join {y : Str} (hy : PyData.strOk y = true) : ∀ {l : List Str}, (∀ x ∈ l, PyData.strOk x = true) → PyData.strOk (Str.join y l) = true
  | [], _ => (by decide +kernel : PyData.strOk Str.empty = true)
  | [x], h => h x (List.mem_cons_self ..)
  | x :: z :: r, h => by
    show PyData.strOk (x ++ y ++ Str.join y (z :: r)) = true
    exact strok_app (strok_app (h x (List.mem_cons_self ..)) hy) (strok_join hy fun u hu => h u (List.mem_cons_of_mem _ hu))
theorem strok_shaped {s : Str} (h : PyData.strOk s = true) : SeqAt.shaped (.str s) = true := by
  show (PyData.strOk s && decide _) = true
  rw [h]; rfl
theorem shaped_strok {s : Str} (h : SeqAt.shaped (.str s) = true) : PyData.strOk s = true := (Bool.and_eq_true_iff.mp h).1
theorem line_strok {ps : List Str} (ok : okP ps = true) : PyData.strOk (lineT ps) = true := by
  unfold lineT
  rw [TL.join_eq]
  exact strok_join (by decide +kernel) fun x hx => shaped_strok (okT.and ((okP.and ok).2.1 x hx)).2.2
theorem text_shaped {b : Bk} (ok : b.ok) : SeqAt.shaped (.str (bkText b)) = true := by
  refine strok_shaped ?_
  unfold bkText
  rw [TL.join_eq]
  refine strok_join (by decide +kernel) fun x hx => ?_
  obtain ⟨ps, hps, rfl⟩ := List.mem_map.mp hx
  exact line_strok (okP_bk ok ps hps)
section
variable {K : PySem.W.Frag} {w : World} {c : Ad} {σ : L2.St} {G : Hp} {ta tb te td : TE} {b : Bk} {ds : List PyData}
theorem c_listTl (ha : Cm (ta σ) G (MP.d K (.tuple ds))) : Cm (tCB (rListG K) (tCons ta tNil) σ) G (MP.l K ds) :=
  c_cb1 ha fun x G1 e1 p => by
    obtain ⟨a, xs, rfl, h1, h2⟩ := dp_tup p
    exact c_newV (o := .lst xs) (fun H eh Q h => ⟨a, xs, rfl, .inr (ex_t eh h1), h⟩) fun p hp => ⟨p, xs, rfl, upd_same, DpAll.up (Ex.new hp) _ _ h2⟩
theorem lst1 {x : Str} : Cm (tLst (tCons (tC (.str x)) tNil) σ) G (MP.l K [.str x]) := c_lstl (c_dcons c_str c_dnil) (by show 1 ≤ 100000; decide)
/-- [' '.join(['rows'] + [..])] -/
theorem c_law0 {i j : Nat} {tl : TE} (ok : b.ok) (hl : Cm (tl σ) G (MP.d K (rowsD b))) (hw : ∀ x y, wipe (((wipe σ [i, j]).set i (some x)).set j (some y)) [i, j] = wipe σ [i, j]) (h1 : ∀ x y, (((wipe σ [i, j]).set i (some x)).set j (some y))[i]? = some (some x)) (h2 : ∀ x y, (((wipe σ [i, j]).set i (some x)).set j (some y))[j]? = some (some y)) :
    Cm (tLst (tCons (tM1 (rJoin K) (tC (.str " ")) (tOp (rAddG K) (tLst (tCons (tC (.str "rows")) tNil)) (tLc (iSeq K tl) (gTup K 2 (gCons (gName i) (gCons (gName j) gNil))) tYes (tOp (rAddG K) (tVar i) (tCB rStrI (tCons (tVar j) tNil))) [i, j]))) tNil) σ) G (MP.l K [.str (lineT (("rows" : Str) :: b.rows.map rowT))]) :=
  c_lstl (c_dcons (c_lineT (okP_row ok) (l_d (c_addL lst1 (c_rowsLl ok hl hw h1 h2) (by rw [List.length_map, List.length_map]; have := ok; unfold Bk.ok at this; show 1 + _ ≤ 100000; omega)))) c_dnil) (by show 1 ≤ 100000; decide)
def lineOf (r : Rule) : PyData → PyData
  | .list (.str k :: _) => .str (k ++ (" " : Str) ++ (r.kvs.lookup k).getD "")
  | _ => .none
theorem rule_lk (r : Rule) {q : Str × Str} (h : q ∈ r.kvs) : r.kvs.lookup q.1 = some q.2 := by
  obtain ⟨j, hj⟩ := List.getElem?_of_mem h
  exact rule_lookup r hj
theorem lines_of (r : Rule) : (partsL.map fun l => PyData.list (l.map PyData.str)).map (lineOf r) = (r.kvs.map fun q => lineT [q.1, q.2]).map PyData.str := by
  have e1 : (partsL.map fun l => PyData.list (l.map PyData.str)).map (lineOf r) = (r.kvs.map (·.1)).map fun k => PyData.str (k ++ (" " : Str) ++ (r.kvs.lookup k).getD "") := rfl
  rw [e1, List.map_map, List.map_map]
  refine List.map_congr_left fun q hq => ?_
  show PyData.str (q.1 ++ (" " : Str) ++ (r.kvs.lookup q.1).getD "") = PyData.str (lineT [q.1, q.2])
  rw [rule_lk r hq, ← line2] <;> rfl
/-- [part[0] + ' ' + rule[part[0]] for part in _law_parts()] -/
theorem c_law1 {i : Nat} (hr : ∀ {G1 : Hp} x, Ex G G1 → Cm (td ((wipe σ [i]).set i (some x))) G1 (MP.dk b.rule.kvs)) (hw : ∀ x, wipe ((wipe σ [i]).set i (some x)) [i] = wipe σ [i]) (h1 : ∀ x, ((wipe σ [i]).set i (some x))[i]? = some (some x)) :
    Cm (tLc (iSeq K (tCall (sp__law_parts K w c) [] E0 tNil)) (gName i) tYes (tOp (rAddG K) (tOp (rAddG K) (tOp (rIx K) (tVar i) (tC (.int 0))) (tC (.str " "))) (tDGet td (tOp (rIx K) (tVar i) (tC (.int 0))))) [i] σ) G (MP.l K ((b.rule.kvs.map fun q => lineT [q.1, q.2]).map PyData.str)) := by
  rw [← lines_of, ← filter_yes (partsL.map fun l => PyData.list (l.map PyData.str))]
  refine c_lcL (l_d (c_call (args := fun _ : Unit => []) (res := fun _ => MP.l K _) () c_nil)) (by show 6 ≤ 90000; decide) fun v d G1 e1 hd pd => ?_
  obtain ⟨n, hn⟩ := List.getElem?_of_mem hd
  obtain ⟨p, hp, rfl⟩ := parts_at hn
  obtain ⟨q, hq⟩ : ∃ q, b.rule.kvs[n]? = some q := ⟨_, List.getElem?_eq_getElem (by rw [rule_len]; exact (List.getElem?_eq_some_iff.mp hp).1)⟩
  obtain ⟨p', hp', f1, f2⟩ := rule_word b.rule n q hq
  rw [hp] at hp'
  cases hp'
  have hk : ∀ {G2 : Hp}, Ex G1 G2 → Cm (tOp (rIx K) (tVar i) (tC (.int 0)) ((wipe σ [i]).set i (some v))) G2 (MP.d K (.str p.1)) := fun e2 => c_ixL (c_var (h1 v) (Dp.up e2 _ _ pd)) c_int (atI_of (by decide) rfl rfl)
  have lk : b.rule.kvs.lookup p.1 = some q.2 := by rw [← f1]; exact rule_lk b.rule (List.mem_of_getElem? hq)
  have ok2 := okP_kv b.rule q (List.mem_of_getElem? hq)
  have l1 := (okT.and ((okP.and ok2).2.1 q.1 (List.mem_cons_self ..))).1
  have l2 := (okT.and ((okP.and ok2).2.1 q.2 (List.mem_cons_of_mem _ (List.mem_cons_self ..)))).1
  have l3 : (" " : Str).length = 1 := by decide +kernel
  rw [f1] at l1
  refine ct_name (hw v) c_yes fun _ => c_to (c_addS (c_addS (hk (Ex.refl _)) c_str (by omega)) (c_dget (hr v e1) (hk (Ex.refl _)) lk) (by rw [PySem.Str.length_append]; omega)) ?_
  show _ = PyData.str (p.1 ++ (" " : Str) ++ (b.rule.kvs.lookup p.1).getD "")
  rw [lk] <;> rfl
/-- the whole text -/
theorem c_law2 (ok : b.ok) (hl : Cm (ta σ) G (MP.l K (((lineT (("rows" : Str) :: b.rows.map rowT)) :: b.rule.kvs.map fun q => lineT [q.1, q.2]).map PyData.str))) (hw : Cm (td σ) G (MP.d K (wordsD b))) :
    Cm (tM1 (rJoin K) (tC (.str "\n")) (tOp (rAddG K) ta (tLst (tCons (tM1 (rJoin K) (tC (.str " ")) (tOp (rAddG K) (tLst (tCons (tC (.str "words")) tNil)) (tCB (rListG K) (tCons td tNil)))) tNil))) σ) G (MP.d K (.str (bkText b))) := by
  have hwl : (b.words.map PyData.str).length ≤ 2 := words_all (M := fun l => (l.map PyData.str).length ≤ 2) b (by decide) (by decide) (by decide) (by decide)
  refine c_text ok ?_
  have e : (bkLines b).map PyData.str = (((lineT (("rows" : Str) :: b.rows.map rowT)) :: b.rule.kvs.map fun q => lineT [q.1, q.2]).map PyData.str) ++ [.str (lineT (("words" : Str) :: b.words))] := rfl
  rw [e]
  exact l_d (c_addL hl (c_lstl (c_dcons (c_lineT (okP_words b) (l_d (c_addL lst1 (c_listTl hw) (by show 1 + _ ≤ 100000; omega)))) c_dnil) (by show 1 ≤ 100000; decide)) (by show 7 + 1 ≤ 100000; decide))
/-! ### a law: its promise, its source, its turns -/
def sp_law (K : PySem.W.Frag) (w : World) (c : Ad) : Sp := fun vs H Q _ => ∃ (a : Addr) (ns : List Int), vs = [.ref a] ∧ SqL K H a (ns.map V.int) ∧ ns.length ≤ 63 ∧ ∀ H', Q (.bl true) H'
theorem len_law {vs : List V} {H : Hp} {Q : VK} {E : XK} (h : sp_law K w c vs H Q E) : vs.length = 1 := by
  obtain ⟨a, ns, rfl, _⟩ := h
  rfl
theorem u_mix {a : Addr} {ns : List Int} {seed : Nat} {tr : TS} {D : Ends} {H : Hp} (h0 : σ[0]? = some (some (.ref a))) (hs : SqL K H a (ns.map V.int)) (hl : ns.length ≤ 63) (h2 : seed < 1000000)
    (k : ∀ h d H', Src H' h d → tr D (σ.set 1 (some (.ref h))) H') : tSeq (tAsg (tCall (sp__law_mix K w c) [] E0 (tCons (tVar 0) (tCons (tC (.int seed)) tNil))) (gName 1)) tr D σ H :=
  ⟨_, h0, a, ns, seed, rfl, hs, hl, by omega, by omega, fun h d H' _ _ _ S => k h d H' S⟩
theorem u_loop {h d : Addr} {n : Nat} {tb : TS} {D : Ends} {H : Hp} {j : Nat} (I : L2.St → Prop) (h0 : I σ) (S : Src H h d) (hn : n ≤ 1000000)
    (hb : ∀ (σ : L2.St) (v : V) (N : Ends), I σ → (∀ σ' H', I σ' → Src H' h d → N.nx σ' H') → St h d tb N (σ.set j (some v)) noH) (he : ∀ σ H, I σ → Src H h d → D.nx σ H) :
    tFor (iRng1 (tCons (tC (.int n)) tNil)) (gName j) tb D σ H := by
  refine ⟨n, rfl, by omega, by omega, ?_⟩
  refine for_range (lo := 0) (n := ((n : Nat) : Int).toNat) (fun _ σ H => I σ ∧ Src H h d) ⟨h0, S⟩ ?_ fun σ H p => he σ H p.1 p.2
  rintro i σ' H' _ ⟨p, S'⟩
  exact hb σ' _ { D with nx := fun σ H => I σ ∧ Src H h d, ct := fun σ H => I σ ∧ Src H h d, bk := D.nx } p (fun σ'' H'' q S'' => ⟨q, S''⟩) H' noH_ex S' rfl rfl
end
end Ah
/-! L14: the law k14, read. -/
namespace Ah
open PySem PySem.Spec PyProof.Rows L2 Evl
section
variable {K : PySem.W.Frag} {w : World} {c : Ad}
def t_law (K : PySem.W.Frag) (w : World) (c : Ad) : TS :=
  (tSeq (tAsg (tCall (sp__law_mix K w c) [] E0 (tCons (tVar 0) (tCons (tC (.int 14)) tNil))) (gName 1))
    (tSeq (tFor (iRng1 (tCons (tC (.int 12)) tNil)) (gName 2)
    (tSeq (tAsg (tCall (sp__law_draw K w c) [] E0 (tCons (tVar 1) tNil)) (gName 3))
    (tSeq (tAsg (tLst (tCons (tM1 (rJoin K) (tC (.str " ")) (tOp (rAddG K) (tLst (tCons (tC (.str "rows")) tNil)) (tLc (iSeq K (tOp (rIx K) (tVar 3) (tC (.int 0)))) (gTup K 2 (gCons (gName 6) (gCons (gName 7) gNil))) tYes (tOp (rAddG K) (tVar 6) (tCB rStrI (tCons (tVar 7) tNil))) [6, 7]))) tNil)) (gName 4))
    (tSeq (tAsg (tOp (rAddG K) (tVar 4) (tLc (iSeq K (tCall (sp__law_parts K w c) [] E0 tNil)) (gName 8) tYes (tOp (rAddG K) (tOp (rAddG K) (tOp (rIx K) (tVar 8) (tC (.int 0))) (tC (.str " "))) (tDGet (tOp (rIx K) (tVar 3) (tC (.int 1))) (tOp (rIx K) (tVar 8) (tC (.int 0))))) [8])) (gName 4))
    (tSeq (tAsg (tM1 (rJoin K) (tC (.str "\n")) (tOp (rAddG K) (tVar 4) (tLst (tCons (tM1 (rJoin K) (tC (.str " ")) (tOp (rAddG K) (tLst (tCons (tC (.str "words")) tNil)) (tCB (rListG K) (tCons (tOp (rIx K) (tVar 3) (tC (.int 2))) tNil)))) tNil)))) (gName 5))
    (tIfS (tOr (tTest (tOp (rNeD K) (tCall (sp_write K w c) [] E0 (tCons (tCall (sp__law_built K w c) [] E0 (tCons (tVar 3) tNil)) tNil)) (tVar 5))) (tOr (tNot (tTest (tOp (rEqO K c.Book (sp_Book_eq K w c)) (tCall (sp_read K w c) [] E0 (tCons (tVar 5) tNil)) (tCall (sp__law_built K w c) [] E0 (tCons (tVar 3) tNil))))) (tTest (tOp (rNeD K) (tCall (sp_write K w c) [] E0 (tCons (tCall (sp_read K w c) [] E0 (tCons (tVar 5) tNil)) tNil)) (tVar 5))))) (tRet (tC (.bl false))) tNext))))))
    (tRet (tC (.bl true)))))
variable {σ : L2.St} {G : Hp} {ta : TE} {b : BkO}
theorem c_built (h : Cm (ta σ) G (MP.rw K b.val)) : Cm (tCall (sp__law_built K w c) [] E0 (tCons ta tNil) σ) G (MP.bk K c b.val) := c_call (args := fun b : { b : Bk // b.ok } => [MP.rw K b.val]) (res := fun b => MP.bk K c b.val) b (c_cons h c_nil)
theorem c_write (h : Cm (ta σ) G (MP.bk K c b.val)) : Cm (tCall (sp_write K w c) [] E0 (tCons ta tNil) σ) G (MP.d K (.str (bkText b.val))) := c_call (args := fun b : BkO => [MP.bk K c b.val]) (res := fun b => MP.d K (.str (bkText b.val))) b (c_cons h c_nil)
theorem c_read (h : Cm (ta σ) G (MP.d K (.str (bkText b.val)))) : Cm (tCall (sp_read K w c) [] E0 (tCons ta tNil) σ) G (MP.bk K c b.val) := c_call (args := fun b : BkO => [MP.d K (.str (bkText b.val))]) (res := fun b => MP.bk K c b.val) b (c_cons h c_nil)
theorem rd_law {vs : List V} {H : Hp} {Q : VK} {E : XK} (h : sp_law K w c vs H Q E) : t_law K w c (Dn Q) (vs.map some ++ List.replicate (9 - vs.length) none) H := by
  obtain ⟨a, ns, rfl, hs, hl, k⟩ := h
  refine u_mix (seed := 14) rfl hs hl (by decide) fun h d H1 S => ?_
  refine u_loop (n := 12) (j := 2) (h := h) (d := d) (fun σ => ∃ x2 x3 x4 x5, σ = [some (.ref a), some (.ref h), x2, x3, x4, x5, none, none, none]) ⟨_, _, _, _, rfl⟩ S (by decide) ?_ fun σ H2 _ _ => k H2
  rintro σ v N ⟨x2, x3, x4, x5, rfl⟩ hN
  refine s_asg (i := 3) (d_draw rfl) fun vr G1 e1 ⟨⟨b, hb⟩, p1⟩ => ?_
  have ok := hb.1
  have hr : ∀ {G2 : Hp} {σ2 : L2.St}, Ex G1 G2 → σ2[3]? = some (some vr) → Cm (tVar 3 σ2) G2 (MP.rw K b) := fun e2 hσ => c_var hσ ((MP.rw K b).mono e2 p1)
  refine s_asg (i := 4) (.of (c_law0 ok (c_rw0 (hr (Ex.refl _) rfl)) (fun _ _ => rfl) (fun _ _ => rfl) (fun _ _ => rfl))) fun v4 G2 e2 p2 => ?_
  refine s_asg (i := 4) (.of (c_addL (c_var (P := MP.l K _) rfl p2) (c_law1 (fun x eG => c_rw1 (hr (e2.trans eG) rfl)) (fun _ => rfl) (fun _ => rfl)) (by show 1 + 6 ≤ 100000; decide))) fun v5 G3 e3 p3 => ?_
  have e13 := e2.trans e3
  refine s_asg (i := 5) (.of (c_law2 ok (c_var (P := MP.l K _) rfl p3) (c_rw2 (hr e13 rfl)))) fun v6 G4 e4 p4 => ?_
  have e14 := e13.trans e4
  have ht : Cm (tVar 5 [some (.ref a), some (.ref h), some v, some vr, some v5, some v6, none, none, none]) G4 (MP.d K (.str (bkText b))) := c_var rfl p4
  have hr4 : Cm (tVar 3 [some (.ref a), some (.ref h), some v, some vr, some v5, some v6, none, none, none]) G4 (MP.rw K b) := hr e14 rfl
  refine s_if (b := false) (.of (c_teq (c_tor (a := false) (b := false) (c_neSame (c_write (b := ⟨b, ok⟩) (c_built (b := ⟨b, ok⟩) hr4)) ht (text_shaped ok)) fun _ =>
    c_teq (c_tor (a := false) (b := false) (c_teq (c_tnot (a := true) (c_test (c_to (c_bkEq ok ok (c_read (b := ⟨b, ok⟩) ht) (c_built (b := ⟨b, ok⟩) hr4)) (congrArg PyData.bool (eqv_self ok))))) rfl) fun _ => c_neSame (c_write (b := ⟨b, ok⟩) (c_read (b := ⟨b, ok⟩) ht)) ht (text_shaped ok)) rfl) rfl)) (fun z => absurd z Bool.false_ne_true) fun _ => s_next fun H2 _ S2 => hN _ _ ⟨_, _, _, _, rfl⟩ S2
end
end Ah
namespace Ah
open PySem PySem.Spec PyProof.Rows L2 Evl
def top (i : Nat) : Stmt := PySem.Challenge.pw_aheadrows_k14_whole_texts.main.body.getD i (.Pass ⟨0, 0, 0, 0⟩)
structure Tx (K : PySem.W.Frag) (w : World) (mg : Str → Option Value) (c : Ad) : Prop where
  axt : Axt K w c
  g_Book : ∃ u, mg "Book" = some u ∧ RelV (.ref c.Book) u
  g_KEYS : ∃ u, mg "KEYS" = some u ∧ RelV (.ref c.KEYS) u
  g_MOST_ROWS : ∃ u, mg "MOST_ROWS" = some u ∧ RelV (.int 2) u
  g_PARTS : ∃ u, mg "PARTS" = some u ∧ RelV (.ref c.PARTS) u
  g_ROWS : ∃ u, mg "ROWS" = some u ∧ RelV (.ref c.ROWS) u
  g_WORDS : ∃ u, mg "WORDS" = some u ∧ RelV (.ref c.WORDS) u
  b_all : mg "all" = none
  b_bool : mg "bool" = none
  b_dict : mg "dict" = none
  b_int : mg "int" = none
  b_isinstance : mg "isinstance" = none
  b_len : mg "len" = none
  b_list : mg "list" = none
  b_max : mg "max" = none
  b_range : mg "range" = none
  b_str : mg "str" = none
  b_tuple : mg "tuple" = none
section
variable {P : Program} {w : World} {K : PySem.W.Frag} {mg : Str → Option Value} {base : Heap} {c : Ad}
abbrev s_is_integer : Stmt := top 12
abbrev is_integer_N : List Str := ["thing", "low", "high"]
theorem sc_is_integer : FnScope is_integer_N ["thing", "low", "high"] (defScope s_is_integer) := ⟨rfl, rfl, rfl, by decide +kernel, rfl, by decide +kernel, by decide +kernel⟩
theorem ok_is_integer {f : Addr} {fd : FuncData} (F : Fun K "is_integer" "is_integer" s_is_integer f fd) (T : Tx K w mg c) : FnOk P w K mg base CX0 1 f fd ["thing", "low", "high"] (sp_is_integer K w c) := by
  refine F.ok sc_is_integer (fun vs H Q E h => len_is_integer h) (fun cdv A outer s H vs Q E hr h => ⟨t_is_integer K w c, ?_, rd_is_integer h⟩)
  exact (pss_one (ps_ret (pe_and (pe_callB call_isiG rfl T.b_isinstance (by decide +kernel) (pa_cons (pv 0) (pa_cons (pe_bltn rfl T.b_int (by decide +kernel) rfl) pa_nil))) (pe_and (pe_not (pe_callB call_isiG rfl T.b_isinstance (by decide +kernel) (pa_cons (pv 0) (pa_cons (pe_bltn rfl T.b_bool (by decide +kernel) rfl) pa_nil)))) (pe_one (pe_chain op_le op_le (pv 1) (pv 0) (pv 2)))))))
abbrev s_is_word : Stmt := top 13
abbrev is_word_N : List Str := ["thing", "words"]
theorem sc_is_word : FnScope is_word_N ["thing", "words"] (defScope s_is_word) := ⟨rfl, rfl, rfl, by decide +kernel, rfl, by decide +kernel, by decide +kernel⟩
theorem ok_is_word {f : Addr} {fd : FuncData} (F : Fun K "is_word" "is_word" s_is_word f fd) (T : Tx K w mg c) : FnOk P w K mg base CX0 1 f fd ["thing", "words"] (sp_is_word K w c) := by
  refine F.ok sc_is_word (fun vs H Q E h => len_is_word h) (fun cdv A outer s H vs Q E hr h => ⟨t_is_word K w c, ?_, rd_is_word h⟩)
  exact (pss_one (ps_ret (pe_and (pe_callB call_isiG rfl T.b_isinstance (by decide +kernel) (pa_cons (pv 0) (pa_cons (pe_bltn rfl T.b_str (by decide +kernel) rfl) pa_nil))) (pe_one (pe_cmpR (op_inG (hu65 hr)) (pv 0) (pv 1) rfl)))))
abbrev s_is_edition : Stmt := top 14
abbrev is_edition_N : List Str := ["thing", "least"]
theorem sc_is_edition : FnScope is_edition_N ["thing", "least"] (defScope s_is_edition) := ⟨rfl, rfl, rfl, by decide +kernel, rfl, by decide +kernel, by decide +kernel⟩
theorem ok_is_edition {f : Addr} {fd : FuncData} (F : Fun K "is_edition" "is_edition" s_is_edition f fd) (T : Tx K w mg c) (C_is_word : Cal P w K mg base CX0 1 "is_word" (sp_is_word K w c)) (C_is_integer : Cal P w K mg base CX0 1 "is_integer" (sp_is_integer K w c)) : FnOk P w K mg base CX0 2 f fd ["thing", "least"] (sp_is_edition K w c) := by
  refine F.ok sc_is_edition (fun vs H Q E h => len_is_edition h) (fun cdv A outer s H vs Q E hr h => ⟨t_is_edition K w c, ?_, rd_is_edition T.axt.ax h⟩)
  exact (pss_one (ps_ret (pe_and (pe_callB call_isiG rfl T.b_isinstance (by decide +kernel) (pa_cons (pv 0) (pa_cons (pe_bltn rfl T.b_tuple (by decide +kernel) rfl) pa_nil))) (pe_and (pe_cmpR (op_eqD hr.units) (pe_callB call_lenG rfl T.b_len (by decide +kernel) (pa_cons (pv 0) pa_nil)) pe_int (nomark _)) (pe_and (pe_cal C_is_word hr (by decide) rfl (pa_cons (pe_ix ix_seq (pv 0) pe_int (fun _ _ => rfl)) (pa_cons (C8.pe_gc rfl T.g_KEYS) pa_nil))) (pe_one (pe_cal C_is_integer hr (by decide) rfl (pa_cons (pe_ix ix_seq (pv 0) pe_int (fun _ _ => rfl)) (pa_cons (pv 1) (pa_cons pe_int pa_nil))))))))))
abbrev s_check_rule : Stmt := top 15
abbrev check_rule_N : List Str := ["rule", "part", "words"]
theorem sc_check_rule : FnScope check_rule_N ["rule"] (defScope s_check_rule) := ⟨rfl, rfl, rfl, by decide +kernel, rfl, by decide +kernel, by decide +kernel⟩
theorem ok_check_rule {f : Addr} {fd : FuncData} (F : Fun K "check_rule" "check_rule" s_check_rule f fd) (T : Tx K w mg c) (C_is_word : Cal P w K mg base CX0 1 "is_word" (sp_is_word K w c)) : FnOk P w K mg base CX0 2 f fd ["rule"] (sp_check_rule K w c) := by
  refine F.ok sc_check_rule (fun vs H Q E h => len_check_rule h) (fun cdv A outer s H vs Q E hr h => ⟨t_check_rule K w c, ?_, rd_check_rule T.axt.ax h⟩)
  exact (pss_cons (ps_if (PW.pt (pw_or (pt_not (pt_val (pe_callB call_isiG rfl T.b_isinstance (by decide +kernel) (pa_cons (pv 0) (pa_cons (pe_bltn rfl T.b_dict (by decide +kernel) rfl) pa_nil))))) (pw_or (pt_cmpR (op_neD hr.units) (pe_callB call_lenK rfl T.b_len (by decide +kernel) (pa_cons (pv 0) pa_nil)) (pe_callB call_lenW rfl T.b_len (by decide +kernel) (pa_cons (C8.pe_gc rfl T.g_PARTS) pa_nil)) (nomark _)) (pw_or1 (pt_not (pt_val (pe_callB (cr_all rfl) rfl T.b_all (by decide +kernel) (pa_cons (pe_lock (pe_lc (own := [("part", 1)]) (g := (gName 1)) (tt := tYes) rfl sc_check_rule.nd (pi_keys (pv 0)) (blkOk_by (own := [("part", 1)]) (N := check_rule_N) (sc := defScope s_check_rule) (by decide +kernel)) (fun _ _ _ _ _ => (pg_name (i := 1) sc_check_rule.nd rfl (Or.inl rfl))) (fun _ _ _ _ _ => pts_nil) (fun _ _ _ _ _ => (pe_cal C_is_word hr (by decide) rfl (pa_cons (pv 1) (pa_cons (pe_callTy (call_listW rfl) rfl T.b_list (by decide +kernel) (pa_cons (C8.pe_gc rfl T.g_PARTS) pa_nil)) pa_nil)))))) pa_nil)))))))) (pss_one ps_never) pss_nil)
      (pss_one (ps_for PassesOwn.never rfl (pi_itemsW (C8.pe_gc rfl T.g_PARTS)) (pg_tup rfl (pgs_cons (pg_name (i := 1) sc_check_rule.nd rfl (Or.inl rfl)) (pgs_cons (pg_name (i := 2) sc_check_rule.nd rfl (Or.inl rfl)) pgs_nil)))
      (pss_one (ps_if (pt_not (pt_val (pe_cal C_is_word hr (by decide) rfl (pa_cons (pe_dget (hu_of hr) (pv 0) (pv 1) (fun _ _ => rfl)) (pa_cons (pv 2) pa_nil))))) (pss_one ps_never) pss_nil)))))
abbrev s_Book_init : Stmt := inClass (top 16) 0
abbrev Book_init_N : List Str := ["self", "rows", "rule", "words", "row", "word", "part"]
theorem sc_Book_init : FnScope Book_init_N ["self", "rows", "rule", "words"] (defScope s_Book_init) := ⟨rfl, rfl, rfl, by decide +kernel, rfl, by decide +kernel, by decide +kernel⟩
theorem ok_Book_init {f : Addr} {fd : FuncData} (F : Fun K "__init__" "Book.__init__" s_Book_init f fd) (T : Tx K w mg c) (C_is_edition : Cal P w K mg base CX0 2 "is_edition" (sp_is_edition K w c)) (C_check_rule : Cal P w K mg base CX0 2 "check_rule" (sp_check_rule K w c)) (C_is_word : Cal P w K mg base CX0 1 "is_word" (sp_is_word K w c)) : FnOk P w K mg base CX0 3 f fd ["self", "rows", "rule", "words"] (sp_Book_init K w c) := by
  refine F.ok sc_Book_init (fun vs H Q E h => len_Book_init h) (fun cdv A outer s H vs Q E hr h => ⟨t_Book_init K w c, ?_, rd_Book_init T.axt.ax h⟩)
  exact (pss_cons (ps_if (PW.pt (pw_or (pt_not (pt_val (pe_callB call_isiG rfl T.b_isinstance (by decide +kernel) (pa_cons (pv 1) (pa_cons (pe_bltn rfl T.b_tuple (by decide +kernel) rfl) pa_nil))))) (pw_or1 (pt_not (pt_chain op_le op_le pe_int (pe_callB call_lenG rfl T.b_len (by decide +kernel) (pa_cons (pv 1) pa_nil)) (C8.pe_gc rfl T.g_MOST_ROWS)))))) (pss_one ps_never) pss_nil)
      (pss_cons (ps_if (pt_not (pt_val (pe_callB (cr_all rfl) rfl T.b_all (by decide +kernel) (pa_cons (pe_lc (own := [("row", 4)]) (g := (gName 4)) (tt := tYes) rfl sc_Book_init.nd (pi_seq (pv 1)) (blkOk_by (own := [("row", 4)]) (N := Book_init_N) (sc := defScope s_Book_init) (by decide +kernel)) (fun _ _ _ _ _ => (pg_name (i := 4) sc_Book_init.nd rfl (Or.inl rfl))) (fun _ _ _ _ _ => pts_nil) (fun _ _ _ _ _ => (pe_cal C_is_edition hr (by decide) rfl (pa_cons (pv 4) (pa_cons pe_int pa_nil))))) pa_nil)))) (pss_one ps_never) pss_nil)
      (pss_cons (ps_expr (pe_cal C_check_rule hr (by decide) rfl (pa_cons (pv 2) pa_nil)))
      (pss_cons (ps_if (PW.pt (pw_or (pt_not (pt_val (pe_callB call_isiG rfl T.b_isinstance (by decide +kernel) (pa_cons (pv 3) (pa_cons (pe_bltn rfl T.b_tuple (by decide +kernel) rfl) pa_nil))))) (pw_or1 (pt_not (pt_val (pe_callB (cr_all rfl) rfl T.b_all (by decide +kernel) (pa_cons (pe_lc (own := [("word", 5)]) (g := (gName 5)) (tt := tYes) rfl sc_Book_init.nd (pi_seq (pv 3)) (blkOk_by (own := [("word", 5)]) (N := Book_init_N) (sc := defScope s_Book_init) (by decide +kernel)) (fun _ _ _ _ _ => (pg_name (i := 5) sc_Book_init.nd rfl (Or.inl rfl))) (fun _ _ _ _ _ => pts_nil) (fun _ _ _ _ _ => (pe_cal C_is_word hr (by decide) rfl (pa_cons (pv 5) (pa_cons (C8.pe_gc rfl T.g_WORDS) pa_nil))))) pa_nil))))))) (pss_one ps_never) pss_nil)
      (pss_cons (ps_if (pt_cmpR (op_neD hr.units) (pe_lc (own := [("word", 5)]) (g := (gName 5)) (tt := (tTest (tOp (rInG K false) (tVar 5) (tVar 3)))) rfl sc_Book_init.nd (pi_seq (C8.pe_gc rfl T.g_WORDS)) (blkOk_by (own := [("word", 5)]) (N := Book_init_N) (sc := defScope s_Book_init) (by decide +kernel)) (fun _ _ _ _ _ => (pg_name (i := 5) sc_Book_init.nd rfl (Or.inl rfl))) (fun _ _ _ _ _ => (pts_one (pt_cmpR (op_inG (hu65 hr)) (pv 5) (pv 3) rfl))) (fun _ _ _ _ _ => (pv 5))) (pe_callTy call_listG rfl T.b_list (by decide +kernel) (pa_cons (pv 3) pa_nil)) (nomark _)) (pss_one ps_never) pss_nil)
      (pss_cons (ps_fld (pv 0) (pv 1) rfl)
      (pss_cons (ps_fld (pv 0) (pe_dc (own := [("part", 6)]) (g := (gName 6)) (tt := tYes) rfl sc_Book_init.nd (pi_keysW (C8.pe_gc rfl T.g_PARTS)) (blkOk_by (own := [("part", 6)]) (N := Book_init_N) (sc := defScope s_Book_init) (by decide +kernel)) (fun _ _ _ _ _ => (pg_name (i := 6) sc_Book_init.nd rfl (Or.inl rfl))) (fun _ _ _ _ _ => pts_nil) (fun _ _ _ _ _ => (pv 6)) (fun _ _ _ _ _ => (pe_dget (hu_of hr) (pv 2) (pv 6) (fun _ _ => rfl)))) rfl)
      (pss_one (ps_fld (pv 0) (pv 3) rfl)))))))))
abbrev s_Book_eq : Stmt := inClass (top 16) 5
abbrev Book_eq_N : List Str := ["self", "other"]
theorem sc_Book_eq : FnScope Book_eq_N ["self", "other"] (defScope s_Book_eq) := ⟨rfl, rfl, rfl, by decide +kernel, rfl, by decide +kernel, by decide +kernel⟩
theorem ok_Book_eq {f : Addr} {fd : FuncData} (F : Fun K "__eq__" "Book.__eq__" s_Book_eq f fd) (T : Tx K w mg c) : FnOk P w K mg base CX0 1 f fd ["self", "other"] (sp_Book_eq K w c) := by
  refine F.ok sc_Book_eq (fun vs H Q E h => len_Book_eq h) (fun cdv A outer s H vs Q E hr h => ⟨t_Book_eq K w c, ?_, rd_Book_eq T.axt h⟩)
  exact (pss_cons (ps_if (pt_not (pt_val (pe_callB call_isiG rfl T.b_isinstance (by decide +kernel) (pa_cons (pv 1) (pa_cons (C8.pe_gc rfl T.g_Book) pa_nil))))) (pss_one (ps_ret pe_bl)) pss_nil)
      (pss_one (ps_ret (pe_cmpR (op_eq3 (hu66 hr)) (pe_tup (pa_cons (pe_fld (pv 0) rfl) (pa_cons (pe_fld (pv 0) rfl) (pa_cons (pe_fld (pv 0) rfl) pa_nil)))) (pe_tup (pa_cons (pe_fld (pv 1) rfl) (pa_cons (pe_fld (pv 1) rfl) (pa_cons (pe_fld (pv 1) rfl) pa_nil)))) (nomark _)))))
abbrev s_write : Stmt := top 19
abbrev write_N : List Str := ["book", "lines", "key", "day", "part", "word"]
theorem sc_write : FnScope write_N ["book"] (defScope s_write) := ⟨rfl, rfl, rfl, by decide +kernel, rfl, by decide +kernel, by decide +kernel⟩
theorem ok_write {f : Addr} {fd : FuncData} (F : Fun K "write" "write" s_write f fd) (T : Tx K w mg c) : FnOk P w K mg base CX0 1 f fd ["book"] (sp_write K w c) := by
  refine F.ok sc_write (fun vs H Q E h => len_write h) (fun cdv A outer s H vs Q E hr h => ⟨t_write K w c, ?_, rd_write T.axt.ax h⟩)
  exact (pss_cons (ps_set (i := 1) sc_write.nd rfl (Or.inl rfl) (pe_lst (pa_cons (pe_join pe_str (pe_lst (pa_cons pe_str (StX.pa_star (pe_lc (own := [("key", 2), ("day", 3)]) (g := (gTup K 2 (gCons (gName 2) (gCons (gName 3) gNil)))) (tt := tYes) rfl sc_write.nd (pi_seq (pe_fld (pv 0) rfl)) (blkOk_by (own := [("key", 2), ("day", 3)]) (N := write_N) (sc := defScope s_write) (by decide +kernel)) (fun _ _ _ _ _ => (pg_tup rfl (pgs_cons (pg_name (i := 2) sc_write.nd rfl (Or.inl rfl)) (pgs_cons (pg_name (i := 3) sc_write.nd rfl (Or.inl rfl)) pgs_nil)))) (fun _ _ _ _ _ => pts_nil) (fun _ _ _ _ _ => (pe_op op_addG (pv 2) (pe_callTy call_strI rfl T.b_str (by decide +kernel) (pa_cons (pv 3) pa_nil))))) pa_nil)))) pa_nil)))
      (pss_cons (ps_expr (pe_bm PySem.F.plainAttrs_list PySem.F.slot_list_extend PySem.F.type_list_extend mt_extend (pv 1) (pa_cons (pe_lock (pe_lc (own := [("part", 4), ("word", 5)]) (g := (gTup K 2 (gCons (gName 4) (gCons (gName 5) gNil)))) (tt := tYes) rfl sc_write.nd (pi_items (pe_fld (pv 0) rfl)) (blkOk_by (own := [("part", 4), ("word", 5)]) (N := write_N) (sc := defScope s_write) (by decide +kernel)) (fun _ _ _ _ _ => (pg_tup rfl (pgs_cons (pg_name (i := 4) sc_write.nd rfl (Or.inl rfl)) (pgs_cons (pg_name (i := 5) sc_write.nd rfl (Or.inl rfl)) pgs_nil)))) (fun _ _ _ _ _ => pts_nil) (fun _ _ _ _ _ => (pe_op op_addG (pe_op op_addG (pv 4) pe_str) (pv 5))))) pa_nil)))
      (pss_one (ps_ret (pe_join pe_str (pe_lst (StX.pa_star (pv 1) (pa_cons (pe_join pe_str (pe_lst (pa_cons pe_str (StX.pa_star (pe_fld (pv 0) rfl) pa_nil)))) pa_nil))))))))
abbrev s_line_at : Stmt := top 20
abbrev line_at_N : List Str := ["lines", "index"]
theorem sc_line_at : FnScope line_at_N ["lines", "index"] (defScope s_line_at) := ⟨rfl, rfl, rfl, by decide +kernel, rfl, by decide +kernel, by decide +kernel⟩
theorem ok_line_at {f : Addr} {fd : FuncData} (F : Fun K "line_at" "line_at" s_line_at f fd) (T : Tx K w mg c) : FnOk P w K mg base CX0 1 f fd ["lines", "index"] (sp_line_at K w c) := by
  refine F.ok sc_line_at (fun vs H Q E h => len_line_at h) (fun cdv A outer s H vs Q E hr h => ⟨t_line_at K w c, ?_, rd_line_at h⟩)
  exact (pss_cons (ps_if (pt_cmpR op_ge (pv 1) (pe_callB call_lenG rfl T.b_len (by decide +kernel) (pa_cons (pv 0) pa_nil)) (nomark _)) (pss_one ps_never) pss_nil)
      (pss_one (ps_ret (pe_split (pe_ix ix_seq (pv 0) (pv 1) (fun _ _ => rfl)) pe_str))))
abbrev s_rows_at : Stmt := top 21
abbrev rows_at_N : List Str := ["lines", "words", "word"]
theorem sc_rows_at : FnScope rows_at_N ["lines"] (defScope s_rows_at) := ⟨rfl, rfl, rfl, by decide +kernel, rfl, by decide +kernel, by decide +kernel⟩
theorem ok_rows_at {f : Addr} {fd : FuncData} (F : Fun K "rows_at" "rows_at" s_rows_at f fd) (T : Tx K w mg c) (C_line_at : Cal P w K mg base CX0 1 "line_at" (sp_line_at K w c)) : FnOk P w K mg base CX0 2 f fd ["lines"] (sp_rows_at K w c) := by
  refine F.ok sc_rows_at (fun vs H Q E h => len_rows_at h) (fun cdv A outer s H vs Q E hr h => ⟨t_rows_at K w c, ?_, rd_rows_at T.axt h⟩)
  exact (pss_cons (ps_set (i := 1) sc_rows_at.nd rfl (Or.inl rfl) (pe_cal C_line_at hr (by decide) rfl (pa_cons (pv 0) (pa_cons pe_int pa_nil))))
      (pss_cons (ps_if (PW.pt (pw_or (pt_cmpR (op_neD hr.units) (pe_ix ix_seq (pv 1) pe_int (fun _ _ => rfl)) pe_str (nomark _)) (pw_or (pt_not (pt_chain op_le op_le pe_int (pe_callB call_lenG rfl T.b_len (by decide +kernel) (pa_cons (pv 1) pa_nil)) (pe_op op_addG (C8.pe_gc rfl T.g_MOST_ROWS) pe_int))) (pw_or1 (pt_not (pt_val (pe_callB (cr_all rfl) rfl T.b_all (by decide +kernel) (pa_cons (pe_lc (own := [("word", 2)]) (g := (gName 2)) (tt := tYes) rfl sc_rows_at.nd (pi_seq (pe_slice sl_G (pv 1) (po_some pe_int) po_none)) (blkOk_by (own := [("word", 2)]) (N := rows_at_N) (sc := defScope s_rows_at) (by decide +kernel)) (fun _ _ _ _ _ => (pg_name (i := 2) sc_rows_at.nd rfl (Or.inl rfl))) (fun _ _ _ _ _ => pts_nil) (fun _ _ _ _ _ => (pe_cmpR op_inW (pv 2) (C8.pe_gc rfl T.g_ROWS) rfl))) pa_nil)))))))) (pss_one ps_never) pss_nil)
      (pss_one (ps_ret (pe_callTy call_tupG rfl T.b_tuple (by decide +kernel) (pa_cons (pe_lc (own := [("word", 2)]) (g := (gName 2)) (tt := tYes) rfl sc_rows_at.nd (pi_seq (pe_slice sl_G (pv 1) (po_some pe_int) po_none)) (blkOk_by (own := [("word", 2)]) (N := rows_at_N) (sc := defScope s_rows_at) (by decide +kernel)) (fun _ _ _ _ _ => (pg_name (i := 2) sc_rows_at.nd rfl (Or.inl rfl))) (fun _ _ _ _ _ => pts_nil) (fun _ _ _ _ _ => (pe_ix ix_W (C8.pe_gc rfl T.g_ROWS) (pv 2) (fun _ _ => rfl)))) pa_nil))))))
abbrev s_word_at : Stmt := top 22
abbrev word_at_N : List Str := ["lines", "index", "part", "allowed", "words"]
theorem sc_word_at : FnScope word_at_N ["lines", "index", "part", "allowed"] (defScope s_word_at) := ⟨rfl, rfl, rfl, by decide +kernel, rfl, by decide +kernel, by decide +kernel⟩
theorem ok_word_at {f : Addr} {fd : FuncData} (F : Fun K "word_at" "word_at" s_word_at f fd) (T : Tx K w mg c) (C_line_at : Cal P w K mg base CX0 1 "line_at" (sp_line_at K w c)) : FnOk P w K mg base CX0 2 f fd ["lines", "index", "part", "allowed"] (sp_word_at K w c) := by
  refine F.ok sc_word_at (fun vs H Q E h => len_word_at h) (fun cdv A outer s H vs Q E hr h => ⟨t_word_at K w c, ?_, rd_word_at h⟩)
  exact (pss_cons (ps_set (i := 4) sc_word_at.nd rfl (Or.inl rfl) (pe_cal C_line_at hr (by decide) rfl (pa_cons (pv 0) (pa_cons (pv 1) pa_nil))))
      (pss_cons (ps_if (PW.pt (pw_or (pt_cmpR (op_neD hr.units) (pe_callB call_lenG rfl T.b_len (by decide +kernel) (pa_cons (pv 4) pa_nil)) pe_int (nomark _)) (pw_or (pt_cmpR (op_neD hr.units) (pe_ix ix_seq (pv 4) pe_int (fun _ _ => rfl)) (pv 2) (nomark _)) (pw_or1 (pt_cmpR (op_notInG (hu65 hr)) (pe_ix ix_seq (pv 4) pe_int (fun _ _ => rfl)) (pv 3) rfl))))) (pss_one ps_never) pss_nil)
      (pss_one (ps_ret (pe_ix ix_seq (pv 4) pe_int (fun _ _ => rfl))))))
abbrev s_words_at : Stmt := top 23
abbrev words_at_N : List Str := ["lines", "index", "words", "word"]
theorem sc_words_at : FnScope words_at_N ["lines", "index"] (defScope s_words_at) := ⟨rfl, rfl, rfl, by decide +kernel, rfl, by decide +kernel, by decide +kernel⟩
theorem ok_words_at {f : Addr} {fd : FuncData} (F : Fun K "words_at" "words_at" s_words_at f fd) (T : Tx K w mg c) (C_line_at : Cal P w K mg base CX0 1 "line_at" (sp_line_at K w c)) : FnOk P w K mg base CX0 2 f fd ["lines", "index"] (sp_words_at K w c) := by
  refine F.ok sc_words_at (fun vs H Q E h => len_words_at h) (fun cdv A outer s H vs Q E hr h => ⟨t_words_at K w c, ?_, rd_words_at T.axt.ax h⟩)
  exact (pss_cons (ps_set (i := 2) sc_words_at.nd rfl (Or.inr rfl) (pe_cal C_line_at hr (by decide) rfl (pa_cons (pv 0) (pa_cons (pv 1) pa_nil))))
      (pss_cons (ps_if (PW.pt (pw_or (pt_cmpR (op_neD hr.units) (pe_ix ix_seq (pv 2) pe_int (fun _ _ => rfl)) pe_str (nomark _)) (pw_or1 (pt_cmpR (op_neD hr.units) (pe_lc (own := [("word", 3)]) (g := (gName 3)) (tt := (tTest (tOp (rInG K false) (tVar 3) (tSl (rSlG K) (tVar 2) (tPart (tC (.int 1))) tNoPart)))) rfl sc_words_at.nd (pi_seq (C8.pe_gc rfl T.g_WORDS)) (blkOk_by (own := [("word", 3)]) (N := words_at_N) (sc := defScope s_words_at) (by decide +kernel)) (fun _ _ _ _ _ => (pg_name (i := 3) sc_words_at.nd rfl (Or.inl rfl))) (fun _ _ _ _ _ => (pts_one (pt_cmpR (op_inG (hu65 hr)) (pv 3) (pe_slice sl_G (pv 2) (po_some pe_int) po_none) rfl))) (fun _ _ _ _ _ => (pv 3))) (pe_slice sl_G (pv 2) (po_some pe_int) po_none) (nomark _))))) (pss_one ps_never) pss_nil)
      (pss_one (ps_ret (pe_callTy call_tupG rfl T.b_tuple (by decide +kernel) (pa_cons (pe_slice sl_G (pv 2) (po_some pe_int) po_none) pa_nil))))))
abbrev s_read : Stmt := top 24
abbrev read_N : List Str := ["text", "lines", "rule", "index", "rows", "part", "allowed", "words"]
theorem sc_read : FnScope read_N ["text"] (defScope s_read) := ⟨rfl, rfl, rfl, by decide +kernel, rfl, by decide +kernel, by decide +kernel⟩
theorem ok_read {f : Addr} {fd : FuncData} (F : Fun K "read" "read" s_read f fd) (T : Tx K w mg c) (C_rows_at : Cal P w K mg base CX0 2 "rows_at" (sp_rows_at K w c)) (C_word_at : Cal P w K mg base CX0 2 "word_at" (sp_word_at K w c)) (C_words_at : Cal P w K mg base CX0 2 "words_at" (sp_words_at K w c)) (C_Book_init : Mak P w K mg base CX0 3 "Book" c.Book (sp_Book_init K w c)) : FnOk P w K mg base CX0 5 f fd ["text"] (sp_read K w c) := by
  refine F.ok sc_read (fun vs H Q E h => len_read h) (fun cdv A outer s H vs Q E hr h => ⟨t_read K w c, ?_, rd_read T.axt.ax h⟩)
  exact (pss_cons (ps_par3 (i := 1) (j := 2) (l := 3) rfl sc_read.nd rfl rfl rfl (by decide) (by decide) (by decide) rfl rfl rfl (pa_cons (pe_split (pv 0) pe_str) (pa_cons pe_dnewK (pa_cons pe_int pa_nil))) rfl)
      (pss_cons (ps_set (i := 4) sc_read.nd rfl (Or.inl rfl) (pe_cal C_rows_at hr (by decide) rfl (pa_cons (pv 1) pa_nil)))
      (pss_cons (ps_for PassesOwn.never rfl (pi_itemsW (C8.pe_gc rfl T.g_PARTS)) (pg_tup rfl (pgs_cons (pg_name (i := 5) sc_read.nd rfl (Or.inl rfl)) (pgs_cons (pg_name (i := 6) sc_read.nd rfl (Or.inl rfl)) pgs_nil)))
      (pss_cons (ps_dput (hu_of hr) (pv 2) (pv 5) (pe_cal C_word_at hr (by decide) rfl (pa_cons (pv 1) (pa_cons (pv 3) (pa_cons (pv 5) (pa_cons (pv 6) pa_nil))))) rfl)
      (pss_one (ps_aug (i := 3) sc_read.nd rfl (.inl rfl) pe_int ip_add))))
      (pss_cons (ps_set (i := 7) sc_read.nd rfl (Or.inl rfl) (pe_cal C_words_at hr (by decide) rfl (pa_cons (pv 1) (pa_cons (pv 3) pa_nil))))
      (pss_cons (ps_if (pt_cmpR op_gt (pe_callB call_lenG rfl T.b_len (by decide +kernel) (pa_cons (pv 1) pa_nil)) (pe_op op_addG (pv 3) pe_int) (nomark _)) (pss_one ps_never) pss_nil)
      (pss_one (ps_ret (pe_mak C_Book_init hr (by decide) rfl (pa_cons (pv 4) (pa_cons (pv 2) (pa_cons (pv 7) pa_nil)))))))))))
abbrev s__law_mix : Stmt := top 26
abbrev _law_mix_N : List Str := ["_law_script", "_law_seed", "_law_state", "_law_cell"]
theorem sc__law_mix : FnScope _law_mix_N ["_law_script", "_law_seed"] (defScope s__law_mix) := ⟨rfl, rfl, rfl, by decide +kernel, rfl, by decide +kernel, by decide +kernel⟩
theorem ok__law_mix {f : Addr} {fd : FuncData} (F : Fun K "_law_mix" "_law_mix" s__law_mix f fd) (T : Tx K w mg c) : FnOk P w K mg base CX0 1 f fd ["_law_script", "_law_seed"] (sp__law_mix K w c) := by
  refine F.ok sc__law_mix (fun vs H Q E h => len__law_mix h) (fun cdv A outer s H vs Q E hr h => ⟨t__law_mix K w c, ?_, rd__law_mix h⟩)
  exact (pss_cons (ps_set (i := 2) sc__law_mix.nd rfl (Or.inl rfl) (pv 1))
      (pss_cons (ps_for PassesOwn.never rfl (pi_seq (pv 0)) (pg_name (i := 3) sc__law_mix.nd rfl (Or.inl rfl))
      (pss_one (ps_set (i := 2) sc__law_mix.nd rfl (Or.inl rfl) (pe_op op_modN (pe_callTy call_intG rfl T.b_int (by decide +kernel) (pa_cons (pe_op op_addG (pe_op op_addG (pe_op op_mul (pv 2) pe_int) (pe_op op_modN (pe_callTy call_intG rfl T.b_int (by decide +kernel) (pa_cons (pv 3) pa_nil)) pe_int)) pe_int) pa_nil)) pe_int))))
      (pss_one (ps_ret (pe_lst (pa_cons (pv 2) (pa_cons (pe_callTy call_listG rfl T.b_list (by decide +kernel) (pa_cons (pv 0) pa_nil)) (pa_cons pe_int pa_nil))))))))
abbrev s__law_next : Stmt := top 27
abbrev _law_next_N : List Str := ["_law_h", "_law_cap", "_law_cell"]
theorem sc__law_next : FnScope _law_next_N ["_law_h", "_law_cap"] (defScope s__law_next) := ⟨rfl, rfl, rfl, by decide +kernel, rfl, by decide +kernel, by decide +kernel⟩
theorem ok__law_next {f : Addr} {fd : FuncData} (F : Fun K "_law_next" "_law_next" s__law_next f fd) (T : Tx K w mg c) : FnOk P w K mg base CX0 1 f fd ["_law_h", "_law_cap"] (sp__law_next K w c) := by
  refine F.ok sc__law_next (fun vs H Q E h => len__law_next h) (fun cdv A outer s H vs Q E hr h => ⟨t__law_next K w c, ?_, rd__law_next h⟩)
  exact (pss_cons (ps_set (i := 2) sc__law_next.nd rfl (Or.inl rfl) (pe_ix ix_seq (pe_op op_addG (pe_ix ix_seq (pv 0) pe_int (fun _ _ => rfl)) (pe_lst (pa_cons pe_int pa_nil))) (pe_op op_modN (pe_callTy call_intG rfl T.b_int (by decide +kernel) (pa_cons (pe_ix ix_seq (pv 0) pe_int (fun _ _ => rfl)) pa_nil)) (pe_callB (call_max2G rfl) rfl T.b_max (by decide +kernel) (pa_cons pe_int (pa_cons (pe_callB call_lenG rfl T.b_len (by decide +kernel) (pa_cons (pe_ix ix_seq (pv 0) pe_int (fun _ _ => rfl)) pa_nil)) pa_nil)))) (fun _ _ => rfl)))
      (pss_cons (ps_if (pt_cmpR op_ge (pv 2) (pe_op op_pow pe_int pe_int) (nomark _)) (pss_cons (ps_asg (pe_op op_fdivN (pv 2) (pv 1)) (pg_sub (pe_ix ix_seq (pv 0) pe_int (fun _ _ => rfl)) (pe_op op_modN (pe_callTy call_intG rfl T.b_int (by decide +kernel) (pa_cons (pe_ix ix_seq (pv 0) pe_int (fun _ _ => rfl)) pa_nil)) (pe_callB call_lenG rfl T.b_len (by decide +kernel) (pa_cons (pe_ix ix_seq (pv 0) pe_int (fun _ _ => rfl)) pa_nil))) set_list))
      (pss_one (ps_ret (pe_op op_modN (pe_callTy call_intG rfl T.b_int (by decide +kernel) (pa_cons (pv 2) pa_nil)) (pv 1))))) pss_nil)
      (pss_cons (ps_asg (pe_op op_modN (pe_callTy call_intG rfl T.b_int (by decide +kernel) (pa_cons (pe_op op_addG (pe_op op_addG (pe_op op_mul (pe_ix ix_seq (pv 0) pe_int (fun _ _ => rfl)) pe_int) (pe_op op_mul (pv 2) pe_int)) pe_int) pa_nil)) pe_int) (pg_sub (pv 0) pe_int set_list))
      (pss_cons (ps_asg (pe_op op_addG (pe_ix ix_seq (pv 0) pe_int (fun _ _ => rfl)) pe_int) (pg_sub (pv 0) pe_int set_list))
      (pss_one (ps_ret (pe_op op_modN (pe_callTy call_intG rfl T.b_int (by decide +kernel) (pa_cons (pe_op op_fdivN (pe_ix ix_seq (pv 0) pe_int (fun _ _ => rfl)) pe_int) pa_nil)) (pv 1))))))))
abbrev s__law_pick : Stmt := top 28
abbrev _law_pick_N : List Str := ["_law_h", "_law_things"]
theorem sc__law_pick : FnScope _law_pick_N ["_law_h", "_law_things"] (defScope s__law_pick) := ⟨rfl, rfl, rfl, by decide +kernel, rfl, by decide +kernel, by decide +kernel⟩
theorem ok__law_pick {f : Addr} {fd : FuncData} (F : Fun K "_law_pick" "_law_pick" s__law_pick f fd) (T : Tx K w mg c) (C__law_next : Cal P w K mg base CX0 1 "_law_next" (sp__law_next K w c)) : FnOk P w K mg base CX0 2 f fd ["_law_h", "_law_things"] (sp__law_pick K w c) := by
  refine F.ok sc__law_pick (fun vs H Q E h => len__law_pick h) (fun cdv A outer s H vs Q E hr h => ⟨t__law_pick K w c, ?_, rd__law_pick h⟩)
  exact (pss_one (ps_ret (pe_ix ix_seq (pv 1) (pe_cal C__law_next hr (by decide) rfl (pa_cons (pv 0) (pa_cons (pe_callB call_lenG rfl T.b_len (by decide +kernel) (pa_cons (pv 1) pa_nil)) pa_nil))) (fun _ _ => rfl))))
abbrev s__law_parts : Stmt := top 29
abbrev _law_parts_N : List Str := ["_law_found"]
theorem sc__law_parts : FnScope _law_parts_N [] (defScope s__law_parts) := ⟨rfl, rfl, rfl, by decide +kernel, rfl, by decide +kernel, by decide +kernel⟩
theorem ok__law_parts {f : Addr} {fd : FuncData} (F : Fun K "_law_parts" "_law_parts" s__law_parts f fd) (T : Tx K w mg c) : FnOk P w K mg base CX0 1 f fd [] (sp__law_parts K w c) := by
  refine F.ok sc__law_parts (fun vs H Q E h => len__law_parts h) (fun cdv A outer s H vs Q E hr h => ⟨t__law_parts K w c, ?_, rd__law_parts h⟩)
  exact (pss_cons (ps_set (i := 0) sc__law_parts.nd rfl (Or.inl rfl) (pe_lst (pa_cons (pe_lst (pa_cons pe_str (pa_cons pe_str (pa_cons pe_str pa_nil)))) (pa_cons (pe_lst (pa_cons pe_str (pa_cons pe_str (pa_cons pe_str pa_nil)))) (pa_cons (pe_lst (pa_cons pe_str (pa_cons pe_str (pa_cons pe_str pa_nil)))) pa_nil)))))
      (pss_one (ps_ret (pe_op op_addG (pv 0) (pe_lst (pa_cons (pe_lst (pa_cons pe_str (pa_cons pe_str (pa_cons pe_str pa_nil)))) (pa_cons (pe_lst (pa_cons pe_str (pa_cons pe_str (pa_cons pe_str (pa_cons pe_str pa_nil))))) (pa_cons (pe_lst (pa_cons pe_str (pa_cons pe_str (pa_cons pe_str pa_nil)))) pa_nil))))))))
abbrev s__law_rule : Stmt := top 30
abbrev _law_rule_N : List Str := ["_law_h", "_law_rule_here", "_law_row"]
theorem sc__law_rule : FnScope _law_rule_N ["_law_h"] (defScope s__law_rule) := ⟨rfl, rfl, rfl, by decide +kernel, rfl, by decide +kernel, by decide +kernel⟩
theorem ok__law_rule {f : Addr} {fd : FuncData} (F : Fun K "_law_rule" "_law_rule" s__law_rule f fd) (T : Tx K w mg c) (C__law_parts : Cal P w K mg base CX0 1 "_law_parts" (sp__law_parts K w c)) (C__law_pick : Cal P w K mg base CX0 2 "_law_pick" (sp__law_pick K w c)) (C__law_next : Cal P w K mg base CX0 1 "_law_next" (sp__law_next K w c)) : FnOk P w K mg base CX0 3 f fd ["_law_h"] (sp__law_rule K w c) := by
  refine F.ok sc__law_rule (fun vs H Q E h => len__law_rule h) (fun cdv A outer s H vs Q E hr h => ⟨t__law_rule K w c, ?_, rd__law_rule h⟩)
  exact (pss_cons (ps_set (i := 1) sc__law_rule.nd rfl (Or.inl rfl) pe_dnewK)
      (pss_cons (ps_for PassesOwn.never rfl (pi_seq (pe_cal0 C__law_parts hr (by decide) rfl)) (pg_name (i := 2) sc__law_rule.nd rfl (Or.inl rfl))
      (pss_one (ps_dput (hu_of hr) (pv 1) (pe_ix ix_seq (pv 2) pe_int (fun _ _ => rfl)) (pe_cal C__law_pick hr (by decide) rfl (pa_cons (pv 0) (pa_cons (pe_slice sl_G (pv 2) (po_some pe_int) po_none) pa_nil))) rfl)))
      (pss_cons (ps_if (pt_cmpR (op_eqD hr.units) (pe_cal C__law_next hr (by decide) rfl (pa_cons (pv 0) (pa_cons pe_int pa_nil))) pe_int (nomark _)) (pss_one (ps_dput (hu_of hr) (pv 1) pe_str pe_str rfl)) pss_nil)
      (pss_one (ps_ret (pv 1))))))
abbrev s__law_with : Stmt := top 31
abbrev _law_with_N : List Str := ["_law_rule_here", "_law_part", "_law_word", "_law_found"]
theorem sc__law_with : FnScope _law_with_N ["_law_rule_here", "_law_part", "_law_word"] (defScope s__law_with) := ⟨rfl, rfl, rfl, by decide +kernel, rfl, by decide +kernel, by decide +kernel⟩
theorem ok__law_with {f : Addr} {fd : FuncData} (F : Fun K "_law_with" "_law_with" s__law_with f fd) (T : Tx K w mg c) : FnOk P w K mg base CX0 1 f fd ["_law_rule_here", "_law_part", "_law_word"] (sp__law_with K w c) := by
  refine F.ok sc__law_with (fun vs H Q E h => len__law_with h) (fun cdv A outer s H vs Q E hr h => ⟨t__law_with K w c, ?_, rd__law_with h⟩)
  exact (pss_cons (ps_set (i := 3) sc__law_with.nd rfl (Or.inl rfl) (pe_callTy call_dictK rfl T.b_dict (by decide +kernel) (pa_cons (pv 0) pa_nil)))
      (pss_cons (ps_dput (hu_of hr) (pv 3) (pv 1) (pv 2) rfl)
      (pss_one (ps_ret (pv 3)))))
abbrev s__law_draw : Stmt := top 32
abbrev _law_draw_N : List Str := ["_law_h", "_law_rows", "_law_rule_here", "_law_k"]
theorem sc__law_draw : FnScope _law_draw_N ["_law_h"] (defScope s__law_draw) := ⟨rfl, rfl, rfl, by decide +kernel, rfl, by decide +kernel, by decide +kernel⟩
theorem ok__law_draw {f : Addr} {fd : FuncData} (F : Fun K "_law_draw" "_law_draw" s__law_draw f fd) (T : Tx K w mg c) (C__law_next : Cal P w K mg base CX0 1 "_law_next" (sp__law_next K w c)) (C__law_pick : Cal P w K mg base CX0 2 "_law_pick" (sp__law_pick K w c)) (C__law_rule : Cal P w K mg base CX0 3 "_law_rule" (sp__law_rule K w c)) (C__law_with : Cal P w K mg base CX0 1 "_law_with" (sp__law_with K w c)) : FnOk P w K mg base CX0 4 f fd ["_law_h"] (sp__law_draw K w c) := by
  refine F.ok sc__law_draw (fun vs H Q E h => len__law_draw h) (fun cdv A outer s H vs Q E hr h => ⟨t__law_draw K w c, ?_, rd__law_draw h⟩)
  exact (pss_cons (ps_set (i := 1) sc__law_draw.nd rfl (Or.inl rfl) (pe_callTy call_tupG rfl T.b_tuple (by decide +kernel) (pa_cons (pe_lc (own := [("_law_k", 3)]) (g := (gName 3)) (tt := tYes) rfl sc__law_draw.nd (pi_range1 rfl T.b_range (pa_cons (pe_op op_addG pe_int (pe_cal C__law_next hr (by decide) rfl (pa_cons (pv 0) (pa_cons pe_int pa_nil)))) pa_nil)) (blkOk_by (own := [("_law_k", 3)]) (N := _law_draw_N) (sc := defScope s__law_draw) (by decide +kernel)) (fun _ _ _ _ _ => (pg_name (i := 3) sc__law_draw.nd rfl (Or.inl rfl))) (fun _ _ _ _ _ => pts_nil) (fun _ _ _ _ _ => (pe_tup (pa_cons (pe_cal C__law_pick hr (by decide) rfl (pa_cons (pv 0) (pa_cons (pe_lst (pa_cons pe_str (pa_cons pe_str pa_nil))) pa_nil))) (pa_cons (pe_op op_addG pe_int (pe_cal C__law_next hr (by decide) rfl (pa_cons (pv 0) (pa_cons pe_int pa_nil)))) pa_nil))))) pa_nil)))
      (pss_cons (ps_set (i := 2) sc__law_draw.nd rfl (Or.inl rfl) (pe_cal C__law_rule hr (by decide) rfl (pa_cons (pv 0) pa_nil)))
      (pss_cons (ps_if (pt_cmpR (op_eqD hr.units) (pe_callB call_lenG rfl T.b_len (by decide +kernel) (pa_cons (pv 1) pa_nil)) pe_int (nomark _)) (pss_one (ps_ret (pe_lst (pa_cons (pv 1) (pa_cons (pv 2) (pa_cons (pe_cal C__law_pick hr (by decide) rfl (pa_cons (pv 0) (pa_cons (pe_lst (pa_cons (pe_tup pa_nil) (pa_cons (pe_tup (pa_cons pe_str pa_nil)) (pa_cons (pe_tup (pa_cons pe_str pa_nil)) (pa_cons (pe_tup (pa_cons pe_str (pa_cons pe_str pa_nil))) (pa_cons (pe_tup (pa_cons pe_str (pa_cons pe_str pa_nil))) pa_nil)))))) pa_nil))) pa_nil)))))) pss_nil)
      (pss_one (ps_ret (pe_lst (pa_cons (pv 1) (pa_cons (pe_cal C__law_with hr (by decide) rfl (pa_cons (pv 2) (pa_cons pe_str (pa_cons pe_str pa_nil)))) (pa_cons (pe_cal C__law_pick hr (by decide) rfl (pa_cons (pv 0) (pa_cons (pe_lst (pa_cons (pe_tup pa_nil) (pa_cons (pe_tup (pa_cons pe_str pa_nil)) (pa_cons (pe_tup (pa_cons pe_str pa_nil)) pa_nil)))) pa_nil))) pa_nil)))))))))
abbrev s__law_built : Stmt := top 33
abbrev _law_built_N : List Str := ["_law_row"]
theorem sc__law_built : FnScope _law_built_N ["_law_row"] (defScope s__law_built) := ⟨rfl, rfl, rfl, by decide +kernel, rfl, by decide +kernel, by decide +kernel⟩
theorem ok__law_built {f : Addr} {fd : FuncData} (F : Fun K "_law_built" "_law_built" s__law_built f fd) (T : Tx K w mg c) (C_Book_init : Mak P w K mg base CX0 3 "Book" c.Book (sp_Book_init K w c)) : FnOk P w K mg base CX0 5 f fd ["_law_row"] (sp__law_built K w c) := by
  refine F.ok sc__law_built (fun vs H Q E h => len__law_built h) (fun cdv A outer s H vs Q E hr h => ⟨t__law_built K w c, ?_, rd__law_built h⟩)
  exact (pss_one (ps_ret (pe_mak C_Book_init hr (by decide) rfl (pa_cons (pe_ix ix_seq (pv 0) pe_int (fun _ _ => rfl)) (pa_cons (pe_ix ix_seq (pv 0) pe_int (fun _ _ => rfl)) (pa_cons (pe_ix ix_seq (pv 0) pe_int (fun _ _ => rfl)) pa_nil))))))
abbrev s_law : Stmt := top 34
abbrev law_N : List Str := ["_law_script", "_law_h", "_law_turn", "_law_row", "_law_lines", "_law_text", "_law_key", "_law_day", "_law_part"]
theorem sc_law : FnScope law_N ["_law_script"] (defScope s_law) := ⟨rfl, rfl, rfl, by decide +kernel, rfl, by decide +kernel, by decide +kernel⟩
theorem ok_law {f : Addr} {fd : FuncData} (F : Fun K "law" "law" s_law f fd) (T : Tx K w mg c) (C__law_mix : Cal P w K mg base CX0 1 "_law_mix" (sp__law_mix K w c)) (C__law_draw : Cal P w K mg base CX0 4 "_law_draw" (sp__law_draw K w c)) (C__law_parts : Cal P w K mg base CX0 1 "_law_parts" (sp__law_parts K w c)) (C_write : Cal P w K mg base CX0 1 "write" (sp_write K w c)) (C__law_built : Cal P w K mg base CX0 5 "_law_built" (sp__law_built K w c)) (C_read : Cal P w K mg base CX0 5 "read" (sp_read K w c)) (C_Book_eq : OwnQ P w K mg base 1 c.Book (sp_Book_eq K w c)) : FnOk P w K mg base CX0 6 f fd ["_law_script"] (sp_law K w c) := by
  refine F.ok sc_law (fun vs H Q E h => len_law h) (fun cdv A outer s H vs Q E hr h => ⟨t_law K w c, ?_, rd_law h⟩)
  exact (pss_cons (ps_set (i := 1) sc_law.nd rfl (Or.inl rfl) (pe_cal C__law_mix hr (by decide) rfl (pa_cons (pv 0) (pa_cons pe_int pa_nil))))
      (pss_cons (ps_for PassesOwn.never rfl (pi_range1 rfl T.b_range (pa_cons pe_int pa_nil)) (pg_name (i := 2) sc_law.nd rfl (Or.inl rfl))
      (pss_cons (ps_set (i := 3) sc_law.nd rfl (Or.inr rfl) (pe_cal C__law_draw hr (by decide) rfl (pa_cons (pv 1) pa_nil)))
      (pss_cons (ps_set (i := 4) sc_law.nd rfl (Or.inl rfl) (pe_lst (pa_cons (pe_join pe_str (pe_op op_addG (pe_lst (pa_cons pe_str pa_nil)) (pe_lc (own := [("_law_key", 6), ("_law_day", 7)]) (g := (gTup K 2 (gCons (gName 6) (gCons (gName 7) gNil)))) (tt := tYes) rfl sc_law.nd (pi_seq (pe_ix ix_seq (pv 3) pe_int (fun _ _ => rfl))) (blkOk_by (own := [("_law_key", 6), ("_law_day", 7)]) (N := law_N) (sc := defScope s_law) (by decide +kernel)) (fun _ _ _ _ _ => (pg_tup rfl (pgs_cons (pg_name (i := 6) sc_law.nd rfl (Or.inl rfl)) (pgs_cons (pg_name (i := 7) sc_law.nd rfl (Or.inl rfl)) pgs_nil)))) (fun _ _ _ _ _ => pts_nil) (fun _ _ _ _ _ => (pe_op op_addG (pv 6) (pe_callTy call_strI rfl T.b_str (by decide +kernel) (pa_cons (pv 7) pa_nil))))))) pa_nil)))
      (pss_cons (ps_set (i := 4) sc_law.nd rfl (Or.inl rfl) (pe_op op_addG (pv 4) (pe_lc (own := [("_law_part", 8)]) (g := (gName 8)) (tt := tYes) rfl sc_law.nd (pi_seq (pe_cal0 C__law_parts hr (by decide) rfl)) (blkOk_by (own := [("_law_part", 8)]) (N := law_N) (sc := defScope s_law) (by decide +kernel)) (fun _ _ _ _ _ => (pg_name (i := 8) sc_law.nd rfl (Or.inl rfl))) (fun _ _ _ _ _ => pts_nil) (fun _ _ _ _ _ => (pe_op op_addG (pe_op op_addG (pe_ix ix_seq (pv 8) pe_int (fun _ _ => rfl)) pe_str) (pe_dget (hu_of hr) (pe_ix ix_seq (pv 3) pe_int (fun _ _ => rfl)) (pe_ix ix_seq (pv 8) pe_int (fun _ _ => rfl)) (fun _ _ => rfl)))))))
      (pss_cons (ps_set (i := 5) sc_law.nd rfl (Or.inl rfl) (pe_join pe_str (pe_op op_addG (pv 4) (pe_lst (pa_cons (pe_join pe_str (pe_op op_addG (pe_lst (pa_cons pe_str pa_nil)) (pe_callTy call_listG rfl T.b_list (by decide +kernel) (pa_cons (pe_ix ix_seq (pv 3) pe_int (fun _ _ => rfl)) pa_nil)))) pa_nil)))))
      (pss_one (ps_if (PW.pt (pw_or (pt_cmpR (op_neD hr.units) (pe_cal C_write hr (by decide) rfl (pa_cons (pe_cal C__law_built hr (by decide) rfl (pa_cons (pv 3) pa_nil)) pa_nil)) (pv 5) (nomark _)) (pw_or (pt_not (pt_cmpR (op_ownQ C_Book_eq hr (by decide)) (pe_cal C_read hr (by decide) rfl (pa_cons (pv 5) pa_nil)) (pe_cal C__law_built hr (by decide) rfl (pa_cons (pv 3) pa_nil)) (nomark _))) (pw_or1 (pt_cmpR (op_neD hr.units) (pe_cal C_write hr (by decide) rfl (pa_cons (pe_cal C_read hr (by decide) rfl (pa_cons (pv 5) pa_nil)) pa_nil)) (pv 5) (nomark _)))))) (pss_one (ps_ret pe_bl)) pss_nil)))))))
      (pss_one (ps_ret pe_bl))))
end
end Ah
namespace Ah
open PySem PySem.Spec PyProof.Rows L2 Evl
def ad0 : Ad := ⟨0, 0, 0, 0, 0⟩
theorem vals_len {xs : List V} {its : Array Value} (h : Vals xs its.toList) : its.size = xs.length := by
  have e := Paired.length h
  rw [e]; simp
theorem tup_at {K : PySem.W.Frag} {G : Hp} {a : Addr} {od : Option Addr} {its : Array Value} {n : Nat} {sl : Array (Option Value)} {xs : List V} (l : K.lookup a = some ⟨.type "tuple", od, .seq its n, sl⟩) (v : Vals xs its.toList) (hx : xs.length ≤ 100 := by decide) : SqT K G a xs :=
  .inr ⟨_, its, n, l, rfl, rfl, by rw [vals_len v]; exact sz_of (by omega), v⟩
theorem kd_at {K : PySem.W.Frag} {w : World} {a : Addr} {es : Array DictEntry} {n : Nat} {kvs : List (Str × V)} (l : K.lookup a = some ⟨.type "dict", none, .dict es n, #[]⟩) (v : EnL w.params es.toList kvs) (lo : (a == sysModules) = false) (nd : (kvs.map (·.1)).Nodup) (hl : kvs.length ≤ 1000) : KD K w a kvs :=
  ⟨⟨es, n, l, v⟩, lo, nd, hl⟩
theorem all_mk {l : PySem.W.OpenLaw} {w : World} {K : PySem.W.Frag} {h : Heap} {mg : Str → Option Value} {fa : Addr}
    {f_is_integer : Addr} {od_is_integer an_is_integer : Option Addr} {sl_is_integer : Array (Option Value)} {oc_is_integer kV_is_integer dc_is_integer pm_is_integer cd_is_integer ct_is_integer : Value}
    {f_is_word : Addr} {od_is_word an_is_word : Option Addr} {sl_is_word : Array (Option Value)} {oc_is_word kV_is_word dc_is_word pm_is_word cd_is_word ct_is_word : Value}
    {f_is_edition : Addr} {od_is_edition an_is_edition : Option Addr} {sl_is_edition : Array (Option Value)} {oc_is_edition kV_is_edition dc_is_edition pm_is_edition cd_is_edition ct_is_edition : Value}
    {f_check_rule : Addr} {od_check_rule an_check_rule : Option Addr} {sl_check_rule : Array (Option Value)} {oc_check_rule kV_check_rule dc_check_rule pm_check_rule cd_check_rule ct_check_rule : Value}
    {f_Book_init : Addr} {od_Book_init an_Book_init : Option Addr} {sl_Book_init : Array (Option Value)} {oc_Book_init kV_Book_init dc_Book_init pm_Book_init cd_Book_init ct_Book_init : Value}
    {f_Book_eq : Addr} {od_Book_eq an_Book_eq : Option Addr} {sl_Book_eq : Array (Option Value)} {oc_Book_eq kV_Book_eq dc_Book_eq pm_Book_eq cd_Book_eq ct_Book_eq : Value}
    {f_write : Addr} {od_write an_write : Option Addr} {sl_write : Array (Option Value)} {oc_write kV_write dc_write pm_write cd_write ct_write : Value}
    {f_line_at : Addr} {od_line_at an_line_at : Option Addr} {sl_line_at : Array (Option Value)} {oc_line_at kV_line_at dc_line_at pm_line_at cd_line_at ct_line_at : Value}
    {f_rows_at : Addr} {od_rows_at an_rows_at : Option Addr} {sl_rows_at : Array (Option Value)} {oc_rows_at kV_rows_at dc_rows_at pm_rows_at cd_rows_at ct_rows_at : Value}
    {f_word_at : Addr} {od_word_at an_word_at : Option Addr} {sl_word_at : Array (Option Value)} {oc_word_at kV_word_at dc_word_at pm_word_at cd_word_at ct_word_at : Value}
    {f_words_at : Addr} {od_words_at an_words_at : Option Addr} {sl_words_at : Array (Option Value)} {oc_words_at kV_words_at dc_words_at pm_words_at cd_words_at ct_words_at : Value}
    {f_read : Addr} {od_read an_read : Option Addr} {sl_read : Array (Option Value)} {oc_read kV_read dc_read pm_read cd_read ct_read : Value}
    {f__law_mix : Addr} {od__law_mix an__law_mix : Option Addr} {sl__law_mix : Array (Option Value)} {oc__law_mix kV__law_mix dc__law_mix pm__law_mix cd__law_mix ct__law_mix : Value}
    {f__law_next : Addr} {od__law_next an__law_next : Option Addr} {sl__law_next : Array (Option Value)} {oc__law_next kV__law_next dc__law_next pm__law_next cd__law_next ct__law_next : Value}
    {f__law_pick : Addr} {od__law_pick an__law_pick : Option Addr} {sl__law_pick : Array (Option Value)} {oc__law_pick kV__law_pick dc__law_pick pm__law_pick cd__law_pick ct__law_pick : Value}
    {f__law_parts : Addr} {od__law_parts an__law_parts : Option Addr} {sl__law_parts : Array (Option Value)} {oc__law_parts kV__law_parts dc__law_parts pm__law_parts cd__law_parts ct__law_parts : Value}
    {f__law_rule : Addr} {od__law_rule an__law_rule : Option Addr} {sl__law_rule : Array (Option Value)} {oc__law_rule kV__law_rule dc__law_rule pm__law_rule cd__law_rule ct__law_rule : Value}
    {f__law_with : Addr} {od__law_with an__law_with : Option Addr} {sl__law_with : Array (Option Value)} {oc__law_with kV__law_with dc__law_with pm__law_with cd__law_with ct__law_with : Value}
    {f__law_draw : Addr} {od__law_draw an__law_draw : Option Addr} {sl__law_draw : Array (Option Value)} {oc__law_draw kV__law_draw dc__law_draw pm__law_draw cd__law_draw ct__law_draw : Value}
    {f__law_built : Addr} {od__law_built an__law_built : Option Addr} {sl__law_built : Array (Option Value)} {oc__law_built kV__law_built dc__law_built pm__law_built cd__law_built ct__law_built : Value}
    {f_law : Addr} {od_law an_law : Option Addr} {sl_law : Array (Option Value)} {oc_law kV_law dc_law pm_law cd_law ct_law : Value}
    {C_Book : Addr}
    {A_KEYS : Addr}
    {od_KEYS : Option Addr} {it_KEYS : Array Value} {n_KEYS : Nat} {sl_KEYS : Array (Option Value)}
    {A_WORDS : Addr}
    {od_WORDS : Option Addr} {it_WORDS : Array Value} {n_WORDS : Nat} {sl_WORDS : Array (Option Value)}
    {A_PARTS : Addr} {es_PARTS : Array DictEntry} {m_PARTS : Nat}
    {p_PARTS0 p_PARTS1 p_PARTS2 p_PARTS3 p_PARTS4 p_PARTS5 : Addr}
    {A_ROWS : Addr} {es_ROWS : Array DictEntry} {m_ROWS : Nat}
    {p_ROWS0 p_ROWS1 p_ROWS2 p_ROWS3 : Addr}
    {t_MOST_ROWS : Tok}
    {od_PARTS0 : Option Addr} {it_PARTS0 : Array Value} {n_PARTS0 : Nat} {sl_PARTS0 : Array (Option Value)}
    {od_PARTS1 : Option Addr} {it_PARTS1 : Array Value} {n_PARTS1 : Nat} {sl_PARTS1 : Array (Option Value)}
    {od_PARTS2 : Option Addr} {it_PARTS2 : Array Value} {n_PARTS2 : Nat} {sl_PARTS2 : Array (Option Value)}
    {od_PARTS3 : Option Addr} {it_PARTS3 : Array Value} {n_PARTS3 : Nat} {sl_PARTS3 : Array (Option Value)}
    {od_PARTS4 : Option Addr} {it_PARTS4 : Array Value} {n_PARTS4 : Nat} {sl_PARTS4 : Array (Option Value)}
    {od_PARTS5 : Option Addr} {it_PARTS5 : Array Value} {n_PARTS5 : Nat} {sl_PARTS5 : Array (Option Value)}
    {od_ROWS0 : Option Addr} {it_ROWS0 : Array Value} {n_ROWS0 : Nat} {sl_ROWS0 : Array (Option Value)}
    {od_ROWS1 : Option Addr} {it_ROWS1 : Array Value} {n_ROWS1 : Nat} {sl_ROWS1 : Array (Option Value)}
    {od_ROWS2 : Option Addr} {it_ROWS2 : Array Value} {n_ROWS2 : Nat} {sl_ROWS2 : Array (Option Value)}
    {od_ROWS3 : Option Addr} {it_ROWS3 : Array Value} {n_ROWS3 : Nat} {sl_ROWS3 : Array (Option Value)}
    (X : K.In h) (G : h.Ns mainGlobals mg) (hfa : mg "law" = some (.ref fa))
    (a_Book : PySem.W.nsIn K mainGlobals "Book" = some (some (.ref C_Book)))
    (a_is_integer : PySem.W.nsIn K mainGlobals "is_integer" = some (some (.ref f_is_integer)))
    (l_is_integer : K.lookup f_is_integer = some ⟨oc_is_integer, od_is_integer, .func (PySem.W.fnOf "is_integer" "is_integer" (defArgs s_is_integer) (defBody s_is_integer) (defScope s_is_integer) .none kV_is_integer dc_is_integer pm_is_integer an_is_integer cd_is_integer ct_is_integer), sl_is_integer⟩)
    (c_is_integer : PySem.W.codeIn K cd_is_integer "is_integer" = true)
    (k_is_integer : PySem.W.keepIn K (.ref f_is_integer) = true)
    (a_is_word : PySem.W.nsIn K mainGlobals "is_word" = some (some (.ref f_is_word)))
    (l_is_word : K.lookup f_is_word = some ⟨oc_is_word, od_is_word, .func (PySem.W.fnOf "is_word" "is_word" (defArgs s_is_word) (defBody s_is_word) (defScope s_is_word) .none kV_is_word dc_is_word pm_is_word an_is_word cd_is_word ct_is_word), sl_is_word⟩)
    (c_is_word : PySem.W.codeIn K cd_is_word "is_word" = true)
    (k_is_word : PySem.W.keepIn K (.ref f_is_word) = true)
    (a_is_edition : PySem.W.nsIn K mainGlobals "is_edition" = some (some (.ref f_is_edition)))
    (l_is_edition : K.lookup f_is_edition = some ⟨oc_is_edition, od_is_edition, .func (PySem.W.fnOf "is_edition" "is_edition" (defArgs s_is_edition) (defBody s_is_edition) (defScope s_is_edition) .none kV_is_edition dc_is_edition pm_is_edition an_is_edition cd_is_edition ct_is_edition), sl_is_edition⟩)
    (c_is_edition : PySem.W.codeIn K cd_is_edition "is_edition" = true)
    (k_is_edition : PySem.W.keepIn K (.ref f_is_edition) = true)
    (a_check_rule : PySem.W.nsIn K mainGlobals "check_rule" = some (some (.ref f_check_rule)))
    (l_check_rule : K.lookup f_check_rule = some ⟨oc_check_rule, od_check_rule, .func (PySem.W.fnOf "check_rule" "check_rule" (defArgs s_check_rule) (defBody s_check_rule) (defScope s_check_rule) .none kV_check_rule dc_check_rule pm_check_rule an_check_rule cd_check_rule ct_check_rule), sl_check_rule⟩)
    (c_check_rule : PySem.W.codeIn K cd_check_rule "check_rule" = true)
    (k_check_rule : PySem.W.keepIn K (.ref f_check_rule) = true)
    (a_Book_init : PySem.W.findIn K (.ref C_Book) "__init__" = some (some (.ref f_Book_init)))
    (i_Book_init : PySem.W.isFn K (.ref f_Book_init) = true)
    (l_Book_init : K.lookup f_Book_init = some ⟨oc_Book_init, od_Book_init, .func (PySem.W.fnOf "__init__" "Book.__init__" (defArgs s_Book_init) (defBody s_Book_init) (defScope s_Book_init) .none kV_Book_init dc_Book_init pm_Book_init an_Book_init cd_Book_init ct_Book_init), sl_Book_init⟩)
    (c_Book_init : PySem.W.codeIn K cd_Book_init "Book.__init__" = true)
    (k_Book_init : PySem.W.keepIn K (.ref f_Book_init) = true)
    (a_Book_eq : PySem.W.findIn K (.ref C_Book) "__eq__" = some (some (.ref f_Book_eq)))
    (i_Book_eq : PySem.W.isFn K (.ref f_Book_eq) = true)
    (nf_Book_eq : PySem.W.notFirst K C_Book (.type "list") = true)
    (l_Book_eq : K.lookup f_Book_eq = some ⟨oc_Book_eq, od_Book_eq, .func (PySem.W.fnOf "__eq__" "Book.__eq__" (defArgs s_Book_eq) (defBody s_Book_eq) (defScope s_Book_eq) .none kV_Book_eq dc_Book_eq pm_Book_eq an_Book_eq cd_Book_eq ct_Book_eq), sl_Book_eq⟩)
    (c_Book_eq : PySem.W.codeIn K cd_Book_eq "Book.__eq__" = true)
    (k_Book_eq : PySem.W.keepIn K (.ref f_Book_eq) = true)
    (a_write : PySem.W.nsIn K mainGlobals "write" = some (some (.ref f_write)))
    (l_write : K.lookup f_write = some ⟨oc_write, od_write, .func (PySem.W.fnOf "write" "write" (defArgs s_write) (defBody s_write) (defScope s_write) .none kV_write dc_write pm_write an_write cd_write ct_write), sl_write⟩)
    (c_write : PySem.W.codeIn K cd_write "write" = true)
    (k_write : PySem.W.keepIn K (.ref f_write) = true)
    (a_line_at : PySem.W.nsIn K mainGlobals "line_at" = some (some (.ref f_line_at)))
    (l_line_at : K.lookup f_line_at = some ⟨oc_line_at, od_line_at, .func (PySem.W.fnOf "line_at" "line_at" (defArgs s_line_at) (defBody s_line_at) (defScope s_line_at) .none kV_line_at dc_line_at pm_line_at an_line_at cd_line_at ct_line_at), sl_line_at⟩)
    (c_line_at : PySem.W.codeIn K cd_line_at "line_at" = true)
    (k_line_at : PySem.W.keepIn K (.ref f_line_at) = true)
    (a_rows_at : PySem.W.nsIn K mainGlobals "rows_at" = some (some (.ref f_rows_at)))
    (l_rows_at : K.lookup f_rows_at = some ⟨oc_rows_at, od_rows_at, .func (PySem.W.fnOf "rows_at" "rows_at" (defArgs s_rows_at) (defBody s_rows_at) (defScope s_rows_at) .none kV_rows_at dc_rows_at pm_rows_at an_rows_at cd_rows_at ct_rows_at), sl_rows_at⟩)
    (c_rows_at : PySem.W.codeIn K cd_rows_at "rows_at" = true)
    (k_rows_at : PySem.W.keepIn K (.ref f_rows_at) = true)
    (a_word_at : PySem.W.nsIn K mainGlobals "word_at" = some (some (.ref f_word_at)))
    (l_word_at : K.lookup f_word_at = some ⟨oc_word_at, od_word_at, .func (PySem.W.fnOf "word_at" "word_at" (defArgs s_word_at) (defBody s_word_at) (defScope s_word_at) .none kV_word_at dc_word_at pm_word_at an_word_at cd_word_at ct_word_at), sl_word_at⟩)
    (c_word_at : PySem.W.codeIn K cd_word_at "word_at" = true)
    (k_word_at : PySem.W.keepIn K (.ref f_word_at) = true)
    (a_words_at : PySem.W.nsIn K mainGlobals "words_at" = some (some (.ref f_words_at)))
    (l_words_at : K.lookup f_words_at = some ⟨oc_words_at, od_words_at, .func (PySem.W.fnOf "words_at" "words_at" (defArgs s_words_at) (defBody s_words_at) (defScope s_words_at) .none kV_words_at dc_words_at pm_words_at an_words_at cd_words_at ct_words_at), sl_words_at⟩)
    (c_words_at : PySem.W.codeIn K cd_words_at "words_at" = true)
    (k_words_at : PySem.W.keepIn K (.ref f_words_at) = true)
    (a_read : PySem.W.nsIn K mainGlobals "read" = some (some (.ref f_read)))
    (l_read : K.lookup f_read = some ⟨oc_read, od_read, .func (PySem.W.fnOf "read" "read" (defArgs s_read) (defBody s_read) (defScope s_read) .none kV_read dc_read pm_read an_read cd_read ct_read), sl_read⟩)
    (c_read : PySem.W.codeIn K cd_read "read" = true)
    (k_read : PySem.W.keepIn K (.ref f_read) = true)
    (a__law_mix : PySem.W.nsIn K mainGlobals "_law_mix" = some (some (.ref f__law_mix)))
    (l__law_mix : K.lookup f__law_mix = some ⟨oc__law_mix, od__law_mix, .func (PySem.W.fnOf "_law_mix" "_law_mix" (defArgs s__law_mix) (defBody s__law_mix) (defScope s__law_mix) .none kV__law_mix dc__law_mix pm__law_mix an__law_mix cd__law_mix ct__law_mix), sl__law_mix⟩)
    (c__law_mix : PySem.W.codeIn K cd__law_mix "_law_mix" = true)
    (k__law_mix : PySem.W.keepIn K (.ref f__law_mix) = true)
    (a__law_next : PySem.W.nsIn K mainGlobals "_law_next" = some (some (.ref f__law_next)))
    (l__law_next : K.lookup f__law_next = some ⟨oc__law_next, od__law_next, .func (PySem.W.fnOf "_law_next" "_law_next" (defArgs s__law_next) (defBody s__law_next) (defScope s__law_next) .none kV__law_next dc__law_next pm__law_next an__law_next cd__law_next ct__law_next), sl__law_next⟩)
    (c__law_next : PySem.W.codeIn K cd__law_next "_law_next" = true)
    (k__law_next : PySem.W.keepIn K (.ref f__law_next) = true)
    (a__law_pick : PySem.W.nsIn K mainGlobals "_law_pick" = some (some (.ref f__law_pick)))
    (l__law_pick : K.lookup f__law_pick = some ⟨oc__law_pick, od__law_pick, .func (PySem.W.fnOf "_law_pick" "_law_pick" (defArgs s__law_pick) (defBody s__law_pick) (defScope s__law_pick) .none kV__law_pick dc__law_pick pm__law_pick an__law_pick cd__law_pick ct__law_pick), sl__law_pick⟩)
    (c__law_pick : PySem.W.codeIn K cd__law_pick "_law_pick" = true)
    (k__law_pick : PySem.W.keepIn K (.ref f__law_pick) = true)
    (a__law_parts : PySem.W.nsIn K mainGlobals "_law_parts" = some (some (.ref f__law_parts)))
    (l__law_parts : K.lookup f__law_parts = some ⟨oc__law_parts, od__law_parts, .func (PySem.W.fnOf "_law_parts" "_law_parts" (defArgs s__law_parts) (defBody s__law_parts) (defScope s__law_parts) .none kV__law_parts dc__law_parts pm__law_parts an__law_parts cd__law_parts ct__law_parts), sl__law_parts⟩)
    (c__law_parts : PySem.W.codeIn K cd__law_parts "_law_parts" = true)
    (k__law_parts : PySem.W.keepIn K (.ref f__law_parts) = true)
    (a__law_rule : PySem.W.nsIn K mainGlobals "_law_rule" = some (some (.ref f__law_rule)))
    (l__law_rule : K.lookup f__law_rule = some ⟨oc__law_rule, od__law_rule, .func (PySem.W.fnOf "_law_rule" "_law_rule" (defArgs s__law_rule) (defBody s__law_rule) (defScope s__law_rule) .none kV__law_rule dc__law_rule pm__law_rule an__law_rule cd__law_rule ct__law_rule), sl__law_rule⟩)
    (c__law_rule : PySem.W.codeIn K cd__law_rule "_law_rule" = true)
    (k__law_rule : PySem.W.keepIn K (.ref f__law_rule) = true)
    (a__law_with : PySem.W.nsIn K mainGlobals "_law_with" = some (some (.ref f__law_with)))
    (l__law_with : K.lookup f__law_with = some ⟨oc__law_with, od__law_with, .func (PySem.W.fnOf "_law_with" "_law_with" (defArgs s__law_with) (defBody s__law_with) (defScope s__law_with) .none kV__law_with dc__law_with pm__law_with an__law_with cd__law_with ct__law_with), sl__law_with⟩)
    (c__law_with : PySem.W.codeIn K cd__law_with "_law_with" = true)
    (k__law_with : PySem.W.keepIn K (.ref f__law_with) = true)
    (a__law_draw : PySem.W.nsIn K mainGlobals "_law_draw" = some (some (.ref f__law_draw)))
    (l__law_draw : K.lookup f__law_draw = some ⟨oc__law_draw, od__law_draw, .func (PySem.W.fnOf "_law_draw" "_law_draw" (defArgs s__law_draw) (defBody s__law_draw) (defScope s__law_draw) .none kV__law_draw dc__law_draw pm__law_draw an__law_draw cd__law_draw ct__law_draw), sl__law_draw⟩)
    (c__law_draw : PySem.W.codeIn K cd__law_draw "_law_draw" = true)
    (k__law_draw : PySem.W.keepIn K (.ref f__law_draw) = true)
    (a__law_built : PySem.W.nsIn K mainGlobals "_law_built" = some (some (.ref f__law_built)))
    (l__law_built : K.lookup f__law_built = some ⟨oc__law_built, od__law_built, .func (PySem.W.fnOf "_law_built" "_law_built" (defArgs s__law_built) (defBody s__law_built) (defScope s__law_built) .none kV__law_built dc__law_built pm__law_built an__law_built cd__law_built ct__law_built), sl__law_built⟩)
    (c__law_built : PySem.W.codeIn K cd__law_built "_law_built" = true)
    (k__law_built : PySem.W.keepIn K (.ref f__law_built) = true)
    (a_law : PySem.W.nsIn K mainGlobals "law" = some (some (.ref f_law)))
    (l_law : K.lookup f_law = some ⟨oc_law, od_law, .func (PySem.W.fnOf "law" "law" (defArgs s_law) (defBody s_law) (defScope s_law) .none kV_law dc_law pm_law an_law cd_law ct_law), sl_law⟩)
    (c_law : PySem.W.codeIn K cd_law "law" = true)
    (k_law : PySem.W.keepIn K (.ref f_law) = true)
    (pg : PySem.W.plainGet K C_Book Str.empty = true)
    (hd : PySem.W.hasDictIn K C_Book = true)
    (po : PySem.W.plainOver K C_Book = true)
    (sa : PySem.W.findIn K (.ref C_Book) "__setattr__" = some (some (.builtin "object.__setattr__")))
    (mk : PySem.W.makesIn K C_Book = true)
    (kc : PySem.W.keepIn K (.ref C_Book) = true)
    (n_wanted : PySem.W.findIn K (.ref C_Book) "wanted" = some none)
    (n_terms : PySem.W.findIn K (.ref C_Book) "terms" = some none)
    (n_kinds : PySem.W.findIn K (.ref C_Book) "kinds" = some none)
    (ha : PySem.W.findIn K (.ref C_Book) "__class__" = some (some (.builtin "object.__class__")))
    (hn : PySem.W.specialIn K (.builtin "object.__class__") "__get__" = some (some (.builtin "getset_descriptor.__get__")))
    (htk : PySem.W.takesIn K (.builtin "object.__class__") = some true)
    (hm : PySem.W.mroIn K C_Book (.type "object") = some true)
    (a_KEYS : PySem.W.nsIn K mainGlobals "KEYS" = some (some (.ref A_KEYS)))
    (l_KEYS : K.lookup A_KEYS = some ⟨.type "tuple", od_KEYS, .seq it_KEYS n_KEYS, sl_KEYS⟩)
    (a_WORDS : PySem.W.nsIn K mainGlobals "WORDS" = some (some (.ref A_WORDS)))
    (l_WORDS : K.lookup A_WORDS = some ⟨.type "tuple", od_WORDS, .seq it_WORDS n_WORDS, sl_WORDS⟩)
    (a_PARTS : PySem.W.nsIn K mainGlobals "PARTS" = some (some (.ref A_PARTS)))
    (l_PARTS : K.lookup A_PARTS = some ⟨.type "dict", none, .dict es_PARTS m_PARTS, #[]⟩)
    (a_ROWS : PySem.W.nsIn K mainGlobals "ROWS" = some (some (.ref A_ROWS)))
    (l_ROWS : K.lookup A_ROWS = some ⟨.type "dict", none, .dict es_ROWS m_ROWS, #[]⟩)
    (a_MOST_ROWS : PySem.W.nsIn K mainGlobals "MOST_ROWS" = some (some (.int 2 t_MOST_ROWS)))
    (b_all : PySem.W.nsIn K mainGlobals "all" = some none)
    (b_bool : PySem.W.nsIn K mainGlobals "bool" = some none)
    (b_dict : PySem.W.nsIn K mainGlobals "dict" = some none)
    (b_int : PySem.W.nsIn K mainGlobals "int" = some none)
    (b_isinstance : PySem.W.nsIn K mainGlobals "isinstance" = some none)
    (b_len : PySem.W.nsIn K mainGlobals "len" = some none)
    (b_list : PySem.W.nsIn K mainGlobals "list" = some none)
    (b_max : PySem.W.nsIn K mainGlobals "max" = some none)
    (b_range : PySem.W.nsIn K mainGlobals "range" = some none)
    (b_str : PySem.W.nsIn K mainGlobals "str" = some none)
    (b_tuple : PySem.W.nsIn K mainGlobals "tuple" = some none)
    (v_KEYS : Vals [V.str "a", V.str "b"] it_KEYS.toList)
    (v_WORDS : Vals [V.str "join", V.str "sweep"] it_WORDS.toList)
    (lo_PARTS : (A_PARTS == sysModules) = false)
    (v_PARTS : EnL w.params es_PARTS.toList [("again", V.ref p_PARTS0), ("editions", V.ref p_PARTS1), ("fill", V.ref p_PARTS2), ("joined", V.ref p_PARTS3), ("missing", V.ref p_PARTS4), ("swept", V.ref p_PARTS5)])
    (lo_ROWS : (A_ROWS == sysModules) = false)
    (v_ROWS : EnL w.params es_ROWS.toList [("a1", V.ref p_ROWS0), ("a2", V.ref p_ROWS1), ("b1", V.ref p_ROWS2), ("b2", V.ref p_ROWS3)])
    (l_PARTS0 : K.lookup p_PARTS0 = some ⟨.type "tuple", od_PARTS0, .seq it_PARTS0 n_PARTS0, sl_PARTS0⟩)
    (l_PARTS1 : K.lookup p_PARTS1 = some ⟨.type "tuple", od_PARTS1, .seq it_PARTS1 n_PARTS1, sl_PARTS1⟩)
    (l_PARTS2 : K.lookup p_PARTS2 = some ⟨.type "tuple", od_PARTS2, .seq it_PARTS2 n_PARTS2, sl_PARTS2⟩)
    (l_PARTS3 : K.lookup p_PARTS3 = some ⟨.type "tuple", od_PARTS3, .seq it_PARTS3 n_PARTS3, sl_PARTS3⟩)
    (l_PARTS4 : K.lookup p_PARTS4 = some ⟨.type "tuple", od_PARTS4, .seq it_PARTS4 n_PARTS4, sl_PARTS4⟩)
    (l_PARTS5 : K.lookup p_PARTS5 = some ⟨.type "tuple", od_PARTS5, .seq it_PARTS5 n_PARTS5, sl_PARTS5⟩)
    (l_ROWS0 : K.lookup p_ROWS0 = some ⟨.type "tuple", od_ROWS0, .seq it_ROWS0 n_ROWS0, sl_ROWS0⟩)
    (l_ROWS1 : K.lookup p_ROWS1 = some ⟨.type "tuple", od_ROWS1, .seq it_ROWS1 n_ROWS1, sl_ROWS1⟩)
    (l_ROWS2 : K.lookup p_ROWS2 = some ⟨.type "tuple", od_ROWS2, .seq it_ROWS2 n_ROWS2, sl_ROWS2⟩)
    (l_ROWS3 : K.lookup p_ROWS3 = some ⟨.type "tuple", od_ROWS3, .seq it_ROWS3 n_ROWS3, sl_ROWS3⟩)
    (v_PARTS0 : Vals [V.str "skip", V.str "twice"] it_PARTS0.toList)
    (v_PARTS1 : Vals [V.str "moves", V.str "stays"] it_PARTS1.toList)
    (v_PARTS2 : Vals [V.str "beside", V.str "fills"] it_PARTS2.toList)
    (v_PARTS3 : Vals [V.str "moves", V.str "stays"] it_PARTS3.toList)
    (v_PARTS4 : Vals [V.str "none", V.str "place", V.str "waits"] it_PARTS4.toList)
    (v_PARTS5 : Vals [V.str "all", V.str "empty"] it_PARTS5.toList)
    (v_ROWS0 : Vals [V.str "a", V.int 1] it_ROWS0.toList)
    (v_ROWS1 : Vals [V.str "a", V.int 2] it_ROWS1.toList)
    (v_ROWS2 : Vals [V.str "b", V.int 1] it_ROWS2.toList)
    (v_ROWS3 : Vals [V.str "b", V.int 2] it_ROWS3.toList) :
    ∃ fd : FuncData, (∀ (s : Shared) (v : Value), BindsTo s fd ⟨[v], []⟩ [("_law_script", v)]) ∧ ∀ base : Heap, K.In base → base.Ns mainGlobals mg → FnOk l.prog w K mg base CX0 6 fa fd ["_law_script"] (sp_law K w ad0) := by
  have e := hfa.symm.trans (PySem.W.mg_of X G a_law)
  cases e
  have ax : Ax K w ⟨A_KEYS, A_PARTS, A_WORDS, A_ROWS, C_Book⟩ := by
    exact ⟨fun G => .tup (tup_at l_KEYS v_KEYS) (.cons (.str _) (.cons (.str _) .nil)), fun G => .tup (tup_at l_WORDS v_WORDS) (.cons (.str _) (.cons (.str _) .nil)), ⟨[V.ref p_PARTS0, V.ref p_PARTS1, V.ref p_PARTS2, V.ref p_PARTS3, V.ref p_PARTS4, V.ref p_PARTS5], kd_at l_PARTS v_PARTS lo_PARTS (by rw [List.map_fst_zip (by show 6 ≤ 6; decide)]; decide +kernel) (by show 6 ≤ 1000; decide), rfl, fun G => (.cons (.tup (tup_at l_PARTS0 v_PARTS0) (.cons (.str _) (.cons (.str _) .nil))) (.cons (.tup (tup_at l_PARTS1 v_PARTS1) (.cons (.str _) (.cons (.str _) .nil))) (.cons (.tup (tup_at l_PARTS2 v_PARTS2) (.cons (.str _) (.cons (.str _) .nil))) (.cons (.tup (tup_at l_PARTS3 v_PARTS3) (.cons (.str _) (.cons (.str _) .nil))) (.cons (.tup (tup_at l_PARTS4 v_PARTS4) (.cons (.str _) (.cons (.str _) (.cons (.str _) .nil)))) (.cons (.tup (tup_at l_PARTS5 v_PARTS5) (.cons (.str _) (.cons (.str _) .nil))) .nil))))))⟩, ⟨pg, hd, po, sa⟩, n_wanted, n_terms, n_kinds⟩
  have axt : Axt K w ⟨A_KEYS, A_PARTS, A_WORDS, A_ROWS, C_Book⟩ := ⟨ax, ⟨⟨pg, hd, po, sa⟩, ha, hn, htk, hm, if_pos (beq_self_eq_true _)⟩, ⟨[V.ref p_ROWS0, V.ref p_ROWS1, V.ref p_ROWS2, V.ref p_ROWS3], kd_at l_ROWS v_ROWS lo_ROWS (by rw [List.map_fst_zip (by show 4 ≤ 4; decide)]; decide +kernel) (by show 4 ≤ 1000; decide), rfl, fun G => (.cons (.tup (tup_at l_ROWS0 v_ROWS0) (.cons (.str _) (.cons (.int _) .nil))) (.cons (.tup (tup_at l_ROWS1 v_ROWS1) (.cons (.str _) (.cons (.int _) .nil))) (.cons (.tup (tup_at l_ROWS2 v_ROWS2) (.cons (.str _) (.cons (.int _) .nil))) (.cons (.tup (tup_at l_ROWS3 v_ROWS3) (.cons (.str _) (.cons (.int _) .nil))) .nil))))⟩⟩
  have T : Tx K w mg ⟨A_KEYS, A_PARTS, A_WORDS, A_ROWS, C_Book⟩ := ⟨axt, ⟨_, PySem.W.mg_of X G a_Book, rfl⟩, ⟨_, PySem.W.mg_of X G a_KEYS, rfl⟩, ⟨_, PySem.W.mg_of X G a_MOST_ROWS, _, rfl⟩, ⟨_, PySem.W.mg_of X G a_PARTS, rfl⟩, ⟨_, PySem.W.mg_of X G a_ROWS, rfl⟩, ⟨_, PySem.W.mg_of X G a_WORDS, rfl⟩, PySem.W.mg_none_of X G b_all, PySem.W.mg_none_of X G b_bool, PySem.W.mg_none_of X G b_dict, PySem.W.mg_none_of X G b_int, PySem.W.mg_none_of X G b_isinstance, PySem.W.mg_none_of X G b_len, PySem.W.mg_none_of X G b_list, PySem.W.mg_none_of X G b_max, PySem.W.mg_none_of X G b_range, PySem.W.mg_none_of X G b_str, PySem.W.mg_none_of X G b_tuple⟩
  have F_is_integer := fun_mk (st := s_is_integer) l_is_integer c_is_integer k_is_integer
  have B_is_integer := F_is_integer.binds (ps := ["thing", "low", "high"]) fun _ _ _ _ _ _ us hl => match us, hl with | [_, _, _], _ => rfl
  have F_is_word := fun_mk (st := s_is_word) l_is_word c_is_word k_is_word
  have B_is_word := F_is_word.binds (ps := ["thing", "words"]) fun _ _ _ _ _ _ us hl => match us, hl with | [_, _], _ => rfl
  have F_is_edition := fun_mk (st := s_is_edition) l_is_edition c_is_edition k_is_edition
  have B_is_edition := F_is_edition.binds (ps := ["thing", "least"]) fun _ _ _ _ _ _ us hl => match us, hl with | [_, _], _ => rfl
  have F_check_rule := fun_mk (st := s_check_rule) l_check_rule c_check_rule k_check_rule
  have B_check_rule := F_check_rule.binds (ps := ["rule"]) fun _ _ _ _ _ _ us hl => match us, hl with | [_], _ => rfl
  have F_Book_init := fun_mk (st := s_Book_init) l_Book_init c_Book_init k_Book_init
  have B_Book_init := F_Book_init.binds (ps := ["self", "rows", "rule", "words"]) fun _ _ _ _ _ _ us hl => match us, hl with | [_, _, _, _], _ => rfl
  have F_Book_eq := fun_mk (st := s_Book_eq) l_Book_eq c_Book_eq k_Book_eq
  have B_Book_eq := F_Book_eq.binds (ps := ["self", "other"]) fun _ _ _ _ _ _ us hl => match us, hl with | [_, _], _ => rfl
  have F_write := fun_mk (st := s_write) l_write c_write k_write
  have B_write := F_write.binds (ps := ["book"]) fun _ _ _ _ _ _ us hl => match us, hl with | [_], _ => rfl
  have F_line_at := fun_mk (st := s_line_at) l_line_at c_line_at k_line_at
  have B_line_at := F_line_at.binds (ps := ["lines", "index"]) fun _ _ _ _ _ _ us hl => match us, hl with | [_, _], _ => rfl
  have F_rows_at := fun_mk (st := s_rows_at) l_rows_at c_rows_at k_rows_at
  have B_rows_at := F_rows_at.binds (ps := ["lines"]) fun _ _ _ _ _ _ us hl => match us, hl with | [_], _ => rfl
  have F_word_at := fun_mk (st := s_word_at) l_word_at c_word_at k_word_at
  have B_word_at := F_word_at.binds (ps := ["lines", "index", "part", "allowed"]) fun _ _ _ _ _ _ us hl => match us, hl with | [_, _, _, _], _ => rfl
  have F_words_at := fun_mk (st := s_words_at) l_words_at c_words_at k_words_at
  have B_words_at := F_words_at.binds (ps := ["lines", "index"]) fun _ _ _ _ _ _ us hl => match us, hl with | [_, _], _ => rfl
  have F_read := fun_mk (st := s_read) l_read c_read k_read
  have B_read := F_read.binds (ps := ["text"]) fun _ _ _ _ _ _ us hl => match us, hl with | [_], _ => rfl
  have F__law_mix := fun_mk (st := s__law_mix) l__law_mix c__law_mix k__law_mix
  have B__law_mix := F__law_mix.binds (ps := ["_law_script", "_law_seed"]) fun _ _ _ _ _ _ us hl => match us, hl with | [_, _], _ => rfl
  have F__law_next := fun_mk (st := s__law_next) l__law_next c__law_next k__law_next
  have B__law_next := F__law_next.binds (ps := ["_law_h", "_law_cap"]) fun _ _ _ _ _ _ us hl => match us, hl with | [_, _], _ => rfl
  have F__law_pick := fun_mk (st := s__law_pick) l__law_pick c__law_pick k__law_pick
  have B__law_pick := F__law_pick.binds (ps := ["_law_h", "_law_things"]) fun _ _ _ _ _ _ us hl => match us, hl with | [_, _], _ => rfl
  have F__law_parts := fun_mk (st := s__law_parts) l__law_parts c__law_parts k__law_parts
  have B__law_parts := F__law_parts.binds (ps := []) fun _ _ _ _ _ _ us hl => match us, hl with | [], _ => rfl
  have F__law_rule := fun_mk (st := s__law_rule) l__law_rule c__law_rule k__law_rule
  have B__law_rule := F__law_rule.binds (ps := ["_law_h"]) fun _ _ _ _ _ _ us hl => match us, hl with | [_], _ => rfl
  have F__law_with := fun_mk (st := s__law_with) l__law_with c__law_with k__law_with
  have B__law_with := F__law_with.binds (ps := ["_law_rule_here", "_law_part", "_law_word"]) fun _ _ _ _ _ _ us hl => match us, hl with | [_, _, _], _ => rfl
  have F__law_draw := fun_mk (st := s__law_draw) l__law_draw c__law_draw k__law_draw
  have B__law_draw := F__law_draw.binds (ps := ["_law_h"]) fun _ _ _ _ _ _ us hl => match us, hl with | [_], _ => rfl
  have F__law_built := fun_mk (st := s__law_built) l__law_built c__law_built k__law_built
  have B__law_built := F__law_built.binds (ps := ["_law_row"]) fun _ _ _ _ _ _ us hl => match us, hl with | [_], _ => rfl
  have F_law := fun_mk (st := s_law) l_law c_law k_law
  have B_law := F_law.binds (ps := ["_law_script"]) fun _ _ _ _ _ _ us hl => match us, hl with | [_], _ => rfl
  refine ⟨PySem.W.fnOf "law" "law" (defArgs s_law) (defBody s_law) (defScope s_law) .none kV_law dc_law pm_law an_law cd_law ct_law, fun s v => .of_eq rfl, fun base _ _ => ?_⟩
  have C_is_integer := Cal.mk ⟨_, _, _, ok_is_integer (P := l.prog) (base := base) F_is_integer T, PySem.W.mg_of X G a_is_integer, k_is_integer, B_is_integer⟩
  have C_is_word := Cal.mk ⟨_, _, _, ok_is_word (P := l.prog) (base := base) F_is_word T, PySem.W.mg_of X G a_is_word, k_is_word, B_is_word⟩
  have C_is_edition := Cal.mk ⟨_, _, _, ok_is_edition (P := l.prog) (base := base) F_is_edition T C_is_word C_is_integer, PySem.W.mg_of X G a_is_edition, k_is_edition, B_is_edition⟩
  have C_check_rule := Cal.mk ⟨_, _, _, ok_check_rule (P := l.prog) (base := base) F_check_rule T C_is_word, PySem.W.mg_of X G a_check_rule, k_check_rule, B_check_rule⟩
  have C_Book_init := Mak.mk ⟨_, _, _, ⟨mk, a_Book_init, i_Book_init, kc⟩, ok_Book_init (P := l.prog) (base := base) F_Book_init T C_is_edition C_check_rule C_is_word, PySem.W.mg_of X G a_Book, B_Book_init⟩
  have C_Book_eq := OwnQ.mk ⟨_, _, _, ok_Book_eq (P := l.prog) (base := base) F_Book_eq T, a_Book_eq, i_Book_eq, nf_Book_eq, B_Book_eq⟩
  have C_write := Cal.mk ⟨_, _, _, ok_write (P := l.prog) (base := base) F_write T, PySem.W.mg_of X G a_write, k_write, B_write⟩
  have C_line_at := Cal.mk ⟨_, _, _, ok_line_at (P := l.prog) (base := base) F_line_at T, PySem.W.mg_of X G a_line_at, k_line_at, B_line_at⟩
  have C_rows_at := Cal.mk ⟨_, _, _, ok_rows_at (P := l.prog) (base := base) F_rows_at T C_line_at, PySem.W.mg_of X G a_rows_at, k_rows_at, B_rows_at⟩
  have C_word_at := Cal.mk ⟨_, _, _, ok_word_at (P := l.prog) (base := base) F_word_at T C_line_at, PySem.W.mg_of X G a_word_at, k_word_at, B_word_at⟩
  have C_words_at := Cal.mk ⟨_, _, _, ok_words_at (P := l.prog) (base := base) F_words_at T C_line_at, PySem.W.mg_of X G a_words_at, k_words_at, B_words_at⟩
  have C_read := Cal.mk ⟨_, _, _, ok_read (P := l.prog) (base := base) F_read T C_rows_at C_word_at C_words_at C_Book_init, PySem.W.mg_of X G a_read, k_read, B_read⟩
  have C__law_mix := Cal.mk ⟨_, _, _, ok__law_mix (P := l.prog) (base := base) F__law_mix T, PySem.W.mg_of X G a__law_mix, k__law_mix, B__law_mix⟩
  have C__law_next := Cal.mk ⟨_, _, _, ok__law_next (P := l.prog) (base := base) F__law_next T, PySem.W.mg_of X G a__law_next, k__law_next, B__law_next⟩
  have C__law_pick := Cal.mk ⟨_, _, _, ok__law_pick (P := l.prog) (base := base) F__law_pick T C__law_next, PySem.W.mg_of X G a__law_pick, k__law_pick, B__law_pick⟩
  have C__law_parts := Cal.mk ⟨_, _, _, ok__law_parts (P := l.prog) (base := base) F__law_parts T, PySem.W.mg_of X G a__law_parts, k__law_parts, B__law_parts⟩
  have C__law_rule := Cal.mk ⟨_, _, _, ok__law_rule (P := l.prog) (base := base) F__law_rule T C__law_parts C__law_pick C__law_next, PySem.W.mg_of X G a__law_rule, k__law_rule, B__law_rule⟩
  have C__law_with := Cal.mk ⟨_, _, _, ok__law_with (P := l.prog) (base := base) F__law_with T, PySem.W.mg_of X G a__law_with, k__law_with, B__law_with⟩
  have C__law_draw := Cal.mk ⟨_, _, _, ok__law_draw (P := l.prog) (base := base) F__law_draw T C__law_next C__law_pick C__law_rule C__law_with, PySem.W.mg_of X G a__law_draw, k__law_draw, B__law_draw⟩
  have C__law_built := Cal.mk ⟨_, _, _, ok__law_built (P := l.prog) (base := base) F__law_built T C_Book_init, PySem.W.mg_of X G a__law_built, k__law_built, B__law_built⟩
  have z := ok_law (P := l.prog) (base := base) F_law T C__law_mix C__law_draw C__law_parts C_write C__law_built C_read C_Book_eq
  exact z
theorem walk {l : PySem.W.OpenLaw} {q : Program} {loose : List Str} {XP : (Str → Option Value) → Heap → Prop} {YP : World → Heap → Prop} {d : DefRec} {K : Params → PySem.W.Frag} (hn : l.most = some 63) (hdf : d.params.defaults = [])
    (hY : ∀ (w : World) (h : Heap), YP w h → (K w.params).In h)
    (F : ∀ (w : World) (mg : Str → Option Value) (fa : Addr) (h : Heap), (K w.params).In h → h.Ns mainGlobals mg → mg d.name = some (.ref fa) →
      ∃ fd : FuncData, (∀ (s : Shared) (u : Value), BindsTo s fd ⟨[u], []⟩ [("_law_script", u)]) ∧ ∀ base : Heap, (K w.params).In base → base.Ns mainGlobals mg → FnOk l.prog w (K w.params) mg base CX0 6 fa fd ["_law_script"] (sp_law (K w.params) w ad0)) :
    PySem.W.WalkO q loose XP YP l.row.toRowW d [] (fun f vs => PySem.call f vs) :=
  L2.walk_of (n := 63) (k := 6) (x := "_law_script") (CX := fun _ => CX0) (sp := fun w => sp_law (K w.params) w ad0) hn (by decide) hdf ⟨rfl, by decide, by decide⟩ hY F (fun _ _ a ns hl _ hS => ⟨a, ns, rfl, hS, hl, fun _ => rfl⟩) fun _ _ _ _ _ z => z
end Ah
open PySem PySem.W PyProof.Rows
set_option maxRecDepth 100000 in
set_option maxHeartbeats 0 in
theorem PySem.Challenge.cw_aheadrows_k14_whole_texts_holds : PySem.Challenge.rw_aheadrows_k14_whole_texts.Holds := by
  w_on; o_law; k_head; (case hw => w_witness2)
  k_fill
  refine Ah.walk (l := PySem.Challenge.rw_aheadrows_k14_whole_texts) rfl rfl (fun w h Y => PySem.W.kIn_of Y) ?F
  case F =>
    intro w mg fa h KX G hmg
    refine' Ah.all_mk KX G hmg ?a_Book ?a_is_integer ?l_is_integer ?c_is_integer ?k_is_integer ?a_is_word ?l_is_word ?c_is_word ?k_is_word ?a_is_edition ?l_is_edition ?c_is_edition ?k_is_edition ?a_check_rule ?l_check_rule ?c_check_rule ?k_check_rule ?a_Book_init ?i_Book_init ?l_Book_init ?c_Book_init ?k_Book_init ?a_Book_eq ?i_Book_eq ?nf_Book_eq ?l_Book_eq ?c_Book_eq ?k_Book_eq ?a_write ?l_write ?c_write ?k_write ?a_line_at ?l_line_at ?c_line_at ?k_line_at ?a_rows_at ?l_rows_at ?c_rows_at ?k_rows_at ?a_word_at ?l_word_at ?c_word_at ?k_word_at ?a_words_at ?l_words_at ?c_words_at ?k_words_at ?a_read ?l_read ?c_read ?k_read ?a__law_mix ?l__law_mix ?c__law_mix ?k__law_mix ?a__law_next ?l__law_next ?c__law_next ?k__law_next ?a__law_pick ?l__law_pick ?c__law_pick ?k__law_pick ?a__law_parts ?l__law_parts ?c__law_parts ?k__law_parts ?a__law_rule ?l__law_rule ?c__law_rule ?k__law_rule ?a__law_with ?l__law_with ?c__law_with ?k__law_with ?a__law_draw ?l__law_draw ?c__law_draw ?k__law_draw ?a__law_built ?l__law_built ?c__law_built ?k__law_built ?a_law ?l_law ?c_law ?k_law ?pg ?hd ?po ?sa ?mk ?kc ?n_wanted ?n_terms ?n_kinds ?ha ?hn ?htk ?hm ?a_KEYS ?l_KEYS ?a_WORDS ?l_WORDS ?a_PARTS ?l_PARTS ?a_ROWS ?l_ROWS ?a_MOST_ROWS ?b_all ?b_bool ?b_dict ?b_int ?b_isinstance ?b_len ?b_list ?b_max ?b_range ?b_str ?b_tuple ?v_KEYS ?v_WORDS ?lo_PARTS ?v_PARTS ?lo_ROWS ?v_ROWS ?l_PARTS0 ?l_PARTS1 ?l_PARTS2 ?l_PARTS3 ?l_PARTS4 ?l_PARTS5 ?l_ROWS0 ?l_ROWS1 ?l_ROWS2 ?l_ROWS3 ?v_PARTS0 ?v_PARTS1 ?v_PARTS2 ?v_PARTS3 ?v_PARTS4 ?v_PARTS5 ?v_ROWS0 ?v_ROWS1 ?v_ROWS2 ?v_ROWS3
    (case a_Book => k_is)
    (case a_is_integer => k_is)
    (case l_is_integer => k_is)
    (case c_is_integer => k_is)
    (case k_is_integer => k_is)
    (case a_is_word => k_is)
    (case l_is_word => k_is)
    (case c_is_word => k_is)
    (case k_is_word => k_is)
    (case a_is_edition => k_is)
    (case l_is_edition => k_is)
    (case c_is_edition => k_is)
    (case k_is_edition => k_is)
    (case a_check_rule => k_is)
    (case l_check_rule => k_is)
    (case c_check_rule => k_is)
    (case k_check_rule => k_is)
    (case a_Book_init => k_is)
    (case i_Book_init => k_is)
    (case l_Book_init => k_is)
    (case c_Book_init => k_is)
    (case k_Book_init => k_is)
    (case a_Book_eq => k_is)
    (case i_Book_eq => k_is)
    (case nf_Book_eq => k_is)
    (case l_Book_eq => k_is)
    (case c_Book_eq => k_is)
    (case k_Book_eq => k_is)
    (case a_write => k_is)
    (case l_write => k_is)
    (case c_write => k_is)
    (case k_write => k_is)
    (case a_line_at => k_is)
    (case l_line_at => k_is)
    (case c_line_at => k_is)
    (case k_line_at => k_is)
    (case a_rows_at => k_is)
    (case l_rows_at => k_is)
    (case c_rows_at => k_is)
    (case k_rows_at => k_is)
    (case a_word_at => k_is)
    (case l_word_at => k_is)
    (case c_word_at => k_is)
    (case k_word_at => k_is)
    (case a_words_at => k_is)
    (case l_words_at => k_is)
    (case c_words_at => k_is)
    (case k_words_at => k_is)
    (case a_read => k_is)
    (case l_read => k_is)
    (case c_read => k_is)
    (case k_read => k_is)
    (case a__law_mix => k_is)
    (case l__law_mix => k_is)
    (case c__law_mix => k_is)
    (case k__law_mix => k_is)
    (case a__law_next => k_is)
    (case l__law_next => k_is)
    (case c__law_next => k_is)
    (case k__law_next => k_is)
    (case a__law_pick => k_is)
    (case l__law_pick => k_is)
    (case c__law_pick => k_is)
    (case k__law_pick => k_is)
    (case a__law_parts => k_is)
    (case l__law_parts => k_is)
    (case c__law_parts => k_is)
    (case k__law_parts => k_is)
    (case a__law_rule => k_is)
    (case l__law_rule => k_is)
    (case c__law_rule => k_is)
    (case k__law_rule => k_is)
    (case a__law_with => k_is)
    (case l__law_with => k_is)
    (case c__law_with => k_is)
    (case k__law_with => k_is)
    (case a__law_draw => k_is)
    (case l__law_draw => k_is)
    (case c__law_draw => k_is)
    (case k__law_draw => k_is)
    (case a__law_built => k_is)
    (case l__law_built => k_is)
    (case c__law_built => k_is)
    (case k__law_built => k_is)
    (case a_law => k_is)
    (case l_law => k_is)
    (case c_law => k_is)
    (case k_law => k_is)
    (case pg => k_is)
    (case hd => k_is)
    (case po => k_is)
    (case sa => k_is)
    (case mk => k_is)
    (case kc => k_is)
    (case n_wanted => k_is)
    (case n_terms => k_is)
    (case n_kinds => k_is)
    (case ha => k_is)
    (case hn => k_is)
    (case htk => k_is)
    (case hm => k_is)
    (case a_KEYS => k_is)
    (case l_KEYS => k_is)
    (case a_WORDS => k_is)
    (case l_WORDS => k_is)
    (case a_PARTS => k_is)
    (case l_PARTS => k_is)
    (case a_ROWS => k_is)
    (case l_ROWS => k_is)
    (case a_MOST_ROWS => k_is)
    (case b_all => k_is)
    (case b_bool => k_is)
    (case b_dict => k_is)
    (case b_int => k_is)
    (case b_isinstance => k_is)
    (case b_len => k_is)
    (case b_list => k_is)
    (case b_max => k_is)
    (case b_range => k_is)
    (case b_str => k_is)
    (case b_tuple => k_is)
    (case v_KEYS => exact (.cons ⟨_, rfl⟩ (.cons ⟨_, rfl⟩ .nil)))
    (case v_WORDS => exact (.cons ⟨_, rfl⟩ (.cons ⟨_, rfl⟩ .nil)))
    (case lo_PARTS => exact (by decide +kernel))
    (case v_PARTS => exact ⟨⟨_, rfl⟩, rfl, rfl, ⟨⟨_, rfl⟩, rfl, rfl, ⟨⟨_, rfl⟩, rfl, rfl, ⟨⟨_, rfl⟩, rfl, rfl, ⟨⟨_, rfl⟩, rfl, rfl, ⟨⟨_, rfl⟩, rfl, rfl, trivial⟩⟩⟩⟩⟩⟩)
    (case lo_ROWS => exact (by decide +kernel))
    (case v_ROWS => exact ⟨⟨_, rfl⟩, rfl, rfl, ⟨⟨_, rfl⟩, rfl, rfl, ⟨⟨_, rfl⟩, rfl, rfl, ⟨⟨_, rfl⟩, rfl, rfl, trivial⟩⟩⟩⟩)
    (case l_PARTS0 => k_is)
    (case l_PARTS1 => k_is)
    (case l_PARTS2 => k_is)
    (case l_PARTS3 => k_is)
    (case l_PARTS4 => k_is)
    (case l_PARTS5 => k_is)
    (case l_ROWS0 => k_is)
    (case l_ROWS1 => k_is)
    (case l_ROWS2 => k_is)
    (case l_ROWS3 => k_is)
    (case v_PARTS0 => exact (.cons ⟨_, rfl⟩ (.cons ⟨_, rfl⟩ .nil)))
    (case v_PARTS1 => exact (.cons ⟨_, rfl⟩ (.cons ⟨_, rfl⟩ .nil)))
    (case v_PARTS2 => exact (.cons ⟨_, rfl⟩ (.cons ⟨_, rfl⟩ .nil)))
    (case v_PARTS3 => exact (.cons ⟨_, rfl⟩ (.cons ⟨_, rfl⟩ .nil)))
    (case v_PARTS4 => exact (.cons ⟨_, rfl⟩ (.cons ⟨_, rfl⟩ (.cons ⟨_, rfl⟩ .nil))))
    (case v_PARTS5 => exact (.cons ⟨_, rfl⟩ (.cons ⟨_, rfl⟩ .nil)))
    (case v_ROWS0 => exact (.cons ⟨_, rfl⟩ (.cons ⟨_, rfl⟩ .nil)))
    (case v_ROWS1 => exact (.cons ⟨_, rfl⟩ (.cons ⟨_, rfl⟩ .nil)))
    (case v_ROWS2 => exact (.cons ⟨_, rfl⟩ (.cons ⟨_, rfl⟩ .nil)))
    (case v_ROWS3 => exact (.cons ⟨_, rfl⟩ (.cons ⟨_, rfl⟩ .nil)))

