import PyProof.Rows.All
import Wide.All
import OpenK.AllK
import Wide.FinOn
import HandS.ForMost
import HandS.TupLe
import HandS.TupAny
import HandS.Style
import HandS.Flow
import HandS.Codes
import HandS.SortInts
import HandS.Walk
import HandS.NoneIn
import HandS.Conv
import HandS.ForExc
import HandS.ExcCtx
import HandS.Hot
import HandS.HotCalls
import HandS.ExcInit
import HandS.ExcIs
import HandS.ExcField
import HandS.Lambda
import HandS.ClsMeth
import HandS.IsInst
import KE.KExcIs
import KE.KDictKeyed
import KE.KDictDisplayH
import HandS.SortKw
import KE.SortData
import KE.KDictSum
import KE.DataMinMax
import HandS.SetFor
import HandS.HeadHook1
import HandS.HeadHook2
import HandS.HeadHook4
import KE.KStateDown
import HandS.Words
import HandS.WordsExc
import HandS.Defaults
import HandS.Head0
import HandS.Head1
import HandS.Head2
import HandS.HeadEnd
import HandS.HeadWalk
import HandS.EndTab
import PySem.Challenge.RW_scrubround_k06_whole_held_or_shown
set_option Elab.async false
set_option linter.all false
set_option maxRecDepth 100000
set_option maxHeartbeats 4000000
/-! Own base layer: two heaps (G, what is never written again, and H, all that is tracked), readings step by step, flat data. -/
namespace Z
open PySem PySem.Spec PyProof.Rows L2

/-! ### growing heaps -/
/-- from (G, H) to (G', H'): what was kept is kept; what was tracked stands but at X; nothing that was tracked and open is closed -/
structure Gr (X : Addr → Prop) (G H G' H' : Hp) : Prop where
  gg : Same G G'
  sub : Same G' H'
  old : ∀ b o, ¬ X b → H b = some o → H' b = some o
  dom : ∀ b o, H b = some o → ∃ o', H' b = some o'
  dis : ∀ b o, H b = some o → G b = none → G' b = none
abbrev No : Addr → Prop := fun _ => False
theorem Gr.refl {X : Addr → Prop} {G H : Hp} (s : Same G H) : Gr X G H G H := ⟨Same.refl G, s, fun _ _ _ h => h, fun _ o h => ⟨o, h⟩, fun _ _ _ h => h⟩
theorem Gr.trans {X : Addr → Prop} {G H G1 H1 G2 H2 : Hp} (a : Gr X G H G1 H1) (b : Gr X G1 H1 G2 H2) : Gr X G H G2 H2 :=
  ⟨a.gg.trans b.gg, b.sub, fun c o n h => b.old c o n (a.old c o n h), fun c o h => (a.dom c o h).elim fun o' h' => b.dom c o' h', fun c o h g => (a.dom c o h).elim fun o' h' => b.dis c o' h' (a.dis c o h g)⟩
/-- a step that writes elsewhere: only at X, or at what is new -/
theorem Gr.seq {X Y : Addr → Prop} {G H G1 H1 G2 H2 : Hp} (a : Gr X G H G1 H1) (b : Gr Y G1 H1 G2 H2) (hy : ∀ c, Y c → X c ∨ H c = none) : Gr X G H G2 H2 :=
  ⟨a.gg.trans b.gg, b.sub, fun c o n h => b.old c o (fun y => (hy c y).elim n fun z => by rw [h] at z; cases z) (a.old c o n h), fun c o h => (a.dom c o h).elim fun o' h' => b.dom c o' h', fun c o h g => (a.dom c o h).elim fun o' h' => b.dis c o' h' (a.dis c o h g)⟩
theorem Gr.seqN {X : Addr → Prop} {G H G1 H1 G2 H2 : Hp} (a : Gr X G H G1 H1) (b : Gr No G1 H1 G2 H2) : Gr X G H G2 H2 := a.seq b fun _ h => h.elim
theorem Gr.wide {X : Addr → Prop} {G H G1 H1 : Hp} (a : Gr No G H G1 H1) (s : Same G H) : Gr X G H G1 H1 := (Gr.refl s).seqN a
theorem Gr.fresh {X : Addr → Prop} {G H G1 H1 : Hp} (a : Gr X G H G1 H1) {p : Addr} (h : H1 p = none) : H p = none := by
  cases e : H p with
  | none => rfl
  | some o =>
    obtain ⟨o', h'⟩ := a.dom p o e
    rw [h] at h'
    cases h'
/-- a new object, open -/
theorem Gr.new {X : Addr → Prop} {G0 H0 G H : Hp} (a : Gr X G0 H0 G H) {p : Addr} {o : HO} (hp : H p = none) : Gr X G0 H0 G (upd H p o) :=
  ⟨a.gg, fun b u e => by rw [upd_ne (ne_of_none (a.sub b u e) hp)]; exact a.sub b u e, fun b u n h => by rw [upd_ne (ne_of_none (a.old b u n h) hp)]; exact a.old b u n h,
    fun b u h => (a.dom b u h).elim fun o' h' => ⟨o', by rw [upd_ne (ne_of_none h' hp)]; exact h'⟩, a.dis⟩
/-- a new object, closed at once -/
theorem Gr.pub {X : Addr → Prop} {G0 H0 G H : Hp} (a : Gr X G0 H0 G H) {p : Addr} {o : HO} (hp : H p = none) : Gr X G0 H0 (upd G p o) (upd H p o) := by
  have gp : G p = none := a.sub.free hp
  refine ⟨fun b u e => ?_, fun b u e => ?_, fun b u n h => ?_, fun b u h => ?_, fun b u h g => ?_⟩
  · rw [upd_ne (ne_of_none (a.gg b u e) gp)]; exact a.gg b u e
  · by_cases q : b = p
    · subst q; rw [upd_same] at e; rw [upd_same]; exact e
    · rw [upd_ne q] at e; rw [upd_ne q]; exact a.sub b u e
  · rw [upd_ne (ne_of_none (a.old b u n h) hp)]; exact a.old b u n h
  · exact (a.dom b u h).elim fun o' h' => ⟨o', by rw [upd_ne (ne_of_none h' hp)]; exact h'⟩
  · obtain ⟨o', h'⟩ := a.dom b u h
    rw [upd_ne (ne_of_none h' hp)]; exact a.dis b u h g
theorem Gr.back {X : Addr → Prop} {G H G1 H1 : Hp} (a : Gr X G H G1 H1) : Gr X G H G H1 := ⟨Same.refl G, a.gg.trans a.sub, a.old, a.dom, fun _ _ _ h => h⟩
/-- an open object: it stands in H, nobody keeps it -/
structure At (G H : Hp) (p : Addr) (o : HO) : Prop where
  h : H p = some o
  g : G p = none
theorem At.of {G0 H0 G H : Hp} {X : Addr → Prop} (a : Gr X G0 H0 G H) {p : Addr} {o : HO} (hp : H p = none) : At G (upd H p o) p o := ⟨upd_same, a.sub.free hp⟩
theorem At.mono {X : Addr → Prop} {G H G1 H1 : Hp} {p : Addr} {o : HO} (t : At G H p o) (a : Gr X G H G1 H1) (n : ¬ X p) : At G1 H1 p o := ⟨a.old p o n t.h, a.dis p o t.h t.g⟩
theorem At.monoN {G H G1 H1 : Hp} {p : Addr} {o : HO} (t : At G H p o) (a : Gr No G H G1 H1) : At G1 H1 p o := t.mono a fun z => z
theorem At.ne {G H : Hp} {p q : Addr} {o u : HO} (t : At G H p o) (h : H q = some u) (d : o ≠ u) : p ≠ q := ne_of t.h h d
/-- an open object is written -/
theorem Gr.mut {X : Addr → Prop} {G0 H0 G H : Hp} (a : Gr X G0 H0 G H) {p : Addr} {o u : HO} (t : At G H p o) (n : X p ∨ H0 p = none) : Gr X G0 H0 G (upd H p u) := by
  refine ⟨a.gg, fun b v e => ?_, fun b v m h => ?_, fun b v h => ?_, a.dis⟩
  · have q : b ≠ p := fun q => by rw [q, t.g] at e; cases e
    rw [upd_ne q]; exact a.sub b v e
  · have q : b ≠ p := fun q => by
      subst q
      rcases n with n | n
      · exact m n
      · rw [n] at h; cases h
    rw [upd_ne q]; exact a.old b v m h
  · by_cases q : b = p
    · exact ⟨u, by rw [q, upd_same]⟩
    · obtain ⟨o', h'⟩ := a.dom b v h
      exact ⟨o', by rw [upd_ne q]; exact h'⟩
theorem At.put {G H : Hp} {p : Addr} {o u : HO} (t : At G H p o) : At G (upd H p u) p u := ⟨upd_same, t.g⟩
theorem At.off {G H : Hp} {p q : Addr} {o u : HO} (t : At G H p o) (h : p ≠ q) : At G (upd H q u) p o := ⟨by rw [upd_ne h]; exact t.h, t.g⟩
theorem At.new {G H : Hp} {p q : Addr} {o u : HO} (t : At G H p o) (h : H q = none) : At G (upd H q u) p o := t.off (ne_of_none t.h h)
theorem At.pub {G H : Hp} {p q : Addr} {o u : HO} (t : At G H p o) (h : H q = none) : At (upd G q u) (upd H q u) p o := ⟨(t.new h).h, by rw [upd_ne (ne_of_none t.h h)]; exact t.g⟩
/-- an open object is closed -/
theorem Gr.close {X : Addr → Prop} {G0 H0 G H : Hp} (a : Gr X G0 H0 G H) {p : Addr} {o : HO} (t : At G H p o) (n : H0 p = none) : Gr X G0 H0 (upd G p o) H := by
  refine ⟨fun b u e => ?_, fun b u e => ?_, a.old, a.dom, fun b u h g => ?_⟩
  · rw [upd_ne (ne_of_none (a.gg b u e) t.g)]; exact a.gg b u e
  · by_cases q : b = p
    · subst q; rw [upd_same] at e; rw [← e]; exact t.h
    · rw [upd_ne q] at e; exact a.sub b u e
  · rw [upd_ne (ne_of_none h n)]; exact a.dis b u h g
theorem At.close {G H : Hp} {p q : Addr} {o u : HO} (t : At G H p o) (h : p ≠ q) : At (upd G q u) H p o := ⟨t.h, by rw [upd_ne h]; exact t.g⟩
theorem same_close {G H : Hp} {p : Addr} {o : HO} (t : At G H p o) : Same G (upd G p o) := fun b u e => by rw [upd_ne (ne_of_none e t.g)]; exact e
theorem same_new {H : Hp} {p : Addr} {o : HO} (h : H p = none) : Same H (upd H p o) := fun b u e => by rw [upd_ne (ne_of_none e h)]; exact e

/-! ### data -/
section
variable {K : PySem.W.Frag} {G H G' H' : Hp}
theorem sqt {a : Addr} {xs : List V} (e : Same G G') (h : SqT K G a xs) : SqT K G' a xs := by
  rcases h with (h | ⟨o, h⟩) | h
  · exact .inl (.inl (e _ _ h))
  · exact .inl (.inr ⟨o, e _ _ h⟩)
  · exact .inr h
theorem sql {a : Addr} {xs : List V} (e : Same G G') (h : SqL K G a xs) : SqL K G' a xs := e.seq h
/-- two lists side by side -/
theorem Paired.at {α β : Type} {R : α → β → Prop} : ∀ {xs : List α} {ys : List β}, Paired R xs ys → ∀ {i : Nat} {x : α} {y : β}, xs[i]? = some x → ys[i]? = some y → R x y
  | _, _, .nil, i, x, y, h, _ => by simp at h
  | _, _, .cons r t, 0, x, y, h, k => by
    simp at h k
    subst h; subst k
    exact r
  | _, _, .cons r t, i + 1, x, y, h, k => Paired.at t (i := i) (by simpa using h) (by simpa using k)
theorem Paired.imp {α β : Type} {R S : α → β → Prop} (f : ∀ x y, R x y → S x y) : ∀ {xs : List α} {ys : List β}, Paired R xs ys → Paired S xs ys
  | _, _, .nil => .nil
  | _, _, .cons r t => .cons (f _ _ r) (Paired.imp f t)
theorem Paired.len {α β : Type} {R : α → β → Prop} : ∀ {xs : List α} {ys : List β}, Paired R xs ys → xs.length = ys.length
  | _, _, .nil => rfl
  | _, _, .cons _ t => congrArg (· + 1) (Paired.len t)
theorem Paired.snoc {α β : Type} {R : α → β → Prop} {x : α} {y : β} (r : R x y) : ∀ {xs : List α} {ys : List β}, Paired R xs ys → Paired R (xs ++ [x]) (ys ++ [y])
  | _, _, .nil => .cons r .nil
  | _, _, .cons q t => .cons q (Paired.snoc r t)
theorem prt {as : List Addr} {ts : List (List V)} (e : Same G G') (h : Paired (fun p t => SqT K G p t) as ts) : Paired (fun p t => SqT K G' p t) as ts := Paired.imp (fun _ _ => sqt e) h
/-- at a stands a list of tuples -/
theorem ls {a : Addr} {xs : List V} (h : G a = some (.lst xs)) (s : Same G H) : SqL K H a xs := .inl (.inl (s _ _ h))
theorem ts {a : Addr} {xs : List V} (h : G a = some (.tup xs)) (s : Same G H) : SqT K H a xs := .inl (.inl (s _ _ h))
def TupL (K : PySem.W.Frag) (G : Hp) (a : Addr) (ts : List (List V)) : Prop := ∃ as : List Addr, G a = some (.lst (as.map V.ref)) ∧ Paired (fun p t => SqT K G p t) as ts
theorem TupL.mono {a : Addr} {ts : List (List V)} (e : Same G G') (h : TupL K G a ts) : TupL K G' a ts := by
  obtain ⟨as, h1, h2⟩ := h
  exact ⟨as, e _ _ h1, Paired.imp (fun _ _ => sqt e) h2⟩
mutual
theorem Dp.mono (e : Same G G') : ∀ (d : PyData) (v : V), Dp K G v d → Dp K G' v d
  | .none, _, h => by cases h; exact .non
  | .bool b, _, h => by cases h; exact .bl b
  | .int i, _, h => by cases h; exact .int i
  | .str x, _, h => by cases h; exact .str x
  | .list ds, _, h => by
    cases h with
    | lst hs ha => exact .lst (sql e hs) (DpAll.mono e ds _ ha)
  | .tuple ds, _, h => by
    cases h with
    | tup hs ha => exact .tup (sqt e hs) (DpAll.mono e ds _ ha)
  | .dict _, _, h => by cases h
theorem DpAll.mono (e : Same G G') : ∀ (ds : List PyData) (vs : List V), DpAll K G vs ds → DpAll K G' vs ds
  | [], _, h => by cases h; exact .nil
  | d :: ds, _, h => by
    cases h with
    | cons h1 h2 => exact .cons (Dp.mono e d _ h1) (DpAll.mono e ds _ h2)
end
theorem dpAll_ints : ∀ ns : List Int, DpAll K G (ns.map V.int) (ns.map PyData.int)
  | [] => .nil
  | n :: ns => .cons (.int n) (dpAll_ints ns)
theorem Dp.ints {a : Addr} {ns : List Int} (h : SqL K G a (ns.map V.int)) : Dp K G (.ref a) (.list (ns.map PyData.int)) := .lst h (dpAll_ints ns)
theorem dpAll_append : ∀ {xs ys : List V} {ds es : List PyData}, DpAll K G xs ds → DpAll K G ys es → DpAll K G (xs ++ ys) (ds ++ es)
  | _, _, _, _, .nil, h => h
  | _, _, _, _, .cons a b, h => .cons a (dpAll_append b h)
/-- a number or None -/
def vO : Option Int → V
  | none => .non
  | some i => .int i
def dO : Option Int → PyData
  | none => .none
  | some i => .int i
theorem dp_vO : ∀ o : Option Int, Dp K G (vO o) (dO o)
  | none => .non
  | some i => .int i
theorem dpAll_vO : ∀ os : List (Option Int), DpAll K G (os.map vO) (os.map dO)
  | [] => .nil
  | o :: os => .cons (dp_vO o) (dpAll_vO os)
end

/-! ### readings, step by step -/
section
variable {K : PySem.W.Frag} {σ : L2.St} {H : Hp} {Q : VK} {i j : Int} {n : Nat} {v x y : V} {ta tb tc te : TE} {r r' : R2} {b : Bool}
theorem i_var {k : Nat} (h : σ[k]? = some (some v)) (q : Q v H) : tVar k σ H Q := ⟨v, h, q⟩
theorem i_c (q : Q v H) : tC v σ H Q := q
theorem i_op (q : ta σ H fun x H1 => tb σ H1 fun y H2 => r x y H2 Q) : tOp r ta tb σ H Q := q
theorem i_un {u : V → Hp → VK → Prop} (q : ta σ H fun x H1 => u x H1 Q) : tUn u ta σ H Q := q
theorem i_I0 {g : Int → Int → V} (q : Q (g i j) H) : rI0 g (.int i) (.int j) H Q := ⟨i, j, rfl, rfl, q⟩
theorem i_I {C : Int → Int → Prop} {g : Int → Int → V} (c : C i j) (q : Q (g i j) H) : rI C g (.int i) (.int j) H Q := ⟨i, j, rfl, rfl, c, q⟩
theorem i_U {g : Int → V} (q : Q (g i) H) : rU g (.int i) H Q := ⟨i, rfl, q⟩
theorem i_eqI (q : Q (.bl (decide (i = j))) H) : rEq (.int i) (.int j) H Q := ⟨rfl, by
  have e : decide (V.int i = V.int j) = decide (i = j) := decide_eq_decide.mpr ⟨fun h => V.int.inj h, fun h => by rw [h]⟩
  rw [e]; exact q⟩
theorem i_neI (q : Q (.bl (!decide (i = j))) H) : rNe (.int i) (.int j) H Q := ⟨rfl, by
  have e : decide (V.int i = V.int j) = decide (i = j) := decide_eq_decide.mpr ⟨fun h => V.int.inj h, fun h => by rw [h]⟩
  rw [e]; exact q⟩
theorem i_eqOI {o : Option Int} (q : Q (.bl (decide (o = some j))) H) : rEq (vO o) (.int j) H Q := by
  cases o with
  | none => exact ⟨rfl, by
      have e : decide (V.non = V.int j) = false := decide_eq_false (by intro z; cases z)
      show Q (.bl (decide (V.non = V.int j))) H
      rw [e]; simpa using q⟩
  | some i => exact i_eqI (by simpa using q)
theorem i_eqIO {o : Option Int} (q : Q (.bl (decide (o = some j))) H) : rEq (.int j) (vO o) H Q := by
  cases o with
  | none => exact ⟨rfl, by
      have e : decide (V.int j = V.non) = false := decide_eq_false (by intro z; cases z)
      show Q (.bl (decide (V.int j = V.non))) H
      rw [e]; simpa using q⟩
  | some i => exact i_eqI (by simpa [eq_comm] using q)
theorem i_test {P : Bool → Hp → Prop} (q : te σ H fun x H' => ∃ k, x = .bl k ∧ P k H') : tTest te σ H P := q
theorem i_B {P : Bool → Hp → Prop} (q : te σ H fun x H' => ∃ k, x = .bl k ∧ P k H') : tB te σ H P := q
theorem i_k {P : Bool → Hp → Prop} (q : P b H) : ∃ k, V.bl b = .bl k ∧ P k H := ⟨b, rfl, q⟩
theorem i_nil {P : List V → Hp → Prop} (q : P [] H) : tNil σ H P := q
theorem i_cons {P : List V → Hp → Prop} {tr : TA} (q : ta σ H fun x H1 => tr σ H1 fun xs H2 => P (x :: xs) H2) : tCons ta tr σ H P := q
def NewL (xs : List V) (H : Hp) (Q : VK) : Prop := xs.length ≤ sizeLine ∧ ∀ p, H p = none → Q (.ref p) (upd H p (.lst xs))
def NewT (xs : List V) (H : Hp) (Q : VK) : Prop := xs.length ≤ sizeLine ∧ ∀ p, H p = none → Q (.ref p) (upd H p (.tup xs))
theorem i_lst {t : TA} (q : t σ H fun xs H1 => NewL xs H1 Q) : tLst t σ H Q := q
theorem i_tup {t : TA} (q : t σ H fun xs H1 => NewT xs H1 Q) : tTup t σ H Q := q
theorem i_cb {rr : List V → Hp → VK → Prop} {t : TA} (q : t σ H fun vs H1 => rr vs H1 Q) : tCB rr t σ H Q := q
theorem i_call {sp : Sp} {E : XK} {t : TA} (q : t σ H fun vs H1 => sp (vs ++ []) H1 Q E) : tCall sp [] E t σ H Q := q
theorem i_if {t : TT} (q : t σ H fun c H1 => if c = true then ta σ H1 Q else tb σ H1 Q) : tIf t ta tb σ H Q := q
theorem i_not {t : TT} {P : Bool → Hp → Prop} (q : t σ H fun c H1 => P (!c) H1) : tNot t σ H P := q
theorem i_and {t u : TT} {P : Bool → Hp → Prop} (q : t σ H fun c H1 => if c = true then u σ H1 P else P false H1) : tAnd t u σ H P := q
theorem i_or {t u : TT} {P : Bool → Hp → Prop} (q : t σ H fun c H1 => if c = true then P true H1 else u σ H1 P) : tOr t u σ H P := q
theorem i_ixL {p : Addr} {xs : List V} (h : SqL K H p xs) (a : atI xs i = some v) (q : Q v H) : rIxL K (.ref p) (.int i) H Q := ⟨p, xs, i, v, rfl, rfl, h, a, q⟩
theorem i_ixT {p : Addr} {xs : List V} (h : SqT K H p xs) (a : atI xs i = some v) (q : Q v H) : rIxT K (.ref p) (.int i) H Q := ⟨p, xs, i, v, rfl, rfl, h, a, q⟩
theorem i_ite {c : Prop} [Decidable c] {A B : Prop} (h1 : c → A) (h2 : ¬ c → B) : if decide c = true then A else B := by
  by_cases h : c
  · rw [if_pos (decide_eq_true h)]; exact h1 h
  · rw [if_neg (by simpa using h)]; exact h2 h
theorem i_iteN {c : Prop} [Decidable c] {A B : Prop} (h1 : ¬ c → A) (h2 : c → B) : if (!decide c) = true then A else B := by
  by_cases h : c
  · rw [if_neg (by simpa using h)]; exact h2 h
  · rw [if_pos (by simpa using h)]; exact h1 h
theorem i_t {A B : Prop} (h : A) : if true = true then A else B := by rw [if_pos rfl]; exact h
theorem i_f {A B : Prop} (h : B) : if false = true then A else B := by rw [if_neg Bool.false_ne_true]; exact h
theorem i_nt {A B : Prop} (h : B) : if (!true) = true then A else B := i_f h
theorem i_nf {A B : Prop} (h : A) : if (!false) = true then A else B := i_t h
/-- a test, by what its answer is equal to -/
theorem i_b {k : Bool} {A B : Prop} (h1 : k = true → A) (h2 : k = false → B) : if k = true then A else B := by
  cases k with
  | true => exact i_t (h1 rfl)
  | false => exact i_f (h2 rfl)
theorem i_chain (q : ta σ H fun x H1 => tb σ H1 fun y H2 => r x y H2 fun z H3 => ∃ k, z = .bl k ∧ (if k = true then tc σ H3 fun w' H4 => r' y w' H4 Q else Q (.bl false) H3)) : tChain r r' ta tb tc σ H Q := q
theorem dec_non (o : Option Int) : decide (vO o = V.non) = decide (o = none) := by cases o <;> simp [vO]
def rIsNz : R2 := fun x y H Q => y = .non ∧ Q (.bl (decide (x = .non))) H
def rNotNz : R2 := fun x y H Q => y = .non ∧ Q (.bl (!decide (x = .non))) H
theorem op_isNz {X : Cx} : OpR X (compareOp .Is) rIsNz := op_isN
theorem op_notNz {X : Cx} : OpR X (compareOp .IsNot) rNotNz := op_notN
theorem i_isO {o : Option Int} (q : Q (.bl (decide (o = none))) H) : rIsNz (vO o) .non H Q := ⟨rfl, by rw [dec_non]; exact q⟩
theorem i_isR {a : Addr} (q : Q (.bl false) H) : rIsNz (.ref a) .non H Q := ⟨rfl, q⟩
theorem i_isN (q : Q (.bl true) H) : rIsNz .non .non H Q := ⟨rfl, q⟩
theorem i_isI (q : Q (.bl false) H) : rIsNz (.int i) .non H Q := ⟨rfl, q⟩
theorem i_noO {o : Option Int} (q : Q (.bl (!decide (o = none))) H) : rNotNz (vO o) .non H Q := ⟨rfl, by rw [dec_non]; exact q⟩
theorem i_noR {a : Addr} (q : Q (.bl true) H) : rNotNz (.ref a) .non H Q := ⟨rfl, q⟩
theorem i_noN (q : Q (.bl false) H) : rNotNz .non .non H Q := ⟨rfl, q⟩
theorem i_noI (q : Q (.bl true) H) : rNotNz (.int i) .non H Q := ⟨rfl, q⟩
theorem i_bm {T : String} {rr : V → List V → Hp → VK → Prop} {t : TA} (q : ta σ H fun x H1 => tyV K T x H1 ∧ t σ H1 fun xs H2 => rr x xs H2 Q) : tBM K T rr ta t σ H Q := q
theorem i_bm0 {T : String} {rr : V → List V → Hp → VK → Prop} (q : ta σ H fun x H1 => tyV K T x H1 ∧ rr x [] H1 Q) : tBM0 K T rr ta σ H Q := q
theorem i_and2 (q : ta σ H fun x H1 => ∃ c, x = .bl c ∧ if c = true then tb σ H1 Q else Q (.bl false) H1) : tAndV ta tb σ H Q := q
theorem i_or2 (q : ta σ H fun x H1 => ∃ c, x = .bl c ∧ if c = true then Q (.bl true) H1 else tb σ H1 Q) : tOrV ta tb σ H Q := q
theorem i_sl {rs : V → Option Int → Option Int → Hp → VK → Prop} {tl th : TO} (q : te σ H fun x H1 => tl σ H1 fun l H2 => th σ H2 fun u H3 => rs x l u H3 Q) : tSl rs te tl th σ H Q := q
theorem i_part {P : Option Int → Hp → Prop} (q : te σ H fun x H1 => ∃ i, x = .int i ∧ P (some i) H1) : tPart te σ H P := q
theorem i_nopart {P : Option Int → Hp → Prop} (q : P none H) : tNoPart σ H P := q
variable {D : Ends} {t u : TS} {f : L2.St → Hp → Prop} {F2 : V → Hp → Prop} {f3 f4 : L2.St → Hp → Prop}
theorem i_seq (q : t { D with nx := u D } σ H) : tSeq t u D σ H := q
theorem i_nx (q : f σ H) : Ends.nx ⟨f, F2, f3, f4⟩ σ H := q
theorem i_rt (q : F2 v H) : Ends.rt ⟨f, F2, f3, f4⟩ v H := q
theorem i_cut (q : ∃ Mid : L2.St → Hp → Prop, t { D with nx := Mid } σ H ∧ ∀ σ' H', Mid σ' H' → u D σ' H') : C8.tCut t u D σ H := q
def Par3 (i j l : Nat) (D : Ends) (σ : L2.St) (vs : List V) (H : Hp) : Prop := ∃ u v w, vs = [u, v, w] ∧ D.nx (((σ.set i (some u)).set j (some v)).set l (some w)) H
theorem i_par3 {i j l : Nat} {ts : TA} (q : ts σ H fun vs H1 => Par3 i j l D σ vs H1) : tPar3 i j l ts D σ H := q
theorem i_par3e {i j l : Nat} {a b c : V} (q : D.nx (((σ.set i (some a)).set j (some b)).set l (some c)) H) : Par3 i j l D σ [a, b, c] H := ⟨a, b, c, rfl, q⟩
def Par2 (i j : Nat) (D : Ends) (σ : L2.St) (vs : List V) (H : Hp) : Prop := ∃ v w, vs = [v, w] ∧ D.nx ((σ.set i (some v)).set j (some w)) H
theorem i_par2 {i j : Nat} {ts : TA} (q : ts σ H fun vs H1 => Par2 i j D σ vs H1) : tPar i j ts D σ H := q
theorem i_par2e {i j : Nat} {a b : V} (q : D.nx ((σ.set i (some a)).set j (some b)) H) : Par2 i j D σ [a, b] H := ⟨a, b, rfl, q⟩
theorem i_pass (q : D.nx σ H) : tNext D σ H := q
theorem i_asg {g : TG} (q : te σ H fun x H1 => g x σ H1 D.nx) : tAsg te g D σ H := q
theorem i_gname {P : L2.St → Hp → Prop} {k : Nat} (q : P (σ.set k (some v)) H) : gName k v σ H P := q
theorem i_ret (q : te σ H D.rt) : tRet te D σ H := q
theorem i_drop (q : te σ H fun _ H1 => D.nx σ H1) : tDrop te D σ H := q
theorem i_ifS {c : TT} (q : c σ H fun b H1 => if b = true then t D σ H1 else u D σ H1) : tIfS c t u D σ H := q
theorem i_gsub {to ti : TE} {ts : TSet} {P : L2.St → Hp → Prop} (q : to σ H fun o H1 => ti σ H1 fun i H2 => ts o i v H2 fun H3 => P σ H3) : gSub to ti ts v σ H P := q
theorem i_setL {P : Hp → Prop} {p : Addr} {xs : List V} {k : Nat} (ys : List V) (h : H p = some (.lst xs)) (hi : ixN xs.length i = some k) (e : xs.set k v = ys) (q : P (upd H p (.lst ys))) : rSetL (.ref p) (.int i) v H P := ⟨p, xs, i, k, rfl, rfl, h, hi, by rw [e]; exact q⟩
theorem i_gtup {g : TGs} {n : Nat} {P : L2.St → Hp → Prop} {a : Addr} {xs : List V} (h : SqT K H a xs) (hl : xs.length = n) (q : g xs σ H P) : gTup K n g (.ref a) σ H P := ⟨a, xs, rfl, h, hl, q⟩
theorem i_gcons {t : TG} {u : TGs} {P : L2.St → Hp → Prop} {vs : List V} (q : t v σ H fun σ' H' => u vs σ' H' P) : gCons t u (v :: vs) σ H P := ⟨v, vs, rfl, q⟩
theorem i_gnil {P : L2.St → Hp → Prop} (q : P σ H) : gNil [] σ H P := ⟨rfl, q⟩
/-! ### loops and comprehensions, by what they walk -/
def ForL (K : PySem.W.Frag) (g : TG) (tb : TS) (D : Ends) (σ : L2.St) (x : V) (H : Hp) : Prop := ∃ a, x = .ref a ∧ (∃ xs, SqL K H a xs) ∧ tFor (fun _ H R => R (Itl K a) H) g tb D σ H
def ForT (K : PySem.W.Frag) (g : TG) (tb : TS) (D : Ends) (σ : L2.St) (x : V) (H : Hp) : Prop := ∃ a, x = .ref a ∧ (∃ xs, SqT K H a xs) ∧ tFor (fun _ H R => R (Itt K a) H) g tb D σ H
def ForR (g : TG) (tb : TS) (D : Ends) (σ : L2.St) (vs : List V) (H : Hp) : Prop := ∃ j : Int, vs = [.int j] ∧ -(2 ^ 62) ≤ j ∧ j < 2 ^ 62 ∧ tFor (fun _ H R => R (Itr 0 j.toNat) H) g tb D σ H
def ForR2 (g : TG) (tb : TS) (D : Ends) (σ : L2.St) (vs : List V) (H : Hp) : Prop := ∃ i j : Int, vs = [.int i, .int j] ∧ (-(2 ^ 62) ≤ i ∧ i < 2 ^ 62 ∧ -(2 ^ 62) ≤ j ∧ j < 2 ^ 62) ∧ tFor (fun _ H R => R (Itr i (j - i).toNat) H) g tb D σ H
theorem i_forL {tl : TE} {g : TG} (q : tl σ H fun x H1 => ForL K g t D σ x H1) : tFor (iList K tl) g t D σ H := q
theorem i_forT {tl : TE} {g : TG} (q : tl σ H fun x H1 => ForT K g t D σ x H1) : tFor (iTup K tl) g t D σ H := q
theorem i_forR {ts : TA} {g : TG} (q : ts σ H fun x H1 => ForR g t D σ x H1) : tFor (iRng1 ts) g t D σ H := q
theorem i_forR2 {ts : TA} {g : TG} (q : ts σ H fun x H1 => ForR2 g t D σ x H1) : tFor (iRng2 ts) g t D σ H := q
theorem forL {a : Addr} {xs : List V} {g : TG} (h : SqL K H a xs) (Pv : Nat → L2.St → Hp → Prop) (h0 : Pv 0 σ H) (hl : ∀ i σ H, i ≤ xs.length → Pv i σ H → SqL K H a xs)
    (hs : ∀ i x σ H, xs[i]? = some x → Pv i σ H → g x σ H fun σ2 H2 => t { D with nx := Pv (i + 1), ct := Pv (i + 1), bk := D.nx } σ2 H2) (hd : ∀ σ H, Pv xs.length σ H → D.nx σ H) : ForL K g t D σ (.ref a) H := ⟨a, rfl, ⟨xs, h⟩, for_list Pv h0 hl hs hd⟩
theorem forT {a : Addr} {xs : List V} {g : TG} (h : SqT K H a xs) (Pv : Nat → L2.St → Hp → Prop) (h0 : Pv 0 σ H) (hl : ∀ i σ H, i ≤ xs.length → Pv i σ H → SqT K H a xs)
    (hs : ∀ i x σ H, xs[i]? = some x → Pv i σ H → g x σ H fun σ2 H2 => t { D with nx := Pv (i + 1), ct := Pv (i + 1), bk := D.nx } σ2 H2) (hd : ∀ σ H, Pv xs.length σ H → D.nx σ H) : ForT K g t D σ (.ref a) H := ⟨a, rfl, ⟨xs, h⟩, for_tup Pv h0 hl hs hd⟩
theorem forR {n : Int} {g : TG} (h0' : 0 ≤ n) (h1 : n < 2 ^ 62) (Pv : Nat → L2.St → Hp → Prop) (h0 : Pv 0 σ H)
    (hs : ∀ i σ H, i < n.toNat → Pv i σ H → g (.int i) σ H fun σ2 H2 => t { D with nx := Pv (i + 1), ct := Pv (i + 1), bk := D.nx } σ2 H2) (hd : ∀ σ H, Pv n.toNat σ H → D.nx σ H) : ForR g t D σ [.int n] H :=
  ⟨n, rfl, by omega, h1, for_range (lo := 0) Pv h0 (fun i σ H a b => by rw [Int.zero_add]; exact hs i σ H a b) hd⟩
theorem forR2 {m n : Int} {g : TG} (hm0 : 0 ≤ m) (hm1 : m < 2 ^ 62) (hn0 : 0 ≤ n) (h1 : n < 2 ^ 62) (Pv : Nat → L2.St → Hp → Prop) (h0 : Pv 0 σ H)
    (hs : ∀ i σ H, i < (n - m).toNat → Pv i σ H → g (.int (m + i)) σ H fun σ2 H2 => t { D with nx := Pv (i + 1), ct := Pv (i + 1), bk := D.nx } σ2 H2) (hd : ∀ σ H, Pv (n - m).toNat σ H → D.nx σ H) : ForR2 g t D σ [.int m, .int n] H :=
  ⟨m, n, rfl, ⟨by omega, by omega, by omega, h1⟩, for_range (lo := m) Pv h0 hs hd⟩
def LcL (K : PySem.W.Frag) (g : TG) (tt : TT) (te : TE) (vs : List Nat) (σ : L2.St) (x : V) (H : Hp) (Q : VK) : Prop := ∃ a, x = .ref a ∧ (∃ xs, SqL K H a xs) ∧ tLc (fun _ H R => R (Itl K a) H) g tt te vs σ H Q
def LcT (K : PySem.W.Frag) (g : TG) (tt : TT) (te : TE) (vs : List Nat) (σ : L2.St) (x : V) (H : Hp) (Q : VK) : Prop := ∃ a, x = .ref a ∧ (∃ xs, SqT K H a xs) ∧ tLc (fun _ H R => R (Itt K a) H) g tt te vs σ H Q
def LcR (g : TG) (tt : TT) (te : TE) (vs : List Nat) (σ : L2.St) (xs : List V) (H : Hp) (Q : VK) : Prop := ∃ j : Int, xs = [.int j] ∧ -(2 ^ 62) ≤ j ∧ j < 2 ^ 62 ∧ tLc (fun _ H R => R (Itr 0 j.toNat) H) g tt te vs σ H Q
theorem i_lcL {tl : TE} {g : TG} {tt : TT} {vs : List Nat} (q : tl σ H fun x H1 => LcL K g tt te vs σ x H1 Q) : tLc (iList K tl) g tt te vs σ H Q := q
theorem i_lcT {tl : TE} {g : TG} {tt : TT} {vs : List Nat} (q : tl σ H fun x H1 => LcT K g tt te vs σ x H1 Q) : tLc (iTup K tl) g tt te vs σ H Q := q
theorem i_lcR {ts : TA} {g : TG} {tt : TT} {vs : List Nat} (q : ts σ H fun x H1 => LcR g tt te vs σ x H1 Q) : tLc (iRng1 ts) g tt te vs σ H Q := q
/-- the end of a turn: the item goes into the new list, or not -/
def LcE (te : TE) (C : Addr) (N : Hp → Prop) (σ : L2.St) (b : Bool) (H : Hp) : Prop := if b = true then te σ H fun y H4 => ∃ acc, H4 C = some (.lst acc) ∧ acc.length < sizeLine ∧ N (upd H4 C (.lst (acc ++ [y]))) else N H
/-- the turn's own test -/
def LcW (tt : TT) (te : TE) (C : Addr) (N : Hp → Prop) (s0 : L2.St) (vs : List Nat) (σ : L2.St) (H : Hp) : Prop := wipe σ vs = wipe s0 vs ∧ tt σ H fun b H3 => LcE te C N σ b H3
theorem lcL {a : Addr} {xs : List V} {g : TG} {tt : TT} {vs : List Nat} (h : SqL K H a xs) (Pv : Addr → Nat → Hp → Prop) (h0 : ∀ C, H C = none → Pv C 0 (upd H C (.lst []))) (hl : ∀ C i H', H C = none → Pv C i H' → SqL K H' a xs)
    (hs : ∀ C i x H', H C = none → xs[i]? = some x → Pv C i H' → g x (wipe σ vs) H' fun σ2 H2 => LcW tt te C (Pv C (i + 1)) σ vs σ2 H2) (hd : ∀ C H', H C = none → Pv C xs.length H' → Q (.ref C) H') : LcL K g tt te vs σ (.ref a) H Q :=
  ⟨a, rfl, ⟨xs, h⟩, fun C nC => lc_list (Pv C) (h0 C nC) (fun i H' _ p => hl C i H' nC p) (fun i x H' e p => hs C i x H' nC e p) (fun H' p => hd C H' nC p)⟩
theorem lcT {a : Addr} {xs : List V} {g : TG} {tt : TT} {vs : List Nat} (h : SqT K H a xs) (Pv : Addr → Nat → Hp → Prop) (h0 : ∀ C, H C = none → Pv C 0 (upd H C (.lst []))) (hl : ∀ C i H', H C = none → Pv C i H' → SqT K H' a xs)
    (hs : ∀ C i x H', H C = none → xs[i]? = some x → Pv C i H' → g x (wipe σ vs) H' fun σ2 H2 => LcW tt te C (Pv C (i + 1)) σ vs σ2 H2) (hd : ∀ C H', H C = none → Pv C xs.length H' → Q (.ref C) H') : LcT K g tt te vs σ (.ref a) H Q :=
  ⟨a, rfl, ⟨xs, h⟩, fun C nC => lc_tup (Pv C) (h0 C nC) (fun i H' _ p => hl C i H' nC p) (fun i x H' e p => hs C i x H' nC e p) (fun H' p => hd C H' nC p)⟩
theorem lcR {n : Int} {g : TG} {tt : TT} {vs : List Nat} (h0' : 0 ≤ n) (h1 : n < 2 ^ 62) (Pv : Addr → Nat → Hp → Prop) (h0 : ∀ C, H C = none → Pv C 0 (upd H C (.lst [])))
    (hs : ∀ C i H', H C = none → i < n.toNat → Pv C i H' → g (.int i) (wipe σ vs) H' fun σ2 H2 => LcW tt te C (Pv C (i + 1)) σ vs σ2 H2) (hd : ∀ C H', H C = none → Pv C n.toNat H' → Q (.ref C) H') : LcR g tt te vs σ [.int n] H Q :=
  ⟨n, rfl, by omega, h1, fun C nC => lc_range (lo := 0) (Pv C) (h0 C nC) (fun i H' hi p => by rw [Int.zero_add]; exact hs C i H' nC hi p) (fun H' p => hd C H' nC p)⟩
theorem i_lcw {tt : TT} {te : TE} {C : Addr} {N : Hp → Prop} {s0 : L2.St} {vs : List Nat} (e : wipe σ vs = wipe s0 vs) (q : tt σ H fun b H3 => LcE te C N σ b H3) : LcW tt te C N s0 vs σ H := ⟨e, q⟩
def LcP (C : Addr) (N : Hp → Prop) (y : V) (H : Hp) : Prop := ∃ acc, H C = some (.lst acc) ∧ acc.length < sizeLine ∧ N (upd H C (.lst (acc ++ [y])))
theorem i_lce {te : TE} {C : Addr} {N : Hp → Prop} (q : te σ H fun y H4 => LcP C N y H4) : LcE te C N σ true H := i_t (A := te σ H fun y H4 => LcP C N y H4) (B := N H) q
theorem i_lcf {te : TE} {C : Addr} {N : Hp → Prop} (q : N H) : LcE te C N σ false H := i_f (A := te σ H fun y H4 => LcP C N y H4) q
theorem i_lcd {c : Prop} [Decidable c] {te : TE} {C : Addr} {N : Hp → Prop} (h1 : c → te σ H fun y H4 => LcP C N y H4) (h2 : ¬ c → N H) : LcE te C N σ (decide c) H := by
  by_cases h : c
  · rw [decide_eq_true h]; exact i_lce (h1 h)
  · rw [decide_eq_false h]; exact i_lcf (h2 h)
theorem i_lcb {b : Bool} {te : TE} {C : Addr} {N : Hp → Prop} (h1 : b = true → te σ H fun y H4 => LcP C N y H4) (h2 : b = false → N H) : LcE te C N σ b H := by
  cases b with
  | true => exact i_lce (h1 rfl)
  | false => exact i_lcf (h2 rfl)
theorem i_lcP {c : Prop} [Decidable c] {te : TE} {C : Addr} {N : Hp → Prop} (h : c) (q : te σ H fun y H4 => LcP C N y H4) : LcE te C N σ (decide c) H := by rw [decide_eq_true h]; exact i_lce q
theorem i_lcN {c : Prop} [Decidable c] {te : TE} {C : Addr} {N : Hp → Prop} (h : ¬ c) (q : N H) : LcE te C N σ (decide c) H := by rw [decide_eq_false h]; exact i_lcf q
theorem i_lcnP {c : Prop} [Decidable c] {te : TE} {C : Addr} {N : Hp → Prop} (h : c) (q : N H) : LcE te C N σ (!decide c) H := by rw [decide_eq_true h]; exact i_lcf q
theorem i_lcnN {c : Prop} [Decidable c] {te : TE} {C : Addr} {N : Hp → Prop} (h : ¬ c) (q : te σ H fun y H4 => LcP C N y H4) : LcE te C N σ (!decide c) H := by rw [decide_eq_false h]; exact i_lce q
theorem i_lcnd {c : Prop} [Decidable c] {te : TE} {C : Addr} {N : Hp → Prop} (h1 : ¬ c → te σ H fun y H4 => LcP C N y H4) (h2 : c → N H) : LcE te C N σ (!decide c) H := by
  by_cases h : c
  · exact i_lcnP h (h2 h)
  · exact i_lcnN h (h1 h)
theorem i_yes {P : Bool → Hp → Prop} (q : P true H) : tYes σ H P := q
/-- the item is put: the new list is open at C -/
theorem lcp {G : Hp} {C : Addr} {N : Hp → Prop} {acc : List V} {v : V} (t : At G H C (.lst acc)) (hl : acc.length ≤ 100000) (q : N (upd H C (.lst (acc ++ [v])))) : LcP C N v H := ⟨acc, t.h, Nat.lt_of_le_of_lt hl (by decide), q⟩
/-! ### what is new -/
variable {X0 : Addr → Prop} {G0 H0 G : Hp}
theorem newL {xs : List V} (g : Gr X0 G0 H0 G H) (hl : xs.length ≤ 100000) (k : ∀ p H', H p = none → H0 p = none → Gr No G H G H' → Gr X0 G0 H0 G H' → At G H' p (.lst xs) → Q (.ref p) H') : NewL xs H Q :=
  ⟨Nat.le_trans hl (by decide), fun p np => k p _ np (g.fresh np) (Gr.new (Gr.refl g.sub) np) (g.new np) (At.of g np)⟩
theorem newT {xs : List V} (g : Gr X0 G0 H0 G H) (hl : xs.length ≤ 100000) (k : ∀ p G' H', H p = none → H0 p = none → Gr No G H G' H' → Gr X0 G0 H0 G' H' → SqT K G' p xs → Q (.ref p) H') : NewT xs H Q :=
  ⟨Nat.le_trans hl (by decide), fun p np => k p _ _ np (g.fresh np) (Gr.pub (Gr.refl g.sub) np) (g.pub np) (.inl (.inl upd_same))⟩
/-- a new list, closed at once -/
theorem newLC {xs : List V} (g : Gr X0 G0 H0 G H) (hl : xs.length ≤ 100000) (k : ∀ p G' H', H p = none → H0 p = none → Gr No G H G' H' → Gr X0 G0 H0 G' H' → G' p = some (.lst xs) → Q (.ref p) H') : NewL xs H Q :=
  ⟨Nat.le_trans hl (by decide), fun p np => k p _ _ np (g.fresh np) (Gr.pub (Gr.refl g.sub) np) (g.pub np) upd_same⟩
/-- a new tuple, left open -/
theorem newTO {xs : List V} (g : Gr X0 G0 H0 G H) (hl : xs.length ≤ 100000) (k : ∀ p H', H p = none → H0 p = none → Gr No G H G H' → Gr X0 G0 H0 G H' → At G H' p (.tup xs) → Q (.ref p) H') : NewT xs H Q :=
  ⟨Nat.le_trans hl (by decide), fun p np => k p _ np (g.fresh np) (Gr.new (Gr.refl g.sub) np) (g.new np) (At.of g np)⟩
/-! ### built-in functions, by names of our own -/
def rLen (K : PySem.W.Frag) : List V → Hp → VK → Prop := fun xs H Q => ∃ p ys, xs = [.ref p] ∧ (SqL K H p ys ∨ SqT K H p ys) ∧ Q (.int (ys.length : Nat)) H
theorem cl_len {X : Cx} : CallR X (.builtin "len") (rLen X.K) := call_len_seq
theorem i_lenL {p : Addr} {ys : List V} (h : SqL K H p ys) (q : Q (.int (ys.length : Nat)) H) : rLen K [.ref p] H Q := ⟨p, ys, rfl, .inl h, q⟩
theorem i_lenT {p : Addr} {ys : List V} (h : SqT K H p ys) (q : Q (.int (ys.length : Nat)) H) : rLen K [.ref p] H Q := ⟨p, ys, rfl, .inr h, q⟩
def rInt : List V → Hp → VK → Prop := fun xs H Q => (∃ i, xs = [.int i] ∧ Q (.int i) H) ∨ ∃ k, xs = [.bl k] ∧ Q (.int (if k then 1 else 0)) H
theorem cl_int {X : Cx} : CallR X (.type "int") rInt := call_int1
theorem i_intI (q : Q (.int i) H) : rInt [.int i] H Q := .inl ⟨i, rfl, q⟩
theorem i_intB (q : Q (.int (if b then 1 else 0)) H) : rInt [.bl b] H Q := .inr ⟨b, rfl, q⟩
def rList (K : PySem.W.Frag) : List V → Hp → VK → Prop := fun xs H Q => ∃ p ys, xs = [.ref p] ∧ (SqL K H p ys ∨ SqT K H p ys) ∧ ∀ l, H l = none → Q (.ref l) (upd H l (.lst ys))
theorem cl_list {X : Cx} : CallR X (.type "list") (rList X.K) := call_list_of
theorem i_listL {p : Addr} {ys : List V} (h : SqL K H p ys) (hl : ys.length ≤ sizeLine) (q : NewL ys H Q) : rList K [.ref p] H Q := ⟨p, ys, rfl, .inl h, q.2⟩
def rTuple (K : PySem.W.Frag) : List V → Hp → VK → Prop := fun xs H Q => ∃ p ys, xs = [.ref p] ∧ ((SqL K H p ys ∧ ∀ l, H l = none → Q (.ref l) (upd H l (.tup ys))) ∨ (SqT K H p ys ∧ Q (.ref p) H))
theorem cl_tuple {X : Cx} : CallR X (.type "tuple") (rTuple X.K) := call_tuple_of
theorem i_tupleL {p : Addr} {ys : List V} (h : SqL K H p ys) (q : NewT ys H Q) : rTuple K [.ref p] H Q := ⟨p, ys, rfl, .inl ⟨h, q.2⟩⟩
theorem i_cat {l c : Addr} {xs zs : List V} (h1 : H l = some (.lst xs)) (h2 : H c = some (.lst zs)) (q : NewL (xs ++ zs) H Q) : rCat (.ref l) (.ref c) H Q := ⟨l, c, xs, zs, rfl, rfl, h1, h2, by rw [← List.length_append]; exact q.1, q.2⟩
theorem i_rep {l : Addr} {k : Int} {xs : List V} (h : H l = some (.lst xs)) (h0 : 0 ≤ k) (h1 : k ≤ 100000) (hl : xs.length * k.toNat ≤ 100000) (q : NewL (List.replicate k.toNat xs).flatten H Q) : rRep (.ref l) (.int k) H Q :=
  ⟨l, k, xs, rfl, rfl, h, by omega, by omega, Nat.le_trans hl (by decide), q.2⟩
def LRg (x : V) (H : Hp) (Q : VK) : Prop := ∃ n, x = .int n ∧ RgOk 0 n ∧ ∀ q, H q = none → Q (.ref q) (upd H q (.lst (rgV 0 n)))
theorem i_lrg (q : ta σ H fun x H1 => LRg x H1 Q) : tLstRg (tRg1 ta) σ H Q := q
theorem lrg {n : Int} (h0 : 0 ≤ n) (h1 : n ≤ 100000) (q : NewL (rgV 0 n) H Q) : LRg (.int n) H Q := ⟨n, rfl, RgOk.of_le (by omega) (by omega) (by omega) (by omega), q.2⟩
theorem i_slL {a : Addr} {xs : List V} {lo hi : Option Int} (h : SqL K H a xs) (q : NewL (cutV xs lo hi) H Q) : rSlL K (.ref a) lo hi H Q := ⟨a, xs, rfl, h, q.2⟩
theorem i_slT {a : Addr} {xs : List V} {lo hi : Option Int} (h : SqT K H a xs) (n : ¬ (HT.sIx xs.length 0 lo = 0 ∧ HT.sIx xs.length xs.length hi = xs.length)) (q : NewT (cutV xs lo hi) H Q) : rSlT K (.ref a) lo hi H Q := ⟨a, xs, rfl, h, n, q.2⟩
theorem i_append {l : Addr} {xs : List V} {y : V} (h : H l = some (.lst xs)) (hl : xs.length ≤ 100000) (q : Q .non (upd H l (.lst (xs ++ [y])))) : rAppend (.ref l) [y] H Q := ⟨l, xs, y, rfl, rfl, h, Nat.lt_of_le_of_lt hl (by decide), q⟩
theorem tyL {a : Addr} {xs : List V} (h : H a = some (.lst xs)) : tyV K "list" (.ref a) H := .inl ⟨rfl, _, .inl (.inl h)⟩
end
theorem atN {α : Type} {xs : List α} {i : Int} {v : α} {k : Nat} (e : i = (k : Int)) (h : xs[k]? = some v) : atI xs i = some v := by rw [e]; exact atI_nat h
theorem atPick {α : Type} {xs : List α} {n : Int} (h0 : 0 ≤ n) (h1 : n < xs.length) : ∃ v, v ∈ xs ∧ atI xs n = some v := by
  have h : n.toNat < xs.length := by omega
  exact ⟨xs[n.toNat], List.getElem_mem h, atN (k := n.toNat) (by omega) (List.getElem?_eq_getElem h)⟩
theorem ixN_nat {n k : Nat} {i : Int} (e : i = (k : Int)) (h : k < n) : ixN n i = some k := by
  subst e
  unfold ixN
  rw [if_pos (Int.natCast_nonneg k), if_pos (by omega)]
  rw [Int.toNat_natCast]
end Z
namespace Z
open PySem PySem.Spec PyProof.Rows L2
theorem map_at {α β : Type} {g : α → β} {xs : List α} {i : Nat} {y : β} (h : (xs.map g)[i]? = some y) : ∃ x, xs[i]? = some x ∧ y = g x := by
  rw [List.getElem?_map] at h
  cases e : xs[i]? with
  | none => rw [e] at h; cases h
  | some x => rw [e] at h; exact ⟨x, rfl, (Option.some.inj h).symm⟩
theorem i_start {t : TS} {D : Ends} {σ σ' : L2.St} {H : Hp} (e : σ = σ') (h : t D σ' H) : t D σ H := e ▸ h
/-! ### a def as callers see it -/
structure Cal (P : Program) (w : World) (K : PySem.W.Frag) (mg : Str → Option Value) (base : Heap) (x : Str) (k : Nat) (ps : List Str) (sp : Sp) : Prop where
  ex : ∃ (f : Addr) (fd : FuncData), mg x = some (.ref f) ∧ PySem.W.keepIn K (.ref f) = true ∧ Binds K fd ps [] ∧ FnOk P w K mg base CX0 k f fd ps sp
theorem Cal.of {P : Program} {w : World} {K : PySem.W.Frag} {mg : Str → Option Value} {base : Heap} {x q : Str} {st : Stmt} {k : Nat} {ps : List Str} {sp : Sp} {f : Addr} {fd : FuncData} (F : Fun K x q st f fd) (g : mg x = some (.ref f)) (b : Binds K fd ps []) (ok : FnOk P w K mg base CX0 k f fd ps sp) : Cal P w K mg base x k ps sp := ⟨f, fd, g, F.kp, b, ok⟩
section
variable {X : Cx}
theorem pc {x : Str} {k : Nat} {ps : List Str} {sp : Sp} {e : Expr} {es : List Expr} {t : TA} {p pos : Pos} (c : Cal X.prog X.w X.K X.mg X.base x k ps sp) (hr : Room k X.A) (ha : PA X (e :: es) t) (hg : Gl X x := by rfl) (hdb : (x == ("__debug__" : Str)) = false := by decide)
    (hs : starEach (e :: es) X.env = (false, eval e X.env) :: starEach es X.env := by rfl) (hpl : (backTo pos (starEach es X.env)).any (·.1) = false := by rfl) : PE X (.Call (.Name x p) (e :: es) [] pos) (tCall sp [] E0 t) := by
  obtain ⟨f, fd, hm, hk, hb, F⟩ := c.ex
  exact pe_call F hr hg hm hk hb .nil pass0 ha hdb hs hpl
theorem pgc {x : Str} {i : Int} {pos : Pos} (h : ∃ t, X.mg x = some (.int i t)) (hg : Gl X x := by rfl) (hd : (x == ("__debug__" : Str)) = false := by decide) : PE X (.Name x pos) (tC (.int i)) := by
  obtain ⟨t, h⟩ := h
  exact pe_glob hg h ⟨t, rfl⟩ hd
end
/-! ### what a law draws from -/
def Dice (K : PySem.W.Frag) (G H : Hp) (d : Addr) : Prop := ∃ (sa : Addr) (ns : List Int) (i m r : Int), At G H d (.lst [.ref sa, .int i, .int m, .int r]) ∧ SqL K G sa (ns.map V.int) ∧ 0 ≤ i
theorem Dice.mono {K : PySem.W.Frag} {G H G1 H1 : Hp} {X : Addr → Prop} {d : Addr} (D : Dice K G H d) (a : Gr X G H G1 H1) (n : ¬ X d) : Dice K G1 H1 d := by
  obtain ⟨sa, ns, i, m, r, t, s, h⟩ := D
  exact ⟨sa, ns, i, m, r, t.mono a n, sql a.gg s, h⟩
theorem Dice.monoN {K : PySem.W.Frag} {G H G1 H1 : Hp} {d : Addr} (D : Dice K G H d) (a : Gr No G H G1 H1) : Dice K G1 H1 d := D.mono a fun z => z
section
variable {K : PySem.W.Frag} {G0 H0 G H : Hp} {X : Addr → Prop} {d : Addr} {m : Int} {Q : VK} {E : XK}
end
theorem Dice.off {K : PySem.W.Frag} {G H : Hp} {d l : Addr} {u : HO} (D : Dice K G H d) (n : ¬ l = d) : Dice K G (upd H l u) d := by
  obtain ⟨sa, ns, i, m, r, t, s, h⟩ := D
  exact ⟨sa, ns, i, m, r, t.off fun e => n e.symm, s, h⟩
theorem Dice.close {K : PySem.W.Frag} {G H : Hp} {d l : Addr} {u : HO} (D : Dice K G H d) (t : At G H l u) (n : ¬ l = d) : Dice K (upd G l u) H d := by
  obtain ⟨sa, ns, i, m, r, td, s, h⟩ := D
  exact ⟨sa, ns, i, m, r, td.close fun e => n e.symm, sql (same_close t) s, h⟩
theorem Dice.ne {K : PySem.W.Frag} {G H : Hp} {d l : Addr} (D : Dice K G H d) (h : H l = none) : ¬ l = d := fun e => by
  obtain ⟨_, _, _, _, _, t, _⟩ := D
  rw [e, t.h] at h
  cases h
def spDice (K : PySem.W.Frag) : Sp := fun vs H Q _ => ∃ (s : Addr) (ns : List Int) (G : Hp), vs = [.ref s] ∧ Same G H ∧ SqL K G s (ns.map V.int) ∧ ∀ p H', Gr No G H G H' → Dice K G H' p → H p = none → Q (.ref p) H'
def spNext (K : PySem.W.Frag) : Sp := fun vs H Q _ => ∃ (G : Hp) (d : Addr) (m : Int), vs = [.ref d, .int m] ∧ Same G H ∧ Dice K G H d ∧ 0 < m ∧ m < 1073741824 ∧ ∀ n H', Gr (· = d) G H G H' → Dice K G H' d → 0 ≤ n → n < m → Q (.int n) H'
theorem i_next {K : PySem.W.Frag} {G0 H0 G H : Hp} {X : Addr → Prop} {d : Addr} {m : Int} {Q : VK} {E : XK} (g : Gr X G0 H0 G H) (D : Dice K G H d) (hd : X d ∨ H0 d = none) (h0 : 0 < m) (h1 : m < 1073741824)
    (k : ∀ n H', Gr (· = d) G H G H' → Gr X G0 H0 G H' → Dice K G H' d → 0 ≤ n → n < m → Q (.int n) H') : spNext K ([.ref d, .int m] ++ []) H Q E :=
  ⟨G, d, m, rfl, g.sub, D, h0, h1, fun n H' s D' a b => k n H' s (g.seq s fun c e => by rw [e]; exact hd) D' a b⟩
/-! ### words, loads, plans -/
def vW (w : Int × Int × Int) : List V := [.int w.1, .int w.2.1, .int w.2.2]
def okW (w : Int × Int × Int) : Prop := 1 ≤ w.1 ∧ w.1 ≤ 8 ∧ 0 ≤ w.2.1 ∧ w.2.1 ≤ 8 ∧ 1 ≤ w.2.2 ∧ w.2.2 ≤ 9
structure OkWs (ws : List (Int × Int × Int)) : Prop where
  l1 : 1 ≤ ws.length
  l4 : ws.length ≤ 4
  ok : ∀ w ∈ ws, okW w
structure OkLd (ld : List Int) : Prop where
  l1 : 1 ≤ ld.length
  l12 : ld.length ≤ 12
  bit : ∀ x ∈ ld, x = 0 ∨ x = 1
  free : 0 ∈ ld
def okT (n : Nat) (o : Option Int) : Prop := ∀ i, o = some i → 0 ≤ i ∧ i < (n : Int)
structure OkPl (n : Nat) (hd lp : List (Option Int)) : Prop where
  h40 : hd.length ≤ 2000
  l1 : 1 ≤ lp.length
  l40 : lp.length ≤ 2000
  hok : ∀ o ∈ hd, okT n o
  lok : ∀ o ∈ lp, okT n o
def Pl (K : PySem.W.Frag) (G : Hp) (p : Addr) (hd lp : List (Option Int)) : Prop := ∃ a b, SqT K G p [.ref a, .ref b] ∧ G a = some (.lst (hd.map vO)) ∧ G b = some (.lst (lp.map vO))
theorem Pl.mono {K : PySem.W.Frag} {G G' : Hp} {p : Addr} {hd lp : List (Option Int)} (e : Same G G') (h : Pl K G p hd lp) : Pl K G' p hd lp := by
  obtain ⟨a, b, h1, h2, h3⟩ := h
  exact ⟨a, b, sqt e h1, e _ _ h2, e _ _ h3⟩
def spMemory (K : PySem.W.Frag) : Sp := fun vs H Q _ => ∃ (G : Hp) (d : Addr) (m : Int), vs = [.ref d, .int m] ∧ Same G H ∧ Dice K G H d ∧ 0 < m ∧ m ≤ 4 ∧
  ∀ (ws : List (Int × Int × Int)) p G' H', Gr (· = d) G H G' H' → Dice K G' H' d → H p = none → TupL K G' p (ws.map vW) → OkWs ws → (ws.length : Int) ≤ m → Q (.ref p) H'
def spLoad (K : PySem.W.Frag) : Sp := fun vs H Q _ => ∃ (G : Hp) (d : Addr) (m : Int), vs = [.ref d, .int m] ∧ Same G H ∧ Dice K G H d ∧ 0 < m ∧ m ≤ 12 ∧
  ∀ (ld : List Int) p G' H', Gr (· = d) G H G' H' → Dice K G' H' d → H p = none → G' p = some (.lst (ld.map V.int)) → OkLd ld → (ld.length : Int) ≤ m → Q (.ref p) H'
def spPlan (K : PySem.W.Frag) : Sp := fun vs H Q _ => ∃ (G : Hp) (d : Addr) (m : Int), vs = [.ref d, .int m] ∧ Same G H ∧ Dice K G H d ∧ 0 < m ∧ m ≤ 4 ∧
  ∀ (hd lp : List (Option Int)) p G' H', Gr (· = d) G H G' H' → Dice K G' H' d → Pl K G' p hd lp → OkPl m.toNat hd lp → hd.length ≤ 40 → lp.length ≤ 40 → Q (.ref p) H'
end Z
set_option Elab.async false
set_option linter.all false
set_option maxRecDepth 100000
set_option maxHeartbeats 4000000
/-! Own exceptions layer: an own exception made (its context None), defs called while it is handled, comprehensions there, a lambda handed to a def. -/
namespace Z
open PySem PySem.Spec PyProof.Rows L2 HotX L2H

/-! ### lists walked while an exception is handled -/
section
variable {prog : Program} {w : World} {A : Around} {E : Value → Shared → Prop} {s : Shared}
/-- the end of a list's iterator, an exception being handled -/
theorem list_end_hot {it l x1 : Addr} {i : Nat} {items : Array Value} {Q : Option Value → Shared → Prop} (hot : HotAt A x1 s.heap) (hne : x1 ≠ it) (hit : s.heap.IsListIter it l i) (hl : s.heap.IsList l items) (hx : items[i]? = none)
    (hQ : ∀ h', (∀ b o, b ≠ it → s.heap.get? b = some o → h'.get? b = some o) → Q none { s with heap := h' }) : wpAny (model prog w) A (pyNext (.ref it)) Q E s := by
  obtain ⟨oi, oi1, oi2, oi3⟩ := id hit
  obtain ⟨ol, ol1, _, nl, ol3⟩ := hl
  obtain ⟨hh, ox, vx, hx1, dx1, cx1⟩ := hot
  unfold pyNext
  refine wpAny_bind (wpAny_attempt (wpAny_callSpecial?_slot (name := Str.ofString "__next__") hit.typeIs slot_listiter_next (wpAny_call_entry slot_listiter_next hit.typeIs entry_listiter_next ?_ (args_listiter_next _))))
  show wpAny _ _ (field (.ref it) 0 >>= _) _ _ s
  refine wpAny_bind (wpAny_field oi1 oi3 (x := .ref l) rfl ?_)
  show wpAny _ _ (if (Value.ref l == Value.none) = true then _ else _) _ _ s
  have z0 : ¬ ((Value.ref l == Value.none) = true) := Bool.false_ne_true
  rw [if_neg z0]
  show wpAny _ _ (field (.ref it) 1 >>= _) _ _ s
  refine wpAny_bind (wpAny_field oi1 oi3 (x := .int i 0) rfl ?_)
  show wpAny _ _ (seqItems? (.ref l) >>= _) _ _ s
  refine wpAny_bind (wpAny_seqItems ol1 ol3 ?_)
  simp only [Int.toNat_natCast, hx]
  refine wpAny_bind (wpAny_rule (wpAny_bind (wpAny_setField oi1 oi3 (by simp) ?_)))
  show wpAny _ _ (newExc (.type "StopIteration") [] >>= _) _ _ _
  refine wpAny_bind ?_
  simp only [newExc, newTuple]
  refine wpAny_bind (wpAny_newObj_type ?_ (by size_fits))
  refine wpAny_bind (m := firstArgMember _ _) (wpAny_of_eq (a := Value.none) (by first | rfl | (simp only [firstArgMember]; rfl)) ?_)
  refine wpAny_newObj_type ?_ (by size_fits)
  have kx : ∀ (f : Obj → Obj), (s.heap.update it f).get? x1 = some ox := fun f => (Heap.get?_update_other _ _ (Ne.symm hne)).trans hx1
  refine raiseNew_hot ⟨hh, ox, vx, Heap.get?_push_of_some _ (Heap.get?_push_of_some _ (kx _)), dx1, cx1⟩ (Nat.ne_of_lt (Heap.lt_size (Heap.get?_push_of_some _ (kx _)))) (Heap.get?_push_size _ rfl) rfl (by first | (simp; done) | (simp; omega) | (simp only [Array.size_append]; simp; omega)) ?_
  refine wpAny_bind (wpAny_isInstance (T := "StopIteration") (b := true) ⟨_, Heap.get?_update_self _ (Heap.get?_push_size _ rfl) rfl, rfl⟩ isSubtype_stop ?_)
  refine wpAny_pure (hQ _ fun b o nb e => ?_)
  have e1 : (s.heap.update it (Obj.mapFields (·.setIfInBounds 0 .none))).get? b = some o := (Heap.get?_update_other _ _ (Ne.symm nb)).trans e
  rw [Heap.get?_update_other _ _ (Nat.ne_of_gt (Heap.lt_size (Heap.get?_push_of_some _ e1)))]
  exact Heap.get?_push_of_some _ (Heap.get?_push_of_some _ e1)
end
theorem turn_listH {P : Program} {w : World} {K : PySem.W.Frag} {tg : Expr} (a it : Addr) : TurnH P w K tg (Itl K a) [it] it (fun i h => h.IsListIter it a i) where
  mem := List.mem_singleton.mpr rfl
  obj := fun i h st b hb => by
    rw [List.mem_singleton.mp hb]
    obtain ⟨o, e, c, d⟩ := st
    exact ⟨o, e, fun v z => by rw [d] at z; cases z⟩
  keep := fun i h h' st k => st.at fun o e => k it (List.mem_singleton.mpr rfl) o e
  item := by
    intro X eP ew eK hc i pins s σ H E I hf st hg
    subst eP ew eK
    obtain ⟨xs, x, hq, hx⟩ := hg
    obtain ⟨its, rv, p, hz⟩ := I.list hq
    obtain ⟨u, hu, ru⟩ := rv.get hx
    have ff := hf it (List.mem_singleton.mpr rfl)
    refine wpAny_pyNext_list_item st p.isList (x := u) (by simpa using hu) fun h' st' sb => ?_
    have I1 : Inv X pins σ H { s with heap := h' } := I.turned (t' := s.toks) (fun b o hb e => (sb.2 b hb).trans e) ff.1 ff.2.1 ff.2.2.2.1 ff.2.2.2.2.1 ff.2.2.2.2.2
    obtain ⟨o, e, c, d⟩ := id st'
    refine ⟨u, rfl, go_of (s := { s with heap := h' }) e c d (by decide) ⟨x, H, I1, ru, ⟨rfl, fun ys hy => ?_⟩, st', fun b hb => (hf b hb).1⟩⟩
    rw [I.list_inj hy hq]
    exact hx
  done := by
    intro X eP ew eK hc i pins s σ H E I hf st hg
    subst eP ew eK
    obtain ⟨xs, hq, hx⟩ := hg
    obtain ⟨its, rv, p, hz⟩ := I.list hq
    have ff := hf it (List.mem_singleton.mpr rfl)
    have hl := rv.length
    obtain ⟨p1, ⟨hh, v1, e1, c1⟩, hp1⟩ := hc
    have pp := I.pin p1 (List.mem_append_left _ hp1)
    exact list_end_hot ⟨hh, p1.2, v1, pp.1, e1, c1⟩ (ff.2.2.2.2.2 p1 (List.mem_append_left _ hp1)) st p.isList (by simp; omega) fun h' eb => ⟨rfl, I.turned (t' := s.toks) eb ff.1 ff.2.1 ff.2.2.2.1 ff.2.2.2.2.1 ff.2.2.2.2.2⟩
  self := fun _ _ _ _ _ st h => wpAny_pyIter_listiter st h
theorem pi_listH {X : Cx} {tg l : Expr} {tl : TE} (hl : PE X l tl) : PIH X tg l (iList X.K tl) := by
  refine ⟨fun pins s σ H R I h => thn (hl.run pins s σ H _ I h) fun v s1 ⟨x, H1, I1, r1, a, ex, ⟨xs, hq⟩, q⟩ => ?_⟩
  subst ex
  obtain rfl : v = Value.ref a := r1
  obtain ⟨its, rv, p, hz⟩ := I1.list hq
  refine wpAny_pyIter_list p.isList ⟨s1.heap.objs.size, [s1.heap.objs.size], _, _, H1, rfl, I1.kept (t' := s1.toks) fun b o e => Heap.get?_push_of_some _ e, turn_listH a _, ⟨_, Heap.get?_push_size _ rfl, rfl, rfl⟩, fun b hb => ?_, q⟩
  rw [List.mem_singleton.mp hb]
  exact I1.fpOk (Nat.le_refl _) (I1.hok.fresh (Nat.le_refl _))
/-- a comprehension's block while p is handled -/
abbrev blkP (X : Cx) (p : Addr × Obj) (s : Shared) (H : Hp) (scope : Scope) (cenv : Env) (fp : List Addr) : Cx := (X.blk s H scope cenv fp).tr [p] (fun _ _ => False)
section
variable {X : Cx} {pins : List (Addr × Obj)} {σ : L2.St} {H : Hp} {s : Shared} {p : Addr × Obj}
theorem blockP {scope : Scope} {own : List (Str × Nat)} {fp : List Addr} (I : Inv X pins σ H s) (hp : p ∈ X.pn) (ok : BlkOk X.N X.env.scope scope own) (hN : X.N.Nodup) (hfp : ∀ b ∈ fp, FpOk X pins H b ∧ b < s.heap.objs.size) :
    Inv (blkP X p s H scope (compEnvC scope (cellsFrom (s.heap.objs.size + 1) scope.names (cloFrom X.env.cells scope.names [])) s.heap.objs.size X.env) fp) [] (wipe σ (own.map (·.2))) H { s with heap := pushCells (s.heap.push { cls := .type "dict", data := .dict #[] }) scope.names } := by
  have J := block_start I ok hN hfp
  have pp := I.pin p (List.mem_append_left _ hp)
  have J2 := J.pins_of (pins' := [p]) fun q hq => by
    rw [List.mem_singleton.mp hq]
    refine ⟨pushCells_keeps _ _ _ _ (Heap.get?_push_of_some _ pp.1), pp.2.1, Nat.ne_of_lt (Heap.lt_size pp.1), fun hm => ?_, pp.2.2.2.2⟩
    exact (List.mem_cons.mp (I.stkSub p.1 hm)).elim pp.2.2.1 pp.2.2.2.1
  exact J2.toTry (fun _ _ => False)
/-- [elt for tg in list if ..] while p is handled -/
theorem pe_lcH {elt tg iter : Expr} {ifs : List Expr} {scope : Scope} {own : List (Str × Nat)} {pos : Pos} {wi : TI} {g : TG} {tt : TT} {te : TE} (hp : p ∈ X.pn) (hot : Hot1 X.A p) (hN : X.N.Nodup) (hi : PIH X tg iter wi) (ok : BlkOk X.N X.env.scope scope own)
    (hg : ∀ (s : Shared) (H : Hp) (C : Addr) (cl : List (Str × Addr)) (fp : List Addr), PG (blkP X p s H scope (compEnvC scope cl C X.env) fp) tg g) (ht : ∀ (s : Shared) (H : Hp) (C : Addr) (cl : List (Str × Addr)) (fp : List Addr), PTs (blkP X p s H scope (compEnvC scope cl C X.env) fp) ifs tt)
    (he : ∀ (s : Shared) (H : Hp) (C : Addr) (cl : List (Str × Addr)) (fp : List Addr), PE (blkP X p s H scope (compEnvC scope cl C X.env) fp) elt te) (hs : ∀ x, foldedSetIterable iter X.env x = pure x := by intro _; rfl) :
    PE X (.ListComp elt [⟨tg, iter, ifs, 0⟩] scope pos) (tLc wi g tt te (own.map (·.2))) := by
  refine ⟨fun pins s σ H Q I h => ?_⟩
  rw [eval_ListComp]
  have hfree : ∀ y ∈ scope.names, y.2 = .free → ∃ c, X.env.cells.lookup y.1 = some c := fun y hy e =>
    (ok.free y hy e).elim (fun k => I.ok.has _ (.inl k)) (fun k => I.ok.has _ (.inr k))
  refine wpAny_comprehension_free (use := none) rfl hs (closure_ok hfree) ok.kind (fun y hy e => by rw [ok.uniq y hy, e]) (thn (hi.run pins s σ H _ I h) fun xv s1 a1 => thn a1 fun itv s2 a2 => ?_)
  obtain ⟨it, fp, tn, J, H2, rfl, I2, T, st2, f2, q⟩ := a2
  refine wpAny_newObj_type (newEnv_comp ?_) (Nat.zero_le _)
  have nD : H2 s2.heap.objs.size = none := I2.hok.fresh (Nat.le_refl _)
  obtain ⟨W, ⟨m0, w0⟩, turn⟩ := q s2.heap.objs.size nD
  obtain ⟨D, eD⟩ : ∃ D, s2.heap.objs.size = D := ⟨_, rfl⟩
  rw [eD] at turn w0 nD
  obtain ⟨s3, es3⟩ : ∃ s3 : Shared, ({ s2 with heap := s2.heap.push { cls := .type "list", data := .seq ([] : List Value).toArray } } : Shared) = s3 := ⟨_, rfl⟩
  have h3 : s3.heap = s2.heap.push { cls := .type "list", data := .seq ([] : List Value).toArray } := by rw [← es3]
  have I3 : Inv X pins σ (upd H2 D (.lst [])) s3 := by
    rw [← es3]
    refine I2.laid (t' := s2.toks) (fun b o e => Heap.get?_push_of_some _ e) (Nat.le_of_eq eD) ⟨Nat.zero_le _, [], 0, .nil, ?_⟩
    rw [← eD]
    exact Heap.get?_push_size _ rfl
  have f3 : ∀ b ∈ fp, FpOk X pins (upd H2 D (.lst [])) b ∧ b < s3.heap.objs.size := fun b hb => by
    obtain ⟨o, e, _⟩ := T.obj _ _ st2 b hb
    have lt := Heap.lt_size e
    refine ⟨⟨?_, (f2 b hb).2⟩, ?_⟩
    · rw [upd_ne (by rw [← eD]; exact Nat.ne_of_lt lt)]
      exact (f2 b hb).1
    · rw [h3, Heap.size_push]
      exact Nat.lt_succ_of_lt lt
  have st3 : tn 0 s3.heap := T.keep _ _ _ st2 fun b _ o e => by rw [h3]; exact Heap.get?_push_of_some _ e
  have I4 := blockP I3 hp ok hN f3
  have pg := hg s3 (upd H2 D (.lst [])) s3.heap.objs.size (cellsFrom (s3.heap.objs.size + 1) scope.names (cloFrom X.env.cells scope.names [])) fp
  have pt := ht s3 (upd H2 D (.lst [])) s3.heap.objs.size (cellsFrom (s3.heap.objs.size + 1) scope.names (cloFrom X.env.cells scope.names [])) fp
  have pe := he s3 (upd H2 D (.lst [])) s3.heap.objs.size (cellsFrom (s3.heap.objs.size + 1) scope.names (cloFrom X.env.cells scope.names [])) fp
  rw [es3, eD]
  show codeAny _ _ (.compStart _ 0 (.ref it) (.ref D) (compEnvC scope (cellsFrom (s3.heap.objs.size + 1) scope.names (cloFrom X.env.cells scope.names [])) s3.heap.objs.size X.env)) (compPost (model X.prog X.w) X.A X.xe none (EP X pins σ Q) (.ref D) s3.heap.objs.size) { s3 with heap := pushCells (s3.heap.push { cls := .type "dict", data := .dict #[] }) scope.names }
  have nfp : ∀ b ∈ fp, (upd H2 D (.lst [])) b = none := fun b hb => (f3 b hb).1.1
  obtain ⟨ce, ece⟩ : ∃ ce, compEnvC scope (cellsFrom (s3.heap.objs.size + 1) scope.names (cloFrom X.env.cells scope.names [])) s3.heap.objs.size X.env = ce := ⟨_, rfl⟩
  rw [ece] at I4 pg pt pe
  rw [ece]
  have cL : ce.locals = s3.heap.objs.size := by rw [← ece]; rfl
  obtain ⟨H3, eH3⟩ : ∃ H3, upd H2 D (.lst []) = H3 := ⟨_, rfl⟩
  rw [eH3] at I3 I4 pg pt pe w0 nfp f3
  obtain ⟨s4, es4⟩ : ∃ s4 : Shared, ({ s3 with heap := pushCells (s3.heap.push { cls := .type "dict", data := .dict #[] }) scope.names } : Shared) = s4 := ⟨_, rfl⟩
  have st4 : tn 0 s4.heap := T.keep _ _ _ st3 fun b _ o e => by rw [← es4]; exact pushCells_keeps _ _ _ _ (Heap.get?_push_of_some _ e)
  rw [es4] at I4
  rw [es4]
  have hcB : HotC (blkP X p s3 H3 scope ce fp) := ⟨p, hot, List.mem_singleton.mpr rfl⟩
  have stat : ∀ {σ' : L2.St} {H' : Hp} {s' : Shared}, Inv (blkP X p s3 H3 scope ce fp) [] σ' H' s' → (∀ b ∈ fp, H' b = none) → ∀ b ∈ fp, FpOk (blkP X p s3 H3 scope ce fp) [] H' b := fun {σ' H' s'} I' hn b hb => by
    refine ⟨hn b hb, (I'.ok.exf b hb).1, I'.ok.exfs b hb, .inl hb, fun x c e => (I'.ok.exf b hb).2 x c e, fun q hq => ?_⟩
    have eq : q = p := List.mem_singleton.mp (show q ∈ [p] by simpa using hq)
    rw [eq]
    exact (f2 b hb).2.2.2.2.2 p (List.mem_append_left _ hp)
  have loop : codeAny (model X.prog X.w) X.A (.compLoop (.ListComp elt [⟨tg, iter, ifs, 0⟩] scope pos) 0 (.ref it) (.ref D) ce) (compPost (model X.prog X.w) X.A X.xe none (EP X pins σ Q) (.ref D) s3.heap.objs.size) s4 := by
    refine compLoop_any (fun n s' => ∃ i H', Inv (blkP X p s3 H3 scope ce fp) [] (wipe σ (own.map (·.2))) H' s' ∧ tn i s'.heap ∧ (∀ b ∈ fp, H' b = none) ∧ W i n H') ?_ m0 ⟨0, H3, I4, st4, nfp, w0⟩
    rintro n s5 ⟨i, H5, I5, st5, n5, w5⟩
    rcases turn i n H5 w5 with ⟨stop, qq⟩ | ⟨go, Nx, hNx, step⟩
    · refine thnF (T.done (blkP X p s3 H3 scope ce fp) rfl rfl rfl hcB i [] s5 _ H5 (fun _ _ => False) I5 (stat I5 n5) st5 stop) fun r s6 ⟨hr, I6⟩ => ?_
      subst hr
      have I7 : Inv X pins σ H5 s6 := I3.call' (ch := fp) I6.os I6.base I6.hok I6.bare fun b hb => ⟨(f3 b hb).1.2.2.2.1, (f3 b hb).1.2.1, (f3 b hb).1.2.2.2.2.1, (f3 b hb).1.2.2.2.2.2⟩
      have nC : H5 s3.heap.objs.size = none := by rw [← cL]; exact I6.free
      obtain ⟨m, hn, _⟩ := I6.loc
      rw [show (blkP X p s3 H3 scope ce fp).env.locals = s3.heap.objs.size from cL] at hn
      have ff := I3.fpOk (Nat.le_refl _) nC
      exact ⟨m, hn, fun h'' sb => ⟨.ref D, H5, I7.turned (t' := s6.toks) (fun b o hb e => (sb.2 b hb).trans e) ff.1 ff.2.1 ff.2.2.2.1 ff.2.2.2.2.1 ff.2.2.2.2.2, rfl, qq⟩⟩
    · refine thnF (T.item (blkP X p s3 H3 scope ce fp) rfl rfl rfl hcB i [] s5 _ H5 (fun _ _ => False) I5 (stat I5 n5) st5 go) fun r s6 ⟨u, hr, h6⟩ => ?_
      subst hr
      refine thnF h6 fun _ s7 ⟨x, H7, I7, r7, y7, st7, n7⟩ => ?_
      have I7' := I7.pinned (stat I7 n7) (T.obj _ _ st7)
      refine thnF (pg.run _ s7 _ H7 x u _ I7' r7 (step x H7 y7)) fun _ s8 ⟨σ8, H8, I8, hw8, q8⟩ => ?_
      refine thnF (pt.run _ s8 σ8 H8 _ I8 q8) fun b s9 ⟨H9, I9, q9⟩ => ?_
      have fin : ∀ {s' : Shared} {H' : Hp}, Inv (blkP X p s3 H3 scope ce fp) ([] ++ pinsAt fp s7.heap) σ8 H' s' → Nx H' → ∃ m, m < n ∧ ∃ i H', Inv (blkP X p s3 H3 scope ce fp) [] (wipe σ (own.map (·.2))) H' s' ∧ tn i s'.heap ∧ (∀ b ∈ fp, H' b = none) ∧ W i m H' := fun {s' H'} I' nx => by
        obtain ⟨m', hm, w'⟩ := hNx H' nx
        have pin' : ∀ b ∈ fp, ∀ o, s7.heap.get? b = some o → s'.heap.get? b = some o ∧ H' b = none := fun b hb o e =>
          have z := I'.pin (b, o) (List.mem_append_right _ (List.mem_append_right _ (mem_pinsAt hb e)))
          ⟨z.1, z.2.1⟩
        have hl : (wipe σ (own.map (·.2))).length = σ8.length := by rw [← hw8, wipe_length]
        refine ⟨m', hm, i + 1, H', (I'.unpinned (pins := [])).weak hl (fun j v e => by rw [← hw8] at e; exact (wipe_some e).1), T.keep _ _ _ st7 fun b hb o e => (pin' b hb o e).1, fun b hb => ?_, w'⟩
        obtain ⟨o, e, _⟩ := T.obj _ _ st7 b hb
        exact (pin' b hb o e).2
      cases b with
      | false => exact fin I9 q9
      | true =>
        refine thnF (pe.run _ s9 σ8 H9 _ I9 q9) fun z s10 ⟨yv, H10, I10, r10, acc, hD10, hz10, nx⟩ => ?_
        exact app_ok (X := blkP X p s3 H3 scope ce fp) I10 hD10 hz10 r10 fun s11 I11 => fin I11 nx
  exact codeAny_compStart_list loop (T.self X.A 0 _ _ _ st4 loop)
end

/-! ### a def called while p is handled, its promise told of p -/
def HotFn (P : Program) (w : World) (K : PySem.W.Frag) (mg : Str → Option Value) (base : Heap) (k : Nat) (f : Addr) (fd : FuncData) (ps : List Str) (sp : Addr × Obj → Sp) : Prop :=
  (∀ p vs H Q E, sp p vs H Q E → vs.length = ps.length) ∧ ∀ (A : Around) (outer : List Env) (s : Shared) (H : Hp) (args : Args) (us : List Value) (vs : List V) (Q : VK) (E : XK) (p : Addr × Obj),
    RoomH k A → Hot1 A p → PinOk outer H s p → Env0 P w K mg base A outer s H → BindsTo s fd args (ps.zip us) → Vals vs us → sp p vs H Q E → codeAny (model P w) A (.call (.ref f) args) (CR CX0 outer P w H s Q E) s
theorem hotFn_of {P : Program} {w : World} {K : PySem.W.Frag} {mg : Str → Option Value} {base : Heap} {x qual : Str} {st : Stmt} {f : Addr} {fd : FuncData} {N ps : List Str} {k : Nat} {sp : Addr × Obj → Sp} (F : Fun K x qual st f fd) (S : FnScope N ps (defScope st)) (len : ∀ p vs H Q E, sp p vs H Q E → vs.length = ps.length)
    (hbody : ∀ (cdv : Value) (A : Around) (outer : List Env) (s : Shared) (H : Hp) (vs : List V) (Q : VK) (E : XK) (p : Addr × Obj), Hot1 A p → RoomH k (A.deeper (envOfC qual (defScope st) s.heap.objs.size f cdv)) → sp p vs H Q E →
      ∃ t, PSs (cxH CX0 P w K mg base N qual (defScope st) f cdv A outer s H E p) (defBody st) t ∧ t { nx := fun _ H' => Q .non H', rt := Q } (L2.start N vs) H) : HotFn P w K mg base (k + 1) f fd ps sp := by
  refine ⟨len, ?_⟩
  intro A outer s H args us vs Q E p hr hot pk e0 hb r hsp
  obtain ⟨oc, od, kV, doc, pm, an, cdv, ct, osl, rfl, lk, hcd⟩ := F.ex
  have kin : K.In s.heap := e0.mod.kin.keeps fun b o e => (e0.bs b o e).1
  have hkind : ∀ y ∈ ps.zip us, (defScope st).names.lookup y.1 = some .local ∨ ((defScope st).names.lookup y.1 = some .cell ∧ ((cellsFrom (s.heap.objs.size + 1) (defScope st).names []).lookup y.1).isSome = true) := by
    rintro ⟨n, v⟩ hy
    exact (S.par n (List.of_mem_zip hy).1).elim .inl fun q => .inr ⟨q, PySem.W.cellsFrom_some _ _ _ (.inl q)⟩
  refine codeAny_call_function hr.depth (kin _ _ lk) rfl S.co S.gen rfl (PySem.W.codeRec_of kin hcd) (hb _ _ _ _ (wpAny_newFunctionEnv_cells S.kind hkind fun env he s1 x => ?_))
  cases he
  refine ⟨(e0.mod.nolimit.keeps fun b o e => (e0.bs b o e).1).keeps x.toInCall.keep, codeAny_func ?_⟩
  obtain ⟨t, ht, hq⟩ := hbody cdv A outer s H vs Q E p hot (hr.deeper _) hsp
  refine wpAny_mono (ht.run [] s1 (L2.start N vs) H _ (inv_startH S pk e0 (len _ _ _ _ _ hsp) r x) hq) (fun fl s' hs => ?_) fun e s' z => z
  rcases fl with v | _ | _ | _
  all_goals first
    | (obtain ⟨v1, σ1, H1, J, rv, q⟩ := hs; exact ⟨v1, H1, J.os, J.bare, J.base, J.hok, rv, q⟩)
    | (obtain ⟨σ1, H1, J, q⟩ := hs; first | exact ⟨.non, H1, J.os, J.bare, J.base, J.hok, rfl, q⟩ | exact (False.elim q))
section
variable {X : Cx} {p : Addr × Obj}
/-- f(e, ..) while p is handled -/
theorem pe_callP {k : Nat} {f : Addr} {fd : FuncData} {ps : List Str} {sp : Addr × Obj → Sp} {spA : Sp} {x : Str} {q pos : Pos} {e : Expr} {es : List Expr} {t : TA} (F : HotFn X.prog X.w X.K X.mg X.base k f fd ps sp) (hsp : ∀ vs H Q E, spA vs H Q E → sp p vs H Q E) (hr : RoomH k X.A) (hp : p ∈ X.pn) (hot : Hot1 X.A p) (hm : X.mg x = some (.ref f)) (hk : PySem.W.keepIn X.K (.ref f) = true)
    (hb : Binds X.K fd ps []) (ha : PA X (e :: es) t) (hg : Gl X x := by rfl) (hdb : (x == ("__debug__" : Str)) = false := by decide) (he : starEach (e :: es) X.env = (false, eval e X.env) :: starEach es X.env := by rfl) (hpl : (backTo pos (starEach es X.env)).any (·.1) = false := by rfl) :
    PE X (.Call (.Name x q) (e :: es) [] pos) (tCall spA [] E0 t) := by
  refine ⟨fun pins s σ H Q I h => wpAny_Call_Name_kw (ld_glob I hg hm (PySem.W.callWith_K (h₀ := X.base) I.ok.mod.kin hk (thn (ha.run pos pins s σ H _ I h) fun us s1 ⟨vs, H1, I1, r, c⟩ => ⟨I1.kIn, ?_⟩) he hpl) hdb)⟩
  dsimp only at c
  rw [List.append_nil] at c
  have c := hsp _ _ _ _ c
  have hl : us.length = ps.length := r.length.symm.trans (F.1 _ _ _ _ _ c)
  have b := hb s1 us I1.kIn (by rw [List.append_nil]; exact hl)
  rw [List.append_nil] at b
  have pp := I1.pin p (List.mem_append_left _ hp)
  refine wpAny_call (codeAny_mono (F.2 X.A X.stack s1 H1 ⟨us, []⟩ us vs Q E0 p hr hot ⟨pp.1, pp.2.1, fun hmm => (List.mem_cons.mp (I1.stkSub p.1 hmm)).elim pp.2.2.1 pp.2.2.2.1, pp.2.2.2.2⟩ I1.env0 b r c) fun r s' hq => ?_)
  cases r with
  | error e => exact False.elim hq
  | ok fl => cases fl with
    | ret u => exact I1.after hq
    | _ => exact False.elim hq
/-- isinstance(e, c), e the exception p that is handled: of the class D, its dict at d -/
def rIsP (K : PySem.W.Frag) (a D : Addr) (d : Option Addr) : List V → Hp → VK → Prop := fun xs H Q => ∃ (c : V) (cv : Value) (b : Bool), xs = [.ref a, c] ∧ ClsV c cv ∧ PySem.W.kitOne K (.ref D) cv = some b ∧ (∀ dd, d = some dd → ∃ fs, H dd = some (.xd fs)) ∧ Q (.bl b) H
theorem call_isP {D : Addr} {d : Option Addr} (hp : p ∈ X.pn) (C : ExcC X.K D) (hz : Zc (.ref D) d p.2) (hf : ∃ vs, p.2.data = .fields vs) : CallR X (.builtin "isinstance") (rIsP X.K p.1 D d) := by
  intro pins s σ H xs us Q I r h
  obtain ⟨c, cv, b, rfl, hcv, e, hd, q⟩ := h
  obtain ⟨u1, u2, rfl, r1, r2⟩ := vals2 r
  obtain rfl : u1 = Value.ref p.1 := r1
  obtain rfl := hcv.eq r2
  have pp := I.pin p (List.mem_append_left _ hp)
  obtain ⟨vs, hv⟩ := hf
  have ncl : PySem.W.notCls p.2 = true := by
    unfold PySem.W.notCls
    rw [hv] <;> rfl
  have hcl : (PySem.W.clsIn X.K D).isSome = true := by
    obtain ⟨cd, hc, _⟩ := PySem.W.any_some C.hd
    rw [hc]
    rfl
  obtain ⟨od, J⟩ : ∃ od, PySem.W.InstAt s.heap p.1 p.2 D od := by
    cases d with
    | none => exact ⟨none, pp.1, hz.1, ncl, by rw [hz.2]; trivial⟩
    | some dd =>
      obtain ⟨fs, hfs⟩ := hd dd rfl
      obtain ⟨mA, hns, _⟩ := (show ObjOk X.prog X.w H s.heap dd (.xd fs) from I.hok dd _ hfs)
      obtain ⟨o, es, ep, ho, _⟩ := hns
      exact ⟨some o, pp.1, hz.1, ncl, by rw [hz.2]; exact ho⟩
  exact PySem.W.kia_one (PySem.W.kitx_exc hcl C.hg C.hk C.hs C.ha C.hn C.ht C.hm) I.kIn J e (fun z => nomatch z) fun tk => ⟨.bl b, H, I.kept (t' := tk) fun _ _ z => z, rfl, q⟩
end

/-! ### an own exception made, its context None -/
section
variable {X : Cx}
/-- B.__init__(self, ..), B an own class without an __init__ of its own over ValueError -/
structure OwnIni (K : PySem.W.Frag) (B : Addr) : Prop where
  ga : PySem.W.specialIn K (.ref B) "__getattribute__" = some (some (.builtin "type.__getattribute__"))
  rd : PySem.W.readsIn K B (.type "type") = true
  fc : PySem.W.findCls K (.ref B) (.type "type") "__init__" = some (.val (.builtin "ValueError.__init__"))
theorem pe_ownini {B : Addr} {x : Str} {e : Expr} {es : List Expr} {ta : TA} {p1 p2 pos : Pos} {pl : Sem Bool} (hm : X.mg x = some (.ref B)) (O : OwnIni X.K B) (ha : PA X (e :: es) ta) (hg : Gl X x := by rfl)
    (hc : eval (.Call (.Attribute (.Name x p1) "__init__" p2) (e :: es) [] pos) X.env = (do
      let ov ← eval (.Name x p1) X.env
      standAt p2.atName
      let (f, first) ← holding [ov] (getMethod ov "__init__" pl)
      callWith pos f first (backTo pos (starEach (e :: es) X.env)) (backToKw pos (keywordEach [] X.env))) := by rfl)
    (hdb : (x == ("__debug__" : Str)) = false := by decide) (he : starEach (e :: es) X.env = (false, eval e X.env) :: starEach es X.env := by rfl) (hpl : (backTo pos (starEach es X.env)).any (·.1) = false := by rfl) :
    PE X (.Call (.Attribute (.Name x p1) "__init__" p2) (e :: es) [] pos) (tVeI X.K ta) := by
  refine ⟨fun pins s σ H Q I h => PySem.W.methodCall_KW (ld_glob I hg hm ?_ hdb) hc⟩
  refine PySem.W.method_cls I.kIn O.ga (PySem.W.cls_value I.kIn O.rd O.fc (by decide) ?_)
  show wpAny _ _ (callWith pos (Value.builtin "ValueError.__init__") [] (backTo pos (starEach (e :: es) X.env)) []) _ _ _
  refine PyProof.Rows.callWith_method1 (thn (ha.run pos pins _ σ H _ (I.tok _) h) fun us s1 ⟨vs, H1, I1, r1, a, C, ws, ev, hl, T, ea, q⟩ => ?_) he hpl
  rw [ev] at r1
  cases r1 with
  | @cons _ u0 _ ur ra rw' =>
    cases (show u0 = Value.ref a from ra)
    exact oinit_ok T I1 ea (by rw [← Paired.length rw', sizeLine_eq]; omega) fun s' J => ⟨.non, H1, J, rfl, q⟩
/-- C(e, ..), C's own __init__ keeping sp -/
theorem pmkN {CX : CXT} {x : Str} {e : Expr} {es : List Expr} {ta : TA} {p pos : Pos} {C fI : Addr} {k : Nat} {fd : FuncData} {ps : List Str} {sp : Sp} (T : OexC X.K C) (iC : PySem.W.findIn X.K (.ref C) "__init__" = some (some (.ref fI))) (tI : PySem.W.typeIn X.K (.ref fI) = some (.type "function"))
    (F1 : FnOk X.prog X.w X.K X.mg X.base CX k fI fd ps sp) (hr : Room (k + 1) X.A) (hb : Binds X.K fd ps []) (hx : Passes CX X (fun _ _ _ => False)) (hm : X.mg x = some (.ref C)) (ha : PA X (e :: es) ta) (hg : Gl X x := by rfl)
    (hdb : (x == ("__debug__" : Str)) = false := by decide) (he : starEach (e :: es) X.env = (false, eval e X.env) :: starEach es X.env := by rfl) (hpl : (backTo pos (starEach es X.env)).any (·.1) = false := by rfl) :
    L2N.PMk X (.Call (.Name x p) (e :: es) [] pos) (tMkO C sp [] ta) := by
  intro pins s σ H Q I h
  obtain ⟨nm, q, N, bs, bm, sn, sub, ab, col, dd, k0, k1, k2, k3, k5, hC, hbm⟩ := T.cls
  refine wpAny_Call_Name_kw (ld_glob I hg hm (PySem.W.callWith_K (h₀ := X.base) I.ok.mod.kin T.kC (thn (ha.run pos pins s σ H _ I h) fun us s1 ⟨vs, H1, I1, r1, hz, q1⟩ => ⟨I1.kIn, ?_⟩) he hpl) hdb)
  show wpAny _ _ (call (.ref C) us) _ _ _
  obtain ⟨hp, g, dr, tk, os⟩ := s1
  obtain ⟨a0, ea0⟩ : ∃ a0, hp.objs.size + 1 = a0 := ⟨_, rfl⟩
  have hsz : hp.objs.size ≤ a0 := by rw [← ea0]; exact Nat.le_succ _
  have hn : H1 a0 = none := I1.hok.fresh hsz
  have hq := q1 a0 hn
  rw [List.append_nil] at hq
  obtain ⟨hp2, ehp2⟩ : ∃ hp2 : Heap, (hp.push (PySem.W.kdv_tup us)).push (PySem.HandSPX.excO C hp.objs.size) = hp2 := ⟨_, rfl⟩
  have kk : ∀ b o, hp.get? b = some o → hp2.get? b = some o := fun b o e => by rw [← ehp2]; exact Heap.get?_push_of_some _ (Heap.get?_push_of_some _ e)
  have hget : hp2.get? a0 = some (PySem.HandSPX.excO C hp.objs.size) := by rw [← ehp2, ← ea0]; heap_get
  have I2 : Inv X pins σ (upd H1 a0 (exo a0 C none)) ⟨hp2, g, dr, tk, os⟩ := I1.laid (t' := tk) kk hsz (exo_ok hget)
  have r2 : Vals (V.ref a0 :: vs) (Value.ref a0 :: us) := .cons rfl r1
  have hl : (Value.ref a0 :: us).length = ps.length := r2.length.symm.trans (F1.len _ _ _ _ hq)
  have hus : us.length ≤ sizeLine := by
    rw [← Paired.length r1, sizeLine_eq]
    omega
  have b2 := hb _ (Value.ref a0 :: us) I2.kIn (by rw [List.append_nil]; exact hl)
  rw [List.append_nil] at b2
  refine wpAny_call (PySem.HandSPX.call_own F.excBase_ValueError (fun Y => PySem.HandSPX.refsVE_contains Y bm hbm) (I1.kIn _ _ hC) (PySem.W.looks_findIn I1.kIn iC) (fun self => PySem.W.bind_fn I1.kIn self tI) hus ?_)
  rw [ehp2, ea0]
  refine codeAny_mono (F1.run _ X.stack _ _ ⟨Value.ref a0 :: us, []⟩ (Value.ref a0 :: us) _ _ (fun _ _ _ => False) (hr.make C us []) (I2.env0.make C us []) b2 r2 hq) fun r s' hq' => ?_
  rcases r with er | (_ | _ | _ | u)
  · exact hx pins σ _ _ er s' I2 hq'
  · exact False.elim hq'
  · exact False.elim hq'
  · exact False.elim hq'
  · obtain ⟨v, H2, os2, bare2, un2, hok2, rv, ev, d, fs, ea, ed, hd1, q2⟩ := hq'
    rw [ev] at rv
    obtain ⟨h2, g2, d2, t2, os'⟩ := s'
    obtain ⟨t0, G, J, kG, ge, hoe, na⟩ := mk_end0 (d2 := d2) (t2 := t2) I1 hsz kk un2 hok2 os2 bare2 ea ed hd1
    exact ⟨rv, a0, _, _, ⟨G, g2, d2, t2, os'⟩, _, .ref C, some d, rfl, J, kG, ge, hoe, ⟨rfl, rfl, fun vs hv => by cases hv; rfl⟩, rfl, rfl, na, rfl, bare2, raises_own T.exC T.tyC, q2⟩
end

/-! ### a lambda without parameters handed to a def, which calls it in a try -/
open LamX
/-- the context of the lambda's body -/
def lamN (X : Cx) (A : Around) (outer : List Env) (s : Shared) (H : Hp) (E : XK) (scope : Scope) (f c' : Addr) : Cx :=
  (lamCx X A outer s H E scope f c').wish fun e s' => wpAny (model X.prog X.w) (A.deeper (lamEnv X scope s.heap.objs.size f c')) (leaving (lamEnv X scope s.heap.objs.size f c') e) (fun _ s'' => L2N.CX X.prog X.w outer H s E e s'') (fun e' s'' => L2N.CX X.prog X.w outer H s E e' s'') s'
theorem takesN {X : Cx} {A : Around} {outer : List Env} {s : Shared} {H : Hp} {E : XK} {scope : Scope} {f c' : Addr} : L2N.Takes (lamN X A outer s H E scope f c') (fun cls d _ H => E cls d H) :=
  L2N.takes_of (E₁ := fun e' s'' => L2N.CX X.prog X.w outer H s E e' s'') rfl rfl rfl rfl
section
variable {X : Cx} {pins : List (Addr × Obj)} {σ : L2.St} {H : Hp} {s : Shared}
theorem actN {CXg : CXT} {Eg : XK} {Ng : List Str} {qg : Str} {sg : Scope} {g f c' : Addr} {cdg pm ctv : Value} {params : Arguments} {body : Expr} {scope : Scope} {k i : Nat} {a : Str} {pn : List (Addr × Obj)} {xe : Value → Shared → Prop} {W : WX} {E : XK} {tb : TE} {p1 p2 : Pos}
    (I : Inv X pins σ H s) (L : LamS X.env.scope scope) (hf : s.heap.get? f = some (PySem.W.kla_obj "<lambda>" (X.env.qual ++ "<lambda>") params body scope (cloFrom X.env.cells scope.names []) pm c' ctv)) (hfn : H f = none) (hfr : f ∉ frs X.stack)
    (hbind : bindArgs (PySem.W.kla_fn "<lambda>" (X.env.qual ++ "<lambda>") params body scope (cloFrom X.env.cells scope.names []) pm (.ref c') ctv) ⟨[], []⟩ = pure [])
    (tk : L2N.Takes ((cxOf CXg X.prog X.w X.K X.mg X.base Ng qg sg g cdg X.A X.stack s H Eg).tr pn xe) W) (hr : Room (k + 1) (X.A.deeper (envOfC qg sg s.heap.objs.size g cdg)))
    (hbody : ∀ (A : Around) (outer : List Env) (s : Shared) (H : Hp), Room k (A.deeper (lamEnv X scope s.heap.objs.size f c')) → PE (lamN X A outer s H E scope f c') body tb)
    (hN : Ng[i]? = some a) (hv : Vis sg a) (hd : (a == ("__debug__" : Str)) = false := by decide) (hcd : (a == ("__classdict__" : Str)) = false := by decide) :
    PE ((cxOf CXg X.prog X.w X.K X.mg X.base Ng qg sg g cdg X.A X.stack s H Eg).tr pn xe) (.Call (.Name a p1) [] [] p2) (fun σZ HZ Q => (∀ cls d H', E cls d H' → W cls d σZ H') ∧ σZ[i]? = some (some (.ref f)) ∧ HZ c' = some (CodeO c' (X.env.qual ++ "<lambda>")) ∧ tb σ HZ Q) := by
  refine ⟨fun pinsZ sZ σZ HZ Q IZ ⟨hW, hs, hc, ht⟩ => ?_⟩
  refine wpAny_Call_Name_kw (thn ((pe_var (pos := p1) (i := i) hN hv hd hcd).run pinsZ sZ σZ HZ (fun v H1 => v = .ref f ∧ H1 = HZ) IZ ⟨.ref f, hs, rfl, rfl⟩) fun u s1 ⟨v, H1, I1, r1, ev, eH⟩ => ?_)
  rw [eH] at I1
  rw [ev] at r1
  cases (show u = Value.ref f from r1)
  have of1 := I1.base.keep f _ hf hfn hfr (fun z => nomatch (show f ∈ ([] : List Addr) from z))
  refine PySem.W.callWith_F0 ⟨_, _, _, _, of1⟩ ?_
  have un : Un (frs X.stack) [] H HZ s.heap s1.heap := I1.base
  obtain ⟨⟨oc, vs, t, hoc, hdc, hvc⟩, _, _⟩ := I1.hok c' _ hc
  refine wpAny_call (codeAny_mono (R := CR (L2N.CX X.prog X.w) (envOfC qg sg s.heap.objs.size g cdg :: X.stack) X.prog X.w HZ s1 Q E) ?_ fun r s' hq => ?_)
  · show codeAny _ _ (.call (.ref f) ⟨[], []⟩) _ _
    refine PySem.W.kla_callFunE hr.depth of1 rfl L.co L.gen rfl ⟨c', oc, vs, t, rfl, hoc, hdc, hvc⟩ ?_
    rw [hbind]
    refine wpAny_pure (wpAny_newFunctionEnv (fun y hy => (L.own y hy).2) (fun y hy => absurd hy (by simp)) (fun h₁ hns hsb => ⟨I1.nolimit.fresh _ hsb, ?_⟩) L.kind)
    have kp : ∀ b o, s1.heap.get? b = some o → h₁.get? b = some o := fun b o e => hsb.extBut b o (Nat.ne_of_lt (Heap.lt_size e)) (Heap.get?_push_of_some _ e)
    have J := (lam_start2 (f := f) (c' := c') (E := E) (tk := s1.toks + ([] : List (Str × Value)).length) I L I1.env0 hr.hd un hns kp).wish fun e s' => wpAny (model X.prog X.w) ((X.A.deeper (envOfC qg sg s.heap.objs.size g cdg)).deeper (lamEnv X scope s1.heap.objs.size f c')) (leaving (lamEnv X scope s1.heap.objs.size f c') e) (fun _ s'' => L2N.CX X.prog X.w (envOfC qg sg s.heap.objs.size g cdg :: X.stack) HZ s1 E e s'') (fun e' s'' => L2N.CX X.prog X.w (envOfC qg sg s.heap.objs.size g cdg :: X.stack) HZ s1 E e' s'') s'
    refine PySem.W.kla_codeExpr (wpAny_mono ((hbody _ _ s1 HZ (hr.deeper _)).run [] _ _ HZ Q J ht) (fun v s' hq => ?_) fun e s' hq => hq)
    obtain ⟨w', H', J', rv, q⟩ := hq
    exact ⟨w', H', J'.os, J'.bare, J'.base, J'.hok, rv, q⟩
  · cases r with
    | error e => exact tk e s' (L2N.XE.of_call I1 (fun cls d H' h => hW cls d H' h) hq)
    | ok fl => cases fl with
      | ret u => exact I1.after hq
      | _ => exact False.elim hq
/-- the def that calls what it got: a calls it; TT: what it makes of the lambda's reading -/
def GivesN (X : Cx) (Ng : List Str) (x : Str) (sg : Scope) (g : Addr) (cdg : Value) (bg : List Stmt) (a : Str) (q : Str) (k : Nat) (TT : (XK → Hp → VK → Prop) → Hp → VK → Prop) : Prop :=
  ∀ (f c' : Addr) (s : Shared) (H : Hp) (Q : VK) (tl : XK → Hp → VK → Prop), Room k (X.A.deeper (envOfC x sg s.heap.objs.size g cdg)) →
    (∀ (W : WX) (pn : List (Addr × Obj)) (xe : Value → Shared → Prop) (E : XK) (p1 p2 : Pos), L2N.Takes ((cxOf CX0 X.prog X.w X.K X.mg X.base Ng x sg g cdg X.A X.stack s H E0).tr pn xe) W →
      PE ((cxOf CX0 X.prog X.w X.K X.mg X.base Ng x sg g cdg X.A X.stack s H E0).tr pn xe) (.Call (.Name a p1) [] [] p2) (fun σZ HZ Q => (∀ cls d H', E cls d H' → W cls d σZ H') ∧ σZ[0]? = some (some (.ref f)) ∧ HZ c' = some (CodeO c' q) ∧ tl E HZ Q)) →
    H c' = some (CodeO c' q) → TT tl H Q → ∃ t, PSs (cxOf CX0 X.prog X.w X.K X.mg X.base Ng x sg g cdg X.A X.stack s H E0).nox bg t ∧ t { nx := fun _ H' => Q .non H', rt := Q } (L2.start Ng [.ref f]) H
def tLamN (Pt : Addr) (q : Str) (TT : (XK → Hp → VK → Prop) → Hp → VK → Prop) (t : XK → TE) : TE := fun σ H Q => TabS H Pt q ∧ ∀ H1, ExtN H H1 → TabS H1 Pt q → TT (fun E H' Q' => t E σ H' Q') H1 Q
/-- x(lambda: body) -/
theorem pe_lamN {TT : (XK → Hp → VK → Prop) → Hp → VK → Prop} {x a q : Str} {st : Stmt} {g c Pt : Addr} {fd : FuncData} {k : Nat} {Ng : List Str} {params : Arguments} {body : Expr} {scope : Scope} {t : XK → TE} {p lpos pos : Pos} (Fg : Fun X.K x x st g fd) (hm : X.mg x = some (.ref g)) (hb : L2.Binds X.K fd [a] []) (Sg : FnScope Ng [a] (defScope st)) (hNg : Ng[0]? = some a) (hva : Vis (defScope st) a)
    (hG : ∀ cdv, GivesN X Ng x (defScope st) g cdv (defBody st) a q (k + 1) TT)
    (TB : TabB X.base X.mg c Pt) (hcode : X.env.code = .ref c) (hq : X.env.qual ++ "<lambda>" = q) (hr : Room (k + 2) X.A) (L : LamS X.env.scope scope) (hdef : defaultsOf params X.env = ([], []))
    (hbind : ∀ (q : Str) (cl : List (Str × Addr)) (pm cv ctv : Value), bindArgs (PySem.W.kla_fn "<lambda>" q params body scope cl pm cv ctv) ⟨[], []⟩ = pure [])
    (hbody : ∀ (A : Around) (outer : List Env) (s : Shared) (H : Hp) (E : XK) (f c' : Addr), Room k (A.deeper (lamEnv X scope s.heap.objs.size f c')) → PE (lamN X A outer s H E scope f c') body (t E))
    (hg : Gl X x := by rfl) (hdb : (x == ("__debug__" : Str)) = false := by decide) (hd : (a == ("__debug__" : Str)) = false := by decide) (hcd : (a == ("__classdict__" : Str)) = false := by decide) :
    PE X (.Call (.Name x p) [.Lambda params body scope lpos] [] pos) (tLamN Pt q TT t) := by
  refine ⟨fun pins s σ H Q I ⟨hT, h⟩ => ?_⟩
  obtain ⟨oc, od, kV, doc, pm, an, cdv, ct, osl, rfl, lk, hcg⟩ := Fg.ex
  refine wpAny_Call_Name_kw (ld_glob I hg hm (PySem.W.callWith_K (h₀ := X.base) I.ok.mod.kin Fg.kp ?_ (by rfl) (by rfl)) hdb)
  show wpAny _ _ (spliced ((false, eval (.Lambda params body scope lpos) X.env) :: backTo pos (starEach [] X.env))) _ _ s
  refine Calls.spliced_cons (lam_make2 (T := [(Pt, q)]) I TB hcode (by rw [hq]; exact List.mem_singleton.mpr rfl) (fun y hy _ => by rw [List.mem_singleton.mp hy, hq]) (fun y hy => by rw [List.mem_singleton.mp hy]; exact hT) hdef (L.has I.ok) fun f c' pm' ctv H1 s' I1 eN T1 hf hfn hfr hco => ?_)
  refine Calls.spliced_nil ⟨I1.kIn, ?_⟩
  have hT1 : TabS H1 Pt q := T1 (Pt, q) (List.mem_singleton.mpr rfl)
  rw [hq] at hco
  refine wpAny_call (codeAny_mono (R := CR CX0 X.stack X.prog X.w H1 s' Q E0) ?_ fun r s2 hq => ?_)
  · refine run_ofS (N := Ng) (ps := [a]) (us := [.ref f]) (vs := [.ref f]) lk hcg Sg hr I1.env0 (hb s' [.ref f] I1.kIn rfl) (.cons rfl .nil) rfl fun hr' => ?_
    obtain ⟨t', ht', hq'⟩ := hG cdv f c' s' H1 Q (fun E H' Q' => t E σ H' Q') hr' (fun W pn xe E p1 p2 tk => by rw [← hq]; exact actN (i := 0) I1 L hf hfn hfr (hbind _ _ _ _ _) tk hr' (fun A outer s H hr2 => hbody A outer s H E f c' hr2) hNg hva hd hcd) hco (h H1 eN hT1)
    exact ⟨t', ht'.nox, hq'⟩
  · cases r with
    | error e => exact (show False from hq).elim
    | ok fl => cases fl with
      | ret u => exact I1.after hq
      | _ => exact False.elim hq
end
end Z
namespace L2H
open PySem L2
theorem roomHm {k : Nat} {A : Around} (r : Room k A) (h : Option Value) : RoomH k (A.mark h) := ⟨r.dp, r.un⟩
theorem RoomH.units {k : Nat} {A : Around} (r : RoomH k A) : A.units + 64 < cLine := by have := r.un; omega
end L2H
set_option Elab.async false
set_option linter.all false
set_option maxRecDepth 100000
set_option maxHeartbeats 4000000
/-! try .. except X as e where e is a name that a comprehension of the suite captures (a cell). -/
namespace Z
open PySem PySem.Spec PyProof.Rows L2 HotX L2H
section
variable {X : Cx} {pins : List (Addr × Obj)} {σ : L2.St} {H : Hp} {s : Shared}
/-- a cell of ours has changed -/
theorem cell_turned {i : Nat} {n : Str} {c : Addr} {v0 v1 : Option Value} {h' : Heap} {t' : Nat} (I : Inv X pins σ H s) (hN : X.N.Nodup) (hi : X.N[i]? = some n) (hfn : X.fn n = true) (hc : X.env.cells.lookup n = some c) (z : s.heap.IsCell c v0) (z1 : h'.IsCell c v1) (hs : Heap.SameBut c s.heap h') :
    Inv X pins (σ.set i none) H { s with heap := h', toks := t' } := by
  obtain ⟨m, hn, hl⟩ := id I.loc
  obtain ⟨oc, hoc, hdc⟩ := id z
  have nC := I.freeC n c hc
  have old : ∀ b o, X.s_0.heap.get? b = some o → b ≠ c := fun b o e => Nat.ne_of_lt (Nat.lt_of_lt_of_le (Heap.lt_size e) (I.ok.cab n c hfn hc))
  refine ⟨I.ok, I.os, I.bare, ⟨?_, ?_, I.base.free, ?_, I.base.tups, I.base.frzs, I.base.tbls⟩, ⟨m, hn.sameBut hs (Ne.symm (I.cne n c hc)), ?_⟩, ?_, I.free, I.freeC, ?_, ?_, by rw [List.length_set]; exact I.len⟩
  · exact fun b o e q hb hx => (hs.2 b (old b o e)).trans (I.base.keep b o e q hb hx)
  · intro b o e q hb hx
    obtain ⟨sl, e1⟩ := I.base.slot b o e q hb hx
    exact ⟨sl, (hs.2 b (old b o e)).trans e1⟩
  · intro b o e hx
    obtain ⟨o', e1⟩ := I.base.there b o e hx
    exact ⟨o', (hs.2 b (old b o e)).trans e1⟩
  · intro j y v' e1 e2 e3
    have nj : j ≠ i := fun q => by
      rw [q] at e2
      by_cases lt : i < σ.length
      · rw [List.getElem?_set_self lt] at e2
        cases e2
      · rw [List.getElem?_eq_none (by simpa using lt)] at e2
        cases e2
    rw [List.getElem?_set_ne (Ne.symm nj)] at e2
    obtain ⟨u', r', q⟩ := hl j y v' e1 e2 e3
    refine ⟨u', r', q.elim .inl ?_⟩
    rintro ⟨k, c2, e, z2⟩
    refine .inr ⟨k, c2, e, z2.sameBut hs fun q2 => ?_⟩
    rw [q2] at e
    exact nj (nodup_ix hN e1 (I.ok.inj _ _ _ e hc ▸ hi))
  · intro y c2 e
    by_cases q : c2 = c
    · exact ⟨_, q ▸ z1⟩
    · obtain ⟨w2, z2⟩ := I.cell y c2 e
      exact ⟨w2, z2.sameBut hs q⟩
  · intro p hp
    obtain ⟨e, n1, n2, n3, d⟩ := I.pin p hp
    refine ⟨(hs.2 p.1 fun q => ?_).trans e, n1, n2, n3, d⟩
    rw [q, hoc] at e
    exact d v0 (by rw [← Option.some.inj e]; exact hdc)
  · intro b ob e
    refine (I.hok b ob e).stay (fun c2 w' hc2 q => (hs.2 c2 fun q2 => ?_).trans q) (fun _ q => q) fun _ _ q => q
    rw [q2] at hc2
    rcases hc2 with hc2 | hc2
    · rw [← hc2, nC] at e
      cases e
    · rw [nC] at hc2
      cases hc2
/-- the name of an except clause goes, a cell -/
theorem gone_cell {M : Model} {A : Around} {E : Value → Shared → Prop} {i : Nat} {n : Str} {pos : Pos} {Q : Unit → Shared → Prop} (I : Inv X pins σ H s) (hN : X.N.Nodup) (hi : X.N[i]? = some n) (hk : X.env.kindOf n = some .cell) (hfn : X.fn n = true)
    (h : ∀ s', Inv X pins (σ.set i none) H s' → Q () s') : wpAny M A (do bindName X.env n .none; unbindBehindTheSuite X.env n pos) Q E s := by
  refine wpAny_bind (wpAny_bindName (store_ok (v := V.non) I hN hi (.inr hk) rfl (fun s1 I1 => ?_) (.inl hfn)))
  have lt : i < σ.length := by rw [I.len]; exact (List.getElem?_eq_some_iff.mp hi).1
  obtain ⟨c, z⟩ : ∃ c, X.env.cells.lookup n = some c ∧ s1.heap.IsCell c (some .none) := by
    obtain ⟨m, hn, hl⟩ := I1.loc
    obtain ⟨u, r, q⟩ := hl i n .non hi (by rw [List.getElem?_set_self lt]) (.inr (.inl hk))
    cases (show u = Value.none from r)
    rcases q with ⟨k, _⟩ | ⟨_, c, e, z⟩
    · rw [hk] at k
      cases k
    · exact ⟨c, e, z⟩
  have e2 : ∀ x : Option V, (σ.set i x).set i none = σ.set i none := fun x => List.set_set ..
  unfold unbindBehindTheSuite
  refine wpAny_onRaise ?_
  unfold unbindName
  refine wpAny_bind (wpAny_point (wpAny_bind ?_))
  unfold deleteName
  simp only [hk]
  refine wpAny_bind (wpAny_cellOf z.1 (wpAny_bind (wpAny_cellGet z.2 ?_)))
  rw [if_pos (show (some Value.none).isSome = true from rfl)]
  refine wpAny_cellSet z.2 fun h' z1 hs => wpAny_point (h _ ?_)
  rw [← e2 (some .non)]
  exact cell_turned I1 hN hi hfn z.1 z.2 z1 hs
end
section
variable {X : Cx} {x n : Str} {c : Value} {i : Nat} {body suite : List Stmt} {b₀ : Stmt} {np pos pos' : Pos} {tb : WX → TS} {ts : Addr → Value → Option Addr → TS} {Wout : WX}
/-- try: body / except x as n: suite, n a cell; every exception of the body is of x -/
theorem ps_try_cell (hs : X.stack = X.env :: X.outer) (hf : X.env.frame = some X.env.locals) (hN : X.N.Nodup) (hi : X.N[i]? = some n) (hk : X.env.kindOf n = some .cell) (hfn : X.fn n = true) (hc : Names X x c)
    (hb : ∀ (W : WX) (pn : List (Addr × Obj)) (xe : Value → Shared → Prop), L2N.Takes (X.tr pn xe) W → PassesOwn (model X.prog X.w) X.A X.env xe → PSs (X.tr pn xe) body (tb W))
    (hsu : ∀ (a : Addr) (oe : Obj) (cls : Value) (d : Option Addr) (pn : List (Addr × Obj)), L2N.Zn cls d oe → (∃ vs, oe.data = .fields vs) → PSs (X.suite a ((a, oe) :: pn)) (b₀ :: suite) (ts a cls d)) :
    PS X (.Try body [.ExceptHandler (some (.Name x np)) (some n) (b₀ :: suite) pos'] [] [] pos) (fun D σ H => tb (wAs X.K c i ts (fun _ _ _ _ => False) D) D σ H) := by
  refine ⟨fun pins s σ H D I h => wpAny_Try_except ?_⟩
  have ok := I.ok
  have hfr : X.A.frames = some (X.env :: X.outer) := by rw [ok.frames, hs]
  have body0 := (hb (wAs X.K c i ts (fun _ _ _ _ => False) D) (X.pn ++ pins) (fun e s₁ => wpAny (model X.prog X.w) X.A (noteFrame e X.env) (fun _ s₂ => wpAny (model X.prog X.w) X.A (setFlight e none) (fun _ s₃ =>
    wpAny (model X.prog X.w) X.A (handleBy e X.env [.ExceptHandler (some (.Name x np)) (some n) (b₀ :: suite) pos']) (SP X pins D) X.xe s₃) X.xe s₂) X.xe s₁) (fun u s' xx => ?_) PassesOwn.looking).run [] s σ H D (I.toTry _) h
  · refine wpAny_mono body0 (fun f s1 q => ?_) fun _ _ z => z
    rcases f with v | _ | _ | _
    all_goals first
      | (obtain ⟨v1, σ1, H1, J, r, q⟩ := q; exact ⟨v1, σ1, H1, J.ofTry ok, r, q⟩)
      | (obtain ⟨σ1, H1, J, q⟩ := q; first | exact wpAny_execs_nil ⟨σ1, H1, J.ofTry ok, q⟩ | exact ⟨σ1, H1, J.ofTry ok, q⟩)
  · obtain ⟨a, B, sI, pins', σ', H', cls, d, rfl, J', nb, up, sky, na, os, ag, b, hb1, hyes, hno⟩ := xx
    have J : Inv X pins σ' H' sI := J'.ofTry ok
    rw [show (X.tr (X.pn ++ pins) _).stack = X.env :: X.outer from hs] at sky
    show wpAny (model X.prog X.w) X.A (noteFrame (.ref a) X.env) _ _ _
    refine L2N.Sky.land L2N.Zn.steady hfr hf sky fun h3 fl3 up3 => ?_
    have J3 : Inv X pins σ' H' { s' with heap := h3 } := J.landed nb fl3.1 (up.trans up3) os ag
    obtain ⟨oe3, vs3, he3, hz3, hd3⟩ := fl3.there
    have nfr : a ∉ frs (X.env :: X.outer) := fun hm => by
      obtain ⟨_, o', e', hnf⟩ := fl3.2.2.1.mem hm
      rw [he3] at e'
      exact hnf vs3 (by rw [← Option.some.inj e']; exact hd3)
    have nL : a ≠ X.env.locals := fun z => nfr (List.mem_filterMap.mpr ⟨X.env, List.mem_cons_self, by rw [hf, z]⟩)
    have nF : a ∉ X.fs := fun hm => by
      obtain ⟨e, he, q⟩ := List.mem_filterMap.mp hm
      exact nfr (List.mem_filterMap.mpr ⟨e, List.mem_cons_of_mem _ he, q⟩)
    have S3 := J3.suite he3 hd3 na nL nF
    refine wpAny_handleBy_cons (codeAny_handlers_test ?_) (by intro q; cases q)
    have LM := PySem.W.exm_one (M := model X.prog X.w) J3.kIn (fun A Q E s k q => wpAny_typeOf_ref (k _ _ he3) (by rw [hz3.1]; exact q) : PySem.W.Looks (model X.prog X.w) h3 (typeOf (.ref a)) cls) hb1
    have test : ∀ {Q : Value → Shared → Prop} {E : Value → Shared → Prop}, Q c { s' with heap := h3 } → wpAny (model X.prog X.w) (X.A.mark (some (.ref a))) (eval (.Name x np) X.env) Q E { s' with heap := h3 } := fun {Q E} q => by
      rcases hc with ⟨hg, hdbg, hm | ⟨hm, hv, hnn⟩⟩
      · exact ld_glob (X := X.suite a ((a, oe3) :: (X.pn ++ pins))) S3 hg hm q hdbg
      · exact ld_blt (X := X.suite a ((a, oe3) :: (X.pn ++ pins))) S3 hg hm hv q hnn hdbg
    refine test (LM.here ?_)
    cases b with
    | false => exact (hno rfl).elim
    | true =>
      refine codeAny_handlers_suite_as (HandSPX.lands_againZ fl3 fun h4 fl4 up4 => ?_)
      have J4 : Inv X pins σ' H' { s' with heap := h4 } := J.landed nb fl4.1 ((up.trans up3).trans up4) os ag
      obtain ⟨oe4, vs4, he4, hz4, hd4⟩ := fl4.there
      refine store_ok (X := X.suite a ((a, oe4) :: (X.pn ++ pins))) (v := .ref a) (J4.suite he4 hd4 na nL nF) hN hi (.inr hk) rfl (fun s5 S5 => ?_) (.inl hfn)
      refine wpAny_mono ((hsu a oe4 cls d (X.pn ++ pins) hz4 ⟨_, hd4⟩).run [] s5 _ H' _ S5 (hyes rfl a na)) (fun f s6 hsp => ?_) (fun _ _ z => False.elim z)
      rcases f with v | _ | _ | _
      all_goals first
        | (obtain ⟨v6, σ6, H6, S6, r6, q6⟩ := hsp; exact gone_cell (S6.unsuite ok) hN hi hk hfn fun s7 J7 => ⟨v6, _, H6, J7, r6, q6⟩)
        | (obtain ⟨σ6, H6, S6, q6⟩ := hsp; exact gone_cell (S6.unsuite ok) hN hi hk hfn fun s7 J7 => ⟨_, H6, J7, q6⟩)
end
end Z
set_option Elab.async false
set_option linter.all false
set_option maxRecDepth 100000
set_option maxHeartbeats 4000000
namespace Z
open PySem PySem.Spec PyProof.Rows L2
/-! ### shapes of data -/
structure Dk (k : Nat) (d : PyData) : Prop where
  c : d.canLay0 = true
  d : d.depth ≤ k
theorem dk_int {k : Nat} {i : Int} : Dk k (.int i) := ⟨rfl, Nat.zero_le _⟩
theorem dk_non {k : Nat} : Dk k .none := ⟨rfl, Nat.zero_le _⟩
theorem dk_vO {k : Nat} (o : Option Int) : Dk k (dO o) := by cases o <;> exact ⟨rfl, Nat.zero_le _⟩
theorem dkAll {k : Nat} : ∀ {ds : List PyData}, (∀ d ∈ ds, Dk k d) → PyData.canLayAll0 ds = true ∧ PyData.depthAll ds ≤ k
  | [], _ => ⟨rfl, Nat.zero_le _⟩
  | d :: ds, h => by
    have h1 := h d List.mem_cons_self
    have h2 := dkAll (ds := ds) fun e he => h e (List.mem_cons_of_mem _ he)
    exact ⟨by rw [PyData.canLayAll0, h1.c, h2.1]; rfl, by rw [PyData.depthAll]; exact Nat.max_le.mpr ⟨h1.d, h2.2⟩⟩
theorem dk_list {k : Nat} {ds : List PyData} (h : ∀ d ∈ ds, Dk k d) : Dk (k + 1) (.list ds) := ⟨by rw [PyData.canLay0]; exact (dkAll h).1, by rw [PyData.depth]; exact Nat.succ_le_succ (dkAll h).2⟩
theorem dk_tup {k : Nat} {ds : List PyData} (h : ∀ d ∈ ds, Dk k d) : Dk (k + 1) (.tuple ds) := ⟨by rw [PyData.canLay0]; exact (dkAll h).1, by rw [PyData.depth]; exact Nat.succ_le_succ (dkAll h).2⟩
theorem Dk.mono {k j : Nat} {d : PyData} (h : Dk k d) (l : k ≤ j) : Dk j d := ⟨h.c, Nat.le_trans h.d l⟩
theorem Dk.sh {k : Nat} {d : PyData} (h : Dk k d) (l : k ≤ 64 := by decide) : SeqAt.shaped d = true := by
  unfold SeqAt.shaped
  rw [h.c, decide_eq_true (Nat.le_trans h.d l)]
  rfl
theorem dk_ints {k : Nat} (ns : List Int) : Dk (k + 1) (.list (ns.map PyData.int)) := dk_list fun d hd => by
  obtain ⟨i, _, rfl⟩ := List.mem_map.mp hd
  exact dk_int
theorem dk_vOs {k : Nat} (os : List (Option Int)) : Dk (k + 1) (.list (os.map dO)) := dk_list fun d hd => by
  obtain ⟨i, _, rfl⟩ := List.mem_map.mp hd
  exact dk_vO i
section
variable {K : PySem.W.Frag} {σ : L2.St} {H G : Hp} {Q : VK} {x y : V} {d e : PyData} {k : Nat}
theorem i_eqD1 (h1 : Dp K H x d) (h2 : Dp K H y d) (hd : Dk k d) (hk : k ≤ 64) (q : Q (.bl true) H) : rEqD K x y H Q := ⟨d, d, h1, h2, hd.sh hk, hd.sh hk, by rw [SeqAt.eqv_refl d hd.c]; exact q⟩
theorem i_neD1 (h1 : Dp K H x d) (h2 : Dp K H y d) (hd : Dk k d) (hk : k ≤ 64) (q : Q (.bl false) H) : rNeD K x y H Q := ⟨d, d, h1, h2, hd.sh hk, hd.sh hk, by rw [SeqAt.eqv_refl d hd.c]; exact q⟩
/-- == [], != [] -/
theorem eqv_nil (ds : List PyData) : PyData.eqv (.list ds) (.list []) = ds.isEmpty := by cases ds <;> simp [PyData.eqv, PyData.eqvAll]
theorem i_eqNil {ds : List PyData} (h1 : Dp K H x (.list ds)) (h2 : Dp K H y (.list [])) (hd : Dk k (.list ds)) (hk : k ≤ 64) (q : Q (.bl ds.isEmpty) H) : rEqD K x y H Q :=
  ⟨_, _, h1, h2, hd.sh hk, (dk_ints (k := 0) []).sh, by rw [eqv_nil]; exact q⟩
theorem i_neNil {ds : List PyData} (h1 : Dp K H x (.list ds)) (h2 : Dp K H y (.list [])) (hd : Dk k (.list ds)) (hk : k ≤ 64) (q : Q (.bl (!ds.isEmpty)) H) : rNeD K x y H Q :=
  ⟨_, _, h1, h2, hd.sh hk, (dk_ints (k := 0) []).sh, by rw [eqv_nil]; exact q⟩
theorem dp_nil {p : Addr} (h : SqL K H p []) : Dp K H (.ref p) (.list []) := .lst h .nil
/-- membership among flat things -/
theorem i_inL {p : Addr} {xs : List V} {b : Bool} (h : SqL K H p xs) (h1 : flatV x = true) (h2 : xs.all flatV = true) (e : inV x xs = b) (q : Q (.bl b) H) : rIn K false x (.ref p) H Q := ⟨p, xs, rfl, .inl h, h1, h2, by rw [e]; exact q⟩
theorem i_niL {p : Addr} {xs : List V} {b : Bool} (h : SqL K H p xs) (h1 : flatV x = true) (h2 : xs.all flatV = true) (e : inV x xs = b) (q : Q (.bl (!b)) H) : rIn K true x (.ref p) H Q := ⟨p, xs, rfl, .inl h, h1, h2, by rw [e]; exact q⟩
theorem i_niL1 {p : Addr} {xs : List V} (h : SqL K H p xs) (h1 : flatV x = true) (h2 : xs.all flatV = true) (e : inV x xs = true) (q : Q (.bl false) H) : rIn K true x (.ref p) H Q := ⟨p, xs, rfl, .inl h, h1, h2, by rw [e]; exact q⟩
theorem i_niT1 {p : Addr} {xs : List V} (h : SqT K H p xs) (h1 : flatV x = true) (h2 : xs.all flatV = true) (e : inV x xs = true) (q : Q (.bl false) H) : rIn K true x (.ref p) H Q := ⟨p, xs, rfl, .inr h, h1, h2, by rw [e]; exact q⟩
theorem i_inT {p : Addr} {xs : List V} {b : Bool} (h : SqT K H p xs) (h1 : flatV x = true) (h2 : xs.all flatV = true) (e : inV x xs = b) (q : Q (.bl b) H) : rIn K false x (.ref p) H Q := ⟨p, xs, rfl, .inr h, h1, h2, by rw [e]; exact q⟩
theorem i_niT {p : Addr} {xs : List V} {b : Bool} (h : SqT K H p xs) (h1 : flatV x = true) (h2 : xs.all flatV = true) (e : inV x xs = b) (q : Q (.bl (!b)) H) : rIn K true x (.ref p) H Q := ⟨p, xs, rfl, .inr h, h1, h2, by rw [e]; exact q⟩
end
theorem flat_ints (ns : List Int) : (ns.map V.int).all flatV = true := by
  rw [List.all_map]
  exact List.all_eq_true.mpr fun i _ => rfl
theorem flat_vO (o : Option Int) : flatV (vO o) = true := by cases o <;> rfl
theorem flat_vOs (os : List (Option Int)) : (os.map vO).all flatV = true := by
  rw [List.all_map]
  exact List.all_eq_true.mpr fun i _ => flat_vO i
theorem inV_ints (i : Int) (ns : List Int) : inV (.int i) (ns.map V.int) = decide (i ∈ ns) := by
  unfold inV
  rw [List.any_map, Bool.eq_iff_iff, List.any_eq_true, decide_eq_true_iff]
  refine ⟨fun ⟨j, hj, e⟩ => ?_, fun h => ⟨i, h, ?_⟩⟩
  · have e2 : j = i := by simpa [eqV] using e
    rw [← e2]; exact hj
  · simp [eqV]
theorem inV_vOs (i : Int) (os : List (Option Int)) : inV (.int i) (os.map vO) = decide (some i ∈ os) := by
  unfold inV
  rw [List.any_map, Bool.eq_iff_iff, List.any_eq_true, decide_eq_true_iff]
  refine ⟨fun ⟨j, hj, e⟩ => ?_, fun h => ⟨some i, h, ?_⟩⟩
  · cases j with
    | none => simp [eqV, vO] at e
    | some j =>
      have e2 : j = i := by simpa [eqV, vO] using e
      rw [← e2]; exact hj
  · simp [eqV, vO]
/-! ### tests whose answer is known -/
theorem i_p {c : Prop} [Decidable c] {A B : Prop} (h : c) (q : A) : if decide c = true then A else B := by rw [if_pos (decide_eq_true h)]; exact q
theorem i_n {c : Prop} [Decidable c] {A B : Prop} (h : ¬ c) (q : B) : if decide c = true then A else B := by rw [if_neg (by simpa using h)]; exact q
theorem i_np {c : Prop} [Decidable c] {A B : Prop} (h : c) (q : B) : if (!decide c) = true then A else B := by rw [if_neg (by simpa using h)]; exact q
theorem i_nn {c : Prop} [Decidable c] {A B : Prop} (h : ¬ c) (q : A) : if (!decide c) = true then A else B := by rw [if_pos (by simpa using h)]; exact q
theorem i_bT {b : Bool} {A B : Prop} (h : b = true) (q : A) : if b = true then A else B := by rw [if_pos h]; exact q
theorem i_bF {b : Bool} {A B : Prop} (h : b = false) (q : B) : if b = true then A else B := by rw [h]; exact i_f q
/-! ### order of tuples -/
def rGtT (K : PySem.W.Frag) : R2 := fun x y H Q => ∃ (a b : Addr) (ns ms : List Int), x = .ref a ∧ y = .ref b ∧ SqT K H a (ns.map V.int) ∧ SqT K H b (ms.map V.int) ∧
  Q (.bl (Ob.lexAt (fun j => decide (ns.getD j 0 = ms.getD j 0)) (fun j => decide (ms.getD j 0 < ns.getD j 0)) (decide (ns.length > ms.length)) 0 (min ns.length ms.length))) H
theorem op_gtT {X : Cx} (hu : X.A.units < cLine) : OpR X (compareOp .Gt) (rGtT X.K) := by
  intro pins s σ H x y v u Q I rx ry h
  obtain ⟨a, b, ns, ms, rfl, rfl, ha, hb, q⟩ := h
  cases rx
  cases ry
  obtain ⟨its, r1, p1, _⟩ := I.tuple ha
  obtain ⟨its2, r2, p2, _⟩ := I.tuple hb
  have i1 : IntsAre its ns := Vals.ints r1
  have i2 : IntsAre its2 ms := Vals.ints r2
  have e1 : its.toArray.size = ns.length := by rw [List.size_toArray]; exact i1.length
  have e2 : its2.toArray.size = ms.length := by rw [List.size_toArray]; exact i2.length
  have at1 : ∀ j (h1 : j < its.toArray.size), ∃ t, its.toArray[j] = .int (ns.getD j 0) t := fun j h1 => PyProof.Rows.IntsAre.int_at i1 _ _ (by simp at h1; simp [h1])
  have at2 : ∀ j (h1 : j < its2.toArray.size), ∃ t, its2.toArray[j] = .int (ms.getD j 0) t := fun j h1 => PyProof.Rows.IntsAre.int_at i2 _ _ (by simp at h1; simp [h1])
  have R := Ob.RcOp.tuples_gt (A := X.A) (s := s) (e := fun j => decide (ns.getD j 0 = ms.getD j 0)) (r := fun j => decide (ms.getD j 0 < ns.getD j 0)) p1 p2 hu (fun j h1 h2 => by
    obtain ⟨t, et⟩ := at1 j h1
    obtain ⟨t', et'⟩ := at2 j h2
    rw [et, et']
    have z : (ns.getD j 0 == ms.getD j 0) = decide (ns.getD j 0 = ms.getD j 0) := by
      by_cases q : ns.getD j 0 = ms.getD j 0
      · rw [decide_eq_true q]; exact beq_iff_eq.mpr q
      · rw [decide_eq_false q]; exact beq_eq_false_iff_ne.mpr q
    rw [← z]
    exact SeqAt.EqAt.int_int _ _ _ _) (fun j h1 h2 _ => by
    obtain ⟨t, et⟩ := at1 j h1
    obtain ⟨t', et'⟩ := at2 j h2
    rw [et, et']
    exact Ob.RcOp.gt_int _ _ _ _)
  rw [e1, e2] at R
  have z : wpAny (model X.prog X.w) X.A (compareOp .Gt (.ref a) (.ref b)) (EP X pins σ Q) X.xe s := R X.prog X.w X.xe (EP X pins σ Q) ⟨.bl _, H, I, rfl, q⟩
  exact z
/-- pairs -/
def ltP (a b : Int × Int) : Prop := a.1 < b.1 ∨ (a.1 = b.1 ∧ a.2 < b.2)
instance (a b : Int × Int) : Decidable (ltP a b) := by unfold ltP; exact inferInstance
def leP (a b : Int × Int) : Prop := a.1 < b.1 ∨ (a.1 = b.1 ∧ a.2 ≤ b.2)
instance (a b : Int × Int) : Decidable (leP a b) := by unfold leP; exact inferInstance
section
variable {K : PySem.W.Frag} {H : Hp} {Q : VK} {a b : Addr} {i j k l : Int}
theorem i_gtT (h1 : SqT K H a [.int i, .int j]) (h2 : SqT K H b [.int k, .int l]) (q : Q (.bl (decide (ltP (k, l) (i, j)))) H) : rGtT K (.ref a) (.ref b) H Q := by
  refine ⟨a, b, [i, j], [k, l], rfl, rfl, h1, h2, ?_⟩
  have e : Ob.lexAt (fun n => decide (([i, j] : List Int).getD n 0 = ([k, l] : List Int).getD n 0)) (fun n => decide (([k, l] : List Int).getD n 0 < ([i, j] : List Int).getD n 0)) (decide (([i, j] : List Int).length > ([k, l] : List Int).length)) 0 (min ([i, j] : List Int).length ([k, l] : List Int).length) = decide (ltP (k, l) (i, j)) := by
    simp only [List.length_cons, List.length_nil, Nat.min_self, Ob.lexAt_succ, Ob.lexAt_zero]
    simp only [List.getD_cons_zero, List.getD_cons_succ, decide_eq_true_eq, gt_iff_lt, Nat.lt_irrefl, decide_false]
    by_cases h : i = k
    · rw [if_pos h]
      by_cases h2 : j = l
      · rw [if_pos h2]
        symm
        rw [decide_eq_false_iff_not]
        show ¬ (k < i ∨ (k = i ∧ l < j))
        omega
      · rw [if_neg h2, decide_eq_decide]
        show _ ↔ (k < i ∨ (k = i ∧ l < j))
        omega
    · rw [if_neg h, decide_eq_decide]
      show _ ↔ (k < i ∨ (k = i ∧ l < j))
      omega
  rw [e]
  exact q
theorem i_leT (h1 : SqT K H a [.int i, .int j]) (h2 : SqT K H b [.int k, .int l]) (q : Q (.bl (decide (leP (i, j) (k, l)))) H) : rLeT K (.ref a) (.ref b) H Q := by
  refine ⟨a, b, [i, j], [k, l], rfl, rfl, h1, h2, ?_⟩
  have e : Ob.lexAt (fun n => decide (([i, j] : List Int).getD n 0 = ([k, l] : List Int).getD n 0)) (fun n => decide (([i, j] : List Int).getD n 0 ≤ ([k, l] : List Int).getD n 0)) (decide (([i, j] : List Int).length ≤ ([k, l] : List Int).length)) 0 (min ([i, j] : List Int).length ([k, l] : List Int).length) = decide (leP (i, j) (k, l)) := by
    simp only [List.length_cons, List.length_nil, Nat.min_self, Ob.lexAt_succ, Ob.lexAt_zero]
    simp only [List.getD_cons_zero, List.getD_cons_succ, decide_eq_true_eq, Nat.le_refl, decide_true]
    by_cases h : i = k
    · rw [if_pos h]
      by_cases h2 : j = l
      · rw [if_pos h2]
        symm
        rw [decide_eq_true_iff]
        show (i < k ∨ (i = k ∧ j ≤ l))
        omega
      · rw [if_neg h2, decide_eq_decide]
        show _ ↔ (i < k ∨ (i = k ∧ j ≤ l))
        omega
    · rw [if_neg h, decide_eq_decide]
      show _ ↔ (i < k ∨ (i = k ∧ j ≤ l))
      omega
  rw [e]
  exact q
end
/-! ### classes as callers see them -/
structure CalMk (P : Program) (w : World) (K : PySem.W.Frag) (mg : Str → Option Value) (base : Heap) (x : Str) (C : Addr) (k : Nat) (ps : List Str) (sp : Sp) : Prop where
  ex : ∃ (f : Addr) (fd : FuncData), mg x = some (.ref C) ∧ Mk K C f ∧ Binds K fd ps [] ∧ FnOk P w K mg base CX0 k f fd ps sp
structure CalMt (P : Program) (w : World) (K : PySem.W.Frag) (mg : Str → Option Value) (base : Heap) (C : Addr) (m : Str) (k : Nat) (ps : List Str) (sp : Sp) : Prop where
  cl : Cls K C
  ex : ∃ (f : Addr) (fd : FuncData), Meth K C m f ∧ Binds K fd ps [] ∧ FnOk P w K mg base CX0 k f fd ps sp
section
variable {X : Cx}
theorem pmk {x : Str} {C : Addr} {k : Nat} {ps : List Str} {sp : Sp} {e : Expr} {es : List Expr} {t : TA} {p pos : Pos} (c : CalMk X.prog X.w X.K X.mg X.base x C k ps sp) (hr : Room (k + 1) X.A) (ha : PA X (e :: es) t) (hg : Gl X x := by rfl) (hdb : (x == ("__debug__" : Str)) = false := by decide)
    (hs : starEach (e :: es) X.env = (false, eval e X.env) :: starEach es X.env := by rfl) (hpl : (backTo pos (starEach es X.env)).any (·.1) = false := by rfl) : PE X (.Call (.Name x p) (e :: es) [] pos) (tMake C sp [] E0 t) := by
  obtain ⟨f, fd, hm, M, hb, F⟩ := c.ex
  exact pe_make M F hr hg hm hb .nil pass0 ha hdb hs hpl
theorem pmt {m : Str} {C : Addr} {k : Nat} {ps : List Str} {sp : Sp} {o : Expr} {ta : TE} {apos pos : Pos} {pl : Sem Bool} (c : CalMt X.prog X.w X.K X.mg X.base C m k ps sp) (hr : Room k X.A) (ho : PE X o ta)
    (ht : eval (.Call (.Attribute o m apos) [] [] pos) X.env = (do
      let ov ← eval o X.env
      standAt apos.atName
      let (f, first) ← holding [ov] (getMethod ov m pl)
      callWith pos f first (backTo pos (starEach [] X.env)) (backToKw pos (keywordEach [] X.env))) := by rfl) : PE X (.Call (.Attribute o m apos) [] [] pos) (tMeth C m sp [] E0 ta tNil) := by
  obtain ⟨f, fd, M, hb, F⟩ := c.ex
  exact pe_meth0 ho c.cl M F hr hb .nil pass0 ht
end
section
variable {K : PySem.W.Frag} {σ : L2.St} {H : Hp} {Q : VK} {C : Addr} {m : Str} {sp : Sp} {E : XK} {t : TA} {ta : TE} {dvs : List V}
def SFldQ (K : PySem.W.Frag) (f : Str) (D : Ends) (σ : L2.St) (y x : V) (H2 : Hp) : Prop := ∃ a C dx fs, x = .ref a ∧ H2 a = some (.ins C dx fs) ∧ Cls K C ∧ NoAttr K C f ∧ fs.length < 1000 ∧ D.nx σ (upd H2 a (.ins C dx (putF f y fs)))
theorem i_sfld {D : Ends} {ta tv : TE} {f : Str} (q : tv σ H fun y H1 => ta σ H1 fun x H2 => SFldQ K f D σ y x H2) : sFld K ta tv f D σ H := q
theorem sfld {D : Ends} {f : Str} {G : Hp} {a dx : Addr} {fs : List (Str × V)} {y : V} (t : At G H a (.ins C dx fs)) (c : Cls K C) (n : NoAttr K C f) (hl : fs.length < 1000) (q : D.nx σ (upd H a (.ins C dx (putF f y fs)))) : SFldQ K f D σ y (.ref a) H := ⟨a, C, dx, fs, rfl, t.h, c, n, hl, q⟩
def FldQ (K : PySem.W.Frag) (f : Str) (x : V) (H1 : Hp) (Q : VK) : Prop := ∃ a C dx fs v, x = .ref a ∧ H1 a = some (.ins C dx fs) ∧ Cls K C ∧ NoAttr K C f ∧ fs.lookup f = some v ∧ Q v H1
theorem i_fld {f : Str} (q : ta σ H fun x H1 => FldQ K f x H1 Q) : tFld K ta f σ H Q := q
theorem fld {f : Str} {a dx : Addr} {fs : List (Str × V)} {v : V} (h : H a = some (.ins C dx fs)) (c : Cls K C) (n : NoAttr K C f) (hl : fs.lookup f = some v) (q : Q v H) : FldQ K f (.ref a) H Q := ⟨a, C, dx, fs, v, rfl, h, c, n, hl, q⟩
def MakeQ (C : Addr) (sp : Sp) (E : XK) (vs : List V) (H1 : Hp) (Q : VK) : Prop := ∀ x dx, H1 x = none → H1 dx = none → dx ≠ x → sp (.ref x :: (vs ++ [])) (upd (upd H1 dx (.own x)) x (.ins C dx [])) (fun v H2 => v = .non ∧ Q (.ref x) H2) E
theorem i_make (q : t σ H fun vs H1 => MakeQ C sp E vs H1 Q) : tMake C sp [] E t σ H Q := q
def MethQ (C : Addr) (m : Str) (sp : Sp) (E : XK) (t : TA) (σ : L2.St) (x : V) (H1 : Hp) (Q : VK) : Prop := ∃ a dx fs, x = .ref a ∧ H1 a = some (.ins C dx fs) ∧ fs.lookup m = none ∧ t σ H1 fun vs H2 => sp (x :: (vs ++ [])) H2 Q E
theorem i_meth (q : ta σ H fun x H1 => MethQ C m sp E t σ x H1 Q) : tMeth C m sp [] E ta t σ H Q := q
end
/-! ### a memory -/
def fK (l : Addr) : List (Str × V) := putF "kept" (.ref l) []
theorem fK_look (l : Addr) : (fK l).lookup ("kept" : Str) = some (.ref l) := by
  unfold fK
  rw [lookup_putF, if_pos rfl]
theorem fK_no (l : Addr) {m : Str} (h : ¬ m = "kept") : (fK l).lookup m = none := by
  unfold fK
  rw [lookup_putF, if_neg h]
  all_goals rfl
def MemAt (K : PySem.W.Frag) (C : Addr) (G : Hp) (m : Addr) (ws : List (Int × Int × Int)) : Prop := ∃ dx l, G m = some (.ins C dx (fK l)) ∧ TupL K G l (ws.map vW) ∧ OkWs ws
theorem tup_at {K : PySem.W.Frag} {G : Hp} {as : List Addr} {ts : List (List V)} {i : Nat} {t : List V} (pr : Paired (fun p t => SqT K G p t) as ts) (h : ts[i]? = some t) : ∃ p, as[i]? = some p ∧ SqT K G p t := by
  have hl : i < as.length := by rw [Paired.len pr]; exact (List.getElem?_eq_some_iff.mp h).1
  exact ⟨as[i], List.getElem?_eq_getElem hl, Paired.at pr (List.getElem?_eq_getElem hl) h⟩
theorem word_at {K : PySem.W.Frag} {G : Hp} {as : List Addr} {ws : List (Int × Int × Int)} {i : Nat} {w : Int × Int × Int} (pr : Paired (fun p t => SqT K G p t) as (ws.map vW)) (h : ws[i]? = some w) : ∃ p, (as.map V.ref)[i]? = some (.ref p) ∧ SqT K G p [.int w.1, .int w.2.1, .int w.2.2] := by
  obtain ⟨p, h1, h2⟩ := tup_at (t := vW w) pr (by rw [List.getElem?_map, h]; rfl)
  exact ⟨p, by rw [List.getElem?_map, h1]; rfl, h2⟩
theorem MemAt.mono {K : PySem.W.Frag} {C : Addr} {G G' : Hp} {m : Addr} {ws : List (Int × Int × Int)} (e : Same G G') (h : MemAt K C G m ws) : MemAt K C G' m ws := by
  obtain ⟨dx, l, h1, h2, h3⟩ := h
  exact ⟨dx, l, e _ _ h1, h2.mono e, h3⟩
theorem MemAt.ok {K : PySem.W.Frag} {C : Addr} {G : Hp} {m : Addr} {ws : List (Int × Int × Int)} (h : MemAt K C G m ws) : OkWs ws := by
  obtain ⟨_, _, _, _, h⟩ := h
  exact h
def spInit (K : PySem.W.Frag) (C : Addr) : Sp := fun vs H Q _ => ∃ (G : Hp) (p dx l : Addr) (ws : List (Int × Int × Int)), vs = [.ref p, .ref l] ∧ Same G H ∧ At G H p (.ins C dx []) ∧ TupL K G l (ws.map vW) ∧ OkWs ws ∧
  ∀ l2 G' H', Gr (· = p) G H G' H' → At G' H' p (.ins C dx (fK l2)) → TupL K G' l2 (ws.map vW) → Q .non H'
def spWords (K : PySem.W.Frag) (C : Addr) : Sp := fun vs H Q _ => ∃ (G : Hp) (m : Addr) (ws : List (Int × Int × Int)), vs = [.ref m] ∧ Same G H ∧ MemAt K C G m ws ∧
  ∀ p as H', H p = none → Gr No G H G H' → At G H' p (.lst (as.map V.ref)) → Paired (fun p t => SqT K G p t) as (ws.map vW) → Q (.ref p) H'
section
variable {K : PySem.W.Frag} {σ : L2.St} {X : Addr → Prop} {G0 H0 G H : Hp} {Q : VK} {C : Addr} {E : XK}
theorem i_words {m : Addr} {ws : List (Int × Int × Int)} (g : Gr X G0 H0 G H) (M : MemAt K C G m ws)
    (k : ∀ p as H', H p = none → Gr No G H G H' → Gr X G0 H0 G H' → At G H' p (.lst (as.map V.ref)) → Paired (fun p t => SqT K G p t) as (ws.map vW) → Q (.ref p) H') : MethQ C "words" (spWords K C) E tNil σ (.ref m) H Q := by
  obtain ⟨dx, l, h1, h2, _⟩ := id M
  exact ⟨m, dx, _, rfl, g.sub _ _ h1, fK_no _ (by decide +kernel), G, m, ws, rfl, g.sub, M, fun p as H' np s t pr => k p as H' np s (g.seqN s) t pr⟩
theorem i_mem {l : Addr} {ws : List (Int × Int × Int)} (g : Gr X G0 H0 G H) (hw : TupL K G l (ws.map vW)) (ok : OkWs ws)
    (k : ∀ m G' H', H m = none → Gr No G H G' H' → Gr X G0 H0 G' H' → MemAt K C G' m ws → Q (.ref m) H') : MakeQ C (spInit K C) E [.ref l] H Q := by
  intro x dx nx ndx nex
  have s1 : Gr No G H G (upd H dx (.own x)) := Gr.new (Gr.refl g.sub) ndx
  have nx1 : (upd H dx (.own x)) x = none := by rw [upd_ne nex.symm]; exact nx
  have s2 : Gr No G H G (upd (upd H dx (.own x)) x (.ins C dx [])) := s1.new nx1
  refine ⟨G, x, dx, l, ws, rfl, s2.sub, At.of s1 nx1, hw, ok, fun l2 G' H' s3 t tl => ⟨rfl, ?_⟩⟩
  have s4 : Gr No G H G' H' := s2.seq s3 fun c e => .inr (by rw [e]; exact nx)
  have s5 := s4.close t nx
  exact k x _ H' nx s5 (g.seqN s5) ⟨dx, l2, upd_same, tl.mono (same_close t), ok⟩
end
end Z
set_option Elab.async false
set_option linter.all false
set_option maxRecDepth 100000
set_option maxHeartbeats 4000000
namespace Z
open PySem PySem.Spec PyProof.Rows L2
/-! ### what is mended when -/
/-- the free beats among the first b -/
def fr (ld : List Int) : Nat → Nat
  | 0 => 0
  | b + 1 => fr ld b + (if ld.getD (b % ld.length) 1 = 0 then 1 else 0)
/-- the n-th thing of a plan -/
def thing (hd lp : List (Option Int)) (n : Nat) : Option Int := if n < hd.length then hd.getD n none else lp.getD ((n - hd.length) % lp.length) none
def mend (ld : List Int) (hd lp : List (Option Int)) (b : Nat) : Option Int := if ld.getD (b % ld.length) 1 = 0 then thing hd lp (fr ld b) else none
def mends (ld : List Int) (hd lp : List (Option Int)) (n : Nat) : List (Option Int) := (List.range n).map (mend ld hd lp)
theorem mends_len (ld : List Int) (hd lp : List (Option Int)) (n : Nat) : (mends ld hd lp n).length = n := by unfold mends; rw [List.length_map, List.length_range]
theorem mends_succ (ld : List Int) (hd lp : List (Option Int)) (n : Nat) : mends ld hd lp (n + 1) = mends ld hd lp n ++ [mend ld hd lp n] := by unfold mends; rw [List.range_succ, List.map_append]; rfl
theorem mends_at (ld : List Int) (hd lp : List (Option Int)) {n i : Nat} (h : i < n) : (mends ld hd lp n)[i]? = some (mend ld hd lp i) := by
  unfold mends
  rw [List.getElem?_map, List.getElem?_range h]
  rfl
theorem getD_at {α : Type} {xs : List α} {i : Nat} {d : α} (h : i < xs.length) : xs[i]? = some (xs.getD i d) := by
  rw [List.getD_eq_getElem?_getD, List.getElem?_eq_getElem h]
  rfl
theorem getD_mem {α : Type} {xs : List α} {i : Nat} {d : α} (h : i < xs.length) : xs.getD i d ∈ xs := List.mem_of_getElem? (getD_at h)
theorem map_getD {α β : Type} {g : α → β} {xs : List α} {i : Nat} {d : α} (h : i < xs.length) : (xs.map g)[i]? = some (g (xs.getD i d)) := by
  rw [List.getElem?_map, getD_at (d := d) h]
  rfl
theorem thing_ok {n : Nat} {hd lp : List (Option Int)} (ok : OkPl n hd lp) (k : Nat) : okT n (thing hd lp k) := by
  unfold thing
  split
  · exact ok.hok _ (getD_mem (by assumption))
  · exact ok.lok _ (getD_mem (Nat.mod_lt _ ok.l1))
theorem mend_ok {n : Nat} {ld : List Int} {hd lp : List (Option Int)} (ok : OkPl n hd lp) (b : Nat) : okT n (mend ld hd lp b) := by
  unfold mend
  split
  · exact thing_ok ok _
  · intro i e
    cases e
/-! ### promises -/
def spNeedLoad (K : PySem.W.Frag) : Sp := fun vs H Q _ => ∃ (G : Hp) (a : Addr) (ld : List Int), vs = [.ref a] ∧ Same G H ∧ G a = some (.lst (ld.map V.int)) ∧ OkLd ld ∧ ∀ H', Gr No G H G H' → Q .non H'
def spNeedPlan (K : PySem.W.Frag) (C : Addr) : Sp := fun vs H Q _ => ∃ (G : Hp) (m p : Addr) (ws : List (Int × Int × Int)) (hd lp : List (Option Int)), vs = [.ref m, .ref p] ∧ Same G H ∧ MemAt K C G m ws ∧ Pl K G p hd lp ∧ OkPl ws.length hd lp ∧ ∀ H', Gr No G H G H' → Q .non H'
def spMended (K : PySem.W.Frag) : Sp := fun vs H Q _ => ∃ (G : Hp) (a p : Addr) (n : Int) (ld : List Int) (hd lp : List (Option Int)) (k : Nat), vs = [.ref a, .ref p, .int n] ∧ Same G H ∧ G a = some (.lst (ld.map V.int)) ∧ OkLd ld ∧ Pl K G p hd lp ∧ OkPl k hd lp ∧ 0 ≤ n ∧ n ≤ 100000 ∧
  ∀ q H', H q = none → Gr No G H G H' → At G H' q (.lst ((mends ld hd lp n.toNat).map vO)) → Q (.ref q) H'
section
variable {K : PySem.W.Frag} {C : Addr} {X : Addr → Prop} {G0 H0 G H : Hp} {Q : VK} {E : XK}
theorem i_needLoad {a : Addr} {ld : List Int} (g : Gr X G0 H0 G H) (hl : G a = some (.lst (ld.map V.int))) (ok : OkLd ld) (k : ∀ H', Gr No G H G H' → Gr X G0 H0 G H' → Q .non H') : spNeedLoad K ([.ref a] ++ []) H Q E :=
  ⟨G, a, ld, rfl, g.sub, hl, ok, fun H' s => k H' s (g.seqN s)⟩
theorem i_needPlan {m p : Addr} {ws : List (Int × Int × Int)} {hd lp : List (Option Int)} (g : Gr X G0 H0 G H) (M : MemAt K C G m ws) (pl : Pl K G p hd lp) (ok : OkPl ws.length hd lp) (k : ∀ H', Gr No G H G H' → Gr X G0 H0 G H' → Q .non H') : spNeedPlan K C ([.ref m, .ref p] ++ []) H Q E :=
  ⟨G, m, p, ws, hd, lp, rfl, g.sub, M, pl, ok, fun H' s => k H' s (g.seqN s)⟩
theorem i_mended {a p : Addr} {n : Int} {ld : List Int} {hd lp : List (Option Int)} {j : Nat} (g : Gr X G0 H0 G H) (hl : G a = some (.lst (ld.map V.int))) (ok : OkLd ld) (pl : Pl K G p hd lp) (okp : OkPl j hd lp) (h0 : 0 ≤ n) (h1 : n ≤ 100000)
    (k : ∀ q H', H q = none → Gr No G H G H' → Gr X G0 H0 G H' → At G H' q (.lst ((mends ld hd lp n.toNat).map vO)) → Q (.ref q) H') : spMended K ([.ref a, .ref p, .int n] ++ []) H Q E :=
  ⟨G, a, p, n, ld, hd, lp, j, rfl, g.sub, hl, ok, pl, okp, h0, h1, fun q H' nq s t => k q H' nq s (g.seqN s) t⟩
end
end Z
set_option Elab.async false
set_option linter.all false
set_option maxRecDepth 100000
set_option maxHeartbeats 4000000
namespace Z
open PySem PySem.Spec PyProof.Rows L2
/-! ### dicts with int keys -/
section
variable {K : PySem.W.Frag} {σ : L2.St} {X : Addr → Prop} {G0 H0 G H : Hp} {Q : VK} {v x y z : V} {ta tb td ty tx tv : TE} {D : Ends} {i : Int} {a : Addr} {kvs : List (Key × V)}
def NewD (H : Hp) (Q : VK) : Prop := ∀ p, H p = none → Q (.ref p) (upd H p (.dK []))
theorem i_dnew (q : NewD H Q) : tDNewK σ H Q := q
theorem newD (g : Gr X G0 H0 G H) (k : ∀ p H', H p = none → H0 p = none → Gr No G H G H' → Gr X G0 H0 G H' → At G H' p (.dK []) → Q (.ref p) H') : NewD H Q := fun p np => k p _ np (g.fresh np) (Gr.new (Gr.refl g.sub) np) (g.new np) (At.of g np)
def DPutQ (D : Ends) (σ : L2.St) (x y v : V) (H3 : Hp) : Prop := ∃ a H4, x = .ref a ∧ DPut H3 a y v H4 ∧ D.nx σ H4
theorem i_dput (q : tv σ H fun v H1 => td σ H1 fun x H2 => ty σ H2 fun y H3 => DPutQ D σ x y v H3) : sDPut td ty tv D σ H := q
theorem dputI (t : At G H a (.dK kvs)) (hl : kvs.length ≤ 100000) (q : D.nx σ (upd H a (.dK (putK kvs (Sum.inl i) v)))) : DPutQ D σ (.ref a) (.int i) v H := ⟨a, _, rfl, DPut.k (k := Sum.inl i) t.h (Nat.lt_of_le_of_lt hl (by decide)), q⟩
def DGet2Q (ty tx : TE) (σ : L2.St) (x : V) (H1 : Hp) (Q : VK) : Prop := ∃ a, x = .ref a ∧ IsD H1 a ∧ ty σ H1 fun y H2 => tx σ H2 fun z H3 => ∃ o, DGet H3 a y o ∧ Q (o.getD z) H3
def DG2 (a : Addr) (y z : V) (H3 : Hp) (Q : VK) : Prop := ∃ o, DGet H3 a y o ∧ Q (o.getD z) H3
theorem i_dget2 (q : td σ H fun x H1 => DGet2Q ty tx σ x H1 Q) : tDGet2 td ty tx σ H Q := q
theorem dget2 (h : At G H a (.dK kvs)) (q : ty σ H fun y H2 => tx σ H2 fun z H3 => DG2 a y z H3 Q) : DGet2Q ty tx σ (.ref a) H Q := ⟨a, rfl, .inl ⟨kvs, .inl h.h⟩, q⟩
theorem dg2 (h : At G H a (.dK kvs)) (q : Q ((valV kvs (Sum.inl i)).getD z) H) : DG2 a (.int i) z H Q := ⟨_, DGet.k (k := Sum.inl i) h.h, q⟩
def DInQ (y x : V) (H2 : Hp) (Q : VK) : Prop := ∃ a o, x = .ref a ∧ DGet H2 a y o ∧ Q (.bl o.isSome) H2
theorem i_din (q : ty σ H fun y H1 => td σ H1 fun x H2 => DInQ y x H2 Q) : tDIn ty td σ H Q := q
theorem dinI (h : At G H a (.dK kvs)) (q : Q (.bl (valV kvs (Sum.inl i)).isSome) H) : DInQ (.int i) (.ref a) H Q := ⟨a, _, rfl, DGet.k (k := Sum.inl i) h.h, q⟩
def DGetQ (x y : V) (H2 : Hp) (Q : VK) : Prop := ∃ a v, x = .ref a ∧ DGet H2 a y (some v) ∧ Q v H2
theorem i_dget (q : td σ H fun x H1 => ty σ H1 fun y H2 => DGetQ x y H2 Q) : tDGet td ty σ H Q := q
theorem dgetI (h : At G H a (.dK kvs)) (e : valV kvs (Sum.inl i) = some v) (q : Q v H) : DGetQ (.ref a) (.int i) H Q := ⟨a, v, rfl, by rw [← e]; exact DGet.k (k := Sum.inl i) h.h, q⟩
end
/-! ### strokes -/
abbrev W3 := Int × Int × Int
def d3 : W3 := (1, 0, 1)
structure OkSt (ws : List W3) (ss : List W3) : Prop where
  few : ss.length ≤ 1000
  rng : ∀ s ∈ ss, 0 ≤ s.1 ∧ s.1 ≤ 999 ∧ 0 ≤ s.2.1 ∧ s.2.1 < ws.length ∧ 0 ≤ s.2.2 ∧ s.2.2 < (ws.getD s.2.1.toNat d3).1
  ord : ss.Pairwise fun s t => ltP (s.1, s.2.1) (t.1, t.2.1) ∧ (s.2.1 = t.2.1 → (ws.getD t.2.1.toNat d3).2.2 ≤ t.1 - s.1)
theorem pw_at {α : Type} {R : α → α → Prop} {xs : List α} (h : xs.Pairwise R) {i j : Nat} {x y : α} (hi : xs[i]? = some x) (hj : xs[j]? = some y) (l : i < j) : R x y := by
  obtain ⟨h1, e1⟩ := List.getElem?_eq_some_iff.mp hi
  obtain ⟨h2, e2⟩ := List.getElem?_eq_some_iff.mp hj
  have := List.pairwise_iff_getElem.mp h i j h1 h2 l
  rw [e1, e2] at this
  exact this
/-- the last beat of each word, as a dict that a walk over strokes has filled -/
def LastOf (ss : List W3) (i : Nat) (kvs : List (Key × V)) : Prop := kvs.length ≤ i ∧ ∀ (w : Int) (v : V), valV kvs (Sum.inl w) = some v → ∃ j s, j < i ∧ ss[j]? = some s ∧ s.2.1 = w ∧ v = .int s.1
theorem lastOf_nil (ss : List W3) : LastOf ss 0 [] := ⟨Nat.le_refl _, fun w v h => by cases h⟩
theorem lastOf_put {ss : List W3} {i : Nat} {kvs : List (Key × V)} {s : W3} (h : LastOf ss i kvs) (hs : ss[i]? = some s) : LastOf ss (i + 1) (putK kvs (Sum.inl s.2.1) (.int s.1)) := by
  refine ⟨Nat.le_trans (length_putK _ _ _) (by have := h.1; omega), fun w v hv => ?_⟩
  rw [valV_put] at hv
  by_cases e : (Sum.inl w : Key) = Sum.inl s.2.1
  · rw [if_pos e] at hv
    cases hv
    exact ⟨i, s, by omega, hs, (Sum.inl.inj e).symm, rfl⟩
  · rw [if_neg e] at hv
    obtain ⟨j, t, hj, ht, h1, h2⟩ := h.2 w v hv
    exact ⟨j, t, by omega, ht, h1, h2⟩
def spNeedStrokes (K : PySem.W.Frag) (C : Addr) : Sp := fun vs H Q _ => ∃ (G : Hp) (m p : Addr) (ws ss : List W3), vs = [.ref m, .ref p] ∧ Same G H ∧ MemAt K C G m ws ∧ TupL K G p (ss.map vW) ∧ OkSt ws ss ∧ ∀ H', Gr No G H G H' → Q .non H'
theorem i_needStrokes {K : PySem.W.Frag} {C : Addr} {X : Addr → Prop} {G0 H0 G H : Hp} {Q : VK} {E : XK} {m p : Addr} {ws ss : List W3} (g : Gr X G0 H0 G H) (M : MemAt K C G m ws) (hs : TupL K G p (ss.map vW)) (ok : OkSt ws ss)
    (k : ∀ H', Gr No G H G H' → Gr X G0 H0 G H' → Q .non H') : spNeedStrokes K C ([.ref m, .ref p] ++ []) H Q E := ⟨G, m, p, ws, ss, rfl, g.sub, M, hs, ok, fun H' s => k H' s (g.seqN s)⟩
end Z
set_option Elab.async false
set_option linter.all false
set_option maxRecDepth 100000
set_option maxHeartbeats 4000000
namespace Z
open PySem PySem.Spec PyProof.Rows L2
/-! ### a run, as a function -/
def srt (xs : List Int) : List Int := xs.mergeSort fun a b => decide (a ≤ b)
theorem srt_perm (xs : List Int) : (srt xs).Perm xs := List.mergeSort_perm _ _
theorem srt_le (xs : List Int) : (srt xs).Pairwise (· ≤ ·) := by
  have h := List.pairwise_mergeSort (le := fun a b : Int => decide (a ≤ b)) (fun a b c h1 h2 => by simp at *; omega) (fun a b => by simp; omega) xs
  exact h.imp fun h => by simpa using h
theorem srt_uniq {xs ys : List Int} (h : ys.Perm xs) (s : ys.Pairwise (· ≤ ·)) : ys = srt xs := List.Perm.eq_of_pairwise (fun a b _ _ h1 h2 => Int.le_antisymm h1 h2) s (srt_le xs) (h.trans (srt_perm xs).symm)
def flip (b : Int) (xs : List Int) : List Int := if b ∈ xs then xs.filter (fun o => !decide (o = b)) else srt (xs ++ [b])
/-- rising, of bits -/
structure OkX (xs : List Int) : Prop where
  up : xs.Pairwise (· < ·)
  rg : ∀ x ∈ xs, 0 ≤ x ∧ x < 8
theorem okX_len : ∀ (k : Nat) (xs : List Int), xs.Pairwise (· < ·) → (∀ x ∈ xs, (8 : Int) - k ≤ x ∧ x < 8) → xs.length ≤ k
  | _, [], _, _ => Nat.zero_le _
  | 0, x :: xs, _, h => by have := h x List.mem_cons_self; omega
  | k + 1, x :: xs, u, h => by
    have h1 := List.pairwise_cons.mp u
    have h0 := h x List.mem_cons_self
    refine Nat.succ_le_succ (okX_len k xs h1.2 fun y hy => ?_)
    have h2 := h1.1 y hy
    have h3 := h y (List.mem_cons_of_mem _ hy)
    omega
theorem OkX.len {xs : List Int} (h : OkX xs) : xs.length ≤ 8 := okX_len 8 xs h.up fun x hx => by have := h.rg x hx; omega
theorem okX_nil : OkX [] := ⟨.nil, fun _ h => by cases h⟩
theorem okX_flip {b : Int} {xs : List Int} (h : OkX xs) (h0 : 0 ≤ b) (h8 : b < 8) : OkX (flip b xs) := by
  unfold flip
  split
  · exact ⟨h.up.filter _, fun x hx => h.rg x (List.mem_filter.mp hx).1⟩
  · rename_i hb
    have hp := srt_perm (xs ++ [b])
    refine ⟨?_, fun x hx => ?_⟩
    · have hn : (srt (xs ++ [b])).Nodup := by
        refine hp.nodup_iff.mpr ?_
        rw [List.nodup_append]
        refine ⟨h.up.imp fun h e => by omega, by simp, fun x hx y hy e => ?_⟩
        rw [List.mem_singleton.mp hy] at e
        rw [e] at hx
        exact hb hx
      have hle := srt_le (xs ++ [b])
      exact (hle.and hn).imp fun ⟨h1, h2⟩ => by omega
    · rcases List.mem_append.mp (hp.mem_iff.mp hx) with h1 | h1
      · exact h.rg x h1
      · rw [List.mem_singleton.mp h1]; exact ⟨h0, h8⟩
def strokeAt (b : Int) (tu : List (List Int)) (s : W3) : List (List Int) := if s.1 = b then tu.set s.2.1.toNat (flip s.2.2 (tu.getD s.2.1.toNat [])) else tu
def strokesAt (b : Int) (ss : List W3) (tu : List (List Int)) : List (List Int) := ss.foldl (strokeAt b) tu
def mendAt (o : Option Int) (tu : List (List Int)) : List (List Int) := match o with
  | none => tu
  | some w => tu.set w.toNat []
def tuAt (mf : Nat → Option Int) (ss : List W3) (n : Nat) : Nat → List (List Int)
  | 0 => List.replicate n []
  | b + 1 => strokesAt b ss (mendAt (mf b) (tuAt mf ss n b))
/-- word w is lost -/
def lossP (ws : List W3) (tu : List (List Int)) (w : Nat) : Prop := w < ws.length ∧ (ws.getD w d3).2.1 < ((tu.getD w []).length : Int)
/-- the least word lost, if any -/
def LossAt (ws : List W3) (tu : List (List Int)) (o : Option Nat) : Prop := match o with
  | none => ∀ w, ¬ lossP ws tu w
  | some w => lossP ws tu w ∧ ∀ v, v < w → ¬ lossP ws tu v
/-- what run tells -/
def RunRes (ws : List W3) (mf : Nat → Option Int) (ss : List W3) (n : Nat) (lost : Option (Nat × Nat)) (tu : List (List Int)) : Prop := match lost with
  | none => tu = tuAt mf ss ws.length n ∧ ∀ b, b < n → LossAt ws (tuAt mf ss ws.length (b + 1)) none
  | some (b, w) => b < n ∧ tu = tuAt mf ss ws.length (b + 1) ∧ LossAt ws tu (some w) ∧ ∀ c, c < b → LossAt ws (tuAt mf ss ws.length (c + 1)) none
theorem RunRes.uniq {ws : List W3} {mf : Nat → Option Int} {ss : List W3} {n : Nat} {l l2 : Option (Nat × Nat)} {t t2 : List (List Int)} (h : RunRes ws mf ss n l t) (h2 : RunRes ws mf ss n l2 t2) : l = l2 ∧ t = t2 := by
  match l, l2, h, h2 with
  | none, none, h, h2 => exact ⟨rfl, h.1.trans h2.1.symm⟩
  | none, some (b, w), h, h2 =>
    obtain ⟨h3, h4, h5, _⟩ := h2
    rw [h4] at h5
    exact absurd h5.1 (h.2 b h3 w)
  | some (b, w), none, h, h2 =>
    obtain ⟨h3, h4, h5, _⟩ := h
    rw [h4] at h5
    exact absurd h5.1 (h2.2 b h3 w)
  | some (b, w), some (c, v), h, h2 =>
    obtain ⟨h3, h4, h5, h6⟩ := h
    obtain ⟨k3, k4, k5, k6⟩ := h2
    rw [h4] at h5
    rw [k4] at k5
    have e : b = c := by
      rcases Nat.lt_trichotomy b c with z | z | z
      · exact absurd h5.1 (k6 b z w)
      · exact z
      · exact absurd k5.1 (h6 c z v)
    subst e
    have e2 : w = v := by
      rcases Nat.lt_trichotomy w v with z | z | z
      · exact absurd h5.1 (k5.2 w z)
      · exact z
      · exact absurd k5.1 (h5.2 v z)
    subst e2
    exact ⟨rfl, h4.trans k4.symm⟩
theorem strokesAt_take {b : Int} {ss : List W3} {tu : List (List Int)} {i : Nat} {s : W3} (h : ss[i]? = some s) : strokesAt b (ss.take (i + 1)) tu = strokeAt b (strokesAt b (ss.take i) tu) s := by
  unfold strokesAt
  rw [List.take_add_one, h, List.foldl_append]
  rfl
/-- all words' lists are in order -/
structure OkTu (n : Nat) (tu : List (List Int)) : Prop where
  len : tu.length = n
  ok : ∀ xs ∈ tu, OkX xs
theorem okTu_set {n : Nat} {tu : List (List Int)} (h : OkTu n tu) (i : Nat) {xs : List Int} (hx : OkX xs) : OkTu n (tu.set i xs) := ⟨by rw [List.length_set]; exact h.len, fun y hy => (List.mem_or_eq_of_mem_set hy).elim (h.ok y) fun e => by rw [e]; exact hx⟩
theorem okTu_getD {n : Nat} {tu : List (List Int)} (h : OkTu n tu) (i : Nat) : OkX (tu.getD i []) := by
  by_cases hi : i < tu.length
  · exact h.ok _ (getD_mem hi)
  · rw [List.getD_eq_getElem?_getD, List.getElem?_eq_none (by omega)]; exact okX_nil
theorem okTu_mend {n : Nat} {tu : List (List Int)} (h : OkTu n tu) (o : Option Int) : OkTu n (mendAt o tu) := by
  cases o with
  | none => exact h
  | some w => exact okTu_set h _ okX_nil
theorem okTu_stroke {n : Nat} {tu : List (List Int)} (h : OkTu n tu) (b : Int) {s : W3} (h0 : 0 ≤ s.2.2) (h8 : s.2.2 < 8) : OkTu n (strokeAt b tu s) := by
  unfold strokeAt
  split
  · exact okTu_set h _ (okX_flip (okTu_getD h _) h0 h8)
  · exact h
theorem okTu_strokes {n : Nat} (b : Int) : ∀ (ss : List W3) {tu : List (List Int)}, OkTu n tu → (∀ s ∈ ss, 0 ≤ s.2.2 ∧ s.2.2 < 8) → OkTu n (strokesAt b ss tu)
  | [], _, h, _ => h
  | s :: ss, tu, h, hs => okTu_strokes b ss (okTu_stroke h b (hs s List.mem_cons_self).1 (hs s List.mem_cons_self).2) fun t ht => hs t (List.mem_cons_of_mem _ ht)
theorem okTu_at {ws ss : List W3} (mf : Nat → Option Int) (hs : ∀ s ∈ ss, 0 ≤ s.2.2 ∧ s.2.2 < 8) : ∀ b, OkTu ws.length (tuAt mf ss ws.length b)
  | 0 => ⟨List.length_replicate, fun xs hx => by rw [(List.mem_replicate.mp hx).2]; exact okX_nil⟩
  | b + 1 => okTu_strokes _ ss (okTu_mend (okTu_at mf hs b) _) hs
theorem bits_of {ws ss : List W3} (okw : OkWs ws) (ok : OkSt ws ss) : ∀ s ∈ ss, 0 ≤ s.2.2 ∧ s.2.2 < 8 := fun s hs => by
  obtain ⟨_, _, h3, h4, h5, h6⟩ := ok.rng s hs
  have h := okw.ok _ (getD_mem (d := d3) (show s.2.1.toNat < ws.length by omega))
  have := h.2.1
  omega
/-! ### a list of open lists -/
structure TuAt (G H H0 : Hp) (t : Addr) (ls : List Addr) (tu : List (List Int)) : Prop where
  tt : At G H t (.lst (ls.map V.ref))
  pr : Paired (fun p xs => At G H p (.lst (xs.map V.int)) ∧ H0 p = none) ls tu
  nd : ls.Nodup
  nt : ¬ t ∈ ls
  n0 : H0 t = none
theorem Paired.mem {α β : Type} {R : α → β → Prop} : ∀ {xs : List α} {ys : List β}, Paired R xs ys → ∀ {x : α}, x ∈ xs → ∃ y, R x y
  | _, _, .nil, _, h => by cases h
  | _, _, .cons r t, x, h => by
    rcases List.mem_cons.mp h with e | h
    · rw [e]; exact ⟨_, r⟩
    · exact Paired.mem t h
theorem Paired.impM {α β : Type} {R S : α → β → Prop} : ∀ {xs : List α} {ys : List β}, Paired R xs ys → (∀ x y, x ∈ xs → R x y → S x y) → Paired S xs ys
  | _, _, .nil, _ => .nil
  | _, _, .cons r t, f => .cons (f _ _ List.mem_cons_self r) (Paired.impM t fun x y h => f x y (List.mem_cons_of_mem _ h))
theorem Paired.setM {α β : Type} {R : α → β → Prop} {x : α} {y : β} (r : R x y) : ∀ {xs : List α} {ys : List β} (i : Nat), Paired R xs ys → Paired R (xs.set i x) (ys.set i y)
  | _, _, _, .nil => .nil
  | _, _, 0, .cons _ t => .cons r t
  | _, _, i + 1, .cons q t => .cons q (Paired.setM r i t)
theorem nodup_set {α : Type} {x : α} : ∀ {xs : List α}, xs.Nodup → ¬ x ∈ xs → ∀ i, (xs.set i x).Nodup
  | [], h, _, _ => h
  | y :: ys, h, n, 0 => List.nodup_cons.mpr ⟨fun z => n (List.mem_cons_of_mem _ z), (List.nodup_cons.mp h).2⟩
  | y :: ys, h, n, i + 1 => List.nodup_cons.mpr ⟨fun z => (List.mem_or_eq_of_mem_set z).elim (List.nodup_cons.mp h).1 fun e => n (by rw [← e]; exact List.mem_cons_self), nodup_set (List.nodup_cons.mp h).2 (fun z => n (List.mem_cons_of_mem _ z)) i⟩
section
variable {G H H0 G1 H1 : Hp} {t q : Addr} {ls : List Addr} {tu : List (List Int)} {xs : List Int}
theorem TuAt.mono (T : TuAt G H H0 t ls tu) (s : Gr No G H G1 H1) : TuAt G1 H1 H0 t ls tu := ⟨T.tt.monoN s, Paired.imp (fun _ _ h => ⟨h.1.monoN s, h.2⟩) T.pr, T.nd, T.nt, T.n0⟩
theorem TuAt.fresh (T : TuAt G H H0 t ls tu) (n : H q = none) : ¬ q ∈ ls ∧ q ≠ t := by
  refine ⟨fun h => ?_, fun e => ?_⟩
  · obtain ⟨xs, h1, _⟩ := Paired.mem T.pr h
    rw [h1.h] at n
    cases n
  · rw [e, T.tt.h] at n
    cases n
theorem TuAt.len (T : TuAt G H H0 t ls tu) : ls.length = tu.length := Paired.len T.pr
theorem TuAt.get (T : TuAt G H H0 t ls tu) {i : Nat} (h : i < tu.length) : ∃ p, (ls.map V.ref)[i]? = some (.ref p) ∧ At G H p (.lst ((tu.getD i []).map V.int)) := by
  have hl : i < ls.length := by rw [T.len]; exact h
  refine ⟨ls[i], by rw [List.getElem?_map, List.getElem?_eq_getElem hl]; rfl, ?_⟩
  exact (Paired.at T.pr (List.getElem?_eq_getElem hl) (getD_at (d := []) h)).1
theorem TuAt.set (T : TuAt G H H0 t ls tu) (tq : At G H q (.lst (xs.map V.int))) (nq : ¬ q ∈ ls) (nqt : q ≠ t) (q0 : H0 q = none) (i : Nat) : TuAt G (upd H t (.lst ((ls.map V.ref).set i (.ref q)))) H0 t (ls.set i q) (tu.set i xs) := by
  refine ⟨by rw [List.map_set]; exact T.tt.put, Paired.setM ⟨tq.off nqt, q0⟩ i (Paired.impM T.pr fun x y hx h => ⟨h.1.off fun e => T.nt (by rw [← e]; exact hx), h.2⟩), ?_, fun h => ?_, T.n0⟩
  · exact nodup_set T.nd nq i
  · rcases List.mem_or_eq_of_mem_set h with h | h
    · exact T.nt h
    · exact nqt h.symm
end
theorem TuAt.off {G H H0 : Hp} {t q : Addr} {ls : List Addr} {tu : List (List Int)} {u : HO} (T : TuAt G H H0 t ls tu) (nq : ¬ q ∈ ls) (nqt : q ≠ t) : TuAt G (upd H q u) H0 t ls tu :=
  ⟨T.tt.off fun e => nqt e.symm, Paired.impM T.pr fun x y hx h => ⟨h.1.off fun e => nq (by rw [← e]; exact hx), h.2⟩, T.nd, T.nt, T.n0⟩
theorem TuAt.push {G H H0 : Hp} {t q : Addr} {ls : List Addr} {tu : List (List Int)} {xs : List Int} (T : TuAt G H H0 t ls tu) (tq : At G H q (.lst (xs.map V.int))) (nq : ¬ q ∈ ls) (nqt : q ≠ t) (q0 : H0 q = none) : TuAt G (upd H t (.lst (ls.map V.ref ++ [.ref q]))) H0 t (ls ++ [q]) (tu ++ [xs]) := by
  refine ⟨by rw [List.map_append]; exact T.tt.put, Paired.snoc ⟨tq.off nqt, q0⟩ (Paired.impM T.pr fun x y hx h => ⟨h.1.off fun e => T.nt (by rw [← e]; exact hx), h.2⟩), ?_, fun h => ?_, T.n0⟩
  · rw [List.nodup_append]
    exact ⟨T.nd, by simp, fun a ha b hb e => nq (by rw [← List.mem_singleton.mp hb, ← e]; exact ha)⟩
  · rcases List.mem_append.mp h with h | h
    · exact T.nt h
    · exact nqt (List.mem_singleton.mp h).symm
theorem i_sortedI {K : PySem.W.Frag} {H : Hp} {Q : VK} {c : Addr} {ns : List Int} (h : SqL K H c (ns.map V.int)) (q : NewL ((srt ns).map V.int) H Q) : rSortedI K [.ref c] H Q :=
  ⟨c, ns, rfl, h, fun ns' p pm sm np => by rw [srt_uniq pm sm]; exact q.2 p np⟩
theorem filter_take {α : Type} {P : α → Bool} {xs : List α} {i : Nat} {x : α} (h : xs[i]? = some x) : (xs.take (i + 1)).filter P = (xs.take i).filter P ++ (if P x then [x] else []) := by
  rw [List.take_add_one, h, List.filter_append]
  congr 1
  show List.filter P [x] = _
  rw [List.filter_cons]
  rfl
/-- the first loss, told -/
def LostV (K : PySem.W.Frag) (G : Hp) (v : V) (lost : Option (Nat × Nat)) : Prop := match lost with
  | none => v = .non
  | some (b, w) => ∃ p, v = .ref p ∧ SqT K G p [.int (b : Nat), .int (w : Nat)]
def spRun (K : PySem.W.Frag) (C : Addr) : Sp := fun vs H Q _ => ∃ (G : Hp) (m a p s : Addr) (n : Int) (ws ss : List W3) (ld : List Int) (hd lp : List (Option Int)), vs = [.ref m, .ref a, .ref p, .ref s, .int n] ∧ Same G H ∧ MemAt K C G m ws ∧
  G a = some (.lst (ld.map V.int)) ∧ OkLd ld ∧ Pl K G p hd lp ∧ OkPl ws.length hd lp ∧ TupL K G s (ss.map vW) ∧ OkSt ws ss ∧ 0 ≤ n ∧ n ≤ 100000 ∧
  ∀ lost tu r t lv ls G' H', RunRes ws (mend ld hd lp) ss n.toNat lost tu → Gr No G H G' H' → H r = none → SqT K G' r [lv, .ref t] → LostV K G' lv lost → TuAt G' H' H t ls tu → Q (.ref r) H'
end Z
set_option Elab.async false
set_option linter.all false
set_option maxRecDepth 100000
set_option maxHeartbeats 4000000
namespace Z
open PySem PySem.Spec PyProof.Rows L2
/-! ### the law's own list of mendings -/
/-- what is left of a plan behind k things -/
structure Left (hd lp : List (Option Int)) (k : Nat) (L : List (Option Int)) : Prop where
  at_ : ∀ j, j < L.length → L.getD j none = thing hd lp (k + j)
  ge : hd.length ≤ k + L.length
  al : (k + L.length - hd.length) % lp.length = 0
  few : L.length ≤ hd.length + lp.length
theorem left_zero (hd lp : List (Option Int)) : Left hd lp 0 hd := by
  refine ⟨fun j hj => ?_, by omega, by rw [Nat.zero_add, Nat.sub_self]; exact Nat.zero_mod _, by omega⟩
  rw [Nat.zero_add]
  unfold thing
  rw [if_pos hj]
theorem left_new {hd lp : List (Option Int)} {k : Nat} (h : Left hd lp k []) (l1 : 1 ≤ lp.length) : Left hd lp k lp := by
  have h1 := h.ge
  have h2 := h.al
  rw [List.length_nil, Nat.add_zero] at h1 h2
  refine ⟨fun j hj => ?_, by omega, ?_, by omega⟩
  · unfold thing
    rw [if_neg (by omega)]
    have e : (k + j - hd.length) % lp.length = j := by
      rw [show k + j - hd.length = (k - hd.length) + j by omega, Nat.add_mod, h2, Nat.zero_add, Nat.mod_mod, Nat.mod_eq_of_lt hj]
    rw [e]
  · rw [show k + lp.length - hd.length = (k - hd.length) + lp.length by omega, Nat.add_mod_right]
    exact h2
theorem left_pop {hd lp : List (Option Int)} {k : Nat} {o : Option Int} {L : List (Option Int)} (h : Left hd lp k (o :: L)) : o = thing hd lp k ∧ Left hd lp (k + 1) L := by
  refine ⟨h.at_ 0 (Nat.succ_pos _), fun j hj => ?_, ?_, ?_, ?_⟩
  · have := h.at_ (j + 1) (Nat.succ_lt_succ hj)
    rw [show k + 1 + j = k + (j + 1) by omega]
    exact this
  · have := h.ge
    rw [List.length_cons] at this
    omega
  · have := h.al
    rw [List.length_cons] at this
    rw [show k + 1 + L.length = k + (L.length + 1) by omega]
    exact this
  · have := h.few
    rw [List.length_cons] at this
    omega
def spMends (K : PySem.W.Frag) : Sp := fun vs H Q _ => ∃ (G : Hp) (a p : Addr) (n : Int) (ld : List Int) (hd lp : List (Option Int)) (k : Nat), vs = [.ref a, .ref p, .int n] ∧ Same G H ∧ G a = some (.lst (ld.map V.int)) ∧ OkLd ld ∧ Pl K G p hd lp ∧ OkPl k hd lp ∧ 0 ≤ n ∧ n ≤ 100000 ∧
  ∀ q H', H q = none → Gr No G H G H' → At G H' q (.lst ((mends ld hd lp n.toNat).map vO)) → Q (.ref q) H'
section
variable {K : PySem.W.Frag} {C : Addr} {X : Addr → Prop} {G0 H0 G H : Hp} {Q : VK} {E : XK}
theorem i_mends {a p : Addr} {n : Int} {ld : List Int} {hd lp : List (Option Int)} {j : Nat} (g : Gr X G0 H0 G H) (hl : G a = some (.lst (ld.map V.int))) (ok : OkLd ld) (pl : Pl K G p hd lp) (okp : OkPl j hd lp) (h0 : 0 ≤ n) (h1 : n ≤ 100000)
    (k : ∀ q H', H q = none → Gr No G H G H' → Gr X G0 H0 G H' → At G H' q (.lst ((mends ld hd lp n.toNat).map vO)) → Q (.ref q) H') : spMends K ([.ref a, .ref p, .int n] ++ []) H Q E :=
  ⟨G, a, p, n, ld, hd, lp, j, rfl, g.sub, hl, ok, pl, okp, h0, h1, fun q H' nq s t => k q H' nq s (g.seqN s) t⟩
theorem i_pop0 {l : Addr} {y : V} {xs : List V} (h : H l = some (.lst (y :: xs))) (q : Q y (upd H l (.lst xs))) : rPopAt (.ref l) [.int 0] H Q := by
  refine ⟨l, y :: xs, 0, 0, y, rfl, rfl, h, by omega, by omega, ?_, rfl, q⟩
  simp [seqIndex?]
end
/-- words and strokes as data -/
def dW (w : W3) : PyData := .tuple [.int w.1, .int w.2.1, .int w.2.2]
theorem dk_W {k : Nat} (w : W3) : Dk (k + 1) (dW w) := dk_tup fun d hd => by
  simp only [List.mem_cons, List.not_mem_nil, or_false] at hd
  rcases hd with rfl | rfl | rfl <;> exact dk_int
theorem dk_Ws {k : Nat} (ws : List W3) : Dk (k + 2) (.list (ws.map dW)) := dk_list fun d hd => by
  obtain ⟨w, _, rfl⟩ := List.mem_map.mp hd
  exact dk_W w
theorem dpAll_W {K : PySem.W.Frag} {H : Hp} : ∀ {as : List Addr} {ws : List W3}, Paired (fun p t => SqT K H p t) as (ws.map vW) → DpAll K H (as.map V.ref) (ws.map dW)
  | [], [], _ => .nil
  | [], _ :: _, h => by cases h
  | _ :: _, [], h => by cases h
  | a :: as, w :: ws, h => by
    cases h with
    | cons h1 h2 => exact .cons (.tup h1 (.cons (.int _) (.cons (.int _) (.cons (.int _) .nil)))) (dpAll_W h2)
end Z
set_option Elab.async false
set_option linter.all false
set_option maxRecDepth 100000
set_option maxHeartbeats 4000000
namespace Z
open PySem PySem.Spec PyProof.Rows L2
theorem i_sl32 {K : PySem.W.Frag} {H : Hp} {Q : VK} {p : Addr} {a b c : V} (h : SqT K H p [a, b, c]) (q : NewT [a, b] H Q) : rSlT K (.ref p) none (some 2) H Q := i_slT h (by show ¬ (HT.sIx 3 0 none = 0 ∧ HT.sIx 3 3 (some 2) = 3); decide) q
/-- the words lost, as a list -/
def lostL (ws : List W3) (tu : List (List Int)) (n : Nat) : List Nat := (List.range n).filter fun w => decide ((ws.getD w d3).2.1 < ((tu.getD w []).length : Int))
theorem lostL_none {ws : List W3} {tu : List (List Int)} (h : lostL ws tu ws.length = []) : LossAt ws tu none := by
  intro w hw
  have : w ∈ lostL ws tu ws.length := List.mem_filter.mpr ⟨List.mem_range.mpr hw.1, decide_eq_true hw.2⟩
  rw [h] at this
  cases this
theorem lostL_some {ws : List W3} {tu : List (List Int)} {w : Nat} {r : List Nat} (h : lostL ws tu ws.length = w :: r) : LossAt ws tu (some w) := by
  have e : (lostL ws tu ws.length).head? = some w := by rw [h]; rfl
  unfold lostL at e
  rw [List.head?_filter, List.find?_range_eq_some] at e
  obtain ⟨h1, h2, h3⟩ := e
  refine ⟨⟨List.mem_range.mp h2, of_decide_eq_true h1⟩, fun v hv hl => ?_⟩
  have := h3 v hv
  rw [decide_eq_true hl.2] at this
  cases this
theorem lostL_succ (ws : List W3) (tu : List (List Int)) (n : Nat) : lostL ws tu (n + 1) = lostL ws tu n ++ (if (ws.getD n d3).2.1 < ((tu.getD n []).length : Int) then [n] else []) := by
  unfold lostL
  rw [List.range_succ, List.filter_append]
  congr 1
  rw [List.filter_cons]
  by_cases h : (ws.getD n d3).2.1 < ((tu.getD n []).length : Int)
  · rw [if_pos (decide_eq_true h), if_pos h]; rfl
  · rw [if_neg (by simpa using h), if_neg h]; rfl
theorem lostL_len (ws : List W3) (tu : List (List Int)) (n : Nat) : (lostL ws tu n).length ≤ n := by
  refine Nat.le_trans (List.length_filter_le _ _) ?_
  rw [List.length_range]
  exact Nat.le_refl n
def nI (w : Nat) : Int := (w : Int)
def spFall (K : PySem.W.Frag) : Sp := fun vs H Q _ => ∃ (G : Hp) (a p : Addr) (ws ss : List W3), vs = [.ref a, .ref p] ∧ Same G H ∧ TupL K G a (ws.map vW) ∧ OkWs ws ∧ TupL K G p (ss.map vW) ∧ OkSt ws ss ∧ ∀ H', Gr No G H G H' → Q (.bl true) H'
def spStrokes (K : PySem.W.Frag) : Sp := fun vs H Q _ => ∃ (G : Hp) (d a : Addr) (m : Int) (ws : List W3), vs = [.ref d, .ref a, .int m] ∧ Same G H ∧ Dice K G H d ∧ TupL K G a (ws.map vW) ∧ OkWs ws ∧ 0 ≤ m ∧ m ≤ 100 ∧
  ∀ ss p G' H', Gr (· = d) G H G' H' → Dice K G' H' d → TupL K G' p (ss.map vW) → OkSt ws ss → (∀ s ∈ ss, s.1 ≤ 2 * m) → Q (.ref p) H'
theorem ltP_trans {a b c : Int × Int} (h1 : ltP a b) (h2 : ltP b c) : ltP a c := by
  obtain ⟨a1, a2⟩ := a
  obtain ⟨b1, b2⟩ := b
  obtain ⟨c1, c2⟩ := c
  have h1 : a1 < b1 ∨ (a1 = b1 ∧ a2 < b2) := h1
  have h2 : b1 < c1 ∨ (b1 = c1 ∧ b2 < c2) := h2
  show a1 < c1 ∨ (a1 = c1 ∧ a2 < c2)
  omega
section
variable {K : PySem.W.Frag} {X : Addr → Prop} {G0 H0 G H : Hp} {Q : VK} {E : XK}
theorem i_fall {a p : Addr} {ws ss : List W3} (g : Gr X G0 H0 G H) (hw : TupL K G a (ws.map vW)) (okw : OkWs ws) (hs : TupL K G p (ss.map vW)) (ok : OkSt ws ss) (k : ∀ H', Gr No G H G H' → Gr X G0 H0 G H' → Q (.bl true) H') : spFall K ([.ref a, .ref p] ++ []) H Q E :=
  ⟨G, a, p, ws, ss, rfl, g.sub, hw, okw, hs, ok, fun H' s => k H' s (g.seqN s)⟩
theorem i_strokes {d a : Addr} {m : Int} {ws : List W3} (g : Gr X G0 H0 G H) (D : Dice K G H d) (hd : X d ∨ H0 d = none) (hw : TupL K G a (ws.map vW)) (okw : OkWs ws) (h0 : 0 ≤ m) (h1 : m ≤ 100)
    (k : ∀ ss p G' H', Gr (· = d) G H G' H' → Gr X G0 H0 G' H' → Dice K G' H' d → TupL K G' p (ss.map vW) → OkSt ws ss → (∀ s ∈ ss, s.1 ≤ 2 * m) → Q (.ref p) H') : spStrokes K ([.ref d, .ref a, .int m] ++ []) H Q E :=
  ⟨G, d, a, m, ws, rfl, g.sub, D, hw, okw, h0, h1, fun ss p G' H' s => k ss p G' H' s (g.seq s fun c e => by rw [e]; exact hd)⟩
end
/-- the last beat of each word, seen from the drawing side -/
structure LastIs (ss : List W3) (kvs : List (Key × V)) : Prop where
  few : kvs.length ≤ ss.length
  is : ∀ w, (valV kvs (Sum.inl w) = none ∨ ∃ x, valV kvs (Sum.inl w) = some (.int x) ∧ 0 ≤ x) ∧ ∀ s ∈ ss, s.2.1 = w → ∃ x, valV kvs (Sum.inl w) = some (.int x) ∧ s.1 ≤ x
theorem lastIs_nil : LastIs [] [] := ⟨Nat.le_refl _, fun w => ⟨.inl rfl, fun s hs => by cases hs⟩⟩
theorem lastIs_put {ss : List W3} {kvs : List (Key × V)} {b w t : Int} (h : LastIs ss kvs) (h0 : 0 ≤ b) (hb : ∀ s ∈ ss, s.1 ≤ b) : LastIs (ss ++ [(b, w, t)]) (putK kvs (Sum.inl w) (.int b)) := by
  refine ⟨Nat.le_trans (length_putK _ _ _) (by have := h.few; simp; omega), fun v => ?_⟩
  rw [valV_put]
  by_cases e : (Sum.inl v : Key) = Sum.inl w
  · have e2 : v = w := Sum.inl.inj e
    rw [if_pos e]
    refine ⟨.inr ⟨b, rfl, h0⟩, fun s hs hw => ⟨b, rfl, ?_⟩⟩
    rcases List.mem_append.mp hs with h1 | h1
    · exact hb s h1
    · rw [List.mem_singleton.mp h1]; exact Int.le_refl b
  · have e2 : v ≠ w := fun z => e (by rw [z])
    rw [if_neg e]
    refine ⟨(h.is v).1, fun s hs hw => ?_⟩
    rcases List.mem_append.mp hs with h1 | h1
    · exact (h.is v).2 s h1 hw
    · rw [List.mem_singleton.mp h1] at hw; exact absurd hw.symm e2
theorem paired_last {R : Addr → List V → Prop} {fa : List Addr} {ss : List W3} (h : Paired R fa (ss.map vW)) (hne : ss ≠ []) : ∃ fi f0 s0, fa = fi ++ [f0] ∧ ss.getLast? = some s0 ∧ R f0 (vW s0) := by
  have hl : fa.length = ss.length := by rw [Paired.len h, List.length_map]
  have hp : 0 < ss.length := List.length_pos_iff.mpr hne
  have hf : fa ≠ [] := by rintro rfl; rw [List.length_nil] at hl; omega
  refine ⟨fa.dropLast, fa.getLast hf, ss.getLast hne, (List.dropLast_concat_getLast hf).symm, List.getLast?_eq_some_getLast hne, ?_⟩
  refine Paired.at h (i := ss.length - 1) ?_ ?_
  · rw [← hl, List.getLast_eq_getElem, List.getElem?_eq_getElem]
  · rw [List.getElem?_map, List.getLast_eq_getElem, List.getElem?_eq_getElem (by omega)]
    rfl
/-- the strokes drawn so far -/
structure Drawn (ws ss : List W3) (kvs : List (Key × V)) (b : Int) : Prop where
  rng : ∀ s ∈ ss, 0 ≤ s.1 ∧ s.1 ≤ b ∧ 0 ≤ s.2.1 ∧ s.2.1 < ws.length ∧ 0 ≤ s.2.2 ∧ s.2.2 < (ws.getD s.2.1.toNat d3).1
  ord : ss.Pairwise fun s t => ltP (s.1, s.2.1) (t.1, t.2.1) ∧ (s.2.1 = t.2.1 → (ws.getD t.2.1.toNat d3).2.2 ≤ t.1 - s.1)
  la : LastIs ss kvs
theorem drawn_nil (ws : List W3) : Drawn ws [] [] 0 := ⟨fun s h => (by cases h), .nil, lastIs_nil⟩
theorem Drawn.up {ws ss : List W3} {kvs : List (Key × V)} {b c : Int} (h : Drawn ws ss kvs b) (l : b ≤ c) : Drawn ws ss kvs c := ⟨fun s hs => by have := h.rng s hs; omega, h.ord, h.la⟩
theorem Drawn.more {ws ss : List W3} {kvs : List (Key × V)} {b w t x : Int} (h : Drawn ws ss kvs b) (h0 : 0 ≤ b) (w0 : 0 ≤ w) (w1 : w < ws.length) (t0 : 0 ≤ t) (t1 : t < (ws.getD w.toNat d3).1)
    (late : ss = [] ∨ ∃ s0, ss.getLast? = some s0 ∧ ltP (s0.1, s0.2.1) (b, w)) (hx : (valV kvs (Sum.inl w)).getD (.int (-99)) = .int x) (hg : (ws.getD w.toNat d3).2.2 ≤ b - x) : Drawn ws (ss ++ [(b, w, t)]) (putK kvs (Sum.inl w) (.int b)) b := by
  refine ⟨fun s hs => ?_, ?_, lastIs_put h.la h0 fun s hs => (h.rng s hs).2.1⟩
  · rcases List.mem_append.mp hs with h1 | h1
    · exact h.rng s h1
    · rw [List.mem_singleton.mp h1]
      exact ⟨h0, Int.le_refl b, w0, w1, t0, t1⟩
  · rw [List.pairwise_append]
    refine ⟨h.ord, List.pairwise_singleton _ _, fun s hs y hy => ?_⟩
    rw [List.mem_singleton.mp hy]
    refine ⟨?_, fun hw => ?_⟩
    · rcases late with rfl | ⟨s0, hl, hlt⟩
      · cases hs
      · obtain ⟨init, rfl⟩ : ∃ init, ss = init ++ [s0] := by
          have hne : ss ≠ [] := by rintro rfl; cases hs
          refine ⟨ss.dropLast, ?_⟩
          have e := List.getLast?_eq_some_getLast hne
          rw [hl] at e
          cases e
          exact (List.dropLast_concat_getLast hne).symm
        rcases List.mem_append.mp hs with h1 | h1
        · have := (List.pairwise_append.mp h.ord).2.2 s h1 s0 (by simp)
          exact ltP_trans this.1 hlt
        · rw [List.mem_singleton.mp h1]; exact hlt
    · obtain ⟨x2, e, hle⟩ := (h.la.is w).2 s hs hw
      rw [e] at hx
      cases hx
      show (ws.getD w.toNat d3).2.2 ≤ b - s.1
      omega
end Z
set_option Elab.async false
set_option linter.all false
set_option maxRecDepth 100000
set_option maxHeartbeats 4000000
namespace Z
open PySem PySem.Spec PyProof.Rows L2
/-! ### the law's own calls -/
def spLaw (K : PySem.W.Frag) : Sp := fun vs H Q _ => ∃ (a : Addr) (ns : List Int), vs = [.ref a] ∧ SqL K H a (ns.map V.int) ∧ ns.length ≤ 63 ∧ ∀ H', Q (.bl true) H'
section
variable {K : PySem.W.Frag} {C : Addr} {X : Addr → Prop} {G0 H0 G H : Hp} {Q : VK} {E : XK} {σ : L2.St} {t : TS} {D : Ends}
theorem i_dice {s : Addr} {ns : List Int} (g : Gr X G0 H0 G H) (h : SqL K G s (ns.map V.int)) (k : ∀ p H', H0 p = none → Gr No G H G H' → Gr X G0 H0 G H' → Dice K G H' p → Q (.ref p) H') : spDice K ([.ref s] ++ []) H Q E :=
  ⟨s, ns, G, rfl, g.sub, h, fun p H' s D np => k p H' (g.fresh np) s (g.seqN s) D⟩
theorem i_memory {d : Addr} {m : Int} (g : Gr X G0 H0 G H) (D : Dice K G H d) (hd : X d ∨ H0 d = none) (h0 : 0 < m) (h1 : m ≤ 4)
    (k : ∀ ws p G' H', H p = none → Gr (· = d) G H G' H' → Gr X G0 H0 G' H' → Dice K G' H' d → TupL K G' p (ws.map vW) → OkWs ws → (ws.length : Int) ≤ m → Q (.ref p) H') : spMemory K ([.ref d, .int m] ++ []) H Q E :=
  ⟨G, d, m, rfl, g.sub, D, h0, h1, fun ws p G' H' s D' np => k ws p G' H' np s (g.seq s fun c e => by rw [e]; exact hd) D'⟩
theorem i_load {d : Addr} {m : Int} (g : Gr X G0 H0 G H) (D : Dice K G H d) (hd : X d ∨ H0 d = none) (h0 : 0 < m) (h1 : m ≤ 12)
    (k : ∀ ld p G' H', Gr (· = d) G H G' H' → Gr X G0 H0 G' H' → Dice K G' H' d → G' p = some (.lst (ld.map V.int)) → OkLd ld → (ld.length : Int) ≤ m → Q (.ref p) H') : spLoad K ([.ref d, .int m] ++ []) H Q E :=
  ⟨G, d, m, rfl, g.sub, D, h0, h1, fun ld p G' H' s D' np => k ld p G' H' s (g.seq s fun c e => by rw [e]; exact hd) D'⟩
theorem i_plan {d : Addr} {m : Int} (g : Gr X G0 H0 G H) (D : Dice K G H d) (hd : X d ∨ H0 d = none) (h0 : 0 < m) (h1 : m ≤ 4)
    (k : ∀ hdl lp p G' H', Gr (· = d) G H G' H' → Gr X G0 H0 G' H' → Dice K G' H' d → Pl K G' p hdl lp → OkPl m.toNat hdl lp → hdl.length ≤ 40 → lp.length ≤ 40 → Q (.ref p) H') : spPlan K ([.ref d, .int m] ++ []) H Q E :=
  ⟨G, d, m, rfl, g.sub, D, h0, h1, fun hdl lp p G' H' s D' => k hdl lp p G' H' s (g.seq s fun c e => by rw [e]; exact hd) D'⟩
/-- what run tells, as data -/
def dLost (lost : Option (Nat × Nat)) : PyData := match lost with
  | none => .none
  | some (b, w) => .tuple [.int (b : Nat), .int (w : Nat)]
def dTu (tu : List (List Int)) : PyData := .list (tu.map fun xs => .list (xs.map PyData.int))
def dR (lost : Option (Nat × Nat)) (tu : List (List Int)) : PyData := .tuple [dLost lost, dTu tu]
theorem dk_R (lost : Option (Nat × Nat)) (tu : List (List Int)) : Dk 3 (dR lost tu) := dk_tup fun d hd => by
  simp only [List.mem_cons, List.not_mem_nil, or_false] at hd
  rcases hd with rfl | rfl
  · match lost with
    | none => exact dk_non
    | some (b, w) => exact (dk_tup (k := 0) fun d hd => by
        simp only [List.mem_cons, List.not_mem_nil, or_false] at hd
        rcases hd with rfl | rfl <;> exact dk_int).mono (by decide)
  · exact dk_list fun d hd => by
      obtain ⟨xs, _, rfl⟩ := List.mem_map.mp hd
      exact dk_ints xs
theorem dpAll_tu {ls : List Addr} {tu : List (List Int)} {P : Addr → Prop} (pr : Paired (fun p xs => At G H p (.lst (xs.map V.int)) ∧ P p) ls tu) : DpAll K H (ls.map V.ref) (tu.map fun xs => .list (xs.map PyData.int)) := by
  induction pr with
  | nil => exact .nil
  | cons r t ih => exact .cons (Dp.ints (.inl (.inl r.1.h))) ih
theorem dp_lost {v : V} {lost : Option (Nat × Nat)} (h : LostV K H v lost) : Dp K H v (dLost lost) := by
  match lost, h with
  | none, h =>
    have e : v = .non := h
    rw [e]; exact .non
  | some (b, w), h =>
    obtain ⟨p, rfl, hp⟩ := h
    exact .tup hp (.cons (.int _) (.cons (.int _) .nil))
theorem LostV.mono {G' : Hp} {v : V} {lost : Option (Nat × Nat)} (e : Same G G') (h : LostV K G v lost) : LostV K G' v lost := by
  match lost, h with
  | none, h => exact h
  | some (b, w), ⟨p, h1, h2⟩ => exact ⟨p, h1, sqt e h2⟩
theorem dp_run {r t : Addr} {lv : V} {lost : Option (Nat × Nat)} {tu : List (List Int)} {ls : List Addr} (sb : Same G H) (hr : SqT K G r [lv, .ref t]) (hv : LostV K G lv lost) (T : TuAt G H H0 t ls tu) : Dp K H (.ref r) (dR lost tu) :=
  .tup (sqt sb hr) (.cons (dp_lost (hv.mono sb)) (.cons (.lst (.inl (.inl T.tt.h)) (dpAll_tu T.pr)) .nil))
theorem Gr.same (s : Gr No G H G0 H0) : Same H H0 := fun b o h => s.old b o (fun z => z) h
theorem i_run {m a p sp : Addr} {n : Int} {ws ss : List W3} {ld : List Int} {hd lp : List (Option Int)} (g : Gr X G0 H0 G H) (M : MemAt K C G m ws) (hl : G a = some (.lst (ld.map V.int))) (okl : OkLd ld) (pl : Pl K G p hd lp) (okp : OkPl ws.length hd lp) (hs : TupL K G sp (ss.map vW)) (oks : OkSt ws ss) (n0 : 0 ≤ n) (n1 : n ≤ 100000)
    (k : ∀ lost tu r t lv ls G' H', RunRes ws (mend ld hd lp) ss n.toNat lost tu → Gr No G H G' H' → Gr X G0 H0 G' H' → SqT K G' r [lv, .ref t] → LostV K G' lv lost → TuAt G' H' H t ls tu → Q (.ref r) H') : spRun K C ([.ref m, .ref a, .ref p, .ref sp, .int n] ++ []) H Q E :=
  ⟨G, m, a, p, sp, n, ws, ss, ld, hd, lp, rfl, g.sub, M, hl, okl, pl, okp, hs, oks, n0, n1, fun lost tu r t lv ls G' H' R s _ => k lost tu r t lv ls G' H' R s (g.seqN s)⟩
def ForR3 (g : TG) (tb : TS) (D : Ends) (σ : L2.St) (vs : List V) (H : Hp) : Prop := ∃ (i j c : Int) (n : Nat), vs = [.int i, .int j, .int c] ∧ RgC i j c n ∧ tFor (fun _ H R => R (Itc i c n) H) g tb D σ H
theorem i_forR3 {ts : TA} {g : TG} (q : ts σ H fun x H1 => ForR3 g t D σ x H1) : tFor (iRng3 ts) g t D σ H := q
theorem forR3 {i j c : Int} {n : Nat} {g : TG} (h : RgC i j c n) (Pv : Nat → L2.St → Hp → Prop) (h0 : Pv 0 σ H)
    (hs : ∀ k σ H, k < n → Pv k σ H → g (.int (i + (k : Nat) * c)) σ H fun σ2 H2 => t { D with nx := Pv (k + 1), ct := Pv (k + 1), bk := D.nx } σ2 H2) (hd : ∀ σ H, Pv n σ H → D.nx σ H) : ForR3 g t D σ [.int i, .int j, .int c] H := ⟨i, j, c, n, rfl, h, for_rangeC Pv h0 hs hd⟩
end
theorem rg61 {x : Int} (h0 : 0 ≤ x) (h1 : x < 4) : ∃ n, RgC 0 61 (1 + x) n ∧ ∀ k : Nat, k < n → (0 : Int) + (k : Int) * (1 + x) ≤ 60 := by
  have : x = 0 ∨ x = 1 ∨ x = 2 ∨ x = 3 := by omega
  rcases this with rfl | rfl | rfl | rfl
  · exact ⟨61, ⟨by decide, by decide, by decide +kernel, by decide +kernel⟩, fun k hk => by omega⟩
  · exact ⟨31, ⟨by decide, by decide, by decide +kernel, by decide +kernel⟩, fun k hk => by omega⟩
  · exact ⟨21, ⟨by decide, by decide, by decide +kernel, by decide +kernel⟩, fun k hk => by omega⟩
  · exact ⟨16, ⟨by decide, by decide, by decide +kernel, by decide +kernel⟩, fun k hk => by omega⟩
/-! ### strokes that fall late -/
def late (k : Int) (s : W3) : W3 := (s.1 + k, s.2.1, s.2.2)
theorem okSt_late {ws ss : List W3} (ok : OkSt ws ss) {k : Int} (k0 : 0 ≤ k) (h : ∀ s ∈ ss, s.1 + k ≤ 999) : OkSt ws (ss.map (late k)) := by
  refine ⟨by rw [List.length_map]; exact ok.few, fun s hs => ?_, ?_⟩
  · obtain ⟨t, ht, rfl⟩ := List.mem_map.mp hs
    obtain ⟨r1, r2, r3, r4, r5, r6⟩ := ok.rng t ht
    have := h t ht
    exact ⟨by show 0 ≤ t.1 + k; omega, this, r3, r4, r5, r6⟩
  · rw [List.pairwise_map]
    refine ok.ord.imp fun {s t} ⟨h1, h2⟩ => ⟨?_, fun e => ?_⟩
    · have h1 : s.1 < t.1 ∨ (s.1 = t.1 ∧ s.2.1 < t.2.1) := h1
      show s.1 + k < t.1 + k ∨ (s.1 + k = t.1 + k ∧ s.2.1 < t.2.1)
      omega
    · have := h2 e
      show _ ≤ t.1 + k - (s.1 + k)
      have e2 : (late k t).2.1 = t.2.1 := rfl
      rw [e2]
      omega
theorem strokesAt_none {b : Int} : ∀ {ss : List W3} {tu : List (List Int)}, (∀ s ∈ ss, s.1 ≠ b) → strokesAt b ss tu = tu
  | [], _, _ => rfl
  | s :: ss, tu, h => by
    have e : strokeAt b tu s = tu := if_neg (h s List.mem_cons_self)
    show strokesAt b ss (strokeAt b tu s) = tu
    rw [e]
    exact strokesAt_none fun t ht => h t (List.mem_cons_of_mem _ ht)
theorem set_repl {n i : Nat} : (List.replicate n ([] : List Int)).set i [] = List.replicate n [] := by
  refine List.ext_getElem? fun j => ?_
  rw [List.getElem?_set]
  split
  · split
    · rename_i h1 h2
      subst h1
      rw [List.length_replicate] at h2
      rw [List.getElem?_replicate, if_pos h2]
    · rename_i h1 h2
      subst h1
      rw [List.getElem?_eq_none (by omega)]
  · rfl
theorem tuAt_late {mf : Nat → Option Int} {ss : List W3} {n k : Nat} (h : ∀ s ∈ ss, (k : Int) ≤ s.1) : ∀ b, b ≤ k → tuAt mf ss n b = List.replicate n []
  | 0, _ => rfl
  | b + 1, hb => by
    show strokesAt b ss (mendAt (mf b) (tuAt mf ss n b)) = _
    rw [tuAt_late h b (by omega), strokesAt_none fun s hs => by have := h s hs; omega]
    cases mf b with
    | none => rfl
    | some w => exact set_repl
theorem runRes_late {ws ss : List W3} {mf : Nat → Option Int} {k : Nat} (okw : OkWs ws) (h : ∀ s ∈ ss, (k : Int) ≤ s.1) : RunRes ws mf ss k none (List.replicate ws.length []) := by
  refine ⟨(tuAt_late h k (Nat.le_refl k)).symm, fun b hb w hw => ?_⟩
  rw [tuAt_late h (b + 1) hb] at hw
  obtain ⟨h1, h2⟩ := hw
  have e : (List.replicate ws.length ([] : List Int)).getD w [] = [] := by
    rw [List.getD_eq_getElem?_getD, List.getElem?_replicate, if_pos h1]; rfl
  rw [e] at h2
  have := (okw.ok _ (getD_mem (d := d3) h1)).2.2.1
  have h3 : (ws.getD w d3).2.1 < 0 := h2
  omega
/-- once lost, lost for all longer runs -/
theorem RunRes.longer {ws ss : List W3} {mf : Nat → Option Int} {n m b w : Nat} {tu : List (List Int)} (h : RunRes ws mf ss n (some (b, w)) tu) (l : n ≤ m) : RunRes ws mf ss m (some (b, w)) tu := ⟨Nat.lt_of_lt_of_le h.1 l, h.2⟩
end Z
set_option Elab.async false
set_option linter.all false
set_option maxRecDepth 100000
set_option maxHeartbeats 4000000
namespace Z
open PySem PySem.Spec PyProof.Rows L2
/-! ### stretches without mending, in plain Lean -/
/-- so many beats ahead of beat t is word w without mending -/
def gl (m : Nat → Option Int) (w : Int) : Nat → Nat
  | 0 => 0
  | t + 1 => if m t = some w then 1 else gl m w t + 1
theorem gl_le (m : Nat → Option Int) (w : Int) : ∀ t, gl m w t ≤ t
  | 0 => Nat.le_refl _
  | t + 1 => by
    rw [gl]
    have := gl_le m w t
    split <;> omega
theorem gl_pos (m : Nat → Option Int) (w : Int) (t : Nat) : 1 ≤ gl m w (t + 1) := by
  rw [gl]
  split <;> omega
/-- backward within a stretch -/
theorem gl_back {m : Nat → Option Int} {w : Int} : ∀ {i t : Nat}, i < gl m w t → gl m w (t - i) = gl m w t - i
  | 0, t, _ => by rw [Nat.sub_zero, Nat.sub_zero]
  | i + 1, 0, h => by rw [gl] at h; omega
  | i + 1, t + 1, h => by
    rw [gl] at h
    split at h
    · omega
    · rename_i hm
      have ih := gl_back (m := m) (w := w) (i := i) (t := t) (by omega)
      rw [show t + 1 - (i + 1) = t - i by omega, ih, gl, if_neg hm]
      omega
/-- forward while not mended -/
theorem gl_fwd {m : Nat → Option Int} {w : Int} {t : Nat} : ∀ {i : Nat}, (∀ s, t ≤ s → s < t + i → m s ≠ some w) → gl m w (t + i) = gl m w t + i
  | 0, _ => rfl
  | i + 1, h => by
    have ih := gl_fwd (m := m) (w := w) (t := t) (i := i) fun s h1 h2 => h s h1 (by omega)
    show gl m w (t + i + 1) = _
    rw [gl, if_neg (h (t + i) (by omega) (by omega)), ih]
    omega
/-- within a stretch nothing is mended -/
theorem gl_none {m : Nat → Option Int} {w : Int} {t s : Nat} (h1 : s < t) (h2 : t < s + gl m w t) : m s ≠ some w := by
  intro hm
  have h3 : t - (s + 1) < gl m w t := by omega
  have h4 := gl_back h3
  rw [show t - (t - (s + 1)) = s + 1 by omega, gl, if_pos hm] at h4
  omega
/-- the beats among the first n at which w is mended -/
def mB (m : Nat → Option Int) (w : Int) (n : Nat) : List Nat := (List.range n).filter fun b => decide (m b = some w)
theorem mB_succ (m : Nat → Option Int) (w : Int) (n : Nat) : mB m w (n + 1) = mB m w n ++ (if m n = some w then [n] else []) := by
  unfold mB
  rw [List.range_succ, List.filter_append]
  congr 1
  rw [List.filter_cons]
  by_cases h : m n = some w
  · rw [if_pos (decide_eq_true h), if_pos h]; rfl
  · rw [if_neg (by simpa using h), if_neg h]; rfl
theorem mem_mB {m : Nat → Option Int} {w : Int} {n e : Nat} : e ∈ mB m w n ↔ e < n ∧ m e = some w := by
  unfold mB
  rw [List.mem_filter, List.mem_range, decide_eq_true_iff]
/-- the rows: begin, how long -/
def rowB (m : Nat → Option Int) (w : Int) (e : Nat) : Int × Option Int := ((e : Int) - gl m w e, some (gl m w e : Nat))
def rowsM (m : Nat → Option Int) (lp : List (Option Int)) (w : Int) (n : Nat) : List (Int × Option Int) := (mB m w n).map (rowB m w) ++ (if some w ∈ lp then [] else [((n : Int) - gl m w n, none)])
/-- begins, as the program lists them -/
def begs (m : Nat → Option Int) (w : Int) (n : Nat) : List Int := 0 :: (mB m w n).map fun b => ((b : Nat) : Int)
theorem begs_last (m : Nat → Option Int) (w : Int) : ∀ n, (begs m w n).getLast? = some ((n : Int) - gl m w n)
  | 0 => rfl
  | n + 1 => by
    unfold begs
    rw [mB_succ, gl]
    by_cases h : m n = some w
    · rw [if_pos h, if_pos h, List.map_append, ← List.cons_append]
      show List.getLast? (_ ++ [((n : Nat) : Int)]) = _
      rw [List.getLast?_concat]
      congr 1
      omega
    · rw [if_neg h, if_neg h, List.append_nil]
      have := begs_last m w n
      unfold begs at this
      rw [this]
      congr 1
      omega
theorem begs_at (m : Nat → Option Int) (w : Int) (n k : Nat) (h : k < (mB m w n).length) : (begs m w n).getD (k + 1) 0 - (begs m w n).getD k 0 = (gl m w ((mB m w n).getD k 0) : Nat) ∧ (begs m w n).getD k 0 = ((mB m w n).getD k 0 : Nat) - (gl m w ((mB m w n).getD k 0) : Nat) := by
  induction n with
  | zero => exact absurd h (Nat.not_lt_zero k)
  | succ n ih =>
    have hb : begs m w (n + 1) = begs m w n ++ (if m n = some w then [(n : Int)] else []) := by
      unfold begs
      rw [mB_succ, List.map_append]
      split <;> rfl
    have hl : (begs m w n).length = (mB m w n).length + 1 := by unfold begs; rw [List.length_cons, List.length_map]
    by_cases hk : k < (mB m w n).length
    · have e1 : (begs m w (n + 1)).getD (k + 1) 0 = (begs m w n).getD (k + 1) 0 := by
        rw [hb, List.getD_eq_getElem?_getD, List.getD_eq_getElem?_getD, List.getElem?_append_left (by omega)]
      have e2 : (begs m w (n + 1)).getD k 0 = (begs m w n).getD k 0 := by
        rw [hb, List.getD_eq_getElem?_getD, List.getD_eq_getElem?_getD, List.getElem?_append_left (by omega)]
      have e3 : (mB m w (n + 1)).getD k 0 = (mB m w n).getD k 0 := by
        rw [mB_succ, List.getD_eq_getElem?_getD, List.getD_eq_getElem?_getD, List.getElem?_append_left hk]
      rw [e1, e2, e3]
      exact ih hk
    · rw [mB_succ, List.length_append] at h
      by_cases hm : m n = some w
      · rw [if_pos hm, List.length_singleton] at h
        have hk2 : k = (mB m w n).length := by omega
        subst hk2
        have e1 : (begs m w (n + 1)).getD ((mB m w n).length + 1) 0 = n := by
          rw [hb, if_pos hm, List.getD_eq_getElem?_getD, List.getElem?_append_right (by omega), hl, Nat.sub_self]
          rfl
        have e2 : (begs m w (n + 1)).getD (mB m w n).length 0 = (n : Int) - gl m w n := by
          have h2 := begs_last m w n
          rw [List.getLast?_eq_getElem?, hl, Nat.add_sub_cancel] at h2
          rw [hb, List.getD_eq_getElem?_getD, List.getElem?_append_left (by omega), h2]
          rfl
        have e3 : (mB m w (n + 1)).getD (mB m w n).length 0 = n := by
          rw [mB_succ, if_pos hm, List.getD_eq_getElem?_getD, List.getElem?_append_right (Nat.le_refl _), Nat.sub_self]
          rfl
        rw [e1, e2, e3]
        have := gl_le m w n
        omega
      · rw [if_neg hm, List.length_nil] at h
        omega
/-! ### the schedule comes again -/
theorem fr_add (ld : List Int) (s t : Nat) (h : s % ld.length = 0) : fr ld (s + t) = fr ld s + fr ld t := by
  induction t with
  | zero => rfl
  | succ t ih =>
    show fr ld (s + t) + (if ld.getD ((s + t) % ld.length) 1 = 0 then 1 else 0) = fr ld s + (fr ld t + (if ld.getD (t % ld.length) 1 = 0 then 1 else 0))
    rw [ih, Nat.add_mod, h, Nat.zero_add, Nat.mod_mod, Nat.add_assoc]
def free (ld : List Int) : Nat := fr ld ld.length
theorem fr_mul (ld : List Int) (k : Nat) : fr ld (ld.length * k) = k * free ld := by
  induction k with
  | zero => rw [Nat.mul_zero, Nat.zero_mul]; rfl
  | succ k ih =>
    rw [Nat.mul_succ, fr_add _ _ _ (Nat.mul_mod_right _ _), ih, Nat.succ_mul]
    rfl
theorem fr_mono (ld : List Int) {s t : Nat} (h : s ≤ t) : fr ld s ≤ fr ld t := by
  induction t with
  | zero => rw [Nat.le_zero.mp h]; exact Nat.le_refl _
  | succ t ih =>
    rcases Nat.le_succ_iff.mp h with h | h
    · exact Nat.le_trans (ih h) (Nat.le_add_right _ _)
    · rw [h]; exact Nat.le_refl _
theorem free_pos {ld : List Int} (ok : OkLd ld) : 1 ≤ free ld := by
  obtain ⟨i, hi, e⟩ := List.mem_iff_getElem.mp ok.free
  have h1 : fr ld (i + 1) ≤ free ld := fr_mono ld hi
  have h2 : ld.getD (i % ld.length) 1 = 0 := by
    rw [Nat.mod_eq_of_lt hi, List.getD_eq_getElem?_getD, List.getElem?_eq_getElem hi, e]
    rfl
  rw [fr, if_pos h2] at h1
  omega
/-- each number of free beats between is met at a free beat -/
theorem fr_meets (ld : List Int) {s t k : Nat} (h : s ≤ t) (h1 : fr ld s ≤ k) (h2 : k < fr ld t) : ∃ e, s ≤ e ∧ e < t ∧ fr ld e = k ∧ ld.getD (e % ld.length) 1 = 0 := by
  induction t with
  | zero => rw [Nat.le_zero.mp h] at h1; omega
  | succ t ih =>
    rcases Nat.le_succ_iff.mp h with h3 | h3
    · by_cases hk : k < fr ld t
      · obtain ⟨e, e1, e2, e3, e4⟩ := ih h3 hk
        exact ⟨e, e1, by omega, e3, e4⟩
      · rw [fr] at h2
        by_cases hz : ld.getD (t % ld.length) 1 = 0
        · rw [if_pos hz] at h2
          exact ⟨t, h3, by omega, by omega, hz⟩
        · rw [if_neg hz] at h2
          omega
    · have h4 : s = t + 1 := h3
      rw [h4] at h1
      omega
/-- the beat from which on the loop alone is taken; the period -/
def n0 (ld : List Int) (hd : List (Option Int)) : Nat := (hd.length / free ld + 1) * ld.length
def per (ld : List Int) (lp : List (Option Int)) : Nat := lp.length * ld.length
section
variable {ld : List Int} {hd lp : List (Option Int)}
theorem fr_n0 (ok : OkLd ld) {t : Nat} (h : n0 ld hd ≤ t) : hd.length ≤ fr ld t := by
  refine Nat.le_trans ?_ (fr_mono ld h)
  unfold n0
  rw [Nat.mul_comm, fr_mul]
  have h1 := free_pos ok
  have h2 := Nat.div_add_mod hd.length (free ld)
  have h3 := Nat.mod_lt hd.length (show 0 < free ld by omega)
  rw [Nat.succ_mul, Nat.mul_comm]
  omega
theorem fr_per (t : Nat) : fr ld (t + per ld lp) = fr ld t + lp.length * free ld := by
  rw [Nat.add_comm, fr_add _ _ _ (by unfold per; exact Nat.mul_mod_left _ _)]
  unfold per
  rw [Nat.mul_comm, fr_mul, Nat.add_comm]
theorem mend_per (ok : OkLd ld) {t : Nat} (h : n0 ld hd ≤ t) : mend ld hd lp (t + per ld lp) = mend ld hd lp t := by
  have h1 := fr_n0 ok h
  have h2 : (t + per ld lp) % ld.length = t % ld.length := by unfold per; rw [Nat.add_mul_mod_self_right]
  unfold mend
  rw [h2]
  split
  · unfold thing
    rw [fr_per, if_neg (by omega), if_neg (by omega)]
    congr 1
    rw [show fr ld t + lp.length * free ld - hd.length = (fr ld t - hd.length) + lp.length * free ld by omega, Nat.add_mul_mod_self_left]
  · rfl
theorem mend_meets (ok : OkLd ld) {w : Int} (hw : some w ∈ lp) {t : Nat} (h : n0 ld hd ≤ t) : ∃ e, t ≤ e ∧ e < t + per ld lp ∧ mend ld hd lp e = some w := by
  have h1 := fr_n0 (hd := hd) ok h
  obtain ⟨j, hj, ej⟩ := List.mem_iff_getElem.mp hw
  have hfree := free_pos ok
  -- the least k from fr t on with (k - h) % l = j
  obtain ⟨k, hk1, hk2, hk3⟩ : ∃ k, fr ld t ≤ k ∧ k < fr ld t + lp.length ∧ (k - hd.length) % lp.length = j := by
    have hl : 0 < lp.length := by omega
    have hq := Nat.div_add_mod (fr ld t - hd.length) lp.length
    have hm := Nat.mod_lt (fr ld t - hd.length) hl
    by_cases hc : (fr ld t - hd.length) % lp.length ≤ j
    · refine ⟨fr ld t + (j - (fr ld t - hd.length) % lp.length), by omega, by omega, ?_⟩
      rw [show fr ld t + (j - (fr ld t - hd.length) % lp.length) - hd.length = j + lp.length * ((fr ld t - hd.length) / lp.length) by omega, Nat.add_mul_mod_self_left, Nat.mod_eq_of_lt hj]
    · refine ⟨fr ld t + (lp.length + j - (fr ld t - hd.length) % lp.length), by omega, by omega, ?_⟩
      rw [show fr ld t + (lp.length + j - (fr ld t - hd.length) % lp.length) - hd.length = (j + lp.length) + lp.length * ((fr ld t - hd.length) / lp.length) by omega, Nat.add_mul_mod_self_left, Nat.add_mod_right, Nat.mod_eq_of_lt hj]
  have h4 : fr ld t + lp.length ≤ fr ld (t + per ld lp) := by
    rw [fr_per]
    have := Nat.le_mul_of_pos_right lp.length hfree
    omega
  obtain ⟨e, e1, e2, e3, e4⟩ := fr_meets ld (Nat.le_add_right t (per ld lp)) hk1 (by omega)
  refine ⟨e, e1, e2, ?_⟩
  unfold mend
  rw [if_pos e4, e3]
  unfold thing
  rw [if_neg (by omega), hk3, List.getD_eq_getElem?_getD, List.getElem?_eq_getElem hj, ej]
  rfl
theorem mend_not (ok : OkLd ld) (l1 : 1 ≤ lp.length) {w : Int} (hw : ¬ some w ∈ lp) {t : Nat} (h : n0 ld hd ≤ t) : mend ld hd lp t ≠ some w := by
  have h1 := fr_n0 (hd := hd) ok h
  intro e
  unfold mend at e
  split at e
  · unfold thing at e
    rw [if_neg (by omega)] at e
    apply hw
    rw [← e]
    exact getD_mem (Nat.mod_lt _ (by omega))
  · cases e
end
end Z
set_option Elab.async false
set_option linter.all false
set_option maxRecDepth 100000
set_option maxHeartbeats 4000000
namespace Z
open PySem PySem.Spec PyProof.Rows L2
theorem gl_begin (m : Nat → Option Int) (w : Int) : ∀ t, 1 ≤ t → m (t - gl m w t) = some w ∨ gl m w t = t
  | 0, h => by omega
  | t + 1, _ => by
    rw [gl]
    by_cases hm : m t = some w
    · rw [if_pos hm]
      exact .inl hm
    · rw [if_neg hm]
      by_cases h0 : t = 0
      · subst h0
        exact .inr rfl
      · rcases gl_begin m w t (by omega) with h | h
        · left
          rw [show t + 1 - (gl m w t + 1) = t - gl m w t by omega]
          exact h
        · right
          rw [h]
theorem first_from {m : Nat → Option Int} {w : Int} {s : Nat} : ∀ k, m (s + k) = some w → ∃ i, i ≤ k ∧ m (s + i) = some w ∧ ∀ j, j < i → m (s + j) ≠ some w := by
  intro k
  induction k using Nat.strongRecOn with
  | _ k ih =>
    intro h
    by_cases hx : ∃ j, j < k ∧ m (s + j) = some w
    · obtain ⟨j, hj, e⟩ := hx
      obtain ⟨i, h1, h2, h3⟩ := ih j hj e
      exact ⟨i, by omega, h2, h3⟩
    · exact ⟨k, Nat.le_refl k, h, fun j hj e => hx ⟨j, hj, e⟩⟩
/-- from a beat within a stretch to its end -/
theorem gl_to {m : Nat → Option Int} {w : Int} {s i : Nat} (h : ∀ j, j < i → m (s + j) ≠ some w) : gl m w (s + i) = gl m w s + i := gl_fwd fun r h1 h2 => by
  have := h (r - s) (by omega)
  rw [show s + (r - s) = r by omega] at this
  exact this
section
variable {ld : List Int} {hd lp : List (Option Int)} {w : Int}
theorem gl_small (ok : OkLd ld) (hw : some w ∈ lp) {t : Nat} (h : n0 ld hd + per ld lp ≤ t) : gl (mend ld hd lp) w t ≤ per ld lp := by
  obtain ⟨e, e1, e2, e3⟩ := mend_meets (hd := hd) ok hw (t := t - per ld lp) (by omega)
  refine Nat.le_of_not_lt fun hlt => ?_
  exact gl_none (m := mend ld hd lp) (w := w) (s := e) (t := t) (by omega) (by omega) e3
theorem gl_per (ok : OkLd ld) (hw : some w ∈ lp) {t : Nat} (h : n0 ld hd + per ld lp ≤ t) (l1 : 1 ≤ per ld lp) : gl (mend ld hd lp) w (t + per ld lp) = gl (mend ld hd lp) w t := by
  have h1 := gl_small ok hw h
  have hp := gl_pos (mend ld hd lp) w (t - 1)
  rw [show t - 1 + 1 = t by omega] at hp
  have hb := gl_begin (mend ld hd lp) w t (by omega)
  have hlt : gl (mend ld hd lp) w t < t ∨ n0 ld hd = 0 ∧ gl (mend ld hd lp) w t = t := by omega
  -- the begin, moved by a period
  have key : ∀ i, gl (mend ld hd lp) w t = i → i ≤ t → mend ld hd lp (t - i) = some w → gl (mend ld hd lp) w (t + per ld lp) = i := by
    intro i hi hit hm
    have hm2 : mend ld hd lp (t - i + per ld lp) = some w := by rw [mend_per ok (by omega)]; exact hm
    have h3 : gl (mend ld hd lp) w (t - i + per ld lp + 1) = 1 := by rw [gl, if_pos hm2]
    have h4 := gl_fwd (m := mend ld hd lp) (w := w) (t := t - i + per ld lp + 1) (i := i - 1) fun s h1 h2 => by
      have h5 : mend ld hd lp s = mend ld hd lp (s - per ld lp) := by
        have := mend_per (hd := hd) (lp := lp) ok (t := s - per ld lp) (by omega)
        rw [show s - per ld lp + per ld lp = s by omega] at this
        exact this
      rw [h5]
      exact gl_none (t := t) (by omega) (by omega)
    rw [h3, show t - i + per ld lp + 1 + (i - 1) = t + per ld lp by omega] at h4
    omega
  rcases hb with hb | hb
  · exact key _ rfl (gl_le _ _ _) hb
  · -- the begin is beat 0
    have hz : n0 ld hd = 0 ∧ t = per ld lp := by
      have := gl_le (mend ld hd lp) w t
      omega
    have h0 : mend ld hd lp 0 = some w ∨ mend ld hd lp 0 ≠ some w := by by_cases h : mend ld hd lp 0 = some w; exact .inl h; exact .inr h
    rcases h0 with h0 | h0
    · rw [hb]; exact key t hb (Nat.le_refl t) (by rw [Nat.sub_self]; exact h0)
    · -- nothing is mended from 0 to t, though the loop meets w
      exfalso
      obtain ⟨e, e1, e2, e3⟩ := mend_meets (hd := hd) ok hw (t := 0) (by omega)
      rcases Nat.eq_zero_or_pos e with he | he
      · rw [he] at e3; exact h0 e3
      · exact gl_none (m := mend ld hd lp) (w := w) (s := e) (t := t) (by omega) (by omega) e3
/-- the longest stretch -/
def Longest (m : Nat → Option Int) (w : Int) (M : Nat) : Prop := (∃ e, m e = some w ∧ gl m w e = M) ∧ ∀ e, m e = some w → gl m w e ≤ M
theorem Longest.uniq {m : Nat → Option Int} {M N : Nat} (h : Longest m w M) (k : Longest m w N) : M = N := by
  obtain ⟨⟨e, h1, h2⟩, h3⟩ := h
  obtain ⟨⟨f, k1, k2⟩, k3⟩ := k
  have := h3 f k1
  have := k3 e h1
  omega
/-- each stretch is met ahead of n0 + 2 per -/
theorem row_early (ok : OkLd ld) (hw : some w ∈ lp) (l1 : 1 ≤ per ld lp) : ∀ e, mend ld hd lp e = some w → ∃ f, f < n0 ld hd + 2 * per ld lp ∧ mend ld hd lp f = some w ∧ gl (mend ld hd lp) w f = gl (mend ld hd lp) w e := by
  intro e
  induction e using Nat.strongRecOn with
  | _ e ih =>
    intro he
    by_cases h : e < n0 ld hd + 2 * per ld lp
    · exact ⟨e, h, he, rfl⟩
    · have h1 := mend_per (hd := hd) (lp := lp) ok (t := e - per ld lp) (by omega)
      have h2 := gl_per (hd := hd) ok hw (t := e - per ld lp) (by omega) l1
      rw [show e - per ld lp + per ld lp = e by omega] at h1 h2
      obtain ⟨f, f1, f2, f3⟩ := ih (e - per ld lp) (by omega) (by rw [← h1]; exact he)
      exact ⟨f, f1, f2, f3.trans h2.symm⟩
theorem longest_of (ok : OkLd ld) (hw : some w ∈ lp) (l1 : 1 ≤ per ld lp) {n M : Nat} (hn : n0 ld hd + 2 * per ld lp ≤ n) (h1 : ∃ e, e < n ∧ mend ld hd lp e = some w ∧ gl (mend ld hd lp) w e = M) (h2 : ∀ e, e < n → mend ld hd lp e = some w → gl (mend ld hd lp) w e ≤ M) : Longest (mend ld hd lp) w M := by
  obtain ⟨e, e1, e2, e3⟩ := h1
  refine ⟨⟨e, e2, e3⟩, fun f hf => ?_⟩
  obtain ⟨g, g1, g2, g3⟩ := row_early (hd := hd) ok hw l1 f hf
  rw [← g3]
  exact h2 g (by omega) g2
/-- a stretch that is long enough gives the beat at which the word is lost -/
theorem cand_lose (ok : OkLd ld) (l1 : 1 ≤ lp.length) {n L : Nat} {b : Int} {len : Option Int} (hn : n0 ld hd ≤ n) (hr : (b, len) ∈ rowsM (mend ld hd lp) lp w n) (hl : len = none ∨ ∃ x, len = some x ∧ (L : Int) < x) :
    ∃ t : Nat, (t : Int) = b + L ∧ gl (mend ld hd lp) w (t + 1) = L + 1 := by
  rcases List.mem_append.mp hr with h | h
  · obtain ⟨e, he, er⟩ := List.mem_map.mp h
    unfold rowB at er
    cases er
    rcases hl with hl | ⟨x, hl, hx⟩
    · cases hl
    · cases hl
      have h1 := gl_le (mend ld hd lp) w e
      have h2 : gl (mend ld hd lp) w e - (L + 1) < gl (mend ld hd lp) w e := by omega
      have h3 := gl_back h2
      refine ⟨e - gl (mend ld hd lp) w e + L, by omega, ?_⟩
      rw [show e - gl (mend ld hd lp) w e + L + 1 = e - (gl (mend ld hd lp) w e - (L + 1)) by omega, h3]
      omega
  · by_cases hw : some w ∈ lp
    · rw [if_pos hw] at h; cases h
    · rw [if_neg hw] at h
      have e := List.mem_singleton.mp h
      cases e
      have h1 := gl_le (mend ld hd lp) w n
      refine ⟨n - gl (mend ld hd lp) w n + L, by omega, ?_⟩
      by_cases hc : L + 1 ≤ gl (mend ld hd lp) w n
      · have h2 : gl (mend ld hd lp) w n - (L + 1) < gl (mend ld hd lp) w n := by omega
        have h3 := gl_back h2
        rw [show n - gl (mend ld hd lp) w n + L + 1 = n - (gl (mend ld hd lp) w n - (L + 1)) by omega, h3]
        omega
      · have h3 := gl_to (m := mend ld hd lp) (w := w) (s := n) (i := L + 1 - gl (mend ld hd lp) w n) fun j hj => mend_not ok l1 hw (by omega)
        rw [show n + (L + 1 - gl (mend ld hd lp) w n) = n - gl (mend ld hd lp) w n + L + 1 by omega] at h3
        omega
/-- where a word can be lost a stretch tells it, no later -/
theorem lose_cand (ok : OkLd ld) (l1 : 1 ≤ lp.length) (lper : 1 ≤ per ld lp) {n L : Nat} (hn : n0 ld hd + 3 * per ld lp ≤ n) : ∀ t, gl (mend ld hd lp) w (t + 1) = L + 1 →
    ∃ (b : Int) (len : Option Int), (b, len) ∈ rowsM (mend ld hd lp) lp w n ∧ (len = none ∨ ∃ x, len = some x ∧ (L : Int) < x) ∧ b + L ≤ t := by
  intro t
  -- a mending behind t within the window ends the stretch
  have ends : ∀ t, gl (mend ld hd lp) w (t + 1) = L + 1 → (∃ e, t + 1 ≤ e ∧ e < n ∧ mend ld hd lp e = some w) → ∃ (b : Int) (len : Option Int), (b, len) ∈ rowsM (mend ld hd lp) lp w n ∧ (len = none ∨ ∃ x, len = some x ∧ (L : Int) < x) ∧ b + L ≤ t := by
    intro t h ⟨e, e1, e2, e3⟩
    obtain ⟨i, i1, i2, i3⟩ := first_from (m := mend ld hd lp) (w := w) (s := t + 1) (e - (t + 1)) (by rw [show t + 1 + (e - (t + 1)) = e by omega]; exact e3)
    have hg := gl_to i3
    rw [h] at hg
    refine ⟨_, _, List.mem_append_left _ (List.mem_map.mpr ⟨t + 1 + i, mem_mB.mpr ⟨by omega, i2⟩, rfl⟩), .inr ⟨_, rfl, ?_⟩, ?_⟩
    · rw [hg]; omega
    · rw [hg]; omega
  by_cases hw : some w ∈ lp
  · induction t using Nat.strongRecOn with
    | _ t ih =>
      intro h
      by_cases hc : t + 1 < n0 ld hd + 2 * per ld lp
      · refine ends t h ?_
        obtain ⟨e, e1, e2, e3⟩ := mend_meets (hd := hd) ok hw (t := max (t + 1) (n0 ld hd)) (Nat.le_max_right _ _)
        exact ⟨e, by omega, by omega, e3⟩
      · have h2 := gl_per (hd := hd) ok hw (t := t + 1 - per ld lp) (by omega) lper
        rw [show t + 1 - per ld lp + per ld lp = t + 1 by omega, show t + 1 - per ld lp = t - per ld lp + 1 by omega] at h2
        obtain ⟨b, len, b1, b2, b3⟩ := ih (t - per ld lp) (by omega) (by rw [← h2]; exact h)
        exact ⟨b, len, b1, b2, by omega⟩
  · intro h
    by_cases hx : ∃ e, t + 1 ≤ e ∧ e < n ∧ mend ld hd lp e = some w
    · exact ends t h hx
    · have hno : ∀ e, t + 1 ≤ e → mend ld hd lp e ≠ some w := fun e he hm => by
        by_cases hen : e < n
        · exact hx ⟨e, he, hen, hm⟩
        · exact mend_not ok l1 hw (by omega) hm
      refine ⟨_, _, List.mem_append_right _ (by rw [if_neg hw]; exact List.mem_singleton.mpr rfl), .inl rfl, ?_⟩
      have h1 := gl_le (mend ld hd lp) w n
      by_cases hc : t + 1 ≤ n
      · have hg := gl_to (m := mend ld hd lp) (w := w) (s := t + 1) (i := n - (t + 1)) fun j hj => hno _ (by omega)
        rw [show t + 1 + (n - (t + 1)) = n by omega] at hg
        omega
      · have hg := gl_to (m := mend ld hd lp) (w := w) (s := n) (i := t + 1 - n) fun j hj => mend_not ok l1 hw (by omega)
        rw [show n + (t + 1 - n) = t + 1 by omega] at hg
        omega
end
/-! ### limits; the soonest loss -/
def lim (x : W3) : Option Int := if x.1 ≤ x.2.1 then none else some (x.2.1 * x.2.2)
theorem lim_nat {x : W3} (ok : okW x) {L : Int} (h : lim x = some L) : 0 ≤ L ∧ L ≤ 72 := by
  obtain ⟨o1, o2, o3, o4, o5, o6⟩ := ok
  unfold lim at h
  split at h
  · cases h
  · cases h
    refine ⟨Int.mul_nonneg o3 (by omega), ?_⟩
    have h1 : x.2.1 * x.2.2 ≤ 8 * x.2.2 := Int.mul_le_mul_of_nonneg_right o4 (by omega)
    omega
/-- word w can be lost at beat t, no sooner within its stretch -/
def Lose (ws : List W3) (m : Nat → Option Int) (w t : Nat) : Prop := w < ws.length ∧ ∃ L : Int, lim (ws.getD w d3) = some L ∧ ((gl m w (t + 1) : Nat) : Int) = L + 1
def BrkSem (ws : List W3) (m : Nat → Option Int) (o : Option (Nat × Nat)) : Prop := match o with
  | none => ∀ w t, ¬ Lose ws m w t
  | some (t, w) => Lose ws m w t ∧ ∀ v s, Lose ws m v s → t < s ∨ (t = s ∧ w ≤ v)
theorem BrkSem.uniq {ws : List W3} {m : Nat → Option Int} {o p : Option (Nat × Nat)} (h : BrkSem ws m o) (k : BrkSem ws m p) : o = p := by
  match o, p, h, k with
  | none, none, _, _ => rfl
  | none, some (t, w), h, k => exact absurd k.1 (h w t)
  | some (t, w), none, h, k => exact absurd h.1 (k w t)
  | some (t, w), some (s, v), h, k =>
    have h1 := h.2 v s k.1
    have h2 := k.2 w t h.1
    have e1 : t = s := by omega
    have e2 : w = v := by omega
    rw [e1, e2]
end Z
set_option Elab.async false
set_option linter.all false
set_option maxRecDepth 100000
set_option maxHeartbeats 4000000
namespace Z
open PySem PySem.Spec PyProof.Rows L2
/-! ### enumerate, max, None in -/
section
variable {K : PySem.W.Frag} {σ : L2.St} {H : Hp} {Q : VK} {t : TS} {D : Ends}
def ForE (K : PySem.W.Frag) (g : TG) (tb : TS) (D : Ends) (σ : L2.St) (vs : List V) (H : Hp) : Prop := ∃ a xs, vs = [.ref a] ∧ SqL K H a xs ∧ tFor (fun _ H R => R (Ite K a) H) g tb D σ H
theorem i_forE {ta : TA} {g : TG} (q : ta σ H fun x H1 => ForE K g t D σ x H1) : tFor (iEnum K ta) g t D σ H := q
theorem forE {a : Addr} {xs : List V} {g : TG} (h : SqL K H a xs) (Pv : Nat → L2.St → Hp → Prop) (h0 : Pv 0 σ H) (hl : ∀ i σ H, i ≤ xs.length → Pv i σ H → SqL K H a xs)
    (hs : ∀ i x σ H p, xs[i]? = some x → Pv i σ H → H p = none → g (.ref p) σ (upd H p (.tup [.int (i : Nat), x])) fun σ2 H2 => t { D with nx := Pv (i + 1), ct := Pv (i + 1), bk := D.nx } σ2 H2) (hd : ∀ σ H, Pv xs.length σ H → D.nx σ H) : ForE K g t D σ [.ref a] H := by
  refine ⟨a, xs, rfl, h, fun i m σ H => m = xs.length - i ∧ i ≤ xs.length ∧ Pv i σ H, ⟨xs.length, by simp, Nat.zero_le _, h0⟩, ?_⟩
  rintro i m σ H ⟨rfl, hi, p⟩
  have q := hl i σ H hi p
  by_cases hlt : i < xs.length
  · refine .inr ⟨⟨xs, xs[i], q, by simp [hlt]⟩, Pv (i + 1), fun σ' H' p' => ⟨xs.length - (i + 1), by omega, rfl, hlt, p'⟩, fun x H' y => ?_⟩
    obtain ⟨T, z, rfl, nT, rfl, y⟩ := y
    exact hs i z σ H T (y xs q) p nT
  · have e : i = xs.length := by omega
    subst e
    exact .inl ⟨⟨xs, q, Nat.le_refl _⟩, hd σ H p⟩
theorem i_max {a : Addr} {ns : List Int} (h : SqL K H a (ns.map V.int)) (h0 : 0 < ns.length) (q : ∀ m, m ∈ ns → (∀ y, y ∈ ns → y ≤ m) → Q (.int m) H) : rMax K [.ref a] H Q := ⟨a, ns, rfl, h, h0, q⟩
def rMx2 : List V → Hp → VK → Prop := fun xs H Q => ∃ i j, xs = [.int i, .int j] ∧ Q (.int (if j > i then j else i)) H
theorem cl_max2 {X : Cx} (hc : X.calm = true) : CallR X (.builtin "max") rMx2 := call_max2 hc
theorem i_max2 {i j : Int} (q : Q (.int (max i j)) H) : rMx2 [.int i, .int j] H Q := ⟨i, j, rfl, by
  have e : (if j > i then j else i) = max i j := by split <;> omega
  rw [e]; exact q⟩
end
theorem inV_none (os : List (Option Int)) : inV .non (os.map vO) = decide (none ∈ os) := by
  unfold inV
  rw [List.any_map, Bool.eq_iff_iff, List.any_eq_true, decide_eq_true_iff]
  refine ⟨fun ⟨j, hj, e⟩ => ?_, fun h => ⟨none, h, ?_⟩⟩
  · cases j with
    | none => exact hj
    | some j => simp [eqV, vO] at e
  · simp [eqV, vO]
/-! ### promises of the whole runs -/
def nB (ld : List Int) (hd lp : List (Option Int)) : Nat := (hd.length / free ld + 1 + 3 * lp.length) * ld.length
theorem nB_eq (ld : List Int) (hd lp : List (Option Int)) : nB ld hd lp = n0 ld hd + 3 * per ld lp := by
  unfold nB n0 per
  rw [Nat.add_mul (hd.length / free ld + 1), Nat.mul_assoc]
theorem nB_le {ld : List Int} {hd lp : List (Option Int)} {k : Nat} (ok : OkLd ld) (okp : OkPl k hd lp) : nB ld hd lp ≤ 96100 := by
  have h1 := ok.l12
  have h2 := okp.h40
  have h3 := okp.l40
  have h4 : hd.length / free ld ≤ 2000 := Nat.le_trans (Nat.div_le_self _ _) h2
  unfold nB
  exact Nat.le_trans (Nat.mul_le_mul (show hd.length / free ld + 1 + 3 * lp.length ≤ 8001 by omega) h1) (by decide)
theorem per_pos {ld : List Int} {hd lp : List (Option Int)} {k : Nat} (ok : OkLd ld) (okp : OkPl k hd lp) : 1 ≤ per ld lp := Nat.mul_pos okp.l1 ok.l1
def vR (r : Int × Option Int) : List V := [.int r.1, vO r.2]
def RowsAt (K : PySem.W.Frag) (G : Hp) (q : Addr) (m : Nat → Option Int) (lp : List (Option Int)) (n k : Nat) : Prop := ∃ ls : List Addr, G q = some (.lst (ls.map V.ref)) ∧ Paired (fun l w => TupL K G l ((rowsM m lp (w : Nat) n).map vR)) ls (List.range k)
theorem RowsAt.mono {K : PySem.W.Frag} {G G' : Hp} {q : Addr} {m : Nat → Option Int} {lp : List (Option Int)} {n k : Nat} (e : Same G G') (h : RowsAt K G q m lp n k) : RowsAt K G' q m lp n k := by
  obtain ⟨ls, h1, h2⟩ := h
  exact ⟨ls, e _ _ h1, Paired.imp (fun _ _ h => h.mono e) h2⟩
def spLimits (K : PySem.W.Frag) (C : Addr) : Sp := fun vs H Q _ => ∃ (G : Hp) (m : Addr) (ws : List W3), vs = [.ref m] ∧ Same G H ∧ MemAt K C G m ws ∧ ∀ p H', H p = none → Gr No G H G H' → At G H' p (.lst ((ws.map lim).map vO)) → Q (.ref p) H'
def spBeats (K : PySem.W.Frag) : Sp := fun vs H Q _ => ∃ (G : Hp) (a p : Addr) (ld : List Int) (hd lp : List (Option Int)) (k : Nat), vs = [.ref a, .ref p] ∧ Same G H ∧ G a = some (.lst (ld.map V.int)) ∧ OkLd ld ∧ Pl K G p hd lp ∧ OkPl k hd lp ∧ ∀ H', Gr No G H G H' → Q (.int (nB ld hd lp : Nat)) H'
def spStretches (K : PySem.W.Frag) (C : Addr) : Sp := fun vs H Q _ => ∃ (G : Hp) (m a p : Addr) (ws : List W3) (ld : List Int) (hd lp : List (Option Int)), vs = [.ref m, .ref a, .ref p] ∧ Same G H ∧ MemAt K C G m ws ∧
  G a = some (.lst (ld.map V.int)) ∧ OkLd ld ∧ Pl K G p hd lp ∧ OkPl ws.length hd lp ∧ ∀ q G' H', H q = none → Gr No G H G' H' → RowsAt K G' q (mend ld hd lp) lp (nB ld hd lp) ws.length → Q (.ref q) H'
/-- the longest stretch of a word, none where it has no end -/
def GapOf (m : Nat → Option Int) (lp : List (Option Int)) (w : Int) (o : Option Int) : Prop := match o with
  | none => ¬ some w ∈ lp
  | some x => some w ∈ lp ∧ ∃ M : Nat, x = M ∧ Longest m w M
def GapsSem (m : Nat → Option Int) (lp : List (Option Int)) (k : Nat) (gs : List (Option Int)) : Prop := gs.length = k ∧ ∀ w, w < k → GapOf m lp (w : Nat) (gs.getD w none)
theorem GapOf.uniq {m : Nat → Option Int} {lp lp2 : List (Option Int)} {w : Int} {o p : Option Int} (e : some w ∈ lp ↔ some w ∈ lp2) (h : GapOf m lp w o) (k : GapOf m lp2 w p) : o = p := by
  match o, p, h, k with
  | none, none, _, _ => rfl
  | none, some x, h, k => exact absurd (e.mpr k.1) h
  | some x, none, h, k => exact absurd (e.mp h.1) k
  | some x, some y, ⟨_, M, h1, h2⟩, ⟨_, N, k1, k2⟩ => rw [h1, k1, h2.uniq k2]
theorem GapsSem.uniq {m : Nat → Option Int} {lp lp2 : List (Option Int)} {k : Nat} {gs gs2 : List (Option Int)} (e : ∀ w : Int, some w ∈ lp ↔ some w ∈ lp2) (h : GapsSem m lp k gs) (h2 : GapsSem m lp2 k gs2) : gs = gs2 := by
  refine List.ext_getElem (h.1.trans h2.1.symm) fun i h3 h4 => ?_
  have h5 := h.2 i (by rw [← h.1]; exact h3)
  have h6 := h2.2 i (by rw [← h.1]; exact h3)
  rw [List.getD_eq_getElem?_getD, List.getElem?_eq_getElem h3] at h5
  rw [List.getD_eq_getElem?_getD, List.getElem?_eq_getElem h4] at h6
  exact GapOf.uniq (e i) h5 h6
def spGaps (K : PySem.W.Frag) (C : Addr) : Sp := fun vs H Q _ => ∃ (G : Hp) (m a p : Addr) (ws : List W3) (ld : List Int) (hd lp : List (Option Int)), vs = [.ref m, .ref a, .ref p] ∧ Same G H ∧ MemAt K C G m ws ∧
  G a = some (.lst (ld.map V.int)) ∧ OkLd ld ∧ Pl K G p hd lp ∧ OkPl ws.length hd lp ∧ ∀ q gs G' H', H q = none → Gr No G H G' H' → At G' H' q (.lst (gs.map vO)) → GapsSem (mend ld hd lp) lp ws.length gs → Q (.ref q) H'
/-- the strokes by which word w is lost at beat t -/
def strk (ws : List W3) (t w : Nat) : List W3 := (List.range ((ws.getD w d3).2.1.toNat + 1)).map fun (k : Nat) => ((t : Int) - (ws.getD w d3).2.1 * (ws.getD w d3).2.2 + (k : Int) * (ws.getD w d3).2.2, ((w : Int), (k : Int)))
def BrkV (K : PySem.W.Frag) (G H H0 : Hp) (ws : List W3) (v : V) (o : Option (Nat × Nat)) : Prop := match o with
  | none => v = .non
  | some (t, w) => ∃ r l as, v = .ref r ∧ H0 r = none ∧ H0 l = none ∧ SqT K G r [.int (t : Nat), .int (w : Nat), .ref l] ∧ At G H l (.lst (as.map V.ref)) ∧ Paired (fun p t => SqT K G p t) as ((strk ws t w).map vW)
def spBreaking (K : PySem.W.Frag) (C : Addr) : Sp := fun vs H Q _ => ∃ (G : Hp) (m a p : Addr) (ws : List W3) (ld : List Int) (hd lp : List (Option Int)), vs = [.ref m, .ref a, .ref p] ∧ Same G H ∧ MemAt K C G m ws ∧
  G a = some (.lst (ld.map V.int)) ∧ OkLd ld ∧ Pl K G p hd lp ∧ OkPl ws.length hd lp ∧ ∀ o v G' H', Gr No G H G' H' → BrkSem ws (mend ld hd lp) o → BrkV K G' H' H ws v o → Q v H'
section
variable {K : PySem.W.Frag} {C : Addr} {X : Addr → Prop} {G0 H0 G H : Hp} {Q : VK} {E : XK} {m a p : Addr} {ws : List W3} {ld : List Int} {hd lp : List (Option Int)}
theorem i_limits (g : Gr X G0 H0 G H) (M : MemAt K C G m ws) (k : ∀ p H', H p = none → Gr No G H G H' → Gr X G0 H0 G H' → At G H' p (.lst ((ws.map lim).map vO)) → Q (.ref p) H') : spLimits K C ([.ref m] ++ []) H Q E :=
  ⟨G, m, ws, rfl, g.sub, M, fun p H' np s t => k p H' np s (g.seqN s) t⟩
theorem i_beats {j : Nat} (g : Gr X G0 H0 G H) (hl : G a = some (.lst (ld.map V.int))) (okl : OkLd ld) (pl : Pl K G p hd lp) (okp : OkPl j hd lp) (k : ∀ H', Gr No G H G H' → Gr X G0 H0 G H' → Q (.int (nB ld hd lp : Nat)) H') : spBeats K ([.ref a, .ref p] ++ []) H Q E :=
  ⟨G, a, p, ld, hd, lp, j, rfl, g.sub, hl, okl, pl, okp, fun H' s => k H' s (g.seqN s)⟩
theorem i_stretches (g : Gr X G0 H0 G H) (M : MemAt K C G m ws) (hl : G a = some (.lst (ld.map V.int))) (okl : OkLd ld) (pl : Pl K G p hd lp) (okp : OkPl ws.length hd lp)
    (k : ∀ q G' H', H q = none → Gr No G H G' H' → Gr X G0 H0 G' H' → RowsAt K G' q (mend ld hd lp) lp (nB ld hd lp) ws.length → Q (.ref q) H') : spStretches K C ([.ref m, .ref a, .ref p] ++ []) H Q E :=
  ⟨G, m, a, p, ws, ld, hd, lp, rfl, g.sub, M, hl, okl, pl, okp, fun q G' H' nq s r => k q G' H' nq s (g.seqN s) r⟩
theorem i_gaps (g : Gr X G0 H0 G H) (M : MemAt K C G m ws) (hl : G a = some (.lst (ld.map V.int))) (okl : OkLd ld) (pl : Pl K G p hd lp) (okp : OkPl ws.length hd lp)
    (k : ∀ q gs G' H', H q = none → Gr No G H G' H' → Gr X G0 H0 G' H' → At G' H' q (.lst (gs.map vO)) → GapsSem (mend ld hd lp) lp ws.length gs → Q (.ref q) H') : spGaps K C ([.ref m, .ref a, .ref p] ++ []) H Q E :=
  ⟨G, m, a, p, ws, ld, hd, lp, rfl, g.sub, M, hl, okl, pl, okp, fun q gs G' H' nq s t r => k q gs G' H' nq s (g.seqN s) t r⟩
theorem i_breaking (g : Gr X G0 H0 G H) (M : MemAt K C G m ws) (hl : G a = some (.lst (ld.map V.int))) (okl : OkLd ld) (pl : Pl K G p hd lp) (okp : OkPl ws.length hd lp)
    (k : ∀ o v G' H', Gr No G H G' H' → Gr X G0 H0 G' H' → BrkSem ws (mend ld hd lp) o → BrkV K G' H' H ws v o → Q v H') : spBreaking K C ([.ref m, .ref a, .ref p] ++ []) H Q E :=
  ⟨G, m, a, p, ws, ld, hd, lp, rfl, g.sub, M, hl, okl, pl, okp, fun o v G' H' s r b => k o v G' H' s (g.seqN s) r b⟩
end
/-! ### rows, as the program makes them -/
theorem rows_at {m : Nat → Option Int} {lp : List (Option Int)} {w : Int} {n k : Nat} (h : k < (mB m w n).length) : (begs m w n).getD k 0 = (rowB m w ((mB m w n).getD k 0)).1 ∧ some ((begs m w n).getD (k + 1) 0 - (begs m w n).getD k 0) = (rowB m w ((mB m w n).getD k 0)).2 := by
  obtain ⟨h1, h2⟩ := begs_at m w n k h
  exact ⟨h2, by rw [h1]; rfl⟩
theorem begs_len (m : Nat → Option Int) (w : Int) (n : Nat) : (begs m w n).length = (mB m w n).length + 1 := by unfold begs; rw [List.length_cons, List.length_map]
theorem mB_len (m : Nat → Option Int) (w : Int) (n : Nat) : (mB m w n).length ≤ n := by
  refine Nat.le_trans (List.length_filter_le _ _) ?_
  rw [List.length_range]
  exact Nat.le_refl n
theorem begs_lastI (m : Nat → Option Int) (w : Int) (n : Nat) : (begs m w n)[(mB m w n).length]? = some ((n : Int) - gl m w n) := by
  have h := begs_last m w n
  rw [List.getLast?_eq_getElem?, begs_len, Nat.add_sub_cancel] at h
  exact h
theorem free_len (ld : List Int) : free ld = (ld.filter fun x => decide (x = 0)).length := by
  have key : ∀ k, k ≤ ld.length → fr ld k = ((ld.take k).filter fun x => decide (x = 0)).length := by
    intro k
    induction k with
    | zero => intro _; rfl
    | succ k ih =>
      intro hk
      have h : ld[k]? = some (ld.getD k 1) := getD_at (by omega)
      rw [fr, ih (by omega), filter_take h, List.length_append, Nat.mod_eq_of_lt (by omega)]
      congr 1
      by_cases hz : ld.getD k 1 = 0
      · rw [if_pos hz, if_pos (decide_eq_true hz)]; rfl
      · rw [if_neg hz, if_neg (by simpa using hz)]; rfl
  have := key ld.length (Nat.le_refl _)
  rw [List.take_length] at this
  exact this
theorem free_le (ld : List Int) : free ld ≤ ld.length := by
  rw [free_len]
  exact List.length_filter_le _ _
theorem begs_split (m : Nat → Option Int) (w : Int) (n : Nat) : ∃ init, begs m w n = init ++ [(n : Int) - gl m w n] := by
  have h := begs_last m w n
  have hne : begs m w n ≠ [] := by unfold begs; exact List.cons_ne_nil _ _
  rw [List.getLast?_eq_some_getLast hne] at h
  exact ⟨_, by rw [← Option.some.inj h]; exact (List.dropLast_concat_getLast hne).symm⟩
end Z
set_option Elab.async false
set_option linter.all false
set_option maxRecDepth 100000
set_option maxHeartbeats 4000000
namespace Z
open PySem PySem.Spec PyProof.Rows L2
/-! ### isinstance, for data of None, ints, lists, tuples -/
def Lk : Nat → PyData → Prop
  | 0, d => d = .none ∨ (∃ i, d = .int i) ∨ ∃ x, d = .str x
  | n + 1, d => (d = .none ∨ (∃ i, d = .int i) ∨ ∃ x, d = .str x) ∨ ∃ ds, (d = .list ds ∨ d = .tuple ds) ∧ ds.length ≤ 100000 ∧ ∀ e ∈ ds, Lk n e
theorem lk_non : ∀ {n : Nat}, Lk n .none
  | 0 => .inl rfl
  | n + 1 => .inl (.inl rfl)
theorem lk_int {i : Int} : ∀ {n : Nat}, Lk n (.int i)
  | 0 => .inr (.inl ⟨i, rfl⟩)
  | n + 1 => .inl (.inr (.inl ⟨i, rfl⟩))
theorem lk_str {x : Str} : ∀ {n : Nat}, Lk n (.str x)
  | 0 => .inr (.inr ⟨x, rfl⟩)
  | n + 1 => .inl (.inr (.inr ⟨x, rfl⟩))
theorem lk_list {n : Nat} {ds : List PyData} (l : ds.length ≤ 100000) (h : ∀ e ∈ ds, Lk n e) : Lk (n + 1) (.list ds) := .inr ⟨ds, .inl rfl, l, h⟩
theorem lk_tup {n : Nat} {ds : List PyData} (l : ds.length ≤ 100000) (h : ∀ e ∈ ds, Lk n e) : Lk (n + 1) (.tuple ds) := .inr ⟨ds, .inr rfl, l, h⟩
theorem lk_vO {n : Nat} (o : Option Int) : Lk n (dO o) := by
  cases o
  · exact lk_non
  · exact lk_int
theorem kit_a (K : PySem.W.Frag) : ∀ a ∈ (["int", "NoneType", "list", "tuple", "str"] : List String), ∀ b ∈ (["bool", "str", "int", "dict", "tuple", "list"] : List String), PySem.W.kitOne K (.type a) (.type b) = some (a == b) := by
  intro a ha b hb
  simp only [List.mem_cons, List.not_mem_nil, or_false] at ha hb
  rcases ha with rfl | rfl | rfl | rfl | rfl <;> rcases hb with rfl | rfl | rfl | rfl | rfl | rfl <;> rfl
section
variable {K : PySem.W.Frag} {H : Hp} {Q : VK} {a : Addr} {xs : List V} {c : String} {b : Bool} {i : Int}
theorem ty_L (h : SqL K H a xs) : TyX K H (.ref a) (.type "list") := by
  rcases h with (h | ⟨o, h⟩) | ⟨o, its, n, h1, h2, _⟩
  · exact .base (.lst h)
  · exact .base (.frz h)
  · exact .kList h1 h2
theorem ty_T (h : SqT K H a xs) : TyX K H (.ref a) (.type "tuple") := by
  rcases h with (h | ⟨o, h⟩) | ⟨o, its, n, h1, h2, _⟩
  · exact .base (.tup h)
  · exact .fTuple h
  · exact .kTuple h1 h2
theorem isi_L (h : SqL K H a xs) (hc : c ∈ (["bool", "str", "int", "dict", "tuple", "list"] : List String)) (e : (("list" : String) == c) = b) (q : Q (.bl b) H) : rIsi K [.ref a, .ty c] H Q :=
  ⟨_, _, _, _, b, rfl, .ty c, ty_L h, by rw [kit_a K "list" (by simp) c hc, e], q⟩
theorem isi_T (h : SqT K H a xs) (hc : c ∈ (["bool", "str", "int", "dict", "tuple", "list"] : List String)) (e : (("tuple" : String) == c) = b) (q : Q (.bl b) H) : rIsi K [.ref a, .ty c] H Q :=
  ⟨_, _, _, _, b, rfl, .ty c, ty_T h, by rw [kit_a K "tuple" (by simp) c hc, e], q⟩
theorem isi_I (hc : c ∈ (["bool", "str", "int", "dict", "tuple", "list"] : List String)) (e : (("int" : String) == c) = b) (q : Q (.bl b) H) : rIsi K [.int i, .ty c] H Q :=
  ⟨_, _, _, _, b, rfl, .ty c, .base (.int i), by rw [kit_a K "int" (by simp) c hc, e], q⟩
theorem isi_S {x : Str} (hc : c ∈ (["bool", "str", "int", "dict", "tuple", "list"] : List String)) (e : (("str" : String) == c) = b) (q : Q (.bl b) H) : rIsi K [.str x, .ty c] H Q :=
  ⟨_, _, _, _, b, rfl, .ty c, .base (.str x), by rw [kit_a K "str" (by simp) c hc, e], q⟩
theorem isi_N (hc : c ∈ (["bool", "str", "int", "dict", "tuple", "list"] : List String)) (e : (("NoneType" : String) == c) = b) (q : Q (.bl b) H) : rIsi K [.non, .ty c] H Q :=
  ⟨_, _, _, _, b, rfl, .ty c, .base .non, by rw [kit_a K "NoneType" (by simp) c hc, e], q⟩
theorem i_neB {x y : Bool} (q : Q (.bl (!decide (x = y))) H) : rNe (.bl x) (.bl y) H Q := ⟨rfl, by
  have e : decide (V.bl x = V.bl y) = decide (x = y) := decide_eq_decide.mpr ⟨fun h => V.bl.inj h, fun h => by rw [h]⟩
  rw [e]; exact q⟩
theorem i_eqS1 {x : Str} (q : Q (.bl true) H) : rEq (.str x) (.str x) H Q := ⟨rfl, by rw [decide_eq_true rfl]; exact q⟩
theorem i_eqB {x y : Bool} (q : Q (.bl (decide (x = y))) H) : rEq (.bl x) (.bl y) H Q := ⟨rfl, by
  have e : decide (V.bl x = V.bl y) = decide (x = y) := decide_eq_decide.mpr ⟨fun h => V.bl.inj h, fun h => by rw [h]⟩
  rw [e]; exact q⟩
theorem i_notV {σ : L2.St} {ta : TE} (q : ta σ H fun x H1 => ∃ k, x = .bl k ∧ Q (.bl (!k)) H1) : tNotV ta σ H Q := q
theorem i_ixSL {v : V} (h : SqL K H a xs) (e : atI xs i = some v) (q : Q v H) : rIx K (.ref a) (.int i) H Q := .inl (i_ixL h e q)
theorem i_ixST {v : V} (h : SqT K H a xs) (e : atI xs i = some v) (q : Q v H) : rIx K (.ref a) (.int i) H Q := .inr (.inl (i_ixT h e q))
end
/-- tells True of what is alike -/
def spLike (n : Nat) (K : PySem.W.Frag) : Sp := fun vs H Q _ => ∃ (x y : V) (d : PyData), vs = [x, y] ∧ Dp K H x d ∧ Dp K H y d ∧ Lk n d ∧ Q (.bl true) H
def spNo : Sp := fun _ _ _ _ => False
theorem i_like {n : Nat} {K : PySem.W.Frag} {H : Hp} {Q : VK} {E : XK} {x y : V} {d : PyData} (h1 : Dp K H x d) (h2 : Dp K H y d) (h3 : Lk n d) (q : Q (.bl true) H) : spLike n K ([x, y] ++ []) H Q E := ⟨x, y, d, rfl, h1, h2, h3, q⟩
theorem dpAll_at {K : PySem.W.Frag} {H : Hp} : ∀ {vs : List V} {ds : List PyData}, DpAll K H vs ds → vs.length = ds.length ∧ ∀ (i : Nat) (v : V), vs[i]? = some v → ∃ d, ds[i]? = some d ∧ Dp K H v d
  | _, _, .nil => ⟨rfl, fun i v h => by simp at h⟩
  | _, _, .cons h t => ⟨by rw [List.length_cons, List.length_cons, (dpAll_at t).1], fun i v e => by
    cases i with
    | zero => cases e; exact ⟨_, rfl, h⟩
    | succ i => exact (dpAll_at t).2 i v e⟩
end Z
set_option Elab.async false
set_option linter.all false
set_option maxRecDepth 100000
set_option maxHeartbeats 4000000
namespace Z
open PySem PySem.Spec PyProof.Rows L2
/-! ### dicts whose keys are states (phase, ages) -/
abbrev S := Int × List Int
def nk (s : S) : NestedKey := .tup [.num s.1, .tup (s.2.map .num)]
theorem num_inj : ∀ {xs ys : List Int}, xs.map NestedKey.num = ys.map NestedKey.num → xs = ys
  | [], [], _ => rfl
  | [], _ :: _, h => by simp at h
  | _ :: _, [], h => by simp at h
  | x :: xs, y :: ys, h => by
    simp only [List.map_cons, List.cons.injEq, NestedKey.num.injEq] at h
    rw [h.1, num_inj h.2]
theorem nk_inj {s t : S} (h : nk s = nk t) : s = t := by
  unfold nk at h
  injection h with h
  injection h with h1 h2
  injection h1 with h1
  injection h2 with h2 _
  injection h2 with h2
  exact Prod.ext h1 (num_inj h2)
theorem num_depth : ∀ xs : List Int, NestedKey.depthAll (xs.map NestedKey.num) = 0
  | [] => by simp [NestedKey.depthAll]
  | x :: xs => by simp only [List.map_cons, NestedKey.depthAll, NestedKey.depth]; rw [num_depth xs]; rfl
theorem nk_depth (s : S) : (nk s).depth ≤ 8 := by
  unfold nk
  simp only [NestedKey.depth, NestedKey.depthAll, num_depth]
  decide
/-- at q stands the state s -/
def StAt (K : PySem.W.Frag) (H : Hp) (q : Addr) (s : S) : Prop := ∃ r, SqT K H q [.int s.1, .ref r] ∧ SqT K H r (s.2.map V.int)
theorem StAt.mono {K : PySem.W.Frag} {G G' : Hp} {q : Addr} {s : S} (e : Same G G') (h : StAt K G q s) : StAt K G' q s := by
  obtain ⟨r, h1, h2⟩ := h
  exact ⟨r, sqt e h1, sqt e h2⟩
theorem nested_ints {h : Heap} : ∀ {ns : List Int} {its : List Value}, Vals (ns.map V.int) its → NestedAll h (ns.map NestedKey.num) its
  | [], _, r => by rw [List.map_nil] at r; cases r; exact .nil
  | n :: ns, _, r => by
    rw [List.map_cons] at r
    cases r with
    | cons h1 h2 =>
      obtain ⟨t, rfl⟩ := h1
      exact .cons (.int _ _) (nested_ints h2)
section
variable {X : Cx} {pins : List (Addr × Obj)} {σ : L2.St} {H : Hp} {s : Shared}
theorem nested_at (I : Inv X pins σ H s) {q : Addr} {st : S} (h : StAt X.K H q st) : (nestedKind X.prog X.w).is s.heap (nk st) q := by
  obtain ⟨r, h1, h2⟩ := h
  obtain ⟨its, r1, ⟨o, a1, a2, n, a3⟩, _⟩ := I.tuple h1
  obtain ⟨its2, r2, ⟨o2, b1, b2, n2, b3⟩, _⟩ := I.tuple h2
  refine ⟨.tup a1 a2 a3 ?_, nk_depth st⟩
  rw [List.toList_toArray]
  cases r1 with
  | cons c1 c2 =>
    cases c2 with
    | cons c3 c4 =>
      cases c4
      obtain ⟨t, rfl⟩ := c1
      cases c3
      exact .cons (.int _ _) (.cons (.tup b1 b2 b3 (by rw [List.toList_toArray]; exact nested_ints r2)) .nil)
end
def rawU (us : List (S × Addr × Value)) : List (NestedKey × Addr × Value) := us.map fun u => (nk u.1, u.2.1, u.2.2)
abbrev NV : List (S × Addr × V) → List (S × Addr × Value) → Prop := Paired fun p q => p.1 = q.1 ∧ p.2.1 = q.2.1 ∧ RelV p.2.2 q.2.2
/-- at a: a dict with the keys, their tuples, the values -/
def dN (P : Program) (w : World) (a : Addr) (xs : List (S × Addr × V)) : HO := .ext fun h => xs.length ≤ sizeLine ∧ (a == sysModules) = false ∧ ∃ us, NV xs us ∧
  ∃ o es ep, h.get? a = some o ∧ o.ExactDict ∧ o.data = .dict es ep ∧ es.toList = (rawU us).map (entryOfKey (nestedKind P w)) ∧ ((rawU us).map (·.1)).Nodup
def valN (xs : List (S × Addr × V)) (s : S) : Option V := (xs.find? fun x => decide (x.1 = s)).map (·.2.2)
def putN (xs : List (S × Addr × V)) (s : S) (q : Addr) (v : V) : List (S × Addr × V) := if (valN xs s).isSome then xs.map fun x => if x.1 = s then (x.1, x.2.1, v) else x else xs ++ [(s, q, v)]
theorem putN_new {xs : List (S × Addr × V)} {s : S} (h : valN xs s = none) (q : Addr) (v : V) : putN xs s q v = xs ++ [(s, q, v)] := by unfold putN; rw [h]; rfl
theorem valN_none {xs : List (S × Addr × V)} {s : S} : valN xs s = none ↔ ∀ x ∈ xs, x.1 ≠ s := by
  unfold valN
  rw [Option.map_eq_none_iff, List.find?_eq_none]
  exact ⟨fun h x hx e => h x hx (decide_eq_true e), fun h x hx e => h x hx (of_decide_eq_true e)⟩
theorem valN_mem {xs : List (S × Addr × V)} {s : S} {v : V} (h : valN xs s = some v) : ∃ q, (s, q, v) ∈ xs := by
  unfold valN at h
  obtain ⟨x, hx, e⟩ := Option.map_eq_some_iff.mp h
  have h1 : x.1 = s := of_decide_eq_true (by have := List.find?_some hx; exact this)
  obtain ⟨x1, x2, x3⟩ := x
  have h1 : x1 = s := h1
  have e : x3 = v := e
  subst h1 e
  exact ⟨x2, List.mem_of_find?_eq_some hx⟩
def KeysAt (K : PySem.W.Frag) (H : Hp) (xs : List (S × Addr × V)) : Prop := ∀ x ∈ xs, StAt K H x.2.1 x.1
theorem KeysAt.mono {K : PySem.W.Frag} {G G' : Hp} {xs : List (S × Addr × V)} (e : Same G G') (h : KeysAt K G xs) : KeysAt K G' xs := fun x hx => (h x hx).mono e
theorem KeysAt.put {K : PySem.W.Frag} {H : Hp} {xs : List (S × Addr × V)} {s : S} {q : Addr} {v : V} (h : KeysAt K H xs) (hq : StAt K H q s) : KeysAt K H (putN xs s q v) := by
  intro x hx
  unfold putN at hx
  split at hx
  · obtain ⟨y, hy, rfl⟩ := List.mem_map.mp hx
    have := h y hy
    split
    · exact this
    · exact this
  · rcases List.mem_append.mp hx with h1 | h1
    · exact h x h1
    · rw [List.mem_singleton.mp h1]; exact hq
theorem NV.val {xs : List (S × Addr × V)} {us : List (S × Addr × Value)} (r : NV xs us) (s : S) : RelO (valN xs s) ((atKey (rawU us) (nk s)).map (·.2)) := by
  unfold valN atKey rawU
  induction r with
  | nil => exact True.intro
  | @cons p q ps qs h t ih =>
    rw [List.map_cons]
    by_cases e : p.1 = s
    · rw [List.find?_cons_of_pos (by exact decide_eq_true e), List.find?_cons_of_pos (by exact decide_eq_true (by rw [← h.1, e]))]
      exact h.2.2
    · rw [List.find?_cons_of_neg (by simpa using e), List.find?_cons_of_neg (by
        simp only [decide_eq_true_eq]
        intro z
        exact e (by rw [h.1]; exact nk_inj z))]
      exact ih
theorem NV.put {xs : List (S × Addr × V)} {us : List (S × Addr × Value)} (r : NV xs us) (s : S) (q : Addr) {v : V} {u : Value} (rv : RelV v u) : ∃ us', NV (putN xs s q v) us' ∧ storedH (rawU us) (nk s) q u = rawU us' := by
  unfold putN storedH
  have hv := (NV.val r s).isSome_eq
  rw [Option.isSome_map] at hv
  rw [hv]
  by_cases h : (atKey (rawU us) (nk s)).isSome = true
  · rw [if_pos h, if_pos h]
    refine ⟨us.map fun x => if x.1 = s then (x.1, x.2.1, u) else x, ?_, ?_⟩
    · clear hv h
      induction r with
      | nil => exact .nil
      | @cons p q ps qs h t ih =>
        rw [List.map_cons, List.map_cons]
        refine .cons ?_ ih
        by_cases e : p.1 = s
        · rw [if_pos e, if_pos (by rw [← h.1]; exact e)]
          exact ⟨h.1, h.2.1, rv⟩
        · rw [if_neg e, if_neg (by rw [← h.1]; exact e)]
          exact h
    · unfold rawU
      rw [List.map_map, List.map_map]
      refine List.map_congr_left fun x _ => ?_
      show putAt (nk s) u (nk x.1, x.2.1, x.2.2) = _
      unfold putAt
      by_cases e : x.1 = s
      · rw [if_pos (by show nk x.1 = nk s; rw [e])]
        show _ = (nk (if x.1 = s then (x.1, x.2.1, u) else x).1, (if x.1 = s then (x.1, x.2.1, u) else x).2.1, (if x.1 = s then (x.1, x.2.1, u) else x).2.2)
        rw [if_pos e]
      · rw [if_neg (by show ¬ nk x.1 = nk s; exact fun z => e (nk_inj z))]
        show _ = (nk (if x.1 = s then (x.1, x.2.1, u) else x).1, (if x.1 = s then (x.1, x.2.1, u) else x).2.1, (if x.1 = s then (x.1, x.2.1, u) else x).2.2)
        rw [if_neg e]
  · rw [if_neg h, if_neg h]
    refine ⟨us ++ [(s, q, u)], Paired.snoc ⟨rfl, rfl, rv⟩ r, ?_⟩
    unfold rawU
    rw [List.map_append]
    rfl
theorem putN_len (xs : List (S × Addr × V)) (s : S) (q : Addr) (v : V) : (putN xs s q v).length ≤ xs.length + 1 := by
  unfold putN
  split
  · rw [List.length_map]; omega
  · rw [List.length_append]; exact Nat.le_refl _
section
variable {X : Cx} {pins : List (Addr × Obj)} {σ : L2.St} {H : Hp} {s : Shared} {a q : Addr} {st : S} {xs : List (S × Addr × V)} {A : Around} {E : Value → Shared → Prop}
theorem dn_of (I : Inv X pins σ H s) (e : H a = some (dN X.prog X.w a xs)) (k : KeysAt X.K H xs) : xs.length ≤ sizeLine ∧ (a == sysModules) = false ∧ ∃ us, NV xs us ∧ s.heap.DictOfH (nestedKind X.prog X.w) a (rawU us) := by
  have x : ObjOk X.prog X.w H s.heap a (dN X.prog X.w a xs) := I.hok a _ e
  obtain ⟨⟨z, y, us, r, o, es, ep, h1, h2, h3, h4, h5⟩, _⟩ := (show _ ∧ _ from x)
  refine ⟨z, y, us, r, o, es, ep, h1, h2, h3, h4, fun x hx => ?_, h5⟩
  unfold rawU at hx
  obtain ⟨u, hu, rfl⟩ := List.mem_map.mp hx
  obtain ⟨i, hi, ei⟩ := List.mem_iff_getElem.mp hu
  have hl := Paired.len r
  have hp := Paired.at r (i := i) (List.getElem?_eq_getElem (by omega)) (List.getElem?_eq_getElem hi)
  have hk := k _ (List.getElem_mem (show i < xs.length by omega))
  rw [ei] at hp
  rw [hp.1, hp.2.1] at hk
  exact nested_at I hk
theorem dn_new {P : Program} {w : World} {H' : Hp} {h' : Heap} {us : List (S × Addr × Value)} (z : xs.length ≤ sizeLine) (y : (a == sysModules) = false) (r : NV xs us) (dd : h'.DictOfH (nestedKind P w) a (rawU us)) : ObjOk P w H' h' a (dN P w a xs) := by
  obtain ⟨o, es, ep, h1, h2, h3, h4, _, h5⟩ := dd
  refine ⟨⟨z, y, us, r, o, es, ep, h1, h2, h3, h4, h5⟩, ⟨o, h1⟩, fun ha hb hx hab => ?_⟩
  obtain ⟨z, y, us, r, o, es, ep, h1, h2, h3, h4, h5⟩ := hx
  exact ⟨z, y, us, r, o, es, ep, hab _ h1, h2, h3, h4, h5⟩
end
/-- q not in a -/
def rNotInN (P : Program) (w : World) (K : PySem.W.Frag) : R2 := fun y x H Q => ∃ (a q : Addr) (s : S) (xs : List (S × Addr × V)), y = .ref q ∧ x = .ref a ∧ H a = some (dN P w a xs) ∧ KeysAt K H xs ∧ StAt K H q s ∧ Q (.bl (!(valN xs s).isSome)) H
theorem op_notInN {X : Cx} (hu : X.A.units + 64 < cLine) : OpR X (compareOp .NotIn) (rNotInN X.prog X.w X.K) := by
  intro pins s σ H y x u v Q I ry rx h
  obtain ⟨a, q, st, xs, rfl, rfl, e, k, hq, hQ⟩ := h
  cases ry
  cases rx
  obtain ⟨z, hd, us, r, dd⟩ := dn_of I e k
  refine wpAny_notIn_heap (knd := nestedKind X.prog X.w) (by show X.A.units + 1 + 8 < cLine; omega) (nested_at I hq) hd dd ?_
  have hv := (NV.val r st).isSome_eq
  rw [Option.isSome_map] at hv
  rw [← hv]
  exact ⟨.bl _, H, I.tok _, rfl, hQ⟩
/-- a[q] -/
def tDGetN (P : Program) (w : World) (K : PySem.W.Frag) (td ty : TE) : TE := fun σ H Q => td σ H fun x H1 => ty σ H1 fun y H2 => ∃ (a q : Addr) (s : S) (xs : List (S × Addr × V)) (v : V), x = .ref a ∧ y = .ref q ∧ H2 a = some (dN P w a xs) ∧ KeysAt K H2 xs ∧ StAt K H2 q s ∧ valN xs s = some v ∧ Q v H2
/-- a[q] = v -/
def sDPutN (P : Program) (w : World) (K : PySem.W.Frag) (td ty tv : TE) : TS := fun D σ H => tv σ H fun v H1 => td σ H1 fun x H2 => ty σ H2 fun y H3 => ∃ (a q : Addr) (s : S) (xs : List (S × Addr × V)), x = .ref a ∧ y = .ref q ∧ H3 a = some (dN P w a xs) ∧ KeysAt K H3 xs ∧ StAt K H3 q s ∧ xs.length < sizeLine ∧
  D.nx σ (upd H3 a (dN P w a (putN xs s q v)))
def tDNewN (P : Program) (w : World) : TE := fun _ H Q => ∀ p, H p = none → Q (.ref p) (upd H p (dN P w p []))
section
variable {X : Cx} {o i e value : Expr} {pos pos' tpos : Pos} {td ty tv : TE}
theorem pe_dgetN (hu : X.A.units + 64 < cLine) (ho : PE X o td) (hi : PE X i ty) (hs : NoSl i) : PE X (.Subscript o i pos) (tDGetN X.prog X.w X.K td ty) := by
  refine ⟨fun pins s σ H Q I h => ?_⟩
  refine subD_of PySem.F.slot_dict_getitem.lookup hs (thn (ho.run pins s σ H _ I h) fun u s1 ⟨x, H1, I1, rx, q1⟩ => thn (hi.run pins s1 σ H1 _ I1 q1) fun iv s2 ⟨y, H2, I2, ry, a, q, st, xs, v, ex, ey, e, k, hq, hv, q2⟩ => ?_)
  subst ex ey
  obtain rfl : u = Value.ref a := rx
  obtain rfl : iv = Value.ref q := ry
  obtain ⟨z, hd, us, r, dd⟩ := dn_of I2 e k
  obtain ⟨w', hw, rw'⟩ := RelO.some_of (v := v) (o := (atKey (rawU us) (nk st)).map (·.2)) (by rw [← hv]; exact NV.val r st)
  obtain ⟨p, hp, hp2⟩ := Option.map_eq_some_iff.mp hw
  refine ⟨dd.typeIs, ?_⟩
  refine wpAny_getItem_heap (knd := nestedKind X.prog X.w) (by show X.A.units + 1 + 8 < cLine; omega) (nested_at I2 hq) dd hp ?_
  rw [hp2]
  exact ⟨v, H2, I2.tok _, rw', q2⟩
theorem ps_dputN (hu : X.A.units + 64 < cLine) (ho : PE X o td) (hi : PE X i ty) (hv : PE X value tv) (hs : swapsWith value (some (.Subscript o i pos')) pos.line X.env = pure false) :
    PS X (.Assign [.Subscript o i pos'] value pos) (sDPutN X.prog X.w X.K td ty tv) := by
  refine ⟨fun pins s σ H D I h => ?_⟩
  refine wpAny_Assign_Subscript (thn (hv.run pins s σ H _ I h) fun r s1 ⟨v, H1, I1, rv, q1⟩ => thn (ho.run pins s1 σ H1 _ I1 q1) fun u s2 ⟨x, H2, I2, rx, q2⟩ => thn (hi.run pins s2 σ H2 _ I2 q2) fun iv s3 ⟨y, H3, I3, ry, a, q, st, xs, ex, ey, e, k, hq, l, q3⟩ => ?_) hs
  subst ex ey
  obtain rfl : u = Value.ref a := rx
  obtain rfl : iv = Value.ref q := ry
  obtain ⟨z, hd, us, rr, dd⟩ := dn_of I3 e k
  obtain ⟨us', r1, r2⟩ := NV.put rr st q rv
  refine wpAny_setItem_heap (knd := nestedKind X.prog X.w) (hsz := by unfold rawU; rw [List.length_map, ← Paired.len rr]; exact z) (by show X.A.units + 1 + 8 < cLine; omega) (nested_at I3 hq) dd fun h' dd' hsb => ⟨σ, _, ?_, q3⟩
  rw [r2] at dd'
  have he : ∃ q, h'.get? a = some q := let ⟨q, _, _, hq, _⟩ := dd'; ⟨q, hq⟩
  exact d_write I3 (by rw [e]; exact True.intro) hsb he (dn_new (Nat.le_trans (putN_len _ _ _ _) (by omega)) hd r1 dd')
theorem pe_dnewN : PE X (.Dict [] [] pos) (tDNewN X.prog X.w) := ⟨fun pins s σ H Q I h =>
  wpAny_Dict_empty ⟨.ref s.heap.objs.size, _, I.laid (a := s.heap.objs.size) (o := dN X.prog X.w s.heap.objs.size []) (t' := s.toks) (fun _ _ q => Heap.get?_push_of_some _ q) (Nat.le_refl _)
    (dn_new (us := []) (Nat.zero_le _) (beq_eq_false_iff_ne.mpr (Ne.symm (Nat.ne_of_lt I.big))) .nil (Heap.DictOfH.new s.heap)), rfl, h _ (I.hok.fresh (Nat.le_refl _))⟩⟩
end
end Z
set_option Elab.async false
set_option linter.all false
set_option maxRecDepth 100000
set_option maxHeartbeats 4000000
namespace Z
open PySem PySem.Spec PyProof.Rows L2
/-! ### states, moves, how long can be held: plain Lean -/
def nx1 (en : List (Option Int)) (ages : List Int) (o : Option Int) (i : Nat) : Option Int := match en.getD i none with
  | none => some 0
  | some L => if L < (if o = some (i : Int) then 1 else ages.getD i 0 + 1) then none else some (if o = some (i : Int) then 1 else ages.getD i 0 + 1)
def beh (en : List (Option Int)) (ages : List Int) (o : Option Int) : Nat → Option (List Int)
  | 0 => some []
  | n + 1 => match beh en ages o n with
    | none => none
    | some xs => match nx1 en ages o n with
      | none => none
      | some a => some (xs ++ [a])
def step (en : List (Option Int)) (ld : List Int) (s : S) (o : Option Int) : Option S := (beh en s.2 o en.length).map fun xs => ((s.1 + 1) % (ld.length : Nat), xs)
def lims (en : List (Option Int)) (n : Nat) : List (Option Int) := ((List.range n).filter fun i => (en.getD i none).isSome).map fun i => some ((i : Nat) : Int)
def opts (en : List (Option Int)) (ld : List Int) (s : S) : List (Option Int) := none :: (if ld.getD s.1.toNat 1 = 0 then lims en en.length else [])
def moves (en : List (Option Int)) (ld : List Int) (s : S) : List (Option Int × Option S) := (opts en ld s).map fun o => (o, step en ld s o)
def hold (en : List (Option Int)) (ld : List Int) : Nat → S → Prop
  | 0, _ => True
  | n + 1, s => ∃ o ∈ opts en ld s, ∃ t, step en ld s o = some t ∧ hold en ld n t
def firstS (en : List (Option Int)) : S := (0, List.replicate en.length 0)
structure OkEn (en : List (Option Int)) : Prop where
  l1 : 1 ≤ en.length
  l4 : en.length ≤ 4
  nn : ∀ L, some L ∈ en → 0 ≤ L ∧ L ≤ 72
theorem okEn_of {ws : List W3} (ok : OkWs ws) : OkEn (ws.map lim) := by
  refine ⟨by rw [List.length_map]; exact ok.l1, by rw [List.length_map]; exact ok.l4, fun L h => ?_⟩
  obtain ⟨w, hw, e⟩ := List.mem_map.mp h
  exact lim_nat (ok.ok w hw) e
def okA (o : Option Int) (a : Int) : Prop := match o with
  | none => a = 0
  | some L => 0 ≤ a ∧ a ≤ L
structure OkS (en : List (Option Int)) (ld : List Int) (s : S) : Prop where
  p0 : 0 ≤ s.1
  p1 : s.1 < ld.length
  ag : Paired okA en s.2
theorem OkS.len {en : List (Option Int)} {ld : List Int} {s : S} (h : OkS en ld s) : s.2.length = en.length := (Paired.len h.ag).symm
theorem OkS.nn {en : List (Option Int)} {ld : List Int} {s : S} (h : OkS en ld s) {i : Nat} (hi : i < en.length) : 0 ≤ s.2.getD i 0 := by
  have h1 := Paired.at h.ag (i := i) (getD_at (d := none) hi) (getD_at (d := 0) (by rw [h.len]; exact hi))
  unfold okA at h1
  split at h1
  · omega
  · exact h1.1
theorem nx1_ok {en : List (Option Int)} {ages : List Int} {o : Option Int} {n : Nat} {a : Int} (h2 : nx1 en ages o n = some a) (h3 : 0 ≤ ages.getD n 0) : okA (en.getD n none) a := by
  unfold nx1 at h2
  cases he : en.getD n none with
  | none =>
    rw [he] at h2
    cases h2
    rfl
  | some L =>
    rw [he] at h2
    generalize hx : (if o = some (n : Int) then (1 : Int) else ages.getD n 0 + 1) = x at h2
    have hx0 : 0 ≤ x := by rw [← hx]; split <;> omega
    have h2 : (if L < x then none else some x) = some a := h2
    by_cases hl : L < x
    · rw [if_pos hl] at h2; cases h2
    · rw [if_neg hl] at h2
      cases h2
      exact ⟨hx0, by omega⟩
theorem beh_ok {en : List (Option Int)} {ld : List Int} {s : S} {o : Option Int} (h : OkS en ld s) : ∀ n xs, n ≤ en.length → beh en s.2 o n = some xs → Paired okA (en.take n) xs
  | 0, xs, _, e => by cases e; rw [List.take_zero]; exact .nil
  | n + 1, xs, hn, e => by
    rw [beh] at e
    cases h1 : beh en s.2 o n with
    | none => rw [h1] at e; cases e
    | some ys =>
      rw [h1] at e
      cases h2 : nx1 en s.2 o n with
      | none => rw [h2] at e; cases e
      | some a =>
        rw [h2] at e
        cases e
        have ih := beh_ok h n ys (by omega) h1
        rw [List.take_add_one, getD_at (d := none) hn]
        refine Paired.snoc ?_ ih
        exact nx1_ok h2 (h.nn hn)
theorem step_ok {en : List (Option Int)} {ld : List Int} {s t : S} {o : Option Int} (hl : 1 ≤ ld.length) (h : OkS en ld s) (e : step en ld s o = some t) : OkS en ld t := by
  unfold step at e
  obtain ⟨xs, h1, rfl⟩ := Option.map_eq_some_iff.mp e
  have h2 := beh_ok h en.length xs (Nat.le_refl _) h1
  rw [List.take_length] at h2
  exact ⟨Int.emod_nonneg _ (by omega), Int.emod_lt_of_pos _ (by omega), h2⟩
theorem first_ok {en : List (Option Int)} {ld : List Int} (hl : 1 ≤ ld.length) (ok : OkEn en) : OkS en ld (firstS en) := by
  refine ⟨Int.le_refl 0, by show (0 : Int) < _; omega, ?_⟩
  have key : ∀ es : List (Option Int), (∀ L, some L ∈ es → 0 ≤ L) → Paired okA es (List.replicate es.length 0) := by
    intro es
    induction es with
    | nil => intro _; exact .nil
    | cons e es ih =>
      intro h
      refine .cons ?_ (ih fun L hL => h L (List.mem_cons_of_mem _ hL))
      unfold okA
      cases e with
      | none => rfl
      | some L => exact ⟨Int.le_refl 0, h L List.mem_cons_self⟩
  exact key en fun L h => (ok.nn L h).1
theorem hold_down {en : List (Option Int)} {ld : List Int} : ∀ {n : Nat} {s : S}, hold en ld (n + 1) s → hold en ld n s
  | 0, _, _ => True.intro
  | n + 1, s, ⟨o, ho, t, e, h⟩ => ⟨o, ho, t, e, hold_down h⟩
theorem hold_mono {en : List (Option Int)} {ld : List Int} {s : S} {m : Nat} : ∀ {n : Nat}, m ≤ n → hold en ld n s → hold en ld m s
  | 0, l, h => by rw [Nat.le_zero.mp l]; exact h
  | n + 1, l, h => by
    by_cases e : m = n + 1
    · rw [e]; exact h
    · exact hold_mono (by omega) (hold_down h)
/-- so many beats can be held from s, no more -/
def Rank (en : List (Option Int)) (ld : List Int) (s : S) (n : Nat) : Prop := hold en ld n s ∧ ¬ hold en ld (n + 1) s
def Lasts (en : List (Option Int)) (ld : List Int) (s : S) : Prop := ∀ n, hold en ld n s
theorem Rank.uniq {en : List (Option Int)} {ld : List Int} {s : S} {n m : Nat} (h : Rank en ld s n) (k : Rank en ld s m) : n = m := by
  rcases Nat.lt_trichotomy n m with l | l | l
  · exact absurd (hold_mono l k.1) h.2
  · exact l
  · exact absurd (hold_mono l h.1) k.2
theorem Rank.not {en : List (Option Int)} {ld : List Int} {s : S} {n : Nat} (h : Rank en ld s n) (k : Lasts en ld s) : False := h.2 (k (n + 1))
theorem rank_zero {en : List (Option Int)} {ld : List Int} {s : S} (h : ∀ o ∈ opts en ld s, step en ld s o = none) : Rank en ld s 0 := ⟨True.intro, fun ⟨o, ho, t, e, _⟩ => by rw [h o ho] at e; cases e⟩
theorem rank_max {en : List (Option Int)} {ld : List Int} {s : S} {m : Nat} (h1 : ∃ o ∈ opts en ld s, ∃ t, step en ld s o = some t ∧ Rank en ld t m) (h2 : ∀ o ∈ opts en ld s, ∀ t, step en ld s o = some t → ∃ n, n ≤ m ∧ Rank en ld t n) : Rank en ld s (m + 1) := by
  obtain ⟨o, ho, t, e, hr⟩ := h1
  refine ⟨⟨o, ho, t, e, hr.1⟩, fun ⟨o2, ho2, t2, e2, h⟩ => ?_⟩
  obtain ⟨n, hn, hr2⟩ := h2 o2 ho2 t2 e2
  exact hr2.2 (hold_mono (by omega) h)
/-! ### how many states there are -/
theorem nodup_le {α : Type} [DecidableEq α] : ∀ {xs ys : List α}, xs.Nodup → (∀ x ∈ xs, x ∈ ys) → xs.length ≤ ys.length
  | [], _, _, _ => Nat.zero_le _
  | x :: xs, ys, nd, sub => by
    have nd2 := List.nodup_cons.mp nd
    have hx := sub x List.mem_cons_self
    have ih := nodup_le (xs := xs) (ys := ys.erase x) nd2.2 fun y hy => (List.mem_erase_of_ne (fun e => nd2.1 (by rw [← e]; exact hy))).mpr (sub y (List.mem_cons_of_mem _ hy))
    rw [List.length_erase_of_mem hx] at ih
    have := List.length_pos_of_mem hx
    rw [List.length_cons]
    omega
def agesBox : List (Option Int) → List (List Int)
  | [] => [[]]
  | none :: en => (agesBox en).map fun r => 0 :: r
  | some L :: en => ((List.range (L + 1).toNat).map fun (a : Nat) => (agesBox en).map fun r => (a : Int) :: r).flatten
def prodL : List (Option Int) → Nat
  | [] => 1
  | none :: en => prodL en
  | some L :: en => (L + 1).toNat * prodL en
theorem flat_len {α : Type} {k : Nat} : ∀ (ls : List (List α)), (∀ l ∈ ls, l.length = k) → ls.flatten.length = ls.length * k
  | [], _ => by simp
  | l :: ls, h => by
    rw [List.flatten_cons, List.length_append, h l List.mem_cons_self, flat_len ls fun m hm => h m (List.mem_cons_of_mem _ hm), List.length_cons, Nat.succ_mul]
    omega
theorem agesBox_len : ∀ en : List (Option Int), (agesBox en).length = prodL en
  | [] => rfl
  | none :: en => by rw [agesBox, List.length_map, agesBox_len en]; rfl
  | some L :: en => by
    rw [agesBox, flat_len (k := prodL en)]
    · rw [List.length_map, List.length_range]; rfl
    · intro l hl
      obtain ⟨a, _, rfl⟩ := List.mem_map.mp hl
      rw [List.length_map, agesBox_len en]
theorem mem_agesBox : ∀ {en : List (Option Int)} {ages : List Int}, Paired okA en ages → ages ∈ agesBox en
  | _, _, .nil => List.mem_singleton.mpr rfl
  | _, _, .cons (a := e) (b := a) h t => by
    have ih := mem_agesBox t
    cases e with
    | none =>
      have h : a = 0 := h
      rw [h, agesBox]
      exact List.mem_map.mpr ⟨_, ih, rfl⟩
    | some L =>
      obtain ⟨h1, h2⟩ : 0 ≤ a ∧ a ≤ L := h
      rw [agesBox]
      refine List.mem_flatten.mpr ⟨_, List.mem_map.mpr ⟨a.toNat, List.mem_range.mpr (by omega), rfl⟩, List.mem_map.mpr ⟨_, ih, ?_⟩⟩
      rw [show ((a.toNat : Nat) : Int) = a by omega]
def manyS (en : List (Option Int)) (ld : List Int) : Nat := ld.length * prodL en
theorem states_le {en : List (Option Int)} {ld : List Int} {F : List S} (nd : F.Nodup) (ok : ∀ s ∈ F, OkS en ld s) : F.length ≤ manyS en ld := by
  have h := nodup_le (ys := ((List.range ld.length).map fun (p : Nat) => (agesBox en).map fun r => ((p : Int), r)).flatten) nd fun s hs => by
    obtain ⟨h1, h2, h3⟩ := ok s hs
    refine List.mem_flatten.mpr ⟨_, List.mem_map.mpr ⟨s.1.toNat, List.mem_range.mpr (by omega), rfl⟩, List.mem_map.mpr ⟨s.2, mem_agesBox h3, ?_⟩⟩
    rw [show ((s.1.toNat : Nat) : Int) = s.1 by omega]
  rw [flat_len (k := prodL en), List.length_map, List.length_range] at h
  · exact h
  · intro l hl
    obtain ⟨p, _, rfl⟩ := List.mem_map.mp hl
    rw [List.length_map, agesBox_len]
/-- as the program counts them -/
def manyS1 (m : Int) (o : Option Int) : Int := match o with
  | none => m
  | some L => m * (L + 1)
def manyF (en : List (Option Int)) (m : Int) : Int := en.foldl manyS1 m
theorem manyF_eq : ∀ (en : List (Option Int)) (m : Nat), (∀ L, some L ∈ en → 0 ≤ L) → manyF en m = ((m * prodL en : Nat) : Int)
  | [], m, _ => by show (m : Int) = _; rw [prodL, Nat.mul_one]
  | none :: en, m, h => by
    show manyF en m = _
    rw [manyF_eq en m fun L hL => h L (List.mem_cons_of_mem _ hL)]
    rfl
  | some L :: en, m, h => by
    have h0 := h L List.mem_cons_self
    show manyF en ((m : Int) * (L + 1)) = _
    have e : (m : Int) * (L + 1) = ((m * (L + 1).toNat : Nat) : Int) := by rw [Int.natCast_mul, Int.toNat_of_nonneg (by omega)]
    rw [e, manyF_eq en _ fun L hL => h L (List.mem_cons_of_mem _ hL), prodL, Nat.mul_assoc]
theorem manyF_take {en : List (Option Int)} {m : Int} {i : Nat} {o : Option Int} (h : en[i]? = some o) : manyF (en.take (i + 1)) m = manyS1 (manyF (en.take i) m) o := by
  unfold manyF
  rw [List.take_add_one, h, List.foldl_append]
  rfl
/-! ### all states that can be come to -/
inductive Reach (en : List (Option Int)) (ld : List Int) : S → Prop
  | first : Reach en ld (firstS en)
  | step {s t : S} {o : Option Int} : Reach en ld s → o ∈ opts en ld s → step en ld s o = some t → Reach en ld t
theorem Reach.ok {en : List (Option Int)} {ld : List Int} {s : S} (hl : 1 ≤ ld.length) (oke : OkEn en) (h : Reach en ld s) : OkS en ld s := by
  induction h with
  | first => exact first_ok hl oke
  | step _ _ e ih => exact step_ok hl ih e
/-- the set is closed -/
def Closed (en : List (Option Int)) (ld : List Int) (F : List S) : Prop := ∀ s ∈ F, ∀ o ∈ opts en ld s, ∀ t, step en ld s o = some t → t ∈ F
structure Met (en : List (Option Int)) (ld : List Int) (F W : List S) : Prop where
  nd : F.Nodup
  re : ∀ s ∈ F, Reach en ld s
  fi : firstS en ∈ F
  sub : ∀ s ∈ W, s ∈ F
  cl : ∀ s ∈ F, s ∈ W ∨ ∀ o ∈ opts en ld s, ∀ t, step en ld s o = some t → t ∈ F
theorem met_zero (en : List (Option Int)) (ld : List Int) : Met en ld [firstS en] [firstS en] := ⟨List.nodup_cons.mpr ⟨by simp, List.nodup_nil⟩, fun s h => by rw [List.mem_singleton.mp h]; exact .first, List.mem_cons_self, fun _ h => h, fun s h => .inl h⟩
/-- the moves of the state that was taken out, the first i of them seen to -/
structure MetI (en : List (Option Int)) (ld : List Int) (F W : List S) (s : S) (i : Nat) : Prop where
  nd : F.Nodup
  re : ∀ s ∈ F, Reach en ld s
  fi : firstS en ∈ F
  sub : ∀ s ∈ W, s ∈ F
  me : s ∈ F
  cl : ∀ x ∈ F, x ∈ W ∨ x = s ∨ ∀ o ∈ opts en ld x, ∀ t, step en ld x o = some t → t ∈ F
  did : ∀ o ∈ (opts en ld s).take i, ∀ t, step en ld s o = some t → t ∈ F
section
variable {en : List (Option Int)} {ld : List Int} {F W : List S} {s t : S} {i : Nat} {o : Option Int}
theorem Met.pop (h : Met en ld F (W ++ [s])) : MetI en ld F W s 0 := by
  refine ⟨h.nd, h.re, h.fi, fun x hx => h.sub x (List.mem_append_left _ hx), h.sub s (List.mem_append_right _ (List.mem_singleton.mpr rfl)), fun x hx => ?_, fun o ho => by rw [List.take_zero] at ho; cases ho⟩
  rcases h.cl x hx with h1 | h1
  · rcases List.mem_append.mp h1 with h1 | h1
    · exact .inl h1
    · exact .inr (.inl (List.mem_singleton.mp h1))
  · exact .inr (.inr h1)
theorem MetI.done (h : MetI en ld F W s i) (hi : (opts en ld s).length ≤ i) : Met en ld F W := by
  refine ⟨h.nd, h.re, h.fi, h.sub, fun x hx => ?_⟩
  rcases h.cl x hx with h1 | h1 | h1
  · exact .inl h1
  · subst h1
    have := h.did
    rw [List.take_of_length_le hi] at this
    exact .inr this
  · exact .inr h1
theorem MetI.no (h : MetI en ld F W s i) (ho : (opts en ld s)[i]? = some o) (e : ∀ t, step en ld s o = some t → t ∈ F) : MetI en ld F W s (i + 1) := by
  refine ⟨h.nd, h.re, h.fi, h.sub, h.me, h.cl, fun o2 h2 => ?_⟩
  rw [List.take_add_one, ho] at h2
  rcases List.mem_append.mp h2 with h2 | h2
  · exact h.did o2 h2
  · rw [List.mem_singleton.mp (show o2 ∈ [o] from h2)]; exact e
theorem MetI.new (h : MetI en ld F W s i) (ho : (opts en ld s)[i]? = some o) (e : step en ld s o = some t) (n : ¬ t ∈ F) : MetI en ld (F ++ [t]) (W ++ [t]) s (i + 1) := by
  refine ⟨?_, fun x hx => ?_, List.mem_append_left _ h.fi, fun x hx => ?_, List.mem_append_left _ h.me, fun x hx => ?_, fun o2 h2 t2 e2 => ?_⟩
  · rw [List.nodup_append]
    exact ⟨h.nd, by simp, fun a ha b hb e => n (by rw [← List.mem_singleton.mp hb, ← e]; exact ha)⟩
  · rcases List.mem_append.mp hx with h1 | h1
    · exact h.re x h1
    · rw [List.mem_singleton.mp h1]
      exact .step (h.re s h.me) (List.mem_of_getElem? ho) e
  · rcases List.mem_append.mp hx with h1 | h1
    · exact List.mem_append_left _ (h.sub x h1)
    · exact List.mem_append_right _ h1
  · rcases List.mem_append.mp hx with h1 | h1
    · rcases h.cl x h1 with h2 | h2 | h2
      · exact .inl (List.mem_append_left _ h2)
      · exact .inr (.inl h2)
      · exact .inr (.inr fun o ho t e => List.mem_append_left _ (h2 o ho t e))
    · exact .inl (List.mem_append_right _ h1)
  · rw [List.take_add_one, ho] at h2
    rcases List.mem_append.mp h2 with h2 | h2
    · exact List.mem_append_left _ (h.did o2 h2 t2 e2)
    · rw [List.mem_singleton.mp (show o2 ∈ [o] from h2)] at e2
      rw [e] at e2
      cases e2
      exact List.mem_append_right _ (List.mem_singleton.mpr rfl)
theorem Met.closed (h : Met en ld F []) : Closed en ld F := fun s hs => (h.cl s hs).resolve_left (by simp)
end
/-! ### ranks -/
structure Rk (en : List (Option Int)) (ld : List Int) (F : List S) (ks : List (S × Addr × V)) : Prop where
  nd : (ks.map (·.1)).Nodup
  sub : ∀ x ∈ ks, x.1 ∈ F
  val : ∀ s v, valN ks s = some v → ∃ n : Nat, v = .int n ∧ Rank en ld s n
theorem rk_zero (en : List (Option Int)) (ld : List Int) (F : List S) : Rk en ld F [] := ⟨List.nodup_nil, fun _ h => (by cases h), fun s v h => (by cases h)⟩
theorem valN_snoc {ks : List (S × Addr × V)} {s t : S} {q : Addr} {v : V} : valN (ks ++ [(s, q, v)]) t = match valN ks t with
    | some u => some u
    | none => if s = t then some v else none := by
  unfold valN
  rw [List.find?_append]
  cases h : ks.find? fun x => decide (x.1 = t) with
  | some x => rfl
  | none =>
    show Option.map _ (Option.or none ([(s, q, v)].find? _)) = _
    rw [Option.none_or]
    by_cases e : s = t
    · rw [List.find?_cons_of_pos (by exact decide_eq_true e)]
      show some v = if s = t then some v else none
      rw [if_pos e]
    · rw [List.find?_cons_of_neg (by simpa using e)]
      show none = if s = t then some v else none
      rw [if_neg e]
theorem Rk.put {en : List (Option Int)} {ld : List Int} {F : List S} {ks : List (S × Addr × V)} {s : S} {q : Addr} {n : Nat} (h : Rk en ld F ks) (hs : s ∈ F) (hn : valN ks s = none) (hr : Rank en ld s n) : Rk en ld F (ks ++ [(s, q, .int (n : Nat))]) := by
  refine ⟨?_, fun x hx => ?_, fun t v hv => ?_⟩
  · rw [List.map_append, List.nodup_append]
    refine ⟨h.nd, by simp, fun a ha b hb e => ?_⟩
    obtain ⟨x, hx, rfl⟩ := List.mem_map.mp ha
    rw [List.mem_singleton.mp (show b ∈ [s] from hb)] at e
    exact valN_none.mp hn x hx e
  · rcases List.mem_append.mp hx with h1 | h1
    · exact h.sub x h1
    · rw [List.mem_singleton.mp h1]; exact hs
  · rw [valN_snoc] at hv
    cases h1 : valN ks t with
    | some u => rw [h1] at hv; cases hv; exact h.val t _ h1
    | none =>
      rw [h1] at hv
      by_cases e : s = t
      · have hv : (if s = t then some (V.int (n : Nat)) else none) = some v := hv
        rw [if_pos e] at hv
        cases hv
        exact ⟨n, rfl, by rw [← e]; exact hr⟩
      · have hv : (if s = t then some (V.int (n : Nat)) else none) = some v := hv
        rw [if_neg e] at hv
        cases hv
theorem Rk.len {en : List (Option Int)} {ld : List Int} {F : List S} {ks : List (S × Addr × V)} (h : Rk en ld F ks) : ks.length ≤ F.length := by
  have := nodup_le h.nd (ys := F) fun s hs => by
    obtain ⟨x, hx, rfl⟩ := List.mem_map.mp hs
    exact h.sub x hx
  rw [List.length_map] at this
  exact this
/-- no state can be ranked any more -/
def Stuck (en : List (Option Int)) (ld : List Int) (F : List S) (ks : List (S × Addr × V)) : Prop := ∀ s ∈ F, valN ks s = none → ∃ o ∈ opts en ld s, ∃ t, step en ld s o = some t ∧ valN ks t = none
theorem stuck_lasts {en : List (Option Int)} {ld : List Int} {F : List S} {ks : List (S × Addr × V)} (cl : Closed en ld F) (st : Stuck en ld F ks) : ∀ n s, s ∈ F → valN ks s = none → hold en ld n s
  | 0, _, _, _ => True.intro
  | n + 1, s, hs, hn => by
    obtain ⟨o, ho, t, e, ht⟩ := st s hs hn
    exact ⟨o, ho, t, e, stuck_lasts cl st n t (cl s hs o ho t e) ht⟩
end Z
set_option Elab.async false
set_option linter.all false
set_option maxRecDepth 100000
set_option maxHeartbeats 4000000
namespace Z
open PySem PySem.Spec PyProof.Rows L2
/-! ### {q: v}; sorted(a) over such a dict; max(xs, default=d) -/
def tDispN (P : Program) (w : World) (K : PySem.W.Frag) (tk tv : TE) : TE := fun σ H Q => ∀ p, H p = none → tk σ (upd H p (dN P w p [])) fun y H1 => tv σ H1 fun v H2 => ∃ (q : Addr) (s : S), y = .ref q ∧ StAt K H2 q s ∧ H2 p = some (dN P w p []) ∧ Q (.ref p) (upd H2 p (dN P w p [(s, q, v)]))
theorem pe_dispN {X : Cx} {k v : Expr} {pos : Pos} {tk tv : TE} (hu : X.A.units + 64 < cLine) (hk : PE X k tk) (hv : PE X v tv) : PE X (.Dict [some k] [v] pos) (tDispN X.prog X.w X.K tk tv) := by
  refine ⟨fun pins s σ H Q I q => ?_⟩
  have hn := I.hok.fresh (Nat.le_refl s.heap.objs.size)
  have I1 := I.laid (a := s.heap.objs.size) (o := dN X.prog X.w s.heap.objs.size []) (h' := s.heap.push { cls := .type "dict", data := .dict #[] }) (t' := s.toks) (fun _ _ q => Heap.get?_push_of_some _ q) (Nat.le_refl _)
    (dn_new (us := []) (Nat.zero_le _) (beq_eq_false_iff_ne.mpr (Ne.symm (Nat.ne_of_lt I.big))) .nil (Heap.DictOfH.new s.heap))
  rw [arm_eval_Dict, zip_pairTrees [some k] [v] X.env pos rfl rfl, dictDisplay_pairs (pairTrees [some k] [v] X.env pos) (by intro z; cases z) (by rw [pairTrees_length _ _ _ _ rfl rfl]; exact (by decide : 1 < 17))]
  refine wpAny_bind (wpAny_standAt (wpAny_bind (wpAny_subDictH (knd := nestedKind X.prog X.w) (Q := fun d s' => wpAny (model X.prog X.w) X.A (pure (Value.ref d)) _ X.xe s') (by show X.A.units + 8 < cLine; omega) (by rw [pairTrees_length _ _ _ _ rfl rfl]; exact (by decide : 1 ≤ 15))
    (pairTrees_cons_walk (thn (hk.run pins _ σ _ _ I1 (q _ hn)) fun u s1 ⟨y, H1, I2, ry, q1⟩ => thn (hv.run pins s1 σ H1 _ I2 q1) fun u2 s2 ⟨v, H2, I3, rv, qq, st, ey, hst, e, q2⟩ => pairTrees_nil_walk ?_)))))
  subst ey
  obtain rfl : u = Value.ref qq := ry
  obtain ⟨z, hd, us, r, dd⟩ := dn_of I3 e (fun x hx => (by cases hx))
  cases r
  refine ⟨[(nk st, qq, u2)], ⟨rfl, rfl, nested_at I3 hst, True.intro⟩, dd, fun h' tk' dd' hs => wpAny_pure ⟨.ref s.heap.objs.size, _, ?_, rfl, q2⟩⟩
  have he : ∃ q, h'.get? s.heap.objs.size = some q := let ⟨q, _, _, hq, _⟩ := dd'; ⟨q, hq⟩
  exact d_write I3 (by rw [e]; exact True.intro) hs he (dn_new (us := [(st, qq, u2)]) (by show 1 ≤ sizeLine; decide) hd (.cons ⟨rfl, rfl, rv⟩ .nil) dd')
/-- a state as data -/
def dS (s : S) : PyData := .tuple [.int s.1, .tuple (s.2.map PyData.int)]
theorem reads_ints {h : Heap} : ∀ {ns : List Int} {its : List Value}, Vals (ns.map V.int) its → ReadsAll h its (ns.map PyData.int) []
  | [], _, r => by rw [List.map_nil] at r; cases r; exact .nil
  | n :: ns, _, r => by
    rw [List.map_cons] at r
    cases r with
    | cons h1 h2 =>
      obtain ⟨t, rfl⟩ := h1
      have := ReadsAll.cons (Reads.int (h := h) n t) (reads_ints (h := h) h2)
      exact this
theorem reads_state {X : Cx} {pins : List (Addr × Obj)} {σ : L2.St} {H : Hp} {s : Shared} (I : Inv X pins σ H s) {q : Addr} {st : S} (h : StAt X.K H q st) : Reads s.heap (.ref q) (dS st) [] := by
  obtain ⟨r, h1, h2⟩ := h
  obtain ⟨its, r1, ⟨o, a1, a2, n, a3⟩, _⟩ := I.tuple h1
  obtain ⟨its2, r2, ⟨o2, b1, b2, n2, b3⟩, _⟩ := I.tuple h2
  refine .tuple a1 a2 a3 ?_
  rw [List.toList_toArray]
  cases r1 with
  | cons c1 c2 =>
    cases c2 with
    | cons c3 c4 =>
      cases c4
      obtain ⟨t, rfl⟩ := c1
      cases c3
      have h3 : Reads s.heap (.ref r) (.tuple (st.2.map PyData.int)) [] := .tuple b1 b2 b3 (by rw [List.toList_toArray]; exact reads_ints r2)
      have := ReadsAll.cons (Reads.int (h := s.heap) st.1 t) (ReadsAll.cons h3 .nil)
      exact this
theorem alike_S (s t : S) : PySem.W.alike (dS s) (dS t) = true := by
  unfold dS
  simp only [PySem.W.alike, PySem.W.alikeAll]
  rw [PySem.W.alike_ints]
  rfl
theorem depth_S (s : S) : (dS s).depth ≤ 2 := by
  unfold dS
  simp only [PyData.depth, PyData.depthAll, PySem.W.depth_ints]
  decide
/-- the keys in order -/
def srtN (xs : List (S × Addr × V)) : List (S × Addr × V) := xs.mergeSort (PySem.W.dataLe false fun x : S × Addr × V => dS x.1)
theorem srtN_perm (xs : List (S × Addr × V)) : (srtN xs).Perm xs := List.mergeSort_perm _ _
def rSortedN (P : Program) (w : World) (K : PySem.W.Frag) : List V → Hp → VK → Prop := fun vs H Q => ∃ (a : Addr) (xs : List (S × Addr × V)), vs = [.ref a] ∧ H a = some (dN P w a xs) ∧ KeysAt K H xs ∧
  ∀ p, H p = none → Q (.ref p) (upd H p (.lst ((srtN xs).map fun x => V.ref x.2.1)))
theorem each_of_map {β : Type} {R : Value → β → Prop} (f : β → Value) : ∀ (bs : List β), (∀ b ∈ bs, R (f b) b) → PySem.W.EachIs R (bs.map f) bs
  | [], _ => .nil
  | b :: bs, h => .cons (h b List.mem_cons_self) (each_of_map f bs fun c hc => h c (List.mem_cons_of_mem _ hc))
theorem each_out {β : Type} (f : β → Value) : ∀ {vs : List Value} {bs : List β}, PySem.W.EachIs (fun v b => v = f b) vs bs → vs = bs.map f
  | _, _, .nil => rfl
  | _, _, .cons h t => by rw [List.map_cons, ← h, ← each_out f t]
theorem vals_refs {β : Type} (f : β → Addr) : ∀ bs : List β, Vals (bs.map fun b => V.ref (f b)) (bs.map fun b => Value.ref (f b))
  | [] => .nil
  | b :: bs => .cons rfl (vals_refs f bs)
theorem cr_sortedN {X : Cx} (hu : X.A.units + 64 < cLine) (hc : X.calm = true) : CallR X (.builtin "sorted") (rSortedN X.prog X.w X.K) := by
  intro pins s σ H vs us Q I r h
  obtain ⟨a, xs, rfl, e, k, q⟩ := h
  rw [Vals.ref1 r]
  obtain ⟨z, lo, us, rel, o, es, ep, h1, h2, h3, h4, _, _⟩ := dn_of I e k
  have hlu : us.length = xs.length := (Paired.len rel).symm
  have hes : es.size = xs.length := by rw [← Array.length_toList, h4, List.length_map]; unfold rawU; rw [List.length_map, hlu]
  refine Calls.call_function_entry PyProof.Rows.kind_sorted PyProof.Rows.plain_sorted PyProof.Rows.entry_sorted (PyProof.Rows.args_sorted1 _) ?_
  unfold Builtin.«sorted»
  refine wpAny_bind (m := checkCount "sorted" 1 1 _) (wpAny_pure ?_)
  refine wpAny_bind (PySem.W.kdu_collect (A := X.A.in1) (PySem.KdlSrc.rawDict (es := es) (ep := ep) lo) (I.ok.hd hc) ⟨o, h1, h2, h3⟩ (by rw [hes]; exact z) fun h' tk acc hk hacc => ?_)
  have I1 : Inv X pins σ H { s with heap := h', toks := tk } := I.kept hk
  have hal : acc.toList = xs.map fun x => Value.ref x.2.1 := by
    refine List.ext_getElem? fun j => ?_
    by_cases hj : j < acc.size
    · have hj2 : j < xs.length := by have := hacc.1; omega
      have e1 : acc.toList[j]? = some acc[j] := by rw [Array.getElem?_toList]; exact Array.getElem?_eq_getElem hj
      obtain ⟨hi, e2⟩ := hacc.2 j acc[j] (by rw [← Array.getElem?_toList]; exact e1)
      rw [e1, e2, List.getElem?_map, List.getElem?_eq_getElem hj2]
      have e3 : es.toList[j]? = some es[j] := by rw [Array.getElem?_toList]; exact Array.getElem?_eq_getElem hi
      rw [h4, List.getElem?_map] at e3
      have e4 : (rawU us)[j]? = some (nk (us[j]'(by omega)).1, (us[j]'(by omega)).2.1, (us[j]'(by omega)).2.2) := by unfold rawU; rw [List.getElem?_map, List.getElem?_eq_getElem (by omega)]; rfl
      rw [e4] at e3
      have e5 := Option.some.inj e3
      rw [← e5]
      have hp := Paired.at rel (i := j) (List.getElem?_eq_getElem hj2) (List.getElem?_eq_getElem (by omega))
      show some (Value.ref (us[j]'(by omega)).2.1) = some (Value.ref xs[j].2.1)
      rw [hp.2.1]
    · rw [List.getElem?_eq_none (by rw [Array.length_toList]; omega), List.getElem?_eq_none (by rw [List.length_map]; have := hacc.1; omega)]
  have hE : ∀ R : Value → S × Addr × V → Prop, (∀ x ∈ xs, R (Value.ref x.2.1) x) → PySem.W.EachIs R acc.toList xs := fun R h => by
    rw [hal]
    exact each_of_map (fun x : S × Addr × V => Value.ref x.2.1) xs h
  refine wpAny_bind (wpAny_newList ?_ (by rw [hal, List.length_map]; exact z))
  have hoL : (h'.push (seqObj "list" acc.toList.toArray 0)).get? h'.objs.size = some (seqObj "list" acc.toList.toArray 0) := Heap.get?_push_size _ rfl
  show wpAny _ _ _ _ _ { s with heap := h'.push (seqObj "list" acc.toList.toArray 0), toks := tk }
  have hrd : ∀ x ∈ xs, Reads (h'.push (seqObj "list" acc.toList.toArray 0)) (.ref x.2.1) (dS x.1) [] := fun x hx => PyProof.Rows.Reads.keeps (fun b o e => Heap.get?_push_of_some _ e) (reads_state I1 (k x hx))
  refine wpAny_bind (wpAny_holding (PySem.W.list_sort_data (s := { s with heap := h'.push (seqObj "list" acc.toList.toArray 0), toks := tk }) (bs := xs) (enc := fun x : S × Addr × V => dS x.1) (R := fun v x => v = Value.ref x.2.1) hoL
    (hE _ fun _ _ => rfl) (hE _ fun x hx => ⟨[], hrd x hx, by simp⟩)
    (PySem.W.AllAlike.of fun b b' => alike_S b.1 b'.1) (PySem.W.Sortable.tuples fun b => ⟨_, _, rfl⟩) z (fun b _ => by
      have := depth_S b.1
      show X.A.units + 1 + 1 + (dS b.1).depth < cLine
      omega) fun out hol hout => ?_))
  have ho : out = (srtN xs).map fun x => Value.ref x.2.1 := each_out (fun x : S × Addr × V => Value.ref x.2.1) hout
  obtain ⟨e', he'⟩ := PyProof.Rows.sortedHeap_at (vs := acc.toList) (out := out.toArray) hoL
  have hlen : ((srtN xs).map fun x => V.ref x.2.1).length ≤ sizeLine := by rw [List.length_map, (srtN_perm xs).length_eq]; exact z
  refine wpAny_pure ⟨_, rfl, .ref h'.objs.size, upd H h'.objs.size (.lst ((srtN xs).map fun x => V.ref x.2.1)), I1.laid (t' := tk) (fun b u e => ?_) (Nat.le_refl _)
    (show ObjOk X.prog X.w _ _ _ (.lst ((srtN xs).map fun x => V.ref x.2.1)) from ⟨hlen, out, e', by rw [ho]; exact vals_refs (fun x : S × Addr × V => x.2.1) (srtN xs), he'⟩), rfl, q _ (I1.hok.fresh (Nat.le_refl _))⟩
  have hb : b < h'.objs.size := Heap.lt_size e
  rw [PyProof.Rows.sortedHeap_old (Nat.ne_of_lt hb) (by rw [size_push']; exact Nat.lt_succ_of_lt hb)]
  exact Heap.get?_push_of_some _ e
/-- max(xs, default=d) of ints -/
def rMaxDef (K : PySem.W.Frag) : List V → List V → Hp → VK → Prop := fun vs zs H Q => ∃ (a : Addr) (ns : List Int) (d : Int), vs = [.ref a] ∧ zs = [.int d] ∧ SqL K H a (ns.map V.int) ∧ (ns = [] → Q (.int d) H) ∧ ∀ m, m ∈ ns → (∀ y ∈ ns, y ≤ m) → Q (.int m) H
theorem foldmax : ∀ (ns : List Int) (n : Int), ns.foldl max n ∈ n :: ns ∧ ∀ y ∈ n :: ns, y ≤ ns.foldl max n
  | [], n => ⟨List.mem_cons_self, fun y hy => by rw [List.mem_singleton.mp hy]; exact Int.le_refl n⟩
  | k :: ns, n => by
    obtain ⟨h1, h2⟩ := foldmax ns (max n k)
    show ns.foldl max (max n k) ∈ _ ∧ _
    refine ⟨?_, fun y hy => ?_⟩
    · rcases List.mem_cons.mp h1 with e | e
      · rw [e]
        have h3 : max n k = n ∨ max n k = k := by omega
        rcases h3 with h3 | h3 <;> rw [h3] <;> simp
      · exact List.mem_cons_of_mem _ (List.mem_cons_of_mem _ e)
    · have h0 := h2 (max n k) List.mem_cons_self
      rcases List.mem_cons.mp hy with e | e
      · rw [e]; show n ≤ ns.foldl max (max n k); omega
      · rcases List.mem_cons.mp e with e | e
        · rw [e]; show k ≤ ns.foldl max (max n k); omega
        · exact h2 y (List.mem_cons_of_mem _ e)
theorem cr_maxDef {X : Cx} (hu : X.A.units + 64 < cLine) (hc : X.calm = true) : CallRK X (.builtin "max") [Str.ofString "default"] (rMaxDef X.K) := by
  intro pins s σ H vs zs us ws Q I r rz h
  obtain ⟨a, ns, d, rfl, rfl, hs, q0, q⟩ := h
  obtain ⟨its, rv, hl, _⟩ := I.list hs
  rw [Vals.ref1 r]
  cases rz with
  | @cons _ u0 _ ur ra rw' =>
    cases rw'
    obtain ⟨td, rfl⟩ := ra
    obtain ⟨as, hr⟩ := Dp.readsAll I (ns.map PyData.int) (ns.map V.int) its (dpAll_ints ns) rv
    have hr' : ReadsAll s.heap its.toArray.toList (ns.map PyData.int) as := by rw [List.toList_toArray]; exact hr
    have hal : PySem.W.AlikeAll (ns.map PyData.int) := by
      refine ⟨fun x hx y hy => ?_, fun x hx e => ?_⟩
      · obtain ⟨i, _, rfl⟩ := List.mem_map.mp hx
        obtain ⟨j, _, rfl⟩ := List.mem_map.mp hy
        simp [PySem.W.alike]
      · obtain ⟨i, _, rfl⟩ := List.mem_map.mp hx
        cases e
    refine PySem.W.max_list_default (I.ok.hd hc) hl.isList hr' hal (by rw [PySem.W.depth_ints]; omega) (fun e h' tk hk => ⟨.int d, H, I.kept hk, ⟨td, rfl⟩, q0 (by cases ns with | nil => rfl | cons _ _ => cases e)⟩) fun y ys i v h' tk bs e hi hv hk => ?_
    cases ns with
    | nil => cases e
    | cons n ns =>
      cases e
      rw [PySem.W.maxD_ints] at hv
      cases hv with
      | int _ t =>
        obtain ⟨h3, h4⟩ := foldmax ns n
        exact ⟨.int (ns.foldl max n), H, I.kept hk, ⟨t, rfl⟩, q _ h3 h4⟩
end Z
set_option Elab.async false
set_option linter.all false
set_option maxRecDepth 100000
set_option maxHeartbeats 4000000
namespace Z
open PySem PySem.Spec PyProof.Rows L2
/-! ### xs.count, t[1:]; a bit is flipped by counting (k03, k04) -/
theorem i_cntI {K : PySem.W.Frag} {H : Hp} {Q : VK} {p : Addr} {ns : List Int} {k : Int} (h : SqL K H p (ns.map V.int)) (q : Q (.int (ns.count k : Nat)) H) : rCntI K (.ref p) [.int k] H Q := ⟨p, ns, k, rfl, rfl, h, q⟩
theorem i_sl31 {K : PySem.W.Frag} {H : Hp} {Q : VK} {p : Addr} {a b c : V} (h : SqT K H p [a, b, c]) (q : NewT [b, c] H Q) : rSlT K (.ref p) (some 1) none H Q := i_slT h (by show ¬ (HT.sIx 3 0 (some 1) = 0 ∧ HT.sIx 3 3 none = 3); decide) q
theorem cnt_not : ∀ {xs : List Int} {o : Int}, ¬ o ∈ xs → xs.count o = 0 := fun h => List.count_eq_zero.mpr h
theorem cnt_rise : ∀ {xs : List Int} {o : Int}, xs.Pairwise (· < ·) → o ∈ xs → xs.count o = 1
  | [], _, _, h => by cases h
  | x :: xs, o, pw, h => by
    have pw1 := List.pairwise_cons.mp pw
    by_cases e : o = x
    · subst e
      have hn : ¬ o ∈ xs := fun h => by have := pw1.1 o h; omega
      rw [List.count_cons_self, cnt_not hn]
    · have h2 : o ∈ xs := (List.mem_cons.mp h).resolve_left e
      rw [List.count_cons_of_ne (fun z => e z.symm), cnt_rise pw1.2 h2]
theorem cnt_one {xs : List Int} {b o : Int} : (xs ++ [b]).count o = xs.count o + (if o = b then 1 else 0) := by
  rw [List.count_append]
  congr 1
  by_cases h : o = b
  · rw [if_pos h, h]; simp
  · rw [if_neg h]; simp [List.count_cons, Ne.symm h]
theorem flip_cnt {xs : List Int} (u : xs.Pairwise (· < ·)) (b : Int) : srt ((xs ++ [b]).filter fun o => decide (((xs ++ [b]).count o : Nat) = (1 : Nat))) = flip b xs := by
  rw [List.filter_append]
  unfold flip
  by_cases hb : b ∈ xs
  · rw [if_pos hb]
    have e1 : xs.filter (fun o => decide (((xs ++ [b]).count o : Nat) = (1 : Nat))) = xs.filter (fun o => !decide (o = b)) := by
      refine List.filter_congr fun o ho => ?_
      rw [cnt_one, cnt_rise u ho]
      by_cases e : o = b
      · rw [if_pos e]; simp [e]
      · rw [if_neg e]; simp [e]
    have e2 : [b].filter (fun o => decide (((xs ++ [b]).count o : Nat) = (1 : Nat))) = [] := by
      rw [List.filter_cons_of_neg]
      · rfl
      · rw [cnt_one, cnt_rise u hb, if_pos rfl]; decide
    rw [e1, e2, List.append_nil]
    exact (srt_uniq (List.Perm.refl _) ((u.filter _).imp Int.le_of_lt)).symm
  · rw [if_neg hb]
    have e1 : xs.filter (fun o => decide (((xs ++ [b]).count o : Nat) = (1 : Nat))) = xs := by
      refine List.filter_eq_self.mpr fun o ho => ?_
      rw [cnt_one, cnt_rise u ho, if_neg fun e => hb (by rw [← e]; exact ho)]
      rfl
    have e2 : [b].filter (fun o => decide (((xs ++ [b]).count o : Nat) = (1 : Nat))) = [b] := by
      rw [List.filter_cons_of_pos]
      · rfl
      · rw [cnt_one, cnt_not hb, if_pos rfl]; rfl
    rw [e1, e2]
def strokeOn (tu : List (List Int)) (s : W3) : List (List Int) := tu.set s.2.1.toNat (flip s.2.2 (tu.getD s.2.1.toNat []))
def onB (b : Int) (ss : List W3) : List W3 := ss.filter fun s => decide (s.1 = b)
theorem strokesAt_onB (b : Int) : ∀ (ss : List W3) (tu : List (List Int)), strokesAt b ss tu = (onB b ss).foldl strokeOn tu
  | [], _ => rfl
  | s :: ss, tu => by
    show strokesAt b ss (strokeAt b tu s) = _
    unfold onB
    by_cases h : s.1 = b
    · rw [List.filter_cons_of_pos (by exact decide_eq_true h), List.foldl_cons]
      have e : strokeAt b tu s = strokeOn tu s := if_pos h
      rw [e]
      exact strokesAt_onB b ss _
    · rw [List.filter_cons_of_neg (by simpa using h)]
      have e : strokeAt b tu s = tu := if_neg h
      rw [e]
      exact strokesAt_onB b ss tu
theorem onB_take {b : Int} {ss : List W3} {j : Nat} {s : W3} (h : ss[j]? = some s) : onB b (ss.take (j + 1)) = onB b (ss.take j) ++ (if s.1 = b then [s] else []) := by
  unfold onB
  rw [filter_take h]
  congr 1
  by_cases e : s.1 = b
  · rw [if_pos (decide_eq_true e), if_pos e]
  · rw [if_neg (by simpa using e), if_neg e]
theorem onB_len {b : Int} {ss : List W3} {j : Nat} : (onB b (ss.take j)).length ≤ j := by
  unfold onB
  refine Nat.le_trans (List.length_filter_le _ _) ?_
  rw [List.length_take]
  exact Nat.min_le_left _ _
theorem onB_mem {b : Int} {ss : List W3} {s : W3} (h : s ∈ onB b ss) : s ∈ ss := (List.mem_filter.mp h).1
theorem fold_take {fs : List W3} {j : Nat} {s : W3} (tu : List (List Int)) (h : fs[j]? = some s) : (fs.take (j + 1)).foldl strokeOn tu = strokeOn ((fs.take j).foldl strokeOn tu) s := by
  rw [List.take_add_one, h, List.foldl_append]
  rfl
theorem okTu_on {n : Nat} : ∀ (fs : List W3) {tu : List (List Int)}, OkTu n tu → (∀ s ∈ fs, 0 ≤ s.2.2 ∧ s.2.2 < 8) → OkTu n (fs.foldl strokeOn tu)
  | [], _, h, _ => h
  | s :: fs, tu, h, hs => okTu_on fs (okTu_set h _ (okX_flip (okTu_getD h _) (hs s List.mem_cons_self).1 (hs s List.mem_cons_self).2)) fun t ht => hs t (List.mem_cons_of_mem _ ht)
def vWB (s : W3) : List V := [.int s.2.1, .int s.2.2]
end Z
namespace Z
open PySem PySem.Spec PyProof.Rows L2
theorem At.down {G0 G H : Hp} {p : Addr} {o : HO} (t : At G H p o) (s : Same G0 G) : At G0 H p o := ⟨t.h, by
  cases e : G0 p with
  | none => rfl
  | some u => have := s _ _ e; rw [t.g] at this; cases this⟩
theorem TuAt.down {G0 G H H0 : Hp} {t : Addr} {ls : List Addr} {tu : List (List Int)} (T : TuAt G H H0 t ls tu) (s : Same G0 G) : TuAt G0 H H0 t ls tu := ⟨T.tt.down s, Paired.imp (fun _ _ h => ⟨h.1.down s, h.2⟩) T.pr, T.nd, T.nt, T.n0⟩
end Z
namespace Z
open PySem PySem.Spec PyProof.Rows L2
theorem okTu_run {ws ss : List W3} {mf : Nat → Option Int} {n : Nat} {lost : Option (Nat × Nat)} {tu : List (List Int)} (okw : OkWs ws) (oks : OkSt ws ss) (R : RunRes ws mf ss n lost tu) : OkTu ws.length tu := by
  match lost, R with
  | none, R => rw [R.1]; exact okTu_at mf (bits_of okw oks) n
  | some (b, w), R => rw [R.2.1]; exact okTu_at mf (bits_of okw oks) (b + 1)
theorem lk_R {n : Nat} {lost : Option (Nat × Nat)} {tu : List (List Int)} (h : OkTu n tu) (hn : n ≤ 4) : Lk 3 (dR lost tu) := by
  refine lk_tup (by show 2 ≤ 100000; decide) fun e he => ?_
  simp only [List.mem_cons, List.not_mem_nil, or_false] at he
  rcases he with rfl | rfl
  · match lost with
    | none => exact lk_non
    | some (b, w) =>
      refine lk_tup (by show 2 ≤ 100000; decide) fun e he => ?_
      simp only [List.mem_cons, List.not_mem_nil, or_false] at he
      rcases he with rfl | rfl <;> exact lk_int
  · refine lk_list (by rw [List.length_map, h.len]; omega) fun e he => ?_
    obtain ⟨xs, hx, rfl⟩ := List.mem_map.mp he
    refine lk_list (by rw [List.length_map]; have := (h.ok xs hx).len; omega) fun e he => ?_
    obtain ⟨i, _, rfl⟩ := List.mem_map.mp he
    exact lk_int
theorem okSt_join {ws ss : List W3} (okw : OkWs ws) (oks : OkSt ws ss) (few : ss.length ≤ 100) (h : ∀ s ∈ ss, s.1 < 90) : OkSt ws (ss ++ ss.map (late 900)) := by
  have ol := okSt_late oks (k := 900) (by omega) fun s hs => by have := h s hs; omega
  refine ⟨by rw [List.length_append, List.length_map]; omega, fun s hs => (List.mem_append.mp hs).elim (oks.rng s) (ol.rng s), ?_⟩
  rw [List.pairwise_append]
  refine ⟨oks.ord, ol.ord, fun a ha b hb => ?_⟩
  have hb2 := ol.rng b hb
  obtain ⟨c, hc, rfl⟩ := List.mem_map.mp hb
  have h1 := h a ha
  have h2 := oks.rng a ha
  have h3 := oks.rng c hc
  have h4 := (okw.ok _ (getD_mem (d := d3) (show c.2.1.toNat < ws.length by omega))).2.2.2.2.2
  refine ⟨.inl (by show a.1 < c.1 + 900; omega), fun _ => ?_⟩
  show (ws.getD c.2.1.toNat d3).2.2 ≤ c.1 + 900 - a.1
  omega
end Z
namespace Z
open PySem PySem.Spec PyProof.Rows L2
theorem Paired.app {α β : Type} {R : α → β → Prop} : ∀ {xs ys : List α} {us vs : List β}, Paired R xs us → Paired R ys vs → Paired R (xs ++ ys) (us ++ vs)
  | _, _, _, _, .nil, h => h
  | _, _, _, _, .cons r t, h => .cons r (Paired.app t h)
end Z
namespace Z
open PySem PySem.Spec PyProof.Rows L2
theorem rows_of {P : Addr → List Int → Prop} : ∀ {ls : List Addr} {tu : List (List Int)}, Paired P ls tu → (∀ xs ∈ tu, OkX xs) → ∀ q ∈ ls, ∃ xs, P q xs ∧ xs.length ≤ 8
  | _, _, .nil, _, q, h => by cases h
  | _, _, .cons (b := y) r t, ok, q, h => by
    rcases List.mem_cons.mp h with e | h
    · rw [e]; exact ⟨y, r, (ok y List.mem_cons_self).len⟩
    · exact rows_of t (fun xs hx => ok xs (List.mem_cons_of_mem _ hx)) q h
theorem TuAt.rows {G H H0 : Hp} {t : Addr} {ls : List Addr} {tu : List (List Int)} {n : Nat} (T : TuAt G H H0 t ls tu) (ok : OkTu n tu) : ∀ q ∈ ls, (∃ xs : List V, At G H q (.lst xs) ∧ xs.length ≤ 8) ∧ H0 q = none := fun q hq => by
  obtain ⟨xs, h1, h2⟩ := rows_of T.pr ok.ok q hq
  exact ⟨⟨_, h1.1, by rw [List.length_map]; exact h2⟩, h1.2⟩
def dHd (ld : List Int) (hd lp : List (Option Int)) (ss : List W3) : PyData := .list [.list (ld.map PyData.int), .tuple [.list (hd.map dO), .list (lp.map dO)], .list (ss.map dW)]
theorem dk_Hd (ld : List Int) (hd lp : List (Option Int)) (ss : List W3) : Dk 3 (dHd ld hd lp ss) := dk_list fun d h => by
  simp only [List.mem_cons, List.not_mem_nil, or_false] at h
  rcases h with rfl | rfl | rfl
  · exact dk_ints ld
  · exact dk_tup fun d h => by
      simp only [List.mem_cons, List.not_mem_nil, or_false] at h
      rcases h with rfl | rfl <;> exact dk_vOs _
  · exact dk_Ws ss
end Z
set_option Elab.async false
set_option linter.all false
set_option maxRecDepth 100000
set_option maxHeartbeats 4000000
namespace Z
open PySem PySem.Spec PyProof.Rows L2
/-! ### the longest stretch, from the rows -/
theorem far_none {m : Nat → Option Int} {lp : List (Option Int)} {w : Int} {n : Nat} : none ∈ (rowsM m lp w n).map Prod.snd ↔ ¬ some w ∈ lp := by
  unfold rowsM
  rw [List.map_append, List.mem_append]
  refine ⟨fun h hw => ?_, fun h => .inr ?_⟩
  · rcases h with h | h
    · obtain ⟨r, hr, e⟩ := List.mem_map.mp h
      obtain ⟨k, _, rfl⟩ := List.mem_map.mp hr
      cases e
    · rw [if_pos hw] at h
      cases h
  · rw [if_neg h]
    exact List.mem_singleton.mpr rfl
theorem far_some {m : Nat → Option Int} {lp : List (Option Int)} {w : Int} {n : Nat} (h : some w ∈ lp) : ((rowsM m lp w n).map Prod.snd).map vO = ((mB m w n).map fun e => ((gl m w e : Nat) : Int)).map V.int := by
  unfold rowsM
  rw [if_pos h, List.append_nil, List.map_map, List.map_map, List.map_map]
  rfl
theorem gap_of {ld : List Int} {hd lp : List (Option Int)} {w : Int} {k : Nat} (ok : OkLd ld) (okp : OkPl k hd lp) (hw : some w ∈ lp) :
    0 < ((mB (mend ld hd lp) w (nB ld hd lp)).map fun e => ((gl (mend ld hd lp) w e : Nat) : Int)).length ∧
    ∀ x, x ∈ ((mB (mend ld hd lp) w (nB ld hd lp)).map fun e => ((gl (mend ld hd lp) w e : Nat) : Int)) → (∀ y, y ∈ ((mB (mend ld hd lp) w (nB ld hd lp)).map fun e => ((gl (mend ld hd lp) w e : Nat) : Int)) → y ≤ x) → GapOf (mend ld hd lp) lp w (some x) := by
  have l1 := per_pos ok okp
  have hn := nB_eq ld hd lp
  constructor
  · obtain ⟨e, e1, e2, e3⟩ := mend_meets (hd := hd) ok hw (Nat.le_refl (n0 ld hd))
    have : e ∈ mB (mend ld hd lp) w (nB ld hd lp) := mem_mB.mpr ⟨by omega, e3⟩
    exact List.length_pos_iff.mpr (List.ne_nil_of_mem (List.mem_map.mpr ⟨e, this, rfl⟩))
  · intro x hx hy
    obtain ⟨e, he, rfl⟩ := List.mem_map.mp hx
    obtain ⟨e1, e2⟩ := mem_mB.mp he
    refine ⟨hw, _, rfl, longest_of (n := nB ld hd lp) ok hw l1 (by omega) ⟨e, e1, e2, rfl⟩ fun f f1 f2 => ?_⟩
    have := hy _ (List.mem_map.mpr ⟨f, mem_mB.mpr ⟨f1, f2⟩, rfl⟩)
    omega
theorem gaps_step {m : Nat → Option Int} {lp gs : List (Option Int)} {o : Option Int} {i : Nat} (h : GapsSem m lp i gs) (h2 : GapOf m lp (i : Nat) o) : GapsSem m lp (i + 1) (gs ++ [o]) := by
  refine ⟨by rw [List.length_append, h.1]; rfl, fun w hw => ?_⟩
  by_cases e : w < i
  · rw [List.getD_eq_getElem?_getD, List.getElem?_append_left (by rw [h.1]; exact e), ← List.getD_eq_getElem?_getD]
    exact h.2 w e
  · have e2 : w = i := by omega
    subst e2
    rw [List.getD_eq_getElem?_getD, List.getElem?_append_right (by rw [h.1]; exact Nat.le_refl _), h.1, Nat.sub_self]
    exact h2
/-! ### the soonest loss, from the rows -/
def CandIn (ws : List W3) (w : Nat) (rs : List (Int × Option Int)) (t : Int) : Prop := ∃ (b : Int) (len : Option Int) (L : Int), (b, len) ∈ rs ∧ lim (ws.getD w d3) = some L ∧ (len = none ∨ ∃ x, len = some x ∧ L < x) ∧ t = b + L
def CandTo (ws : List W3) (rows : Nat → List (Int × Option Int)) (i j : Nat) (t : Int) (w : Nat) : Prop := (w < i ∧ CandIn ws w (rows w) t) ∨ (w = i ∧ CandIn ws i ((rows i).take j) t)
def Best (S : Int → Nat → Prop) (o : Option (Int × Nat)) : Prop := match o with
  | none => ∀ t w, ¬ S t w
  | some (t, w) => S t w ∧ ∀ s v, S s v → t < s ∨ (t = s ∧ w ≤ v)
theorem Best.congr {S S2 : Int → Nat → Prop} {o : Option (Int × Nat)} (e : ∀ t w, S2 t w ↔ S t w) (h : Best S o) : Best S2 o := by
  match o, h with
  | none, h => exact fun t w k => h t w ((e t w).mp k)
  | some (t, w), h => exact ⟨(e t w).mpr h.1, fun s v k => h.2 s v ((e s v).mp k)⟩
theorem Best.keep {S : Int → Nat → Prop} {t t2 : Int} {w w2 : Nat} (h : Best S (some (t, w))) (hw : w ≤ w2) (hl : ¬ t2 < t) : Best (fun s v => S s v ∨ (s = t2 ∧ v = w2)) (some (t, w)) := by
  refine ⟨.inl h.1, fun s v k => ?_⟩
  rcases k with k | ⟨rfl, rfl⟩
  · exact h.2 s v k
  · omega
theorem Best.take {S : Int → Nat → Prop} {o : Option (Int × Nat)} {t2 : Int} {w2 : Nat} (h : Best S o) (hl : ∀ t w, o = some (t, w) → t2 < t) : Best (fun s v => S s v ∨ (s = t2 ∧ v = w2)) (some (t2, w2)) := by
  refine ⟨.inr ⟨rfl, rfl⟩, fun s v k => ?_⟩
  rcases k with k | ⟨rfl, rfl⟩
  · match o, h, hl with
    | none, h, _ => exact absurd k (h s v)
    | some (t, w), h, hl =>
      have h1 := hl t w rfl
      have h2 := h.2 s v k
      omega
  · omega
theorem candIn_snoc {ws : List W3} {w : Nat} {rs : List (Int × Option Int)} {b : Int} {len : Option Int} {t : Int} : CandIn ws w (rs ++ [(b, len)]) t ↔ CandIn ws w rs t ∨ ∃ L, lim (ws.getD w d3) = some L ∧ (len = none ∨ ∃ x, len = some x ∧ L < x) ∧ t = b + L := by
  constructor
  · rintro ⟨b', l', L, h1, h2, h3, h4⟩
    rcases List.mem_append.mp h1 with h1 | h1
    · exact .inl ⟨b', l', L, h1, h2, h3, h4⟩
    · cases List.mem_singleton.mp h1
      exact .inr ⟨L, h2, h3, h4⟩
  · rintro (⟨b', l', L, h1, h2, h3, h4⟩ | ⟨L, h2, h3, h4⟩)
    · exact ⟨b', l', L, List.mem_append_left _ h1, h2, h3, h4⟩
    · exact ⟨b, len, L, List.mem_append_right _ (List.mem_singleton.mpr rfl), h2, h3, h4⟩
section
variable {ws : List W3} {rows : Nat → List (Int × Option Int)} {i j : Nat} {o : Option (Int × Nat)} {b : Int} {len : Option Int}
/-- no candidate -/
theorem best_no (h : Best (CandTo ws rows i j) o) (hr : (rows i)[j]? = some (b, len)) (hn : ∀ L, lim (ws.getD i d3) = some L → ¬ (len = none ∨ ∃ x, len = some x ∧ L < x)) : Best (CandTo ws rows i (j + 1)) o := by
  refine h.congr fun t w => ?_
  unfold CandTo
  rw [List.take_add_one, hr]
  show (_ ∨ (w = i ∧ CandIn ws i ((rows i).take j ++ [(b, len)]) t)) ↔ _
  rw [candIn_snoc]
  constructor
  · rintro (h1 | ⟨h1, h2 | ⟨L, h3, h4, _⟩⟩)
    · exact .inl h1
    · exact .inr ⟨h1, h2⟩
    · exact absurd h4 (hn L h3)
  · rintro (h1 | ⟨h1, h2⟩)
    · exact .inl h1
    · exact .inr ⟨h1, .inl h2⟩
theorem cand_step {L : Int} (hr : (rows i)[j]? = some (b, len)) (hL : lim (ws.getD i d3) = some L) (hc : len = none ∨ ∃ x, len = some x ∧ L < x) (t : Int) (w : Nat) : CandTo ws rows i (j + 1) t w ↔ (CandTo ws rows i j t w ∨ (t = b + L ∧ w = i)) := by
  unfold CandTo
  rw [List.take_add_one, hr]
  show (_ ∨ (w = i ∧ CandIn ws i ((rows i).take j ++ [(b, len)]) t)) ↔ _
  rw [candIn_snoc]
  constructor
  · rintro (h1 | ⟨h1, h2 | ⟨L', h3, h4, h5⟩⟩)
    · exact .inl (.inl h1)
    · exact .inl (.inr ⟨h1, h2⟩)
    · rw [hL] at h3
      cases h3
      exact .inr ⟨h5, h1⟩
  · rintro ((h1 | ⟨h1, h2⟩) | ⟨h1, h2⟩)
    · exact .inl h1
    · exact .inr ⟨h1, .inl h2⟩
    · exact .inr ⟨h2, .inr ⟨L, hL, hc, h1⟩⟩
theorem best_take {L : Int} (h : Best (CandTo ws rows i j) o) (hr : (rows i)[j]? = some (b, len)) (hL : lim (ws.getD i d3) = some L) (hc : len = none ∨ ∃ x, len = some x ∧ L < x) (hl : ∀ t w, o = some (t, w) → b + L < t) : Best (CandTo ws rows i (j + 1)) (some (b + L, i)) :=
  (h.take (w2 := i) hl).congr fun t w => cand_step hr hL hc t w
theorem cand_le {t : Int} {w : Nat} (h : CandTo ws rows i j t w) : w ≤ i := by
  rcases h with h | h
  · exact Nat.le_of_lt h.1
  · exact Nat.le_of_eq h.1
theorem best_keep {L : Int} {t : Int} {w : Nat} (h : Best (CandTo ws rows i j) (some (t, w))) (hr : (rows i)[j]? = some (b, len)) (hL : lim (ws.getD i d3) = some L) (hc : len = none ∨ ∃ x, len = some x ∧ L < x) (hl : ¬ b + L < t) : Best (CandTo ws rows i (j + 1)) (some (t, w)) :=
  (h.keep (w2 := i) (cand_le h.1) hl).congr fun t w => cand_step hr hL hc t w
theorem best_next (h : Best (CandTo ws rows i (rows i).length) o) : Best (CandTo ws rows (i + 1) 0) o := by
  refine h.congr fun t w => ?_
  unfold CandTo
  rw [List.take_length, List.take_zero]
  constructor
  · rintro (⟨h1, h2⟩ | ⟨_, ⟨b, l, L, h3, _⟩⟩)
    · by_cases e : w = i
      · subst e
        exact .inr ⟨rfl, h2⟩
      · exact .inl ⟨by omega, h2⟩
    · cases h3
  · rintro (⟨h1, h2⟩ | ⟨rfl, h2⟩)
    · exact .inl ⟨by omega, h2⟩
    · exact .inl ⟨by omega, h2⟩
theorem best_zero : Best (CandTo ws rows 0 0) none := by
  rintro t w (⟨h1, _⟩ | ⟨_, ⟨b, l, L, h3, _⟩⟩)
  · omega
  · rw [List.take_zero] at h3
    cases h3
end
def BrkOf (ws : List W3) (m : Nat → Option Int) (o : Option (Int × Nat)) : Prop := match o with
  | none => BrkSem ws m none
  | some (t, w) => ∃ n : Nat, t = n ∧ w < ws.length ∧ BrkSem ws m (some (n, w))
/-- the soonest loss -/
theorem best_brk {ws : List W3} {ld : List Int} {hd lp : List (Option Int)} {o : Option (Int × Nat)} (okw : OkWs ws) (ok : OkLd ld) (okp : OkPl ws.length hd lp) (h : Best (CandTo ws (fun w => rowsM (mend ld hd lp) lp (w : Nat) (nB ld hd lp)) ws.length 0) o) : BrkOf ws (mend ld hd lp) o := by
  have lper := per_pos ok okp
  have l1 := okp.l1
  have hn := nB_eq ld hd lp
  have back : ∀ (w : Nat) (s : Nat), Lose ws (mend ld hd lp) w s → ∃ t : Int, CandTo ws (fun w => rowsM (mend ld hd lp) lp (w : Nat) (nB ld hd lp)) ws.length 0 t w ∧ t ≤ s := by
    rintro w s ⟨hw, L, hL, hg⟩
    have hLn := lim_nat (okw.ok _ (getD_mem hw)) hL
    obtain ⟨b, len, h1, h2, h3⟩ := lose_cand (hd := hd) (w := (w : Nat)) ok l1 lper (n := nB ld hd lp) (L := L.toNat) (by omega) s (by omega)
    refine ⟨b + L, .inl ⟨hw, b, len, L, h1, hL, ?_, rfl⟩, by omega⟩
    rcases h2 with h2 | ⟨x, h2, h4⟩
    · exact .inl h2
    · exact .inr ⟨x, h2, by omega⟩
  match o, h with
  | none, h =>
    intro w s hl
    obtain ⟨t, h1, _⟩ := back w s hl
    exact h t w h1
  | some (t, w), h =>
    obtain ⟨h1, h2⟩ := h
    rcases h1 with ⟨hw, b, len, L, r1, hL, r2, rfl⟩ | ⟨_, ⟨b, l, L, h3, _⟩⟩
    · have hLn := lim_nat (okw.ok _ (getD_mem hw)) hL
      obtain ⟨n, hn1, hn2⟩ := cand_lose (hd := hd) (w := (w : Nat)) ok l1 (n := nB ld hd lp) (L := L.toNat) (by omega) r1 (by
        rcases r2 with r2 | ⟨x, r2, r3⟩
        · exact .inl r2
        · exact .inr ⟨x, r2, by omega⟩)
      refine ⟨n, by omega, hw, ⟨hw, L, hL, by rw [hn2]; omega⟩, fun v s hl => ?_⟩
      obtain ⟨t, k1, k2⟩ := back v s hl
      have := h2 t v k1
      omega
    · rw [List.take_zero] at h3
      cases h3
end Z
set_option Elab.async false
set_option linter.all false
set_option maxRecDepth 100000
set_option maxHeartbeats 4000000
namespace Z
open PySem PySem.Spec PyProof.Rows L2
theorem cutV_take {xs : List V} {c : Nat} (h : c ≤ xs.length) : cutV xs none (some (c : Int)) = xs.take c := by
  unfold cutV
  rw [HT.sIx_nat, HT.sIx_none, List.drop_zero, Nat.sub_zero, Nat.min_eq_left h]
theorem cutV_drop {xs : List V} {c : Nat} (h : c ≤ xs.length) : cutV xs (some (c : Int)) none = xs.drop c := by
  unfold cutV
  rw [HT.sIx_nat, HT.sIx_none, Nat.min_eq_left h]
  refine List.take_of_length_le ?_
  rw [List.length_drop]
  exact Nat.le_refl _
/-! ### plans that mean the same -/
section
variable {hd lp : List (Option Int)}
theorem getD_append {α : Type} {xs ys : List α} {d : α} (n : Nat) : (xs ++ ys).getD n d = if n < xs.length then xs.getD n d else ys.getD (n - xs.length) d := by
  rw [List.getD_eq_getElem?_getD, List.getElem?_append]
  split <;> rw [List.getD_eq_getElem?_getD]
theorem thing_head (l1 : 1 ≤ lp.length) (n : Nat) : thing (hd ++ lp) lp n = thing hd lp n := by
  unfold thing
  rw [List.length_append, getD_append]
  by_cases h1 : n < hd.length
  · rw [if_pos (by omega), if_pos h1, if_pos h1]
  · rw [if_neg h1, if_neg h1]
    by_cases h2 : n < hd.length + lp.length
    · rw [if_pos h2, Nat.mod_eq_of_lt (by omega)]
    · rw [if_neg h2]
      congr 1
      rw [show n - hd.length = (n - (hd.length + lp.length)) + lp.length by omega, Nat.add_mod_right]
theorem thing_twice (l1 : 1 ≤ lp.length) (n : Nat) : thing hd (lp ++ lp) n = thing hd lp n := by
  unfold thing
  split
  · rfl
  · generalize n - hd.length = k
    rw [getD_append, List.length_append]
    have h1 : k % (lp.length + lp.length) % lp.length = k % lp.length := by
      refine Nat.mod_mod_of_dvd _ ⟨2, ?_⟩
      omega
    have h2 : k % (lp.length + lp.length) < lp.length + lp.length := Nat.mod_lt _ (by omega)
    by_cases h : k % (lp.length + lp.length) < lp.length
    · rw [if_pos h, ← h1, Nat.mod_eq_of_lt h]
    · have h3 : k % (lp.length + lp.length) % lp.length = k % (lp.length + lp.length) - lp.length := by
        revert h2 h
        generalize k % (lp.length + lp.length) = r
        intro h2 h
        rw [Nat.mod_eq_sub_mod (by omega), Nat.mod_eq_of_lt (by omega)]
      rw [if_neg h, ← h1, h3]
theorem rot_len {c : Nat} : (lp.drop c ++ lp.take c).length = lp.length := by
  rw [List.length_append, List.length_drop, List.length_take]
  omega
theorem rot_getD {c j : Nat} (hc : c ≤ lp.length) (hj : j < lp.length) : (lp.drop c ++ lp.take c).getD j none = lp.getD ((j + c) % lp.length) none := by
  rw [getD_append, List.length_drop]
  by_cases h : j < lp.length - c
  · rw [if_pos h, Nat.mod_eq_of_lt (by omega), List.getD_eq_getElem?_getD, List.getElem?_drop, List.getD_eq_getElem?_getD, Nat.add_comm]
  · rw [if_neg h, Nat.mod_eq_sub_mod (by omega), Nat.mod_eq_of_lt (by omega), List.getD_eq_getElem?_getD, List.getElem?_take, if_pos (by omega), List.getD_eq_getElem?_getD]
    congr 2
    omega
theorem thing_rot (l1 : 1 ≤ lp.length) {c : Nat} (hc : c ≤ lp.length) (n : Nat) : thing (hd ++ lp.take c) (lp.drop c ++ lp.take c) n = thing hd lp n := by
  unfold thing
  rw [rot_len, List.length_append, List.length_take, Nat.min_eq_left hc, getD_append]
  by_cases h1 : n < hd.length
  · rw [if_pos (by omega), if_pos h1, if_pos h1]
  · rw [if_neg h1, if_neg h1]
    by_cases h2 : n < hd.length + c
    · rw [if_pos h2, Nat.mod_eq_of_lt (by omega), List.getD_eq_getElem?_getD, List.getElem?_take, if_pos (by omega), List.getD_eq_getElem?_getD]
    · rw [if_neg h2, rot_getD hc (Nat.mod_lt _ (by omega)), Nat.mod_add_mod]
      congr 2
      omega
theorem mend_congr {ld : List Int} {hd2 lp2 : List (Option Int)} (h : ∀ n, thing hd2 lp2 n = thing hd lp n) : mend ld hd2 lp2 = mend ld hd lp := by
  funext b
  unfold mend
  split
  · exact h _
  · rfl
end
/-! ### what is told, as data -/
def dG (gs : List (Option Int)) : PyData := .list (gs.map dO)
def dB (ws : List W3) (o : Option (Nat × Nat)) : PyData := match o with
  | none => .none
  | some (t, w) => .tuple [.int (t : Nat), .int (w : Nat), .list ((strk ws t w).map dW)]
theorem dk_B (ws : List W3) (o : Option (Nat × Nat)) : Dk 3 (dB ws o) := by
  match o with
  | none => exact dk_non
  | some (t, w) =>
    exact dk_tup fun d hd => by
      simp only [List.mem_cons, List.not_mem_nil, or_false] at hd
      rcases hd with rfl | rfl | rfl
      · exact dk_int
      · exact dk_int
      · exact dk_Ws _
theorem dk_G (gs : List (Option Int)) : Dk 1 (dG gs) := dk_vOs gs
section
variable {K : PySem.W.Frag} {G H H0 : Hp}
theorem dp_brk {ws : List W3} {v : V} {o : Option (Nat × Nat)} (sb : Same G H) (h : BrkV K G H H0 ws v o) : Dp K H v (dB ws o) := by
  match o, h with
  | none, h =>
    have e : v = .non := h
    rw [e]; exact .non
  | some (t, w), ⟨r, l, as, e, _, _, h1, h2, h3⟩ =>
    rw [e]
    exact .tup (sqt sb h1) (.cons (.int _) (.cons (.int _) (.cons (.lst (.inl (.inl h2.h)) (dpAll_W (prt sb h3))) .nil)))
theorem dp_G {q : Addr} {gs : List (Option Int)} (h : SqL K H q (gs.map vO)) : Dp K H (.ref q) (dG gs) := .lst h (dpAll_vO gs)
end
def d3L (gs : List (Option Int)) (ws : List W3) (o : Option (Nat × Nat)) (lost : Option (Nat × Nat)) (tu : List (List Int)) : PyData := .list [dG gs, dB ws o, dR lost tu]
theorem dk_3L (gs : List (Option Int)) (ws : List W3) (o : Option (Nat × Nat)) (lost : Option (Nat × Nat)) (tu : List (List Int)) : Dk 4 (d3L gs ws o lost tu) := dk_list fun d hd => by
  simp only [List.mem_cons, List.not_mem_nil, or_false] at hd
  rcases hd with rfl | rfl | rfl
  · exact (dk_G gs).mono (by decide)
  · exact dk_B ws o
  · exact dk_R lost tu
/-- words without end -/
def ends (lp : List (Option Int)) (n : Nat) : List Int := ((List.range n).filter fun (w : Nat) => !decide (some (w : Int) ∈ lp)).map fun w => ((w : Nat) : Int)
theorem ends_succ (lp : List (Option Int)) (n : Nat) : ends lp (n + 1) = ends lp n ++ (if some (n : Int) ∈ lp then [] else [(n : Int)]) := by
  unfold ends
  rw [List.range_succ, List.filter_append, List.map_append]
  congr 1
  rw [List.filter_cons]
  by_cases h : some (n : Int) ∈ lp
  · rw [if_pos h, decide_eq_true h]; rfl
  · rw [if_neg h, decide_eq_false h]; rfl
theorem ends_len (lp : List (Option Int)) (n : Nat) : (ends lp n).length ≤ n := by
  unfold ends
  rw [List.length_map]
  refine Nat.le_trans (List.length_filter_le _ _) ?_
  rw [List.length_range]
  exact Nat.le_refl n
end Z
set_option Elab.async false
set_option linter.all false
set_option maxRecDepth 100000
set_option maxHeartbeats 4000000
namespace Z
open PySem PySem.Spec PyProof.Rows L2
/-! ### a run, seen by one word -/
def oneAt (mw : Nat → Bool) (bt : Nat → Option Int) : Nat → List Int
  | 0 => []
  | t + 1 => match bt t with
    | none => if mw t then [] else oneAt mw bt t
    | some b => flip b (if mw t then [] else oneAt mw bt t)
def onW (b w : Int) (s : W3) : Bool := decide (s.1 = b ∧ s.2.1 = w)
/-- the bit that is struck of word w at beat b -/
def bitAt (ss : List W3) (w : Int) (b : Nat) : Option Int := (ss.find? (onW b w)).map fun s => s.2.2
theorem flip_len (b : Int) (xs : List Int) : (flip b xs).length ≤ xs.length + 1 := by
  unfold flip
  split
  · exact Nat.le_succ_of_le (List.length_filter_le _ _)
  · rw [(srt_perm _).length_eq, List.length_append]
    exact Nat.le_refl _
theorem strokesAt_len {b : Int} : ∀ (ss : List W3) {tu : List (List Int)}, (strokesAt b ss tu).length = tu.length
  | [], _ => rfl
  | s :: ss, tu => by
    have : (strokeAt b tu s).length = tu.length := by unfold strokeAt; split <;> simp
    show (strokesAt b ss (strokeAt b tu s)).length = _
    rw [strokesAt_len ss, this]
theorem mendAt_len (o : Option Int) (tu : List (List Int)) : (mendAt o tu).length = tu.length := by
  cases o with
  | none => rfl
  | some w => exact List.length_set
theorem tuAt_len {mf : Nat → Option Int} {ss : List W3} {n : Nat} : ∀ t, (tuAt mf ss n t).length = n
  | 0 => List.length_replicate
  | t + 1 => by
    show (strokesAt t ss (mendAt (mf t) (tuAt mf ss n t))).length = n
    rw [strokesAt_len, mendAt_len, tuAt_len t]
theorem getD_set {tu : List (List Int)} {i w : Nat} {xs : List Int} (h : w < tu.length) : (tu.set i xs).getD w [] = if i = w then xs else tu.getD w [] := by
  rw [List.getD_eq_getElem?_getD, List.getElem?_set, List.getD_eq_getElem?_getD]
  split
  · rename_i e
    rw [if_pos (by omega)]
    rfl
  · rfl
/-- strokes of one beat: each word meets one at most -/
theorem strokesAt_one {b w : Nat} : ∀ (ss : List W3) {tu : List (List Int)}, w < tu.length → (∀ s ∈ ss, 0 ≤ s.2.1) → ss.Pairwise (fun s t => ltP (s.1, s.2.1) (t.1, t.2.1)) → (strokesAt (b : Int) ss tu).getD w [] = match bitAt ss (w : Nat) b with
      | none => tu.getD w []
      | some x => flip x (tu.getD w [])
  | [], _, _, _, _ => rfl
  | s :: ss, tu, h, h0, pw => by
    have pw2 := List.pairwise_cons.mp pw
    have hl : w < (strokeAt (b : Int) tu s).length := by
      have : (strokeAt (b : Int) tu s).length = tu.length := by unfold strokeAt; split <;> simp
      omega
    have ih := strokesAt_one (b := b) (w := w) ss (tu := strokeAt (b : Int) tu s) hl (fun t ht => h0 t (List.mem_cons_of_mem _ ht)) pw2.2
    show (strokesAt (b : Int) ss (strokeAt (b : Int) tu s)).getD w [] = _
    rw [ih]
    have hs0 := h0 s List.mem_cons_self
    by_cases hc : s.1 = (b : Int) ∧ s.2.1 = (w : Int)
    · have hno : bitAt ss (w : Nat) b = none := by
        unfold bitAt
        have : ss.find? (onW b (w : Nat)) = none := List.find?_eq_none.mpr fun t ht hq => by
          have h1 := pw2.1 t ht
          have h2 : t.1 = (b : Int) ∧ t.2.1 = (w : Int) := of_decide_eq_true hq
          have h3 : s.1 < t.1 ∨ (s.1 = t.1 ∧ s.2.1 < t.2.1) := h1
          omega
        rw [this]
        rfl
      have hyes : bitAt (s :: ss) (w : Nat) b = some s.2.2 := by
        unfold bitAt
        rw [List.find?_cons_of_pos (by exact decide_eq_true hc)]
        rfl
      rw [hno, hyes]
      show (strokeAt (b : Int) tu s).getD w [] = flip s.2.2 (tu.getD w [])
      unfold strokeAt
      have ew : s.2.1.toNat = w := by omega
      rw [if_pos hc.1, ew, getD_set h, if_pos rfl]
    · have hyes : bitAt (s :: ss) (w : Nat) b = bitAt ss (w : Nat) b := by
        unfold bitAt
        rw [List.find?_cons_of_neg (by rw [onW, decide_eq_true_iff]; exact hc)]
      have e : (strokeAt (b : Int) tu s).getD w [] = tu.getD w [] := by
        unfold strokeAt
        split
        · rename_i h1
          rw [getD_set h, if_neg]
          intro e
          exact hc ⟨h1, by omega⟩
        · rfl
      rw [hyes, e]
theorem mendAt_one {o : Option Int} {tu : List (List Int)} {w : Nat} (h : w < tu.length) (h0 : ∀ v, o = some v → 0 ≤ v) : (mendAt o tu).getD w [] = if decide (o = some (w : Int)) = true then [] else tu.getD w [] := by
  cases o with
  | none => rfl
  | some v =>
    show (tu.set v.toNat []).getD w [] = _
    have := h0 v rfl
    rw [getD_set h]
    by_cases e : v = (w : Int)
    · subst e
      rw [if_pos (by omega), decide_eq_true rfl, if_pos rfl]
    · rw [if_neg (by omega), decide_eq_false (by intro z; exact e (Option.some.inj z)), if_neg Bool.false_ne_true]
theorem tu_one {ws ss : List W3} {mf : Nat → Option Int} {w n : Nat} (oks : OkSt ws ss) (hm : ∀ t v, mf t = some v → 0 ≤ v) (hw : w < n) : ∀ t, (tuAt mf ss n t).getD w [] = oneAt (fun t => decide (mf t = some (w : Int))) (bitAt ss (w : Nat)) t
  | 0 => by
    show (List.replicate n ([] : List Int)).getD w [] = []
    rw [List.getD_eq_getElem?_getD, List.getElem?_replicate, if_pos hw]
    rfl
  | t + 1 => by
    show (strokesAt (t : Int) ss (mendAt (mf t) (tuAt mf ss n t))).getD w [] = _
    rw [strokesAt_one ss (by rw [mendAt_len, tuAt_len]; exact hw) (fun s hs => (oks.rng s hs).2.2.1) (oks.ord.imp fun h => h.1), mendAt_one (by rw [tuAt_len]; exact hw) (hm t), tu_one oks hm hw t]
    rfl
/-- losses by one-word runs -/
theorem lossP_one {ws ss : List W3} {mf : Nat → Option Int} {w t : Nat} (oks : OkSt ws ss) (hm : ∀ t v, mf t = some v → 0 ≤ v) (hw : w < ws.length) : lossP ws (tuAt mf ss ws.length t) w ↔ (ws.getD w d3).2.1 < ((oneAt (fun t => decide (mf t = some (w : Int))) (bitAt ss (w : Nat)) t).length : Int) := by
  unfold lossP
  rw [tu_one oks hm hw]
  exact ⟨fun h => h.2, fun h => ⟨hw, h⟩⟩
end Z
set_option Elab.async false
set_option linter.all false
set_option maxRecDepth 100000
set_option maxHeartbeats 4000000
namespace Z
open PySem PySem.Spec PyProof.Rows L2
/-! ### no strokes lose sooner -/
structure OkN (n : Nat) (xs : List Int) : Prop where
  up : xs.Pairwise (· < ·)
  rg : ∀ x ∈ xs, 0 ≤ x ∧ x < n
theorem okN_nil {n : Nat} : OkN n [] := ⟨.nil, fun _ h => by cases h⟩
theorem rise_len : ∀ (k : Nat) (lo : Int) (xs : List Int), xs.Pairwise (· < ·) → (∀ x ∈ xs, lo ≤ x ∧ x < lo + k) → xs.length ≤ k
  | _, _, [], _, _ => Nat.zero_le _
  | 0, lo, x :: xs, _, h => by have := h x List.mem_cons_self; omega
  | k + 1, lo, x :: xs, u, h => by
    have h1 := List.pairwise_cons.mp u
    have h0 := h x List.mem_cons_self
    refine Nat.succ_le_succ (rise_len k (lo + 1) xs h1.2 fun y hy => ?_)
    have h2 := h1.1 y hy
    have h3 := h y (List.mem_cons_of_mem _ hy)
    omega
theorem OkN.len {n : Nat} {xs : List Int} (h : OkN n xs) : xs.length ≤ n := rise_len n 0 xs h.up fun x hx => by have := h.rg x hx; omega
theorem okN_flip {n : Nat} {b : Int} {xs : List Int} (h : OkN n xs) (h0 : 0 ≤ b) (h8 : b < n) : OkN n (flip b xs) := by
  unfold flip
  split
  · exact ⟨h.up.filter _, fun x hx => h.rg x (List.mem_filter.mp hx).1⟩
  · rename_i hb
    have hp := srt_perm (xs ++ [b])
    refine ⟨?_, fun x hx => ?_⟩
    · have hn : (srt (xs ++ [b])).Nodup := by
        refine hp.nodup_iff.mpr ?_
        rw [List.nodup_append]
        refine ⟨h.up.imp fun h e => by omega, by simp, fun x hx y hy e => ?_⟩
        rw [List.mem_singleton.mp hy] at e
        rw [e] at hx
        exact hb hx
      have hle := srt_le (xs ++ [b])
      exact (hle.and hn).imp fun ⟨h1, h2⟩ => by omega
    · rcases List.mem_append.mp (hp.mem_iff.mp hx) with h1 | h1
      · exact h.rg x h1
      · rw [List.mem_singleton.mp h1]; exact ⟨h0, h8⟩
theorem oneAt_ok {n : Nat} {mw : Nat → Bool} {bt : Nat → Option Int} (h : ∀ t b, bt t = some b → 0 ≤ b ∧ b < n) : ∀ t, OkN n (oneAt mw bt t)
  | 0 => okN_nil
  | t + 1 => by
    have ih := oneAt_ok (mw := mw) h t
    have hy : OkN n (if mw t then [] else oneAt mw bt t) := by
      split
      · exact okN_nil
      · exact ih
    rw [oneAt]
    cases e : bt t with
    | none => exact hy
    | some b => exact okN_flip hy (h t b e).1 (h t b e).2
/-- strokes stand a gap apart -/
def GapB (bt : Nat → Option Int) (gap : Nat) : Prop := ∀ t u x y, t < u → bt t = some x → bt u = some y → t + gap ≤ u
theorem oneAt_gap {m : Nat → Option Int} {w : Int} {bt : Nat → Option Int} {gap : Nat} (h : GapB bt gap) : ∀ t, (oneAt (fun t => decide (m t = some w)) bt t).length = 0 ∨
    ∃ x y, x < t ∧ t ≤ x + gl m w t ∧ bt x = some y ∧ ((oneAt (fun t => decide (m t = some w)) bt t).length - 1) * gap + t ≤ x + gl m w t
  | 0 => .inl rfl
  | t + 1 => by
    have ih := oneAt_gap (m := m) (w := w) h t
    rw [oneAt, gl]
    by_cases hm : m t = some w
    · rw [decide_eq_true hm, if_pos rfl, if_pos hm]
      cases e : bt t with
      | none => exact .inl rfl
      | some b =>
        right
        refine ⟨t, b, Nat.lt_succ_self t, Nat.le_refl _, e, ?_⟩
        have h1 := flip_len b []
        rw [List.length_nil] at h1
        have h2 : (flip b []).length - 1 = 0 := by omega
        show ((flip b []).length - 1) * gap + (t + 1) ≤ t + 1
        rw [h2]
        omega
    · rw [decide_eq_false hm, if_neg Bool.false_ne_true, if_neg hm]
      cases e : bt t with
      | none =>
        show (oneAt _ bt t).length = 0 ∨ _
        rcases ih with ih | ⟨x, y, h1, h2, h3, h4⟩
        · exact .inl ih
        · exact .inr ⟨x, y, by omega, by omega, h3, by show ((oneAt _ bt t).length - 1) * gap + (t + 1) ≤ x + (gl m w t + 1); omega⟩
      | some b =>
        right
        refine ⟨t, b, Nat.lt_succ_self t, by omega, e, ?_⟩
        show ((flip b (oneAt _ bt t)).length - 1) * gap + (t + 1) ≤ t + (gl m w t + 1)
        have h1 := flip_len b (oneAt (fun t => decide (m t = some w)) bt t)
        have h5 : ((flip b (oneAt (fun t => decide (m t = some w)) bt t)).length - 1) * gap ≤ (oneAt (fun t => decide (m t = some w)) bt t).length * gap := Nat.mul_le_mul_right _ (by omega)
        rcases ih with ih | ⟨x, y, h6, h2, h3, h4⟩
        · rw [ih, Nat.zero_mul] at h5
          omega
        · have h7 := h x t y b h6 h3 e
          have h8 : (oneAt (fun t => decide (m t = some w)) bt t).length * gap ≤ ((oneAt (fun t => decide (m t = some w)) bt t).length - 1) * gap + gap := by
            rw [← Nat.succ_mul]
            exact Nat.mul_le_mul_right _ (by omega)
          omega
theorem bitAt_mem {ss : List W3} {w : Int} {t : Nat} {x : Int} (h : bitAt ss w t = some x) : ∃ s ∈ ss, s.1 = (t : Int) ∧ s.2.1 = w ∧ s.2.2 = x := by
  unfold bitAt at h
  cases e : ss.find? (onW t w) with
  | none => rw [e] at h; cases h
  | some s =>
    rw [e] at h
    have h1 : s.1 = (t : Int) ∧ s.2.1 = w := of_decide_eq_true (by have := List.find?_some e; exact this)
    exact ⟨s, List.mem_of_find?_eq_some e, h1.1, h1.2, Option.some.inj h⟩
theorem bitAt_gap {ws ss : List W3} {w : Nat} (oks : OkSt ws ss) : GapB (bitAt ss (w : Nat)) (ws.getD w d3).2.2.toNat := by
  intro t u x y htu hx hy
  obtain ⟨s, hs, s1, s2, _⟩ := bitAt_mem hx
  obtain ⟨r, hr, r1, r2, _⟩ := bitAt_mem hy
  obtain ⟨i, hi, ei⟩ := List.mem_iff_getElem.mp hs
  obtain ⟨j, hj, ej⟩ := List.mem_iff_getElem.mp hr
  have hij : i < j := by
    rcases Nat.lt_trichotomy i j with h | h | h
    · exact h
    · subst h
      rw [ei] at ej
      rw [ej] at s1
      omega
    · have := pw_at oks.ord (i := j) (j := i) (by rw [List.getElem?_eq_getElem hj, ej]) (by rw [List.getElem?_eq_getElem hi, ei]) h
      have h2 : r.1 < s.1 ∨ (r.1 = s.1 ∧ r.2.1 < s.2.1) := this.1
      omega
  have := (pw_at oks.ord (i := i) (j := j) (by rw [List.getElem?_eq_getElem hi, ei]) (by rw [List.getElem?_eq_getElem hj, ej]) hij).2 (by rw [s2, r2])
  rw [r2, Int.toNat_natCast] at this
  omega
/-- where strokes lose a word it could be lost no later -/
theorem loss_lose {ws ss : List W3} {m : Nat → Option Int} {w b : Nat} (okw : OkWs ws) (oks : OkSt ws ss) (hm : ∀ t v, m t = some v → 0 ≤ v) (h : lossP ws (tuAt m ss ws.length (b + 1)) w) : ∃ t, t ≤ b ∧ Lose ws m w t := by
  have hw := h.1
  have h1 := (lossP_one oks hm hw).mp h
  obtain ⟨o1, o2, o3, o4, o5, o6⟩ := okw.ok _ (getD_mem (d := d3) hw)
  have hok := oneAt_ok (n := (ws.getD w d3).1.toNat) (mw := fun t => decide (m t = some (w : Int))) (bt := bitAt ss (w : Nat)) (fun t x hx => by
    obtain ⟨s, hs, s1, s2, s3⟩ := bitAt_mem hx
    have := oks.rng s hs
    rw [s2, Int.toNat_natCast] at this
    omega) (b + 1)
  have hlen := hok.len
  rcases oneAt_gap (m := m) (w := (w : Nat)) (bitAt_gap (w := w) oks) (b + 1) with h2 | ⟨x, y, x1, x2, x3, x4⟩
  · rw [h2] at h1
    omega
  · generalize (oneAt (fun t => decide (m t = some (w : Int))) (bitAt ss (w : Nat)) (b + 1)).length = l at h1 hlen x4
    have hL : lim (ws.getD w d3) = some ((ws.getD w d3).2.1 * (ws.getD w d3).2.2) := by
      unfold lim
      rw [if_neg (by omega)]
    have h3 : (ws.getD w d3).2.1.toNat * (ws.getD w d3).2.2.toNat ≤ (l - 1) * (ws.getD w d3).2.2.toNat := Nat.mul_le_mul_right _ (by omega)
    have h4 : (((ws.getD w d3).2.1.toNat * (ws.getD w d3).2.2.toNat : Nat) : Int) = (ws.getD w d3).2.1 * (ws.getD w d3).2.2 := by
      rw [Int.natCast_mul, Int.toNat_of_nonneg o3, Int.toNat_of_nonneg (by omega)]
    generalize (ws.getD w d3).2.1.toNat * (ws.getD w d3).2.2.toNat = L at h3 h4
    have h5 := gl_le m (w : Nat) (b + 1)
    have h6 : L + 1 ≤ gl m (w : Nat) (b + 1) := by omega
    have h7 : gl m (w : Nat) (b + 1) - (L + 1) < gl m (w : Nat) (b + 1) := by omega
    have h8 := gl_back h7
    refine ⟨b - (gl m (w : Nat) (b + 1) - (L + 1)), by omega, hw, _, hL, ?_⟩
    rw [show b - (gl m (w : Nat) (b + 1) - (L + 1)) + 1 = b + 1 - (gl m (w : Nat) (b + 1) - (L + 1)) by omega, h8, ← h4]
    omega
end Z
set_option Elab.async false
set_option linter.all false
set_option maxRecDepth 100000
set_option maxHeartbeats 4000000
namespace Z
open PySem PySem.Spec PyProof.Rows L2
/-! ### the strokes that breaking tells -/
theorem strk_mem {ws : List W3} {t w : Nat} {s : W3} : s ∈ strk ws t w ↔ ∃ k : Nat, k ≤ (ws.getD w d3).2.1.toNat ∧ s = ((t : Int) - (ws.getD w d3).2.1 * (ws.getD w d3).2.2 + (k : Int) * (ws.getD w d3).2.2, ((w : Int), (k : Int))) := by
  unfold strk
  rw [List.mem_map]
  constructor
  · rintro ⟨k, hk, rfl⟩
    exact ⟨k, Nat.le_of_lt_succ (List.mem_range.mp hk), rfl⟩
  · rintro ⟨k, hk, rfl⟩
    exact ⟨k, List.mem_range.mpr (Nat.lt_succ_of_le hk), rfl⟩
theorem okSt_drop {ws ss : List W3} (h : OkSt ws ss) (k : Nat) : OkSt ws (ss.drop k) :=
  ⟨by rw [List.length_drop]; have := h.few; omega, fun s hs => h.rng s (List.mem_of_mem_drop hs), h.ord.sublist (List.drop_sublist k ss)⟩
theorem lim_of {x : W3} {L : Int} (h : lim x = some L) : x.2.1 < x.1 ∧ L = x.2.1 * x.2.2 := by
  unfold lim at h
  split at h
  · cases h
  · exact ⟨by omega, (Option.some.inj h).symm⟩
theorem okSt_strk {ws : List W3} {m : Nat → Option Int} {t w : Nat} (okw : OkWs ws) (h : Lose ws m w t) (ht : t ≤ 999) : OkSt ws (strk ws t w) := by
  obtain ⟨hw, L, hL, hg⟩ := h
  obtain ⟨o1, o2, o3, o4, o5, o6⟩ := okw.ok _ (getD_mem (d := d3) hw)
  obtain ⟨hb, eL⟩ := lim_of hL
  have h5 := gl_le m (w : Nat) (t + 1)
  have hLt : L ≤ t := by omega
  refine ⟨?_, fun s hs => ?_, ?_⟩
  · unfold strk
    rw [List.length_map, List.length_range]
    omega
  · obtain ⟨k, hk, rfl⟩ := strk_mem.mp hs
    have h6 : (k : Int) * (ws.getD w d3).2.2 ≤ (ws.getD w d3).2.1 * (ws.getD w d3).2.2 := Int.mul_le_mul_of_nonneg_right (by omega) (by omega)
    have h7 : 0 ≤ (k : Int) * (ws.getD w d3).2.2 := Int.mul_nonneg (by omega) (by omega)
    refine ⟨by show 0 ≤ (t : Int) - _ + _; omega, by show (t : Int) - _ + _ ≤ 999; omega, by show (0 : Int) ≤ (w : Int); omega, by show (w : Int) < _; omega, by show (0 : Int) ≤ (k : Int); omega, ?_⟩
    show (k : Int) < (ws.getD (w : Int).toNat d3).1
    rw [Int.toNat_natCast]
    omega
  · unfold strk
    rw [List.pairwise_map]
    refine List.pairwise_lt_range.imp fun {a b} hab => ?_
    have h6 : ((a : Int) + 1) * (ws.getD w d3).2.2 ≤ (b : Int) * (ws.getD w d3).2.2 := Int.mul_le_mul_of_nonneg_right (by omega) (by omega)
    rw [Int.add_mul, Int.one_mul] at h6
    refine ⟨.inl ?_, fun _ => ?_⟩
    · show (t : Int) - _ + (a : Int) * _ < (t : Int) - _ + (b : Int) * _
      omega
    · show (ws.getD (w : Int).toNat d3).2.2 ≤ ((t : Int) - _ + (b : Int) * _) - ((t : Int) - _ + (a : Int) * _)
      rw [Int.toNat_natCast]
      omega
theorem bitAt_none {ss : List W3} {w : Int} {t : Nat} (h : ∀ s ∈ ss, s.1 = (t : Int) → s.2.1 ≠ w) : bitAt ss w t = none := by
  cases e : bitAt ss w t with
  | none => rfl
  | some x =>
    obtain ⟨s, hs, h1, h2, _⟩ := bitAt_mem e
    exact absurd h2 (h s hs h1)
theorem bitAt_of {ws ss : List W3} {w : Int} {t : Nat} {s : W3} (oks : OkSt ws ss) (hs : s ∈ ss) (h1 : s.1 = (t : Int)) (h2 : s.2.1 = w) : bitAt ss w t = some s.2.2 := by
  cases e : bitAt ss w t with
  | none =>
    unfold bitAt at e
    rw [Option.map_eq_none_iff, List.find?_eq_none] at e
    exact absurd (decide_eq_true ⟨h1, h2⟩) (e s hs)
  | some x =>
    obtain ⟨r, hr, r1, r2, r3⟩ := bitAt_mem e
    obtain ⟨i, hi, ei⟩ := List.mem_iff_getElem.mp hs
    obtain ⟨j, hj, ej⟩ := List.mem_iff_getElem.mp hr
    have hij : i = j := by
      rcases Nat.lt_trichotomy i j with h | h | h
      · have h2' : s.1 < r.1 ∨ (s.1 = r.1 ∧ s.2.1 < r.2.1) := (pw_at oks.ord (i := i) (j := j) (by rw [List.getElem?_eq_getElem hi, ei]) (by rw [List.getElem?_eq_getElem hj, ej]) h).1
        omega
      · exact h
      · have h2' : r.1 < s.1 ∨ (r.1 = s.1 ∧ r.2.1 < s.2.1) := (pw_at oks.ord (i := j) (j := i) (by rw [List.getElem?_eq_getElem hj, ej]) (by rw [List.getElem?_eq_getElem hi, ei]) h).1
        omega
    subst hij
    rw [ei] at ej
    rw [ej, r3]
theorem flip_top {b : Int} {xs : List Int} (u : xs.Pairwise (· < ·)) (h : ∀ x ∈ xs, x < b) : flip b xs = xs ++ [b] := by
  unfold flip
  rw [if_neg fun hb => by have := h b hb; omega]
  refine (srt_uniq (List.Perm.refl _) ?_).symm
  rw [List.pairwise_append]
  exact ⟨u.imp Int.le_of_lt, List.pairwise_singleton _ _, fun x hx y hy => by rw [List.mem_singleton.mp hy]; exact Int.le_of_lt (h x hx)⟩
def upTo (k0 n : Nat) : List Int := (List.range' k0 n).map fun (k : Nat) => (k : Int)
theorem upTo_flip {k0 n : Nat} : flip ((k0 + n : Nat) : Int) (upTo k0 n) = upTo k0 (n + 1) := by
  have e : upTo k0 (n + 1) = upTo k0 n ++ [((k0 + n : Nat) : Int)] := by
    unfold upTo
    rw [List.range'_concat, List.map_append, Nat.one_mul]
    rfl
  rw [e]
  refine flip_top ?_ fun x hx => ?_
  · unfold upTo
    rw [List.pairwise_map]
    exact (List.pairwise_lt_range' (s := k0) (n := n)).imp fun h => by omega
  · obtain ⟨k, hk, rfl⟩ := List.mem_map.mp hx
    have := List.mem_range'_1.mp hk
    omega
theorem oneAt_zero {mw : Nat → Bool} {bt : Nat → Option Int} : ∀ t, (∀ s, s < t → bt s = none) → oneAt mw bt t = []
  | 0, _ => rfl
  | t + 1, h => by
    rw [oneAt, h t (Nat.lt_succ_self t), oneAt_zero t fun s hs => h s (Nat.lt_succ_of_lt hs)]
    show (if mw t = true then ([] : List Int) else []) = []
    split <;> rfl
/-- strokes a gap apart from beat B on, without mending behind B -/
theorem oneAt_run {mw : Nat → Bool} {bt : Nat → Option Int} {B gap bears k0 : Nat} (g1 : 1 ≤ gap) (hk0 : k0 ≤ 1) (h0 : ∀ s, s < B → bt s = none) (hm : ∀ s, B < s → s ≤ B + bears * gap → mw s = false)
    (hb : ∀ k, k0 ≤ k → k ≤ bears → bt (B + k * gap) = some ((k : Nat) : Int)) (hn : ∀ s, (∀ k, k0 ≤ k → k ≤ bears → s ≠ B + k * gap) → bt s = none) : ∀ s, s ≤ bears * gap → oneAt mw bt (B + 1 + s) = upTo k0 (s / gap + 1 - k0)
  | 0, _ => by
    have hz := oneAt_zero (mw := mw) B h0
    have hy : (if mw B = true then ([] : List Int) else oneAt mw bt B) = [] := by rw [hz]; split <;> rfl
    show oneAt mw bt (B + 1) = _
    rw [oneAt, Nat.zero_div, hy]
    rcases Nat.le_one_iff_eq_zero_or_eq_one.mp hk0 with rfl | rfl
    · have := hb 0 (Nat.le_refl _) (Nat.zero_le _)
      rw [Nat.zero_mul, Nat.add_zero] at this
      rw [this]
      exact upTo_flip (k0 := 0) (n := 0)
    · have : bt B = none := hn B fun k h1 h2 e => by
        have : gap ≤ k * gap := Nat.le_mul_of_pos_left _ h1
        omega
      rw [this]
      rfl
  | s + 1, hs => by
    have ih := oneAt_run g1 hk0 h0 hm hb hn s (by omega)
    show oneAt mw bt (B + 1 + s + 1) = _
    rw [oneAt, hm (B + 1 + s) (by omega) (by omega), if_neg Bool.false_ne_true, ih]
    by_cases hd : (s + 1) % gap = 0
    · have e1 : (s + 1) / gap = s / gap + 1 := by rw [Nat.succ_div, if_pos (Nat.dvd_of_mod_eq_zero hd)]
      have e2 : (s + 1) / gap * gap = s + 1 := Nat.div_mul_cancel (Nat.dvd_of_mod_eq_zero hd)
      have h3 : (s + 1) / gap ≤ bears := Nat.div_le_of_le_mul (by rw [Nat.mul_comm]; exact hs)
      have h4 := hb ((s + 1) / gap) (by
        rw [e1]
        generalize s / gap = q
        omega) h3
      rw [e2, show B + (s + 1) = B + 1 + s by omega] at h4
      rw [h4]
      rw [e1] at h3 ⊢
      generalize s / gap = q at h3 ⊢
      have h5 := upTo_flip (k0 := k0) (n := q + 1 - k0)
      rw [show k0 + (q + 1 - k0) = q + 1 by omega, show q + 1 - k0 + 1 = q + 1 + 1 - k0 by omega] at h5
      exact h5
    · have e1 : (s + 1) / gap = s / gap := by rw [Nat.succ_div, if_neg fun h => hd (Nat.mod_eq_zero_of_dvd h)]; rfl
      have h4 : bt (B + 1 + s) = none := hn _ fun k h1 h2 e => hd (by
        have : s + 1 = k * gap := by omega
        rw [this, Nat.mul_mod_left])
      rw [h4, e1]
theorem upTo_len {k0 n : Nat} : (upTo k0 n).length = n := by unfold upTo; rw [List.length_map, List.length_range']
/-- how many bits are turned behind beat s, by the told strokes but the first k0 -/
theorem strk_run {ws : List W3} {m : Nat → Option Int} {t w k0 v : Nat} (okw : OkWs ws) (h : Lose ws m w t) (ht : t ≤ 999) (hk0 : k0 ≤ 1) (hm : ∀ t v, m t = some v → 0 ≤ v) (hv : v < ws.length) : ∀ b, b ≤ t → (lossP ws (tuAt m ((strk ws t w).drop k0) ws.length (b + 1)) v ↔ k0 = 0 ∧ v = w ∧ b = t) := by
  intro b hbt
  have oks := okSt_drop (okSt_strk okw h ht) k0
  rw [lossP_one oks hm hv]
  obtain ⟨p1, p2, p3, p4, p5, p6⟩ := okw.ok _ (getD_mem (d := d3) hv)
  by_cases e : v = w
  · subst e
    obtain ⟨hw, L, hL, hg⟩ := h
    obtain ⟨hb, eL⟩ := lim_of hL
    have h5 := gl_le m (v : Nat) (t + 1)
    obtain ⟨bears, eb⟩ : ∃ n : Nat, (ws.getD v d3).2.1 = n := ⟨(ws.getD v d3).2.1.toNat, by omega⟩
    obtain ⟨gap, eg⟩ : ∃ n : Nat, (ws.getD v d3).2.2 = n := ⟨(ws.getD v d3).2.2.toNat, by omega⟩
    have eLn : L = ((bears * gap : Nat) : Int) := by rw [eL, eb, eg, Int.natCast_mul]
    have hLt : bears * gap ≤ t := by omega
    have hmem : ∀ s : W3, s ∈ (strk ws t v).drop k0 ↔ ∃ k : Nat, k0 ≤ k ∧ k ≤ bears ∧ s = (((t - bears * gap + k * gap : Nat) : Int), ((v : Int), (k : Int))) := by
      intro s
      have ed : (strk ws t v).drop k0 = (List.range' k0 (bears + 1 - k0)).map fun (k : Nat) => ((t : Int) - (ws.getD v d3).2.1 * (ws.getD v d3).2.2 + (k : Int) * (ws.getD v d3).2.2, ((v : Int), (k : Int))) := by
        unfold strk
        rw [← List.map_drop, eb, Int.toNat_natCast, List.range_eq_range', List.drop_range']
        congr 2
        omega
      rw [ed, List.mem_map]
      have ev : ∀ k : Nat, (t : Int) - (ws.getD v d3).2.1 * (ws.getD v d3).2.2 + (k : Int) * (ws.getD v d3).2.2 = ((t - bears * gap + k * gap : Nat) : Int) := fun k => by
        rw [eb, eg, Int.natCast_add, Int.natCast_sub hLt, Int.natCast_mul, Int.natCast_mul]
      constructor
      · rintro ⟨k, hk, rfl⟩
        have := List.mem_range'_1.mp hk
        exact ⟨k, by omega, by omega, by rw [ev]⟩
      · rintro ⟨k, k1, k2, rfl⟩
        exact ⟨k, List.mem_range'_1.mpr ⟨k1, by omega⟩, by rw [ev]⟩
    have run := oneAt_run (mw := fun t => decide (m t = some (v : Int))) (bt := bitAt ((strk ws t v).drop k0) (v : Nat)) (B := t - bears * gap) (gap := gap) (bears := bears) (k0 := k0) (by omega) hk0
      (fun s hs => bitAt_none fun r hr h1 => by
        obtain ⟨k, _, _, rfl⟩ := (hmem r).mp hr
        have h1 : ((t - bears * gap + k * gap : Nat) : Int) = s := h1
        omega)
      (fun s h1 h2 => decide_eq_false (gl_none (m := m) (w := (v : Nat)) (s := s) (t := t + 1) (by omega) (by omega)))
      (fun k h1 h2 => bitAt_of oks ((hmem _).mpr ⟨k, h1, h2, rfl⟩) rfl rfl)
      (fun s hs => bitAt_none fun r hr h1 => by
        obtain ⟨k, k1, k2, rfl⟩ := (hmem r).mp hr
        have h1 : ((t - bears * gap + k * gap : Nat) : Int) = s := h1
        exact absurd (by omega) (hs k k1 k2))
    by_cases hB : b < t - bears * gap
    · have hz := oneAt_zero (mw := fun t => decide (m t = some (v : Int))) (bt := bitAt ((strk ws t v).drop k0) (v : Nat)) (b + 1) fun s hs => bitAt_none fun r hr h1 => by
        obtain ⟨k, _, _, rfl⟩ := (hmem r).mp hr
        have h1 : ((t - bears * gap + k * gap : Nat) : Int) = s := h1
        omega
      rw [hz]
      constructor
      · intro h
        rw [List.length_nil] at h
        omega
      · rintro ⟨_, _, rfl⟩
        omega
    · have hr := run (b - (t - bears * gap)) (by omega)
      rw [show t - bears * gap + 1 + (b - (t - bears * gap)) = b + 1 by omega] at hr
      rw [hr, upTo_len, eb]
      by_cases hbt2 : b = t
      · subst hbt2
        rw [show b - (b - bears * gap) = bears * gap by omega, Nat.mul_div_cancel _ (show 0 < gap by omega)]
        constructor
        · intro h
          exact ⟨by omega, rfl, rfl⟩
        · rintro ⟨rfl, _, _⟩
          omega
      · have hlt : (b - (t - bears * gap)) / gap < bears := Nat.div_lt_of_lt_mul (by rw [Nat.mul_comm gap bears]; omega)
        generalize (b - (t - bears * gap)) / gap = q at hlt
        constructor
        · intro h
          omega
        · rintro ⟨_, _, h⟩
          exact absurd h hbt2
  · have hz := oneAt_zero (mw := fun t => decide (m t = some (v : Int))) (bt := bitAt ((strk ws t w).drop k0) (v : Nat)) (b + 1) fun s hs => bitAt_none fun r hr h1 h2 => by
      obtain ⟨k, _, rfl⟩ := strk_mem.mp (List.mem_of_mem_drop hr)
      have h2 : (w : Int) = (v : Int) := h2
      omega
    rw [hz]
    constructor
    · intro h
      rw [List.length_nil] at h
      omega
    · rintro ⟨_, h, _⟩
      exact absurd h e
/-- the told strokes lose just that word just then -/
theorem strk_told {ws : List W3} {m : Nat → Option Int} {t w : Nat} (okw : OkWs ws) (h : Lose ws m w t) (ht : t ≤ 999) (hm : ∀ t v, m t = some v → 0 ≤ v) : ∃ tu, RunRes ws m (strk ws t w) (t + 1) (some (t, w)) tu := by
  have key := fun v hv b hb => strk_run (k0 := 0) (v := v) okw h ht (Nat.zero_le _) hm hv b hb
  rw [List.drop_zero] at key
  refine ⟨_, Nat.lt_succ_self t, rfl, ⟨(key w h.1 t (Nat.le_refl t)).mpr ⟨rfl, rfl, rfl⟩, fun v hv hl => ?_⟩, fun c hc v hl => ?_⟩
  · have := (key v hl.1 t (Nat.le_refl t)).mp hl
    omega
  · have := (key v hl.1 c (Nat.le_of_lt hc)).mp hl
    omega
theorem strk_ahead {ws : List W3} {m : Nat → Option Int} {t w : Nat} (okw : OkWs ws) (h : Lose ws m w t) (ht : t ≤ 999) (hm : ∀ t v, m t = some v → 0 ≤ v) : ∃ tu, RunRes ws m (strk ws t w) t none tu := by
  have key := fun v hv b hb => strk_run (k0 := 0) (v := v) okw h ht (Nat.zero_le _) hm hv b hb
  rw [List.drop_zero] at key
  refine ⟨_, rfl, fun c hc v hl => ?_⟩
  have := (key v hl.1 c (Nat.le_of_lt hc)).mp hl
  omega
theorem strk_fewer {ws : List W3} {m : Nat → Option Int} {t w : Nat} (okw : OkWs ws) (h : Lose ws m w t) (ht : t ≤ 999) (hm : ∀ t v, m t = some v → 0 ≤ v) : ∃ tu, RunRes ws m ((strk ws t w).drop 1) (t + 1) none tu := by
  refine ⟨_, rfl, fun c hc v hl => ?_⟩
  have := (strk_run (k0 := 1) (v := v) okw h ht (Nat.le_refl _) hm hl.1 c (Nat.le_of_lt_succ hc)).mp hl
  omega
end Z
set_option Elab.async false
set_option linter.all false
set_option maxRecDepth 100000
set_option maxHeartbeats 4000000
namespace Z
open PySem PySem.Spec PyProof.Rows L2
/-! ### the law's own soonest loss -/
def Late (ws : List W3) (m : Nat → Option Int) (w t : Nat) : Prop := (ws.getD w d3).2.1 < (ws.getD w d3).1 ∧ (ws.getD w d3).2.1 * (ws.getD w d3).2.2 + 1 ≤ ((gl m (w : Nat) (t + 1) : Nat) : Int)
def SoonSem (ws : List W3) (m : Nat → Option Int) (N : Nat) (o : Option (Nat × Nat)) : Prop := match o with
  | none => ∀ w t, t < N → ¬ Lose ws m w t
  | some (t, w) => t < N ∧ BrkSem ws m (some (t, w))
theorem lose_late {ws : List W3} {m : Nat → Option Int} {w t : Nat} (h : Lose ws m w t) : Late ws m w t := by
  obtain ⟨_, L, hL, hg⟩ := h
  obtain ⟨h1, h2⟩ := lim_of hL
  exact ⟨h1, by rw [← h2]; omega⟩
theorem late_lose {ws : List W3} {m : Nat → Option Int} {w t : Nat} (okw : OkWs ws) (hw : w < ws.length) (h : Late ws m w t) (hn : ∀ s, s < t → ¬ Late ws m w s) : Lose ws m w t := by
  obtain ⟨h1, h2⟩ := h
  obtain ⟨o1, o2, o3, o4, o5, o6⟩ := okw.ok _ (getD_mem (d := d3) hw)
  have h3 : 0 ≤ (ws.getD w d3).2.1 * (ws.getD w d3).2.2 := Int.mul_nonneg o3 (by omega)
  refine ⟨hw, _, by unfold lim; rw [if_neg (by omega)], ?_⟩
  obtain ⟨L, hL⟩ : ∃ L, (ws.getD w d3).2.1 * (ws.getD w d3).2.2 = L := ⟨_, rfl⟩
  rw [hL] at h2 h3 ⊢
  by_cases e : ((gl m (w : Nat) (t + 1) : Nat) : Int) = L + 1
  · exact e
  · exfalso
    cases t with
    | zero =>
      have h4 : gl m (w : Nat) (0 + 1) ≤ 1 := gl_le m (w : Nat) 1
      omega
    | succ t =>
      refine hn t (Nat.lt_succ_self t) ⟨h1, ?_⟩
      rw [hL]
      rw [gl] at h2 e
      by_cases hm : m (t + 1) = some (w : Int)
      · rw [if_pos hm] at h2 e
        omega
      · rw [if_neg hm] at h2 e
        omega
/-- where w is not lost ahead of t, nor a lesser one at t -/
theorem soon_some {ws : List W3} {m : Nat → Option Int} {w t : Nat} (okw : OkWs ws) (hw : w < ws.length) (h : Late ws m w t) (hn : ∀ s, s < t → ∀ v, v < ws.length → ¬ Late ws m v s) (hl : ∀ v, v < w → ¬ Late ws m v t) : BrkSem ws m (some (t, w)) := by
  refine ⟨late_lose okw hw h fun s hs => hn s hs w hw, fun v s hv => ?_⟩
  have h1 := lose_late hv
  rcases Nat.lt_trichotomy s t with h2 | h2 | h2
  · exact absurd h1 (hn s h2 v hv.1)
  · subst h2
    right
    refine ⟨rfl, Nat.le_of_not_lt fun h3 => hl v h3 h1⟩
  · exact .inl h2
theorem soon_none {ws : List W3} {m : Nat → Option Int} {N : Nat} (hn : ∀ s, s < N → ∀ v, v < ws.length → ¬ Late ws m v s) : SoonSem ws m N none := fun w t ht hl => hn t ht w hl.1 (lose_late hl)
/-- the test of the law -/
theorem late_iff {ws : List W3} {m : Nat → Option Int} {w t : Nat} (okw : OkWs ws) (hw : w < ws.length) : ((ws.getD w d3).2.1 < (((gl m (w : Nat) (t + 1) : Nat) : Int) - 1) / (ws.getD w d3).2.2 + 1 ∧ (ws.getD w d3).2.1 < (ws.getD w d3).1) ↔ Late ws m w t := by
  obtain ⟨o1, o2, o3, o4, o5, o6⟩ := okw.ok _ (getD_mem (d := d3) hw)
  have h := Int.le_ediv_iff_mul_le (a := (ws.getD w d3).2.1) (b := ((gl m (w : Nat) (t + 1) : Nat) : Int) - 1) (c := (ws.getD w d3).2.2) (by omega)
  unfold Late
  constructor
  · rintro ⟨h1, h2⟩
    have := h.mp (by omega)
    exact ⟨h2, by omega⟩
  · rintro ⟨h1, h2⟩
    have := h.mpr (by omega)
    exact ⟨by omega, h1⟩
/-- the ages within beat t, words ahead of j being seen to -/
def ages (m : Nat → Option Int) (n t j : Nat) : List Int := (List.range n).map fun (i : Nat) => if i < j then ((gl m (i : Nat) (t + 1) : Nat) : Int) - 1 else ((gl m (i : Nat) t : Nat) : Int)
theorem ages_len (m : Nat → Option Int) (n t j : Nat) : (ages m n t j).length = n := by unfold ages; rw [List.length_map, List.length_range]
theorem ages_at {m : Nat → Option Int} {n t j i : Nat} (h : i < n) : (ages m n t j)[i]? = some (if i < j then ((gl m (i : Nat) (t + 1) : Nat) : Int) - 1 else ((gl m (i : Nat) t : Nat) : Int)) := by
  unfold ages
  rw [List.getElem?_map, List.getElem?_range h]
  rfl
theorem ages_zero (m : Nat → Option Int) (n : Nat) : ages m n 0 0 = List.replicate n 0 := by
  unfold ages
  refine List.ext_getElem? fun i => ?_
  rw [List.getElem?_map, List.getElem?_replicate]
  by_cases h : i < n
  · rw [List.getElem?_range h, if_pos h]
    rfl
  · rw [if_neg h, List.getElem?_eq_none (by rw [List.length_range]; omega)]
    rfl
theorem ages_next (m : Nat → Option Int) (n t : Nat) : (ages m n t n).map (fun x => x + 1) = ages m n (t + 1) 0 := by
  unfold ages
  rw [List.map_map]
  refine List.map_congr_left fun i hi => ?_
  have := List.mem_range.mp hi
  show (if i < n then ((gl m (i : Nat) (t + 1) : Nat) : Int) - 1 else _) + 1 = if i < 0 then _ else ((gl m (i : Nat) (t + 1) : Nat) : Int)
  rw [if_pos this, if_neg (Nat.not_lt_zero i)]
  omega
theorem ages_yes {m : Nat → Option Int} {n t j : Nat} (h : m t = some (j : Int)) : (ages m n t j).set j 0 = ages m n t (j + 1) := by
  refine List.ext_getElem? fun i => ?_
  rw [List.getElem?_set, ages_len]
  by_cases hi : i < n
  · rw [ages_at hi, ages_at hi]
    by_cases e : j = i
    · subst e
      rw [if_pos rfl, if_pos hi, if_pos (Nat.lt_succ_self j), gl, if_pos h]
      rfl
    · rw [if_neg e]
      by_cases h2 : i < j
      · rw [if_pos h2, if_pos (Nat.lt_succ_of_lt h2)]
      · rw [if_neg h2, if_neg (by omega)]
  · rw [List.getElem?_eq_none (show (ages m n t j).length ≤ i by rw [ages_len]; omega), List.getElem?_eq_none (show (ages m n t (j + 1)).length ≤ i by rw [ages_len]; omega)]
    split
    · rw [if_neg (by omega)]
    · rfl
theorem ages_no {m : Nat → Option Int} {n t j : Nat} (h : m t ≠ some (j : Int)) : ages m n t j = ages m n t (j + 1) := by
  unfold ages
  refine List.map_congr_left fun i hi => ?_
  by_cases e : i = j
  · subst e
    rw [if_neg (Nat.lt_irrefl i), if_pos (Nat.lt_succ_self i), gl, if_neg h]
    omega
  · by_cases h2 : i < j
    · rw [if_pos h2, if_pos (Nat.lt_succ_of_lt h2)]
    · rw [if_neg h2, if_neg (by omega)]
def spSoonest (K : PySem.W.Frag) : Sp := fun vs H Q _ => ∃ (G : Hp) (m a p : Addr) (n : Int) (ws : List W3) (ld : List Int) (hd lp : List (Option Int)), vs = [.ref m, .ref a, .ref p, .int n] ∧ Same G H ∧ TupL K G m (ws.map vW) ∧ OkWs ws ∧
  G a = some (.lst (ld.map V.int)) ∧ OkLd ld ∧ Pl K G p hd lp ∧ OkPl ws.length hd lp ∧ 0 ≤ n ∧ n ≤ 100000 ∧
  ∀ o v G' H', SoonSem ws (mend ld hd lp) n.toNat o → Gr No G H G' H' → LostV K G' v o → Q v H'
theorem i_soonest {K : PySem.W.Frag} {X : Addr → Prop} {G0 H0 G H : Hp} {Q : VK} {E : XK} {m a p : Addr} {n : Int} {ws : List W3} {ld : List Int} {hd lp : List (Option Int)} (g : Gr X G0 H0 G H) (hw : TupL K G m (ws.map vW)) (okw : OkWs ws) (hl : G a = some (.lst (ld.map V.int))) (okl : OkLd ld) (pl : Pl K G p hd lp) (okp : OkPl ws.length hd lp) (n0 : 0 ≤ n) (n1 : n ≤ 100000)
    (k : ∀ o v G' H', SoonSem ws (mend ld hd lp) n.toNat o → Gr No G H G' H' → Gr X G0 H0 G' H' → LostV K G' v o → Q v H') : spSoonest K ([.ref m, .ref a, .ref p, .int n] ++ []) H Q E :=
  ⟨G, m, a, p, n, ws, ld, hd, lp, rfl, g.sub, hw, okw, hl, okl, pl, okp, n0, n1, fun o v G' H' h s l => k o v G' H' h s (g.seqN s) l⟩
end Z
set_option Elab.async false
set_option linter.all false
set_option maxRecDepth 100000
set_option maxHeartbeats 4000000
namespace Z
open PySem PySem.Spec PyProof.Rows L2
/-! ### the window of the soonest loss (k04) -/
theorem soon_early {ws : List W3} {ld : List Int} {hd lp : List (Option Int)} {t w : Nat} (okw : OkWs ws) (ok : OkLd ld) (okp : OkPl ws.length hd lp) (h : BrkSem ws (mend ld hd lp) (some (t, w))) : t < ld.length * (hd.length + 2 * lp.length + 2) + 100 := by
  obtain ⟨⟨hw, L, hL, hg⟩, hmin⟩ := h
  have hLn := lim_nat (okw.ok _ (getD_mem (d := d3) hw)) hL
  have lper := per_pos ok okp
  have e0 : n0 ld hd ≤ ld.length * (hd.length + 1) := by
    unfold n0
    rw [Nat.mul_comm]
    exact Nat.mul_le_mul_left _ (Nat.succ_le_succ (Nat.div_le_self _ _))
  have e1 : 2 * per ld lp = ld.length * (2 * lp.length) := by
    unfold per
    rw [Nat.mul_comm lp.length, Nat.mul_left_comm]
  have e2 : ld.length * (hd.length + 2 * lp.length + 2) = ld.length * (hd.length + 1) + ld.length * (2 * lp.length) + ld.length := by
    rw [show hd.length + 2 * lp.length + 2 = (hd.length + 1) + 2 * lp.length + 1 by omega, Nat.mul_add, Nat.mul_add, Nat.mul_one]
  by_cases hlp : some (w : Int) ∈ lp
  · by_cases hc : t + 1 < n0 ld hd + 2 * per ld lp
    · omega
    · exfalso
      have h2 := gl_per (hd := hd) ok hlp (t := t + 1 - per ld lp) (by omega) lper
      rw [show t + 1 - per ld lp + per ld lp = t + 1 by omega, show t + 1 - per ld lp = t - per ld lp + 1 by omega] at h2
      have := hmin w (t - per ld lp) ⟨hw, L, hL, by rw [← h2]; exact hg⟩
      omega
  · by_cases hc : t < n0 ld hd + 73
    · omega
    · exfalso
      have h1 := gl_begin (mend ld hd lp) (w : Nat) (t + 1) (by omega)
      rcases h1 with h1 | h1
      · exact mend_not (hd := hd) ok okp.l1 hlp (t := t + 1 - gl (mend ld hd lp) (w : Nat) (t + 1)) (by omega) h1
      · omega
/-- the law's own look agrees with what breaking tells -/
theorem soon_brk {ws : List W3} {ld : List Int} {hd lp : List (Option Int)} {o p : Option (Nat × Nat)} {N : Nat} (okw : OkWs ws) (ok : OkLd ld) (okp : OkPl ws.length hd lp) (hN : ld.length * (hd.length + 2 * lp.length + 2) + 60 + 40 ≤ N) (h : BrkSem ws (mend ld hd lp) o) (k : SoonSem ws (mend ld hd lp) N p) : p = o := by
  match o, p, h, k with
  | none, none, _, _ => rfl
  | some (t, w), none, h, k =>
    have := soon_early okw ok okp h
    exact absurd h.1 (k w t (by omega))
  | o, some (t, w), h, k => exact k.2.uniq h
theorem Gr.down {X : Addr → Prop} {G G1 G2 H H' : Hp} (s : Gr X G1 H G2 H') (e : Same G G1) : Gr X G H G H' := ⟨Same.refl G, (e.trans s.gg).trans s.sub, s.old, s.dom, fun _ _ _ h => h⟩
theorem i_clear {H : Hp} {Q : VK} {l : Addr} {xs : List V} (h : H l = some (.lst xs)) (q : Q .non (upd H l (.lst []))) : rClear (.ref l) [] H Q := ⟨l, xs, rfl, rfl, h, q⟩
theorem i_sl31N {K : PySem.W.Frag} {H : Hp} {Q : VK} {p : Addr} {a b c : V} (h : SqT K H p [a, b, c]) (q : NewT [b, c] H Q) : rSlT K (.ref p) (some 1) none H Q := i_sl31 h q
theorem lk_W {n : Nat} (w : W3) : Lk (n + 1) (dW w) := lk_tup (by show 3 ≤ 100000; decide) fun e he => by
  simp only [List.mem_cons, List.not_mem_nil, or_false] at he
  rcases he with rfl | rfl | rfl <;> exact lk_int
theorem lk_Ws {n : Nat} {ws : List W3} (h : ws.length ≤ 100000) : Lk (n + 2) (.list (ws.map dW)) := lk_list (by rw [List.length_map]; exact h) fun e he => by
  obtain ⟨w, _, rfl⟩ := List.mem_map.mp he
  exact lk_W w
/-- whether what breaks is told in its form -/
def spIsRight (K : PySem.W.Frag) : Sp := fun vs H Q _ => ∃ (G : Hp) (m r l u : Addr) (ws : List W3) (mf : Nat → Option Int) (t w : Nat), vs = [.ref m, .ref r, .ref u] ∧ Same G H ∧ TupL K G m (ws.map vW) ∧ OkWs ws ∧ SqT K H r [.int (t : Nat), .int (w : Nat), .ref l] ∧ Dp K H (.ref l) (.list ((strk ws t w).map dW)) ∧ SqT K G u [.int (t : Nat), .int (w : Nat)] ∧ Lose ws mf w t ∧ t ≤ 999 ∧
  ∀ H', Gr No G H G H' → Q (.bl true) H'
theorem i_is_right {K : PySem.W.Frag} {X : Addr → Prop} {G0 H0 G H : Hp} {Q : VK} {E : XK} {m r l u : Addr} {ws : List W3} {mf : Nat → Option Int} {t w : Nat} (g : Gr X G0 H0 G H) (hw : TupL K G m (ws.map vW)) (okw : OkWs ws) (h1 : SqT K H r [.int (t : Nat), .int (w : Nat), .ref l]) (h2 : Dp K H (.ref l) (.list ((strk ws t w).map dW))) (h3 : SqT K G u [.int (t : Nat), .int (w : Nat)]) (hl : Lose ws mf w t) (ht : t ≤ 999)
    (k : ∀ H', Gr No G H G H' → Gr X G0 H0 G H' → Q (.bl true) H') : spIsRight K ([.ref m, .ref r, .ref u] ++ []) H Q E := ⟨G, m, r, l, u, ws, mf, t, w, rfl, g.sub, hw, okw, h1, h2, h3, hl, ht, fun H' s => k H' s (g.seqN s)⟩
end Z
namespace Z
open PySem PySem.Spec PyProof.Rows L2
theorem least_nat {P : Nat → Prop} : ∀ n, P n → ∃ m, P m ∧ ∀ k, k < m → ¬ P k := by
  intro n
  induction n using Nat.strongRecOn with
  | _ n ih =>
    intro h
    by_cases hx : ∃ k, k < n ∧ P k
    · obtain ⟨k, hk, hp⟩ := hx
      exact ih k hk hp
    · exact ⟨n, h, fun k hk hp => hx ⟨k, hk, hp⟩⟩
theorem brk_ex (ws : List W3) (m : Nat → Option Int) : ∃ o, BrkSem ws m o := by
  by_cases h : ∃ t, ∃ w, Lose ws m w t
  · obtain ⟨t0, h0⟩ := h
    obtain ⟨t, ⟨w0, h1⟩, h2⟩ := least_nat (P := fun t => ∃ w, Lose ws m w t) t0 h0
    obtain ⟨w, h3, h4⟩ := least_nat (P := fun w => Lose ws m w t) w0 h1
    refine ⟨some (t, w), h3, fun v s hs => ?_⟩
    rcases Nat.lt_trichotomy s t with h5 | h5 | h5
    · exact absurd ⟨v, hs⟩ (h2 s h5)
    · subst h5
      exact .inr ⟨rfl, Nat.le_of_not_lt fun h6 => h4 v h6 hs⟩
    · exact .inl h5
  · exact ⟨none, fun w t hl => h ⟨t, w, hl⟩⟩
theorem soon_sem {ws : List W3} {ld : List Int} {hd lp : List (Option Int)} {p : Option (Nat × Nat)} {N : Nat} (okw : OkWs ws) (ok : OkLd ld) (okp : OkPl ws.length hd lp) (hN : ld.length * (hd.length + 2 * lp.length + 2) + 100 ≤ N) (k : SoonSem ws (mend ld hd lp) N p) : BrkSem ws (mend ld hd lp) p := by
  obtain ⟨o, ho⟩ := brk_ex ws (mend ld hd lp)
  rw [soon_brk okw ok okp (by omega) ho k]
  exact ho
end Z
set_option Elab.async false
set_option linter.all false
set_option maxRecDepth 100000
set_option maxHeartbeats 4000000
namespace Z
open PySem PySem.Spec PyProof.Rows L2
/-! ### methods with arguments; the search's promises -/
section
variable {X : Cx}
theorem pmtA {m : Str} {C : Addr} {k : Nat} {ps : List Str} {sp : Sp} {o e : Expr} {es : List Expr} {ta : TE} {t : TA} {apos pos : Pos} {pl : Sem Bool} (c : CalMt X.prog X.w X.K X.mg X.base C m k ps sp) (hr : Room k X.A) (ho : PE X o ta) (ha : PA X (e :: es) t)
    (hst : starEach (e :: es) X.env = (false, eval e X.env) :: starEach es X.env := by rfl) (hpl : (backTo pos (starEach es X.env)).any (·.1) = false := by rfl)
    (ht : eval (.Call (.Attribute o m apos) (e :: es) [] pos) X.env = (do
      let ov ← eval o X.env
      standAt apos.atName
      let (f, first) ← holding [ov] (getMethod ov m pl)
      callWith pos f first (backTo pos (starEach (e :: es) X.env)) (backToKw pos (keywordEach [] X.env))) := by rfl) : PE X (.Call (.Attribute o m apos) (e :: es) [] pos) (tMeth C m sp [] E0 ta t) := by
  obtain ⟨f, fd, M, hb, F⟩ := c.ex
  exact pe_meth ho c.cl M F hr hb .nil pass0 ha hst hpl ht
end
/-- the search's own object, its limits and load -/
def SeA (C : Addr) (G H : Hp) (p : Addr) (en : List (Option Int)) (ld : List Int) (fs : List (Str × V)) : Prop := ∃ dx e l, H p = some (.ins C dx fs) ∧ fs.lookup ("ends" : Str) = some (.ref e) ∧ G e = some (.lst (en.map vO)) ∧ fs.lookup ("load" : Str) = some (.ref l) ∧ G l = some (.lst (ld.map V.int))
theorem SeA.mono {X : Addr → Prop} {C : Addr} {G H G' H' : Hp} {p : Addr} {en : List (Option Int)} {ld : List Int} {fs : List (Str × V)} (s : Gr X G H G' H') (n : ¬ X p) (h : SeA C G H p en ld fs) : SeA C G' H' p en ld fs := by
  obtain ⟨dx, e, l, h1, h2, h3, h4, h5⟩ := h
  exact ⟨dx, e, l, s.old _ _ n h1, h2, s.gg _ _ h3, h4, s.gg _ _ h5⟩
theorem SeA.monoN {C : Addr} {G H G' H' : Hp} {p : Addr} {en : List (Option Int)} {ld : List Int} {fs : List (Str × V)} (s : Gr No G H G' H') (h : SeA C G H p en ld fs) : SeA C G' H' p en ld fs := h.mono s fun z => z
def StV (K : PySem.W.Frag) (G : Hp) (v : V) (t : Option S) : Prop := match t with
  | none => v = .non
  | some s => ∃ q, v = .ref q ∧ StAt K G q s
def MvAt (K : PySem.W.Frag) (G : Hp) (a : Addr) (m : Option Int × Option S) : Prop := ∃ v, SqT K G a [vO m.1, v] ∧ StV K G v m.2
theorem StV.mono {K : PySem.W.Frag} {G G' : Hp} {v : V} {t : Option S} (e : Same G G') (h : StV K G v t) : StV K G' v t := by
  match t, h with
  | none, h => exact h
  | some s, ⟨q, h1, h2⟩ => exact ⟨q, h1, h2.mono e⟩
theorem MvAt.mono {K : PySem.W.Frag} {G G' : Hp} {a : Addr} {m : Option Int × Option S} (e : Same G G') (h : MvAt K G a m) : MvAt K G' a m := by
  obtain ⟨v, h1, h2⟩ := h
  exact ⟨v, sqt e h1, h2.mono e⟩
def spBehind (K : PySem.W.Frag) (C : Addr) : Sp := fun vs H Q _ => ∃ (G : Hp) (p ag : Addr) (en : List (Option Int)) (ld : List Int) (fs : List (Str × V)) (s : S) (o : Option Int), vs = [.ref p, .int s.1, .ref ag, vO o] ∧ Same G H ∧ SeA C G H p en ld fs ∧ OkEn en ∧ OkLd ld ∧ OkS en ld s ∧ SqT K G ag (s.2.map V.int) ∧
  ∀ v G' H', Gr No G H G' H' → StV K G' v (step en ld s o) → Q v H'
def spMoves (K : PySem.W.Frag) (C : Addr) : Sp := fun vs H Q _ => ∃ (G : Hp) (p q : Addr) (en : List (Option Int)) (ld : List Int) (fs : List (Str × V)) (s : S), vs = [.ref p, .ref q] ∧ Same G H ∧ SeA C G H p en ld fs ∧ OkEn en ∧ OkLd ld ∧ fs.lookup ("behind" : Str) = none ∧ OkS en ld s ∧ StAt K G q s ∧
  ∀ r rs G' H', H r = none → Gr No G H G' H' → G' r = some (.lst (rs.map V.ref)) → Paired (fun a m => MvAt K G' a m) rs (moves en ld s) → Q (.ref r) H'
/-- all states, in order -/
structure StOk (en : List (Option Int)) (ld : List Int) (ST : List S) : Prop where
  nd : ST.Nodup
  re : ∀ s ∈ ST, Reach en ld s
  fi : firstS en ∈ ST
  cl : Closed en ld ST
  so : ∃ xs : List S, ST = xs.mergeSort (PySem.W.dataLe false dS)
def StsAt (K : PySem.W.Frag) (G : Hp) (a : Addr) (ST : List S) : Prop := ∃ sq : List Addr, G a = some (.lst (sq.map V.ref)) ∧ Paired (fun q s => StAt K G q s) sq ST
theorem StsAt.mono {K : PySem.W.Frag} {G G' : Hp} {a : Addr} {ST : List S} (e : Same G G') (h : StsAt K G a ST) : StsAt K G' a ST := by
  obtain ⟨sq, h1, h2⟩ := h
  exact ⟨sq, e _ _ h1, Paired.imp (fun _ _ h => h.mono e) h2⟩
def spMet (P : Program) (w : World) (K : PySem.W.Frag) (C : Addr) : Sp := fun vs H Q _ => ∃ (G : Hp) (p q0 : Addr) (en : List (Option Int)) (ld : List Int) (fs : List (Str × V)), vs = [.ref p] ∧ Same G H ∧ SeA C G H p en ld fs ∧ OkEn en ∧ OkLd ld ∧ manyS en ld ≤ 2000 ∧ fs.lookup ("behind" : Str) = none ∧ fs.lookup ("moves" : Str) = none ∧ fs.lookup ("first" : Str) = some (.ref q0) ∧ StAt K G q0 (firstS en) ∧
  ∀ r ST G' H', H r = none → Gr No G H G' H' → StsAt K G' r ST → StOk en ld ST → Q (.ref r) H'
def spRank (P : Program) (w : World) (K : PySem.W.Frag) (C : Addr) : Sp := fun vs H Q _ => ∃ (G : Hp) (p sl kd : Addr) (en : List (Option Int)) (ld : List Int) (fs : List (Str × V)) (ST : List S), vs = [.ref p] ∧ Same G H ∧ SeA C G H p en ld fs ∧ OkEn en ∧ OkLd ld ∧ manyS en ld ≤ 2000 ∧ fs.lookup ("behind" : Str) = none ∧ fs.lookup ("moves" : Str) = none ∧ fs.lookup ("states" : Str) = some (.ref sl) ∧ StsAt K G sl ST ∧ StOk en ld ST ∧ fs.lookup ("known" : Str) = some (.ref kd) ∧ At G H kd (dN P w kd []) ∧
  ∀ ks G' H', Gr (· = kd) G H G' H' → At G' H' kd (dN P w kd ks) → KeysAt K G' ks → Rk en ld ST ks → Stuck en ld ST ks → Q .non H'
theorem beh_none {en : List (Option Int)} {ages : List Int} {o : Option Int} {n : Nat} : ∀ {m : Nat}, n ≤ m → beh en ages o n = none → beh en ages o m = none
  | 0, l, h => by rw [Nat.le_zero.mp l] at h; exact h
  | m + 1, l, h => by
    by_cases e : n = m + 1
    · rw [e] at h; exact h
    · rw [beh, beh_none (m := m) (by omega) h]
theorem lims_succ (en : List (Option Int)) (n : Nat) : lims en (n + 1) = lims en n ++ (if (en.getD n none).isSome then [some ((n : Nat) : Int)] else []) := by
  unfold lims
  rw [List.range_succ, List.filter_append, List.map_append]
  congr 1
  rw [List.filter_cons]
  by_cases h : (en.getD n none).isSome
  · rw [if_pos h, if_pos h]; rfl
  · rw [if_neg h, if_neg h]; rfl
theorem lims_len (en : List (Option Int)) (n : Nat) : (lims en n).length ≤ n := by
  unfold lims
  rw [List.length_map]
  refine Nat.le_trans (List.length_filter_le _ _) ?_
  rw [List.length_range]
  exact Nat.le_refl n
theorem opts_len {en : List (Option Int)} {ld : List Int} (ok : OkEn en) (s : S) : (opts en ld s).length ≤ 5 := by
  unfold opts
  rw [List.length_cons]
  have := lims_len en en.length
  have := ok.l4
  split
  · omega
  · rw [List.length_nil]; omega
theorem i_pop {H : Hp} {Q : VK} {l : Addr} {y : V} {xs : List V} (h : H l = some (.lst (xs ++ [y]))) (q : Q y (upd H l (.lst xs))) : rPop (.ref l) [] H Q := by
  refine ⟨l, xs ++ [y], y, rfl, rfl, h, by simp, ?_⟩
  rw [List.dropLast_concat]
  exact q
section
variable {K : PySem.W.Frag} {σ : L2.St} {X : Addr → Prop} {G0 H0 G H : Hp} {Q : VK} {C : Addr} {E : XK} {p ag q : Addr} {en : List (Option Int)} {ld : List Int} {fs : List (Str × V)} {s : S} {o : Option Int}
theorem i_behind (g : Gr X G0 H0 G H) (sea : SeA C G H p en ld fs) (oke : OkEn en) (okl : OkLd ld) (oks : OkS en ld s) (ha : SqT K G ag (s.2.map V.int))
    (k : ∀ v G' H', Gr No G H G' H' → Gr X G0 H0 G' H' → StV K G' v (step en ld s o) → Q v H') : spBehind K C (.ref p :: ([.int s.1, .ref ag, vO o] ++ [])) H Q E := ⟨G, p, ag, en, ld, fs, s, o, rfl, g.sub, sea, oke, okl, oks, ha, fun v G' H' s h => k v G' H' s (g.seqN s) h⟩
theorem i_moves (g : Gr X G0 H0 G H) (sea : SeA C G H p en ld fs) (oke : OkEn en) (okl : OkLd ld) (nb : fs.lookup ("behind" : Str) = none) (oks : OkS en ld s) (hq : StAt K G q s)
    (k : ∀ r rs G' H', H r = none → Gr No G H G' H' → Gr X G0 H0 G' H' → G' r = some (.lst (rs.map V.ref)) → Paired (fun a m => MvAt K G' a m) rs (moves en ld s) → Q (.ref r) H') : spMoves K C (.ref p :: ([.ref q] ++ [])) H Q E :=
  ⟨G, p, q, en, ld, fs, s, rfl, g.sub, sea, oke, okl, nb, oks, hq, fun r rs G' H' nr s h1 h2 => k r rs G' H' nr s (g.seqN s) h1 h2⟩
theorem methq {m : Str} {sp : Sp} {t : TA} {dx : Addr} (h : H p = some (.ins C dx fs)) (n : fs.lookup m = none) (q : t σ H fun vs H2 => sp (.ref p :: (vs ++ [])) H2 Q E) : MethQ C m sp E t σ (.ref p) H Q := ⟨p, dx, fs, rfl, h, n, q⟩
theorem i_sl32F {a b : V} {r : Addr} (h : SqT K H r [a, b]) (q : Q b H) : Q b H := q
end
theorem dp_states {K : PySem.W.Frag} {H : Hp} {wq : List Addr} {W : List S} (h : Paired (fun q s => StAt K H q s) wq W) : DpAll K H (wq.map V.ref) (W.map dS) := by
  induction h with
  | nil => exact .nil
  | @cons q s _ _ r t ih =>
    obtain ⟨r2, h1, h2⟩ := r
    exact .cons (.tup h1 (.cons (.int _) (.cons (.tup h2 (dpAll_ints _)) .nil))) ih
theorem dk_S (s : S) : Dk 2 (dS s) := dk_tup fun d h => by
  simp only [List.mem_cons, List.not_mem_nil, or_false] at h
  rcases h with rfl | rfl
  · exact dk_int
  · exact dk_tup fun d h => by
      obtain ⟨i, _, rfl⟩ := List.mem_map.mp h
      exact dk_int
theorem dk_Ss (W : List S) : Dk 3 (.list (W.map dS)) := dk_list fun d h => by
  obtain ⟨s, _, rfl⟩ := List.mem_map.mp h
  exact dk_S s
theorem srtN_keys (xs : List (S × Addr × V)) : (srtN xs).map (·.1) = (xs.map (·.1)).mergeSort (PySem.W.dataLe false dS) := by
  unfold srtN
  exact List.map_mergeSort fun a _ b _ => rfl
end Z
namespace Z
open PySem PySem.Spec PyProof.Rows L2
section
variable {P : Program} {w : World} {K : PySem.W.Frag} {σ : L2.St} {H G : Hp} {Q : VK} {td ty tv tk : TE} {D : Ends} {a q : Addr} {xs : List (S × Addr × V)} {s : S} {v : V}
def DGetNQ (P : Program) (w : World) (K : PySem.W.Frag) (x y : V) (H2 : Hp) (Q : VK) : Prop := ∃ (a q : Addr) (s : S) (xs : List (S × Addr × V)) (v : V), x = .ref a ∧ y = .ref q ∧ H2 a = some (dN P w a xs) ∧ KeysAt K H2 xs ∧ StAt K H2 q s ∧ valN xs s = some v ∧ Q v H2
theorem i_dgetN (h : td σ H fun x H1 => ty σ H1 fun y H2 => DGetNQ P w K x y H2 Q) : tDGetN P w K td ty σ H Q := h
theorem dgetN (h : H a = some (dN P w a xs)) (k : KeysAt K H xs) (hq : StAt K H q s) (e : valN xs s = some v) (c : Q v H) : DGetNQ P w K (.ref a) (.ref q) H Q := ⟨a, q, s, xs, v, rfl, rfl, h, k, hq, e, c⟩
def DPutNQ (P : Program) (w : World) (K : PySem.W.Frag) (D : Ends) (σ : L2.St) (x y v : V) (H3 : Hp) : Prop := ∃ (a q : Addr) (s : S) (xs : List (S × Addr × V)), x = .ref a ∧ y = .ref q ∧ H3 a = some (dN P w a xs) ∧ KeysAt K H3 xs ∧ StAt K H3 q s ∧ xs.length < sizeLine ∧ D.nx σ (upd H3 a (dN P w a (putN xs s q v)))
theorem i_dputN (h : tv σ H fun v H1 => td σ H1 fun x H2 => ty σ H2 fun y H3 => DPutNQ P w K D σ x y v H3) : sDPutN P w K td ty tv D σ H := h
theorem dputN (h : H a = some (dN P w a xs)) (k : KeysAt K H xs) (hq : StAt K H q s) (l : xs.length ≤ 100000) (c : D.nx σ (upd H a (dN P w a (putN xs s q v)))) : DPutNQ P w K D σ (.ref a) (.ref q) v H := ⟨a, q, s, xs, rfl, rfl, h, k, hq, Nat.lt_of_le_of_lt l (by decide), c⟩
def NewN (P : Program) (w : World) (H : Hp) (Q : VK) : Prop := ∀ p, H p = none → Q (.ref p) (upd H p (dN P w p []))
theorem i_dnewN (h : NewN P w H Q) : tDNewN P w σ H Q := h
theorem newN {X : Addr → Prop} {G0 H0 : Hp} (g : Gr X G0 H0 G H) (k : ∀ p H', H p = none → H0 p = none → Gr No G H G H' → Gr X G0 H0 G H' → At G H' p (dN P w p []) → Q (.ref p) H') : NewN P w H Q := fun p np => k p _ np (g.fresh np) (Gr.new (Gr.refl g.sub) np) (g.new np) (At.of g np)
def DispQ (P : Program) (w : World) (K : PySem.W.Frag) (p : Addr) (y v : V) (H2 : Hp) (Q : VK) : Prop := ∃ (q : Addr) (s : S), y = .ref q ∧ StAt K H2 q s ∧ H2 p = some (dN P w p []) ∧ Q (.ref p) (upd H2 p (dN P w p [(s, q, v)]))
theorem i_dispN (h : ∀ p, H p = none → tk σ (upd H p (dN P w p [])) fun y H1 => tv σ H1 fun v H2 => DispQ P w K p y v H2 Q) : tDispN P w K tk tv σ H Q := h
theorem dispN {p : Addr} (hq : StAt K H q s) (e : H p = some (dN P w p [])) (c : Q (.ref p) (upd H p (dN P w p [(s, q, v)]))) : DispQ P w K p (.ref q) v H Q := ⟨q, s, rfl, hq, e, c⟩
theorem notInN (h : H a = some (dN P w a xs)) (k : KeysAt K H xs) (hq : StAt K H q s) (c : Q (.bl (!(valN xs s).isSome)) H) : rNotInN P w K (.ref q) (.ref a) H Q := ⟨a, q, s, xs, rfl, rfl, h, k, hq, c⟩
theorem sortedN {X : Addr → Prop} {G0 H0 : Hp} (g : Gr X G0 H0 G H) (h : H a = some (dN P w a xs)) (k : KeysAt K H xs) (c : ∀ p H', H p = none → H0 p = none → Gr No G H G H' → Gr X G0 H0 G H' → At G H' p (.lst ((srtN xs).map fun x => V.ref x.2.1)) → Q (.ref p) H') : rSortedN P w K [.ref a] H Q :=
  ⟨a, xs, rfl, h, k, fun p np => c p _ np (g.fresh np) (Gr.new (Gr.refl g.sub) np) (g.new np) (At.of g np)⟩
end
/-- while, by a measure -/
def Whl (W : Nat → L2.St → Hp → Prop) (tb : TS) (D : Ends) (m : Nat) (σ : L2.St) (b : Bool) (H1 : Hp) : Prop := if b = true then ∃ N : L2.St → Hp → Prop, (∀ σ' H', N σ' H' → ∃ m', m' < m ∧ W m' σ' H') ∧ tb { D with nx := N, ct := N, bk := D.nx } σ H1 else D.nx σ H1
theorem whl {c : TT} {tb : TS} {D : Ends} {σ : L2.St} {H : Hp} (W : Nat → L2.St → Hp → Prop) (m : Nat) (h0 : W m σ H) (hs : ∀ m σ H, W m σ H → c σ H fun b H1 => Whl W tb D m σ b H1) : tWhile c tb D σ H := ⟨W, ⟨m, h0⟩, hs⟩
theorem whlT {W : Nat → L2.St → Hp → Prop} {tb : TS} {D : Ends} {m : Nat} {σ : L2.St} {b : Bool} {H1 : Hp} (e : b = true) (q : tb { D with nx := fun σ' H' => ∃ m', m' < m ∧ W m' σ' H', ct := fun σ' H' => ∃ m', m' < m ∧ W m' σ' H', bk := D.nx } σ H1) : Whl W tb D m σ b H1 := by
  unfold Whl
  rw [if_pos e]
  exact ⟨_, fun _ _ h => h, q⟩
theorem whlF {W : Nat → L2.St → Hp → Prop} {tb : TS} {D : Ends} {m : Nat} {σ : L2.St} {b : Bool} {H1 : Hp} (e : b = false) (q : D.nx σ H1) : Whl W tb D m σ b H1 := by
  unfold Whl
  rw [if_neg (by rw [e]; exact Bool.false_ne_true)]
  exact q
theorem sts_one {K : PySem.W.Frag} {G : Hp} {sq : List Addr} {ST : List S} {i : Nat} {x : V} (pr : Paired (fun q s => StAt K G q s) sq ST) (hx : (sq.map V.ref)[i]? = some x) : ∃ q s, x = .ref q ∧ ST[i]? = some s ∧ StAt K G q s ∧ i < ST.length := by
  obtain ⟨q, hq, rfl⟩ := map_at hx
  have hi : i < sq.length := (List.getElem?_eq_some_iff.mp hq).1
  have hl := Paired.len pr
  exact ⟨q, ST[i], rfl, List.getElem?_eq_getElem (by omega), Paired.at pr hq (List.getElem?_eq_getElem (by omega)), by omega⟩
theorem mv_one {K : PySem.W.Frag} {G : Hp} {rs : List Addr} {ms : List (Option Int × Option S)} {i : Nat} {x : V} (pr : Paired (fun a m => MvAt K G a m) rs ms) (hx : (rs.map V.ref)[i]? = some x) : ∃ a m v, x = .ref a ∧ ms[i]? = some m ∧ SqT K G a [vO m.1, v] ∧ StV K G v m.2 ∧ i < ms.length := by
  obtain ⟨q, hq, rfl⟩ := map_at hx
  have hi : i < rs.length := (List.getElem?_eq_some_iff.mp hq).1
  have hl := Paired.len pr
  obtain ⟨v, h1, h2⟩ := Paired.at pr hq (List.getElem?_eq_getElem (show i < ms.length by omega))
  exact ⟨q, ms[i], v, rfl, List.getElem?_eq_getElem (by omega), h1, h2, by omega⟩
theorem moves_at {en : List (Option Int)} {ld : List Int} {s : S} {i : Nat} {m : Option Int × Option S} (h : (moves en ld s)[i]? = some m) : (opts en ld s)[i]? = some m.1 ∧ step en ld s m.1 = m.2 := by
  unfold moves at h
  obtain ⟨o, h1, rfl⟩ := map_at h
  exact ⟨h1, rfl⟩
end Z
namespace Z
open PySem PySem.Spec PyProof.Rows L2
theorem i_ckw {r : List V → List V → Hp → VK → Prop} {t tk : TA} {σ : L2.St} {H : Hp} {Q : VK} (q : t σ H fun vs H1 => tk σ H1 fun zs H2 => r vs zs H2 Q) : tCKw r t tk σ H Q := q
theorem i_maxDef {K : PySem.W.Frag} {H : Hp} {Q : VK} {a : Addr} {ns : List Int} {d : Int} (h : SqL K H a (ns.map V.int)) (q0 : ns = [] → Q (.int d) H) (q : ∀ m, m ∈ ns → (∀ y ∈ ns, y ≤ m) → Q (.int m) H) : rMaxDef K [.ref a] [.int d] H Q := ⟨a, ns, d, rfl, rfl, h, q0, q⟩
end Z
set_option Elab.async false
set_option linter.all false
set_option maxRecDepth 100000
set_option maxHeartbeats 4000000
namespace Z
open PySem PySem.Spec PyProof.Rows L2
/-! ### successors; the first best move; paths -/
def succs (en : List (Option Int)) (ld : List Int) (s : S) : List S := (moves en ld s).filterMap (·.2)
def goodM (m : Option Int × Option S) : Option (Option Int × S) := m.2.map fun t => (m.1, t)
def good (en : List (Option Int)) (ld : List Int) (s : S) : List (Option Int × S) := (moves en ld s).filterMap goodM
theorem fm_take {α β : Type} {g : α → Option β} {xs : List α} {i : Nat} {x : α} (h : xs[i]? = some x) : (xs.take (i + 1)).filterMap g = (xs.take i).filterMap g ++ (g x).toList := by
  rw [List.take_add_one, h, List.filterMap_append]
  show _ ++ [x].filterMap g = _
  cases e : g x with
  | none => rw [List.filterMap_cons_none e]; rfl
  | some y => rw [List.filterMap_cons_some e]; rfl
theorem fil_take {α : Type} {g : α → Bool} {xs : List α} {i : Nat} {x : α} (h : xs[i]? = some x) : (xs.take (i + 1)).filter g = (xs.take i).filter g ++ (if g x = true then [x] else []) := by
  rw [List.take_add_one, h, List.filter_append]
  show _ ++ [x].filter g = _
  by_cases e : g x = true
  · rw [if_pos e, List.filter_cons_of_pos e]; rfl
  · rw [if_neg e, List.filter_cons_of_neg e]; rfl
section
variable {en : List (Option Int)} {ld : List Int} {F : List S} {s t : S} {ks : List (S × Addr × V)} {o : Option Int}
theorem moves_len : (moves en ld s).length = (opts en ld s).length := by unfold moves; rw [List.length_map]
theorem mem_succs : t ∈ succs en ld s ↔ ∃ o ∈ opts en ld s, step en ld s o = some t := by
  unfold succs moves
  constructor
  · intro h
    obtain ⟨m, hm, e⟩ := List.mem_filterMap.mp h
    obtain ⟨o, ho, rfl⟩ := List.mem_map.mp hm
    exact ⟨o, ho, e⟩
  · rintro ⟨o, ho, e⟩
    exact List.mem_filterMap.mpr ⟨_, List.mem_map.mpr ⟨o, ho, rfl⟩, e⟩
theorem mem_good : (o, t) ∈ good en ld s ↔ o ∈ opts en ld s ∧ step en ld s o = some t := by
  unfold good moves
  constructor
  · intro h
    obtain ⟨m, hm, e⟩ := List.mem_filterMap.mp h
    obtain ⟨o2, ho, rfl⟩ := List.mem_map.mp hm
    obtain ⟨t2, h1, h2⟩ := Option.map_eq_some_iff.mp (show (step en ld s o2).map (fun t => (o2, t)) = some (o, t) from e)
    cases h2
    exact ⟨ho, h1⟩
  · rintro ⟨ho, e⟩
    refine List.mem_filterMap.mpr ⟨_, List.mem_map.mpr ⟨o, ho, rfl⟩, ?_⟩
    show (step en ld s o).map (fun t => (o, t)) = some (o, t)
    rw [e]
    rfl
theorem succs_len (oke : OkEn en) (i : Nat) : (((moves en ld s).take i).filterMap (·.2)).length ≤ 5 := by
  have h1 := opts_len (ld := ld) oke s
  have h2 := List.length_filterMap_le (fun m : Option Int × Option S => m.2) ((moves en ld s).take i)
  rw [List.length_take, moves_len] at h2
  omega
theorem good_len (oke : OkEn en) (i : Nat) : (((moves en ld s).take i).filterMap goodM).length ≤ 5 := by
  have h1 := opts_len (ld := ld) oke s
  have h2 := List.length_filterMap_le goodM ((moves en ld s).take i)
  rw [List.length_take, moves_len] at h2
  omega
theorem rank_all (rk : Rk en ld F ks) {ns : List Int} (pr : Paired (fun t n => ∃ v : Int, valN ks t = some (.int v) ∧ n = 1 + v) (succs en ld s) ns) :
    (ns = [] → Rank en ld s 0) ∧ ∀ m ∈ ns, (∀ y ∈ ns, y ≤ m) → ∃ n : Nat, m = (n : Int) ∧ Rank en ld s n := by
  refine ⟨fun e => ?_, fun m hm hy => ?_⟩
  · have h0 : succs en ld s = [] := by
      have := Paired.len pr
      rw [e] at this
      exact List.length_eq_zero_iff.mp this
    refine rank_zero fun o ho => ?_
    cases h : step en ld s o with
    | none => rfl
    | some t =>
      have := mem_succs.mpr ⟨o, ho, h⟩
      rw [h0] at this
      cases this
  · have key : ∀ {xs : List S} {ns : List Int}, Paired (fun t n => ∃ v : Int, valN ks t = some (.int v) ∧ n = 1 + v) xs ns → (∀ n ∈ ns, ∃ t ∈ xs, ∃ k : Nat, n = 1 + (k : Int) ∧ Rank en ld t k) ∧ ∀ t ∈ xs, ∃ n ∈ ns, ∃ k : Nat, n = 1 + (k : Int) ∧ Rank en ld t k := by
      intro xs ns h
      induction h with
      | nil => exact ⟨fun n h => (by cases h), fun t h => (by cases h)⟩
      | @cons t n xs ns h1 _ ih =>
        obtain ⟨v, hv, rfl⟩ := h1
        obtain ⟨k, e, hr⟩ := rk.val t _ hv
        cases e
        refine ⟨fun y hy => ?_, fun y hy => ?_⟩
        · rcases List.mem_cons.mp hy with rfl | hy
          · exact ⟨t, List.mem_cons_self, k, rfl, hr⟩
          · obtain ⟨u, hu, z⟩ := ih.1 y hy
            exact ⟨u, List.mem_cons_of_mem _ hu, z⟩
        · rcases List.mem_cons.mp hy with rfl | hy
          · exact ⟨_, List.mem_cons_self, k, rfl, hr⟩
          · obtain ⟨u, hu, z⟩ := ih.2 y hy
            exact ⟨u, List.mem_cons_of_mem _ hu, z⟩
    obtain ⟨a, b⟩ := key pr
    obtain ⟨t, ht, k, e, hr⟩ := a m hm
    obtain ⟨o, ho, hs⟩ := mem_succs.mp ht
    refine ⟨k + 1, by omega, rank_max ⟨o, ho, t, hs, hr⟩ fun o2 ho2 t2 hs2 => ?_⟩
    obtain ⟨n2, hn2, k2, e2, hr2⟩ := b t2 (mem_succs.mpr ⟨o2, ho2, hs2⟩)
    have := hy n2 hn2
    exact ⟨k2, by omega, hr2⟩
/-- the first i states are seen to, none could be ranked -/
def StuckI (en : List (Option Int)) (ld : List Int) (F : List S) (ks : List (S × Addr × V)) (i : Nat) : Prop := ∀ s ∈ F.take i, valN ks s = none → ∃ o ∈ opts en ld s, ∃ t, step en ld s o = some t ∧ valN ks t = none
theorem StuckI.next {i : Nat} (h : StuckI en ld F ks i) (hs : F[i]? = some s) (n : valN ks s = none → ∃ o ∈ opts en ld s, ∃ t, step en ld s o = some t ∧ valN ks t = none) : StuckI en ld F ks (i + 1) := by
  intro x hx hn
  rw [List.take_add_one, hs] at hx
  rcases List.mem_append.mp hx with h1 | h1
  · exact h x h1 hn
  · rw [List.mem_singleton.mp (show x ∈ [s] from h1)] at hn ⊢
    exact n hn
theorem StuckI.all (h : StuckI en ld F ks F.length) : Stuck en ld F ks := fun s hs => h s (by rw [List.take_length]; exact hs)
theorem putN_len_new {q : Addr} {v : V} (h : valN ks s = none) : (putN ks s q v).length = ks.length + 1 := by rw [putN_new h, List.length_append]; rfl
/-- what is known of all states -/
structure Kn (en : List (Option Int)) (ld : List Int) (ST : List S) (ks : List (S × Addr × V)) : Prop where
  sto : StOk en ld ST
  rk : Rk en ld ST ks
  stuck : Stuck en ld ST ks
theorem Kn.lasts (h : Kn en ld F ks) (hs : s ∈ F) (n : valN ks s = none) : Lasts en ld s := fun k => stuck_lasts h.sto.cl h.stuck k s hs n
theorem Kn.none_iff (h : Kn en ld F ks) (hs : s ∈ F) : valN ks s = none ↔ Lasts en ld s := by
  refine ⟨h.lasts hs, fun l => ?_⟩
  cases e : valN ks s with
  | none => rfl
  | some v =>
    obtain ⟨n, _, hr⟩ := h.rk.val s v e
    exact (hr.not l).elim
theorem Kn.of_rank (h : Kn en ld F ks) (hs : s ∈ F) {n : Nat} (r : Rank en ld s n) : valN ks s = some (.int (n : Nat)) := by
  cases e : valN ks s with
  | none => exact (r.not (h.lasts hs e)).elim
  | some v =>
    obtain ⟨m, rfl, hr⟩ := h.rk.val s v e
    rw [hr.uniq r]
theorem lasts_pred (ho : o ∈ opts en ld s) (e : step en ld s o = some t) (h : Lasts en ld t) : Lasts en ld s
  | 0 => True.intro
  | n + 1 => ⟨o, ho, t, e, h n⟩
theorem Reach.lasts (h : Reach en ld t) (l : Lasts en ld t) : Lasts en ld (firstS en) := by
  induction h with
  | first => exact l
  | step _ ho e ih => exact ih (lasts_pred ho e l)
/-- the first of the moves that P holds of -/
def FirstOf {α : Type} (P : α → Prop) (xs : List α) (x : α) : Prop := ∃ i : Nat, xs[i]? = some x ∧ P x ∧ ∀ (j : Nat) (y : α), j < i → xs[j]? = some y → ¬ P y
theorem FirstOf.uniq {α : Type} {P : α → Prop} {xs : List α} {x y : α} (h : FirstOf P xs x) (k : FirstOf P xs y) : x = y := by
  obtain ⟨i, h1, h2, h3⟩ := h
  obtain ⟨j, k1, k2, k3⟩ := k
  rcases Nat.lt_trichotomy i j with l | l | l
  · exact absurd h2 (k3 i x l h1)
  · subst l
    rw [h1] at k1
    exact Option.some.inj k1
  · exact absurd k2 (h3 j y l k1)
theorem FirstOf.filter {α : Type} {P : α → Prop} {g : α → Bool} {x : α} : ∀ {xs : List α}, (∀ y ∈ xs, g y = true ↔ P y) → (xs.filter g)[0]? = some x → FirstOf P xs x
  | [], _, h => by rw [List.filter_nil] at h; cases h
  | y :: xs, hg, h => by
    by_cases e : g y = true
    · rw [List.filter_cons_of_pos e] at h
      cases h
      exact ⟨0, rfl, (hg _ List.mem_cons_self).mp e, fun j z hj => absurd hj (Nat.not_lt_zero _)⟩
    · rw [List.filter_cons_of_neg e] at h
      obtain ⟨i, h1, h2, h3⟩ := FirstOf.filter (xs := xs) (fun z hz => hg z (List.mem_cons_of_mem _ hz)) h
      refine ⟨i + 1, h1, h2, fun j z hj hz hp => ?_⟩
      cases j with
      | zero =>
        cases hz
        exact e ((hg _ List.mem_cons_self).mpr hp)
      | succ j => exact h3 j z (by omega) hz hp
theorem FirstOf.mem {α : Type} {P : α → Prop} {xs : List α} {x : α} (h : FirstOf P xs x) : x ∈ xs := let ⟨i, h1, _⟩ := h; List.mem_of_getElem? h1
theorem FirstOf.prop {α : Type} {P : α → Prop} {xs : List α} {x : α} (h : FirstOf P xs x) : P x := let ⟨i, _, h1, _⟩ := h; h1
def BestM (en : List (Option Int)) (ld : List Int) (s : S) (m : Option Int × S) : Prop := FirstOf (fun m => Lasts en ld m.2) (good en ld s) m ∨ ((∀ m ∈ good en ld s, ¬ Lasts en ld m.2) ∧ ∃ n, Rank en ld s (n + 1) ∧ FirstOf (fun m => Rank en ld m.2 n) (good en ld s) m)
theorem BestM.uniq {m k : Option Int × S} (h : BestM en ld s m) (h2 : BestM en ld s k) : m = k := by
  rcases h with h | ⟨h, n, hn, h'⟩
  · rcases h2 with g | ⟨g, _⟩
    · exact h.uniq g
    · exact absurd h.prop (g _ h.mem)
  · rcases h2 with g | ⟨g, n2, hn2, g'⟩
    · exact absurd g.prop (h _ g.mem)
    · have e := hn.uniq hn2
      obtain rfl : n = n2 := by omega
      exact h'.uniq g'
theorem BestM.step {m : Option Int × S} (h : BestM en ld s m) : m.1 ∈ opts en ld s ∧ step en ld s m.1 = some m.2 := by
  have : m ∈ good en ld s := by
    rcases h with h | ⟨_, n, _, h⟩
    · exact h.mem
    · exact h.mem
  exact mem_good.mp this
/-- a state that lasts has a move to one that lasts -/
theorem lasts_succ (oke : OkEn en) (h : Lasts en ld s) : ∃ o ∈ opts en ld s, ∃ t, step en ld s o = some t ∧ Lasts en ld t := by
  rcases Classical.em (∃ o ∈ opts en ld s, ∃ t, step en ld s o = some t ∧ Lasts en ld t) with h1 | h1
  · exact h1
  · exfalso
    have key : ∀ os : List (Option Int), (∀ o ∈ os, o ∈ opts en ld s) → ∃ N, ∀ o ∈ os, ∀ t, step en ld s o = some t → ¬ hold en ld N t := by
      intro os
      induction os with
      | nil => intro _; exact ⟨0, fun o ho => (by cases ho)⟩
      | cons o os ih =>
        intro hm
        obtain ⟨N, hN⟩ := ih fun x hx => hm x (List.mem_cons_of_mem _ hx)
        cases e : step en ld s o with
        | none =>
          refine ⟨N, fun x hx t ht => ?_⟩
          rcases List.mem_cons.mp hx with rfl | hx
          · rw [e] at ht; cases ht
          · exact hN x hx t ht
        | some t =>
          have hnl : ¬ Lasts en ld t := fun hl => h1 ⟨o, hm o List.mem_cons_self, t, e, hl⟩
          obtain ⟨M, hM⟩ := Classical.not_forall.mp hnl
          refine ⟨max N M, fun x hx u hu hh => ?_⟩
          rcases List.mem_cons.mp hx with rfl | hx
          · rw [e] at hu
            cases hu
            exact hM (hold_mono (Nat.le_max_right _ _) hh)
          · exact hN x hx u hu (hold_mono (Nat.le_max_left _ _) hh)
    obtain ⟨N, hN⟩ := key (opts en ld s) fun _ h => h
    obtain ⟨o, ho, t, e, hh⟩ := h (N + 1)
    exact hN o ho t e hh
theorem BestM.lasts (oke : OkEn en) {m : Option Int × S} (h : BestM en ld s m) (l : Lasts en ld s) : Lasts en ld m.2 := by
  rcases h with h | ⟨h, _⟩
  · exact h.prop
  · obtain ⟨o, ho, t, e, hl⟩ := lasts_succ oke l
    exact absurd hl (h (o, t) (mem_good.mpr ⟨ho, e⟩))
theorem BestM.rank {m : Option Int × S} {n : Nat} (h : BestM en ld s m) (r : Rank en ld s (n + 1)) : Rank en ld m.2 n := by
  rcases h with h | ⟨_, k, hk, h'⟩
  · obtain ⟨ho, e⟩ := mem_good.mp h.mem
    exact (r.not (lasts_pred ho e h.prop)).elim
  · have := hk.uniq r
    obtain rfl : k = n := by omega
    exact h'.prop
end
end Z
set_option Elab.async false
set_option linter.all false
set_option maxRecDepth 100000
set_option maxHeartbeats 4000000
namespace Z
open PySem PySem.Spec PyProof.Rows L2
/-! ### a whole search; what its methods promise -/
structure SchF (P : Program) (w : World) (K : PySem.W.Frag) (G : Hp) (fs : List (Str × V)) (e l q0 sl kd : Addr) (en : List (Option Int)) (ld : List Int) (ST : List S) (ks : List (S × Addr × V)) : Prop where
  fe : fs.lookup ("ends" : Str) = some (.ref e)
  he : G e = some (.lst (en.map vO))
  fl : fs.lookup ("load" : Str) = some (.ref l)
  hl : G l = some (.lst (ld.map V.int))
  ff : fs.lookup ("first" : Str) = some (.ref q0)
  hf : StAt K G q0 (firstS en)
  fs' : fs.lookup ("states" : Str) = some (.ref sl)
  hs : StsAt K G sl ST
  fk : fs.lookup ("known" : Str) = some (.ref kd)
  hk : G kd = some (dN P w kd ks)
  kx : KeysAt K G ks
  nb : fs.lookup ("behind" : Str) = none
  nm : fs.lookup ("moves" : Str) = none
  nbe : fs.lookup ("best" : Str) = none
  nen : fs.lookup ("endless" : Str) = none
  nlo : fs.lookup ("longest" : Str) = none
  npa : fs.lookup ("paper" : Str) = none
  oke : OkEn en
  okl : OkLd ld
  hmany : manyS en ld ≤ 2000
  kn : Kn en ld ST ks
def SchAt (P : Program) (w : World) (K : PySem.W.Frag) (C : Addr) (G : Hp) (p : Addr) (en : List (Option Int)) (ld : List Int) (ST : List S) (ks : List (S × Addr × V)) : Prop := ∃ dx fs e l q0 sl kd, G p = some (.ins C dx fs) ∧ SchF P w K G fs e l q0 sl kd en ld ST ks
section
variable {P : Program} {w : World} {K : PySem.W.Frag} {C : Addr} {G G' H : Hp} {p e l q0 sl kd : Addr} {fs : List (Str × V)} {en : List (Option Int)} {ld : List Int} {ST : List S} {ks : List (S × Addr × V)} {s : S}
theorem SchF.mono (E : Same G G') (h : SchF P w K G fs e l q0 sl kd en ld ST ks) : SchF P w K G' fs e l q0 sl kd en ld ST ks :=
  ⟨h.fe, E _ _ h.he, h.fl, E _ _ h.hl, h.ff, h.hf.mono E, h.fs', h.hs.mono E, h.fk, E _ _ h.hk, h.kx.mono E, h.nb, h.nm, h.nbe, h.nen, h.nlo, h.npa, h.oke, h.okl, h.hmany, h.kn⟩
theorem SchAt.mono (E : Same G G') (h : SchAt P w K C G p en ld ST ks) : SchAt P w K C G' p en ld ST ks := by
  obtain ⟨dx, fs, e, l, q0, sl, kd, h1, h2⟩ := h
  exact ⟨dx, fs, e, l, q0, sl, kd, E _ _ h1, h2.mono E⟩
theorem SchF.sea {dx : Addr} (h : SchF P w K G fs e l q0 sl kd en ld ST ks) (hp : H p = some (.ins C dx fs)) : SeA C G H p en ld fs := ⟨dx, e, l, hp, h.fe, h.he, h.fl, h.hl⟩
theorem SchF.few (h : SchF P w K G fs e l q0 sl kd en ld ST ks) : ST.length ≤ 2000 := Nat.le_trans (states_le h.kn.sto.nd fun s hs => (h.kn.sto.re s hs).ok h.okl.l1 h.oke) h.hmany
theorem SchF.ok (h : SchF P w K G fs e l q0 sl kd en ld ST ks) (hs : s ∈ ST) : OkS en ld s := (h.kn.sto.re s hs).ok h.okl.l1 h.oke
end
def spBest (P : Program) (w : World) (K : PySem.W.Frag) (C : Addr) : Sp := fun vs H Q _ => ∃ (G : Hp) (p q : Addr) (en : List (Option Int)) (ld : List Int) (ST : List S) (ks : List (S × Addr × V)) (s : S), vs = [.ref p, .ref q] ∧ Same G H ∧ SchAt P w K C G p en ld ST ks ∧ s ∈ ST ∧ StAt K G q s ∧ (Lasts en ld s ∨ ∃ n, Rank en ld s (n + 1)) ∧
  ∀ a o t G' H', Gr No G H G' H' → MvAt K G' a (o, some t) → BestM en ld s (o, t) → Q (.ref a) H'
theorem i_best {P : Program} {w : World} {K : PySem.W.Frag} {C : Addr} {X : Addr → Prop} {G0 H0 G H : Hp} {Q : VK} {E : XK} {p q : Addr} {en : List (Option Int)} {ld : List Int} {ST : List S} {ks : List (S × Addr × V)} {s : S} (g : Gr X G0 H0 G H) (sc : SchAt P w K C G p en ld ST ks) (hs : s ∈ ST) (hq : StAt K G q s) (hb : Lasts en ld s ∨ ∃ n, Rank en ld s (n + 1))
    (k : ∀ a o t r G' H', Gr No G H G' H' → Gr X G0 H0 G' H' → SqT K G' a [vO o, .ref r] → StAt K G' r t → BestM en ld s (o, t) → Q (.ref a) H') : spBest P w K C (.ref p :: ([.ref q] ++ [])) H Q E :=
  ⟨G, p, q, en, ld, ST, ks, s, rfl, g.sub, sc, hs, hq, hb, fun a o t G' H' s h b => by
    obtain ⟨v, h1, r, rfl, h2⟩ := h
    exact k a o t r G' H' s (g.seqN s) h1 h2 b⟩
def dM (m : Option Int × S) : PyData := .tuple [dO m.1, dS m.2]
theorem dk_M (m : Option Int × S) : Dk 3 (dM m) := dk_tup fun d h => by
  simp only [List.mem_cons, List.not_mem_nil, or_false] at h
  rcases h with rfl | rfl
  · exact dk_vO _
  · exact dk_S _
theorem dk_Ms (ms : List (Option Int × S)) : Dk 4 (.list (ms.map dM)) := dk_list fun d h => by
  obtain ⟨s, _, rfl⟩ := List.mem_map.mp h
  exact dk_M s
abbrev GdAt (K : PySem.W.Frag) (G : Hp) (a : Addr) (m : Option Int × S) : Prop := MvAt K G a (m.1, some m.2)
theorem dp_St {K : PySem.W.Frag} {H : Hp} {q : Addr} {s : S} (h : StAt K H q s) : Dp K H (.ref q) (dS s) := by
  obtain ⟨r2, h1, h2⟩ := h
  exact .tup h1 (.cons (.int _) (.cons (.tup h2 (dpAll_ints _)) .nil))
theorem dp_goods {K : PySem.W.Frag} {H : Hp} {as : List Addr} {ms : List (Option Int × S)} (h : Paired (fun a m => GdAt K H a m) as ms) : DpAll K H (as.map V.ref) (ms.map dM) := by
  induction h with
  | nil => exact .nil
  | @cons q s _ _ r t ih =>
    obtain ⟨v, h1, q2, rfl, h2⟩ := r
    exact .cons (.tup h1 (.cons (dp_vO _) (.cons (dp_St h2) .nil))) ih
theorem gd_one {K : PySem.W.Frag} {G : Hp} {sq : List Addr} {ms : List (Option Int × S)} {i : Nat} {x : V} (pr : Paired (fun a m => GdAt K G a m) sq ms) (hx : (sq.map V.ref)[i]? = some x) : ∃ a o t r, x = .ref a ∧ ms[i]? = some (o, t) ∧ SqT K G a [vO o, .ref r] ∧ StAt K G r t ∧ i < ms.length := by
  obtain ⟨q, hq, rfl⟩ := map_at hx
  have hi : i < sq.length := (List.getElem?_eq_some_iff.mp hq).1
  have hl := Paired.len pr
  obtain ⟨v, h1, r, e, h2⟩ := Paired.at pr hq (List.getElem?_eq_getElem (show i < ms.length by omega))
  have e : v = .ref r := e
  subst e
  exact ⟨q, ms[i].1, ms[i].2, r, rfl, List.getElem?_eq_getElem (by omega), h1, h2, by omega⟩
section
variable {en : List (Option Int)} {ld : List Int} {F : List S} {s : S} {ks : List (S × Addr × V)}
theorem Kn.good_in (h : Kn en ld F ks) (hs : s ∈ F) {m : Option Int × S} (hm : m ∈ good en ld s) : m.2 ∈ F := by
  obtain ⟨ho, e⟩ := mem_good.mp hm
  exact h.sto.cl s hs _ ho _ e
/-- the lasting moves, by what is known -/
theorem Kn.lasting (h : Kn en ld F ks) (hs : s ∈ F) : ∀ m ∈ good en ld s, (!(valN ks m.2).isSome) = true ↔ Lasts en ld m.2 := by
  intro m hm
  rw [← h.none_iff (h.good_in hs hm)]
  cases valN ks m.2 <;> simp
/-- none lasts: the state's own number, the moves' numbers -/
theorem Kn.ranked (h : Kn en ld F ks) (hs : s ∈ F) (oke : OkEn en) (hb : Lasts en ld s ∨ ∃ n, Rank en ld s (n + 1)) (hn : ∀ m ∈ good en ld s, ¬ Lasts en ld m.2) : ∃ n, Rank en ld s (n + 1) ∧ (∀ m ∈ good en ld s, ∃ k : Nat, valN ks m.2 = some (.int (k : Nat)) ∧ Rank en ld m.2 k) ∧ ∃ m ∈ good en ld s, Rank en ld m.2 n := by
  rcases hb with hb | ⟨n, hr⟩
  · obtain ⟨o, ho, t, e, hl⟩ := lasts_succ oke hb
    exact absurd hl (hn (o, t) (mem_good.mpr ⟨ho, e⟩))
  · have key : ∀ m ∈ good en ld s, ∃ k : Nat, valN ks m.2 = some (.int (k : Nat)) ∧ Rank en ld m.2 k := by
      intro m hm
      cases e : valN ks m.2 with
      | none => exact absurd ((h.none_iff (h.good_in hs hm)).mp e) (hn m hm)
      | some v =>
        obtain ⟨k, rfl, hk⟩ := h.rk.val _ _ e
        exact ⟨k, rfl, hk⟩
    refine ⟨n, hr, key, ?_⟩
    obtain ⟨o, ho, t, e, hh⟩ := hr.1
    have hm : (o, t) ∈ good en ld s := mem_good.mpr ⟨ho, e⟩
    obtain ⟨k, hk1, hk2⟩ := key _ hm
    refine ⟨(o, t), hm, hh, fun h2 => ?_⟩
    exact hr.2 ⟨o, ho, t, e, h2⟩
end
end Z
set_option Elab.async false
set_option linter.all false
set_option maxRecDepth 100000
set_option maxHeartbeats 4000000
namespace Z
open PySem PySem.Spec PyProof.Rows L2
/-! ### going by the best moves -/
inductive Pth (en : List (Option Int)) (ld : List Int) : List (S × Option Int) → S → Prop
  | zero : Pth en ld [] (firstS en)
  | step {xs : List (S × Option Int)} {s t : S} {o : Option Int} : Pth en ld xs s → BestM en ld s (o, t) → Pth en ld (xs ++ [(s, o)]) t
def wrds (ld : List Int) (xs : List (S × Option Int)) : List (Option Int) := (xs.filter fun x => decide (ld.getD x.1.1.toNat 1 = 0)).map (·.2)
structure EndRes (en : List (Option Int)) (ld : List Int) (hd lp : List (Option Int)) : Prop where
  ex : ∃ xs s i o, Pth en ld xs s ∧ (xs.map (·.1)).Nodup ∧ xs[i]? = some (s, o) ∧ hd = wrds ld (xs.take i) ∧ lp = wrds ld (xs.drop i)
  la : Lasts en ld (firstS en)
structure LongRes (en : List (Option Int)) (ld : List Int) (n : Nat) (wd : List (Option Int)) : Prop where
  ex : ∃ xs s, Pth en ld xs s ∧ xs.length = n ∧ wd = wrds ld xs
  rk : Rank en ld (firstS en) n
section
variable {en : List (Option Int)} {ld : List Int} {xs : List (S × Option Int)} {s t : S} {o : Option Int} {ats : List (S × Addr × V)}
theorem wrds_snoc : wrds ld (xs ++ [(s, o)]) = wrds ld xs ++ (if ld.getD s.1.toNat 1 = 0 then [o] else []) := by
  unfold wrds
  rw [List.filter_append, List.map_append]
  congr 1
  show List.map _ (List.filter _ [(s, o)]) = _
  by_cases h : ld.getD s.1.toNat 1 = 0
  · rw [if_pos h, List.filter_cons_of_pos (by exact decide_eq_true h)]; rfl
  · rw [if_neg h, List.filter_cons_of_neg (by show ¬ decide _ = true; rw [decide_eq_true_iff]; exact h)]; rfl
theorem wrds_app {ys : List (S × Option Int)} : wrds ld (xs ++ ys) = wrds ld xs ++ wrds ld ys := by
  unfold wrds
  rw [List.filter_append, List.map_append]
theorem wrds_len : (wrds ld xs).length ≤ xs.length := by
  unfold wrds
  rw [List.length_map]
  exact List.length_filter_le _ _
theorem Pth.reach (h : Pth en ld xs s) : Reach en ld s := by
  induction h with
  | zero => exact .first
  | step _ b ih => exact .step ih b.step.1 b.step.2
theorem Pth.mem_reach (h : Pth en ld xs s) : ∀ x ∈ xs, Reach en ld x.1 := by
  induction h with
  | zero => intro x hx; cases hx
  | @step xs s t o p b ih =>
    intro x hx
    rcases List.mem_append.mp hx with h1 | h1
    · exact ih x h1
    · rw [List.mem_singleton.mp h1]; exact p.reach
/-- the dict of the states gone through -/
structure AtsOk (ld : List Int) (xs : List (S × Option Int)) (ats : List (S × Addr × V)) : Prop where
  ks : ats.map (·.1) = xs.map (·.1)
  val : ∀ s v, valN ats s = some v → ∃ i o, xs[i]? = some (s, o) ∧ v = .int ((wrds ld (xs.take i)).length : Nat)
theorem atsOk_zero : AtsOk ld [] [] := ⟨rfl, fun s v h => by cases h⟩
theorem AtsOk.new (h : AtsOk ld xs ats) (n : valN ats s = none) (q : Addr) (o : Option Int) : AtsOk ld (xs ++ [(s, o)]) (ats ++ [(s, q, .int ((wrds ld xs).length : Nat))]) := by
  refine ⟨by rw [List.map_append, List.map_append, h.ks]; rfl, fun t v e => ?_⟩
  rw [valN_snoc] at e
  cases e2 : valN ats t with
  | some u =>
    rw [e2] at e
    cases e
    obtain ⟨i, o2, h1, h2⟩ := h.val t _ e2
    have hi := (List.getElem?_eq_some_iff.mp h1).1
    refine ⟨i, o2, by rw [List.getElem?_append_left hi]; exact h1, ?_⟩
    rw [List.take_append_of_le_length (by omega)]
    exact h2
  | none =>
    rw [e2] at e
    have e : (if s = t then some (V.int ((wrds ld xs).length : Nat)) else none) = some v := e
    by_cases hst : s = t
    · rw [if_pos hst] at e
      cases e
      refine ⟨xs.length, o, by rw [List.getElem?_append_right (Nat.le_refl _), Nat.sub_self, ← hst]; rfl, ?_⟩
      rw [List.take_left]
    · rw [if_neg hst] at e
      cases e
theorem AtsOk.not (h : AtsOk ld xs ats) (n : valN ats s = none) : ¬ s ∈ xs.map (·.1) := by
  rw [← h.ks]
  intro hm
  obtain ⟨x, hx, e⟩ := List.mem_map.mp hm
  exact valN_none.mp n x hx e
theorem nodup_snoc {α : Type} {ys : List α} {y : α} (h : ys.Nodup) (n : ¬ y ∈ ys) : (ys ++ [y]).Nodup := by
  rw [List.nodup_append]
  exact ⟨h, by simp, fun a ha b hb e => n (by rw [← List.mem_singleton.mp hb, ← e]; exact ha)⟩
theorem drop_wrds {i : Nat} : (wrds ld xs).drop (wrds ld (xs.take i)).length = wrds ld (xs.drop i) := by
  have h : wrds ld xs = wrds ld (xs.take i) ++ wrds ld (xs.drop i) := by rw [← wrds_app, List.take_append_drop]
  rw [h, List.drop_left]
theorem take_wrds {i : Nat} : (wrds ld xs).take (wrds ld (xs.take i)).length = wrds ld (xs.take i) := by
  have h : wrds ld xs = wrds ld (xs.take i) ++ wrds ld (xs.drop i) := by rw [← wrds_app, List.take_append_drop]
  rw [h, List.take_left]
theorem wrds_take_len {i : Nat} : (wrds ld (xs.take i)).length ≤ (wrds ld xs).length := by
  have h : wrds ld xs = wrds ld (xs.take i) ++ wrds ld (xs.drop i) := by rw [← wrds_app, List.take_append_drop]
  rw [h, List.length_append]
  omega
end
/-- a row of the paper -/
def RowP (K : PySem.W.Frag) (G : Hp) (a : Addr) (x : S × Nat) : Prop := ∃ r, SqT K G a [.int x.1.1, .ref r, .int x.2] ∧ SqT K G r (x.1.2.map V.int)
theorem RowP.mono {K : PySem.W.Frag} {G G' : Hp} {a : Addr} {x : S × Nat} (e : Same G G') (h : RowP K G a x) : RowP K G' a x := by
  obtain ⟨r, h1, h2⟩ := h
  exact ⟨r, sqt e h1, sqt e h2⟩
structure PapRes (en : List (Option Int)) (ld : List Int) (ST : List S) (pp : List (S × Nat)) : Prop where
  ks : pp.map (·.1) = ST
  rk : ∀ x ∈ pp, Rank en ld x.1 x.2
def spEndless (P : Program) (w : World) (K : PySem.W.Frag) (C : Addr) : Sp := fun vs H Q _ => ∃ (G : Hp) (p : Addr) (en : List (Option Int)) (ld : List Int) (ST : List S) (ks : List (S × Addr × V)), vs = [.ref p] ∧ Same G H ∧ SchAt P w K C G p en ld ST ks ∧ Lasts en ld (firstS en) ∧
  ∀ r a b hd lp G' H', H a = none → H b = none → a ≠ b → Gr No G H G' H' → SqT K G' r [.ref a, .ref b] → At G' H' a (.lst (hd.map vO)) → At G' H' b (.lst (lp.map vO)) → EndRes en ld hd lp → Q (.ref r) H'
def spLongestS (P : Program) (w : World) (K : PySem.W.Frag) (C : Addr) : Sp := fun vs H Q _ => ∃ (G : Hp) (p : Addr) (en : List (Option Int)) (ld : List Int) (ST : List S) (ks : List (S × Addr × V)) (n : Nat), vs = [.ref p] ∧ Same G H ∧ SchAt P w K C G p en ld ST ks ∧ Rank en ld (firstS en) n ∧
  ∀ a wd G' H', H a = none → Gr No G H G' H' → At G' H' a (.lst (wd.map vO)) → LongRes en ld n wd → Q (.ref a) H'
def spPaper (P : Program) (w : World) (K : PySem.W.Frag) (C : Addr) : Sp := fun vs H Q _ => ∃ (G : Hp) (p : Addr) (en : List (Option Int)) (ld : List Int) (ST : List S) (ks : List (S × Addr × V)) (n : Nat), vs = [.ref p] ∧ Same G H ∧ SchAt P w K C G p en ld ST ks ∧ Rank en ld (firstS en) n ∧
  ∀ a as pp G' H', H a = none → Gr No G H G' H' → At G' H' a (.lst (as.map V.ref)) → Paired (fun a x => RowP K G' a x) as pp → PapRes en ld ST pp → Q (.ref a) H'
theorem Kn.reach {en : List (Option Int)} {ld : List Int} {F : List S} {s : S} {ks : List (S × Addr × V)} (h : Kn en ld F ks) (r : Reach en ld s) : s ∈ F := by
  induction r with
  | first => exact h.sto.fi
  | step _ ho e ih => exact h.sto.cl _ ih _ ho _ e
/-- so many beats held are no more than there are states -/
theorem rank_path {en : List (Option Int)} {ld : List Int} : ∀ {n : Nat} {s : S}, Rank en ld s (n + 1) → ∃ o ∈ opts en ld s, ∃ t, step en ld s o = some t ∧ Rank en ld t n := by
  intro n s h
  obtain ⟨o, ho, t, e, hh⟩ := h.1
  exact ⟨o, ho, t, e, hh, fun h2 => h.2 ⟨o, ho, t, e, h2⟩⟩
theorem rank_few {en : List (Option Int)} {ld : List Int} {F : List S} {s : S} {ks : List (S × Addr × V)} {n : Nat} (h : Kn en ld F ks) (hr : Rank en ld s n) (hs : s ∈ F) : n + 1 ≤ F.length := by
  have key : ∀ n s, Rank en ld s n → s ∈ F → ∃ l : List S, l.Nodup ∧ l.length = n + 1 ∧ ∀ x ∈ l, x ∈ F ∧ ∃ k, k ≤ n ∧ Rank en ld x k := by
    intro n
    induction n with
    | zero => exact fun s hr hs => ⟨[s], by simp, rfl, fun x hx => by rw [List.mem_singleton.mp hx]; exact ⟨hs, 0, Nat.le_refl _, hr⟩⟩
    | succ n ih =>
      intro s hr hs
      obtain ⟨o, ho, t, e, ht⟩ := rank_path hr
      obtain ⟨l, h1, h2, h3⟩ := ih t ht (h.sto.cl s hs o ho t e)
      refine ⟨s :: l, List.nodup_cons.mpr ⟨fun hm => ?_, h1⟩, by rw [List.length_cons, h2], fun x hx => ?_⟩
      · obtain ⟨_, k, hk, hk2⟩ := h3 s hm
        have := hr.uniq hk2
        omega
      · rcases List.mem_cons.mp hx with rfl | hx
        · exact ⟨hs, n + 1, Nat.le_refl _, hr⟩
        · obtain ⟨a, k, hk, hk2⟩ := h3 x hx
          exact ⟨a, k, by omega, hk2⟩
  obtain ⟨l, h1, h2, h3⟩ := key n s hr hs
  have := nodup_le h1 (ys := F) fun x hx => (h3 x hx).1
  omega
theorem i_catT {K : PySem.W.Frag} {H : Hp} {Q : VK} {a b : Addr} {xs ys : List V} (h1 : SqT K H a xs) (h2 : SqT K H b ys) (n1 : xs ≠ []) (n2 : ys ≠ []) (q : NewT (xs ++ ys) H Q) : rCatT K (.ref a) (.ref b) H Q :=
  ⟨a, b, xs, ys, rfl, rfl, h1, h2, n1, by rw [← List.length_append]; exact q.1, fun e => absurd e n2, fun _ => q.2⟩
theorem Kn.val_all {en : List (Option Int)} {ld : List Int} {F : List S} {s : S} {ks : List (S × Addr × V)} {n : Nat} (h : Kn en ld F ks) (hr : Rank en ld (firstS en) n) (hs : s ∈ F) : ∃ k : Nat, valN ks s = some (.int (k : Nat)) ∧ Rank en ld s k := by
  cases e : valN ks s with
  | none => exact (hr.not ((h.sto.re s hs).lasts (h.lasts hs e))).elim
  | some v =>
    obtain ⟨k, rfl, hk⟩ := h.rk.val s v e
    exact ⟨k, rfl, hk⟩
end Z
set_option Elab.async false
set_option linter.all false
set_option maxRecDepth 100000
set_option maxHeartbeats 4000000
namespace Z
open PySem PySem.Spec PyProof.Rows L2
/-! ### a search made; what held tells -/
def fS1 (e : Addr) : List (Str × V) := putF "ends" (.ref e) []
def fS2 (e l : Addr) : List (Str × V) := putF "load" (.ref l) (fS1 e)
def fS3 (e l q0 : Addr) : List (Str × V) := putF "first" (.ref q0) (fS2 e l)
def fS4 (e l q0 sl : Addr) : List (Str × V) := putF "states" (.ref sl) (fS3 e l q0)
def fS5 (e l q0 sl kd : Addr) : List (Str × V) := putF "known" (.ref kd) (fS4 e l q0 sl)
section
variable {e l q0 sl kd : Addr} {m : Str}
theorem fS1_no (h : ¬ m = "ends") : (fS1 e).lookup m = none := by
  unfold fS1
  rw [lookup_putF, if_neg h]
  rfl
theorem fS1_e : (fS1 e).lookup ("ends" : Str) = some (.ref e) := by
  unfold fS1
  rw [lookup_putF, if_pos rfl]
theorem fS2_up (h : ¬ m = "load") : (fS2 e l).lookup m = (fS1 e).lookup m := by
  unfold fS2
  rw [lookup_putF, if_neg h]
theorem fS2_l : (fS2 e l).lookup ("load" : Str) = some (.ref l) := by
  unfold fS2
  rw [lookup_putF, if_pos rfl]
theorem fS3_up (h : ¬ m = "first") : (fS3 e l q0).lookup m = (fS2 e l).lookup m := by
  unfold fS3
  rw [lookup_putF, if_neg h]
theorem fS3_f : (fS3 e l q0).lookup ("first" : Str) = some (.ref q0) := by
  unfold fS3
  rw [lookup_putF, if_pos rfl]
theorem fS4_up (h : ¬ m = "states") : (fS4 e l q0 sl).lookup m = (fS3 e l q0).lookup m := by
  unfold fS4
  rw [lookup_putF, if_neg h]
theorem fS4_s : (fS4 e l q0 sl).lookup ("states" : Str) = some (.ref sl) := by
  unfold fS4
  rw [lookup_putF, if_pos rfl]
theorem fS5_up (h : ¬ m = "known") : (fS5 e l q0 sl kd).lookup m = (fS4 e l q0 sl).lookup m := by
  unfold fS5
  rw [lookup_putF, if_neg h]
theorem fS5_k : (fS5 e l q0 sl kd).lookup ("known" : Str) = some (.ref kd) := by
  unfold fS5
  rw [lookup_putF, if_pos rfl]
theorem fS2_e : (fS2 e l).lookup ("ends" : Str) = some (.ref e) := by rw [fS2_up (by decide +kernel), fS1_e]
theorem fS3_e : (fS3 e l q0).lookup ("ends" : Str) = some (.ref e) := by rw [fS3_up (by decide +kernel), fS2_e]
theorem fS3_l : (fS3 e l q0).lookup ("load" : Str) = some (.ref l) := by rw [fS3_up (by decide +kernel), fS2_l]
theorem fS3_no (h1 : ¬ m = "ends") (h2 : ¬ m = "load") (h3 : ¬ m = "first") : (fS3 e l q0).lookup m = none := by rw [fS3_up h3, fS2_up h2, fS1_no h1]
theorem fS5_e : (fS5 e l q0 sl kd).lookup ("ends" : Str) = some (.ref e) := by rw [fS5_up (by decide +kernel), fS4_up (by decide +kernel), fS3_e]
theorem fS5_l : (fS5 e l q0 sl kd).lookup ("load" : Str) = some (.ref l) := by rw [fS5_up (by decide +kernel), fS4_up (by decide +kernel), fS3_l]
theorem fS5_f : (fS5 e l q0 sl kd).lookup ("first" : Str) = some (.ref q0) := by rw [fS5_up (by decide +kernel), fS4_up (by decide +kernel), fS3_f]
theorem fS5_s : (fS5 e l q0 sl kd).lookup ("states" : Str) = some (.ref sl) := by rw [fS5_up (by decide +kernel), fS4_s]
theorem fS5_no (h1 : ¬ m = "ends") (h2 : ¬ m = "load") (h3 : ¬ m = "first") (h4 : ¬ m = "states") (h5 : ¬ m = "known") : (fS5 e l q0 sl kd).lookup m = none := by rw [fS5_up h5, fS4_up h4, fS3_no h1 h2 h3]
theorem fS_len {f : Str} {v : V} {fs : List (Str × V)} : (putF f v fs).length ≤ fs.length + 1 := by
  induction fs with
  | nil => exact Nat.le_refl _
  | cons x xs ih =>
    unfold putF
    split
    · rw [List.length_cons, List.length_cons]; omega
    · rw [List.length_cons, List.length_cons]; omega
end
theorem manyF_ge : ∀ (en : List (Option Int)) (m : Int), 0 ≤ m → (∀ L, some L ∈ en → 0 ≤ L) → m ≤ manyF en m
  | [], m, _, _ => Int.le_refl m
  | none :: en, m, h0, h => manyF_ge en m h0 fun L hL => h L (List.mem_cons_of_mem _ hL)
  | some L :: en, m, h0, h => by
    have hL := h L List.mem_cons_self
    have h1 : m ≤ m * (L + 1) := by
      have := Int.mul_le_mul_of_nonneg_left (show (1 : Int) ≤ L + 1 by omega) h0
      rw [Int.mul_one] at this
      exact this
    exact Int.le_trans h1 (manyF_ge en _ (by omega) fun L hL => h L (List.mem_cons_of_mem _ hL))
theorem manyF_pre {en : List (Option Int)} {m : Nat} {i : Nat} (h : ∀ L, some L ∈ en → 0 ≤ L) : 0 ≤ manyF (en.take i) m ∧ manyF (en.take i) m ≤ manyF en m := by
  have h2 : 0 ≤ manyF (en.take i) m := Int.le_trans (Int.natCast_nonneg m) (manyF_ge _ _ (Int.natCast_nonneg m) fun L hL => h L (List.mem_of_mem_take hL))
  refine ⟨h2, ?_⟩
  have := manyF_ge (en.drop i) (manyF (en.take i) m) h2 fun L hL => h L (List.mem_of_mem_drop hL)
  have e : manyF en m = manyF (en.drop i) (manyF (en.take i) m) := by
    unfold manyF
    rw [← List.foldl_append, List.take_append_drop]
  rw [e]
  exact this
def spSInit (P : Program) (w : World) (K : PySem.W.Frag) (CM C : Addr) : Sp := fun vs H Q _ => ∃ (G : Hp) (p dx m l : Addr) (ws : List W3) (ld : List Int), vs = [.ref p, .ref m, .ref l] ∧ Same G H ∧ At G H p (.ins C dx []) ∧ MemAt K CM G m ws ∧ G l = some (.lst (ld.map V.int)) ∧ OkLd ld ∧ manyS (ws.map lim) ld ≤ 2000 ∧
  ∀ fs e q0 sl kd ST ks G' H', Gr (· = p) G H G' H' → At G' H' p (.ins C dx fs) → SchF P w K G' fs e l q0 sl kd (ws.map lim) ld ST ks → Q .non H'
theorem i_search {P : Program} {w : World} {K : PySem.W.Frag} {X : Addr → Prop} {G0 H0 G H : Hp} {Q : VK} {CM C : Addr} {E : XK} {m l : Addr} {ws : List W3} {ld : List Int} (g : Gr X G0 H0 G H) (M : MemAt K CM G m ws) (hl : G l = some (.lst (ld.map V.int))) (okl : OkLd ld) (hm : manyS (ws.map lim) ld ≤ 2000)
    (k : ∀ p ST ks G' H', H p = none → Gr No G H G' H' → Gr X G0 H0 G' H' → SchAt P w K C G' p (ws.map lim) ld ST ks → Q (.ref p) H') : MakeQ C (spSInit P w K CM C) E [.ref m, .ref l] H Q := by
  intro x dx nx ndx nex
  have s1 : Gr No G H G (upd H dx (.own x)) := Gr.new (Gr.refl g.sub) ndx
  have nx1 : (upd H dx (.own x)) x = none := by rw [upd_ne nex.symm]; exact nx
  have s2 : Gr No G H G (upd (upd H dx (.own x)) x (.ins C dx [])) := s1.new nx1
  refine ⟨G, x, dx, m, l, ws, ld, rfl, s2.sub, At.of s1 nx1, M, hl, okl, hm, fun fs e q0 sl kd ST ks G' H' s3 t sf => ⟨rfl, ?_⟩⟩
  have s4 : Gr No G H G' H' := s2.seq s3 fun c e => .inr (by rw [e]; exact nx)
  have s5 := s4.close t nx
  exact k x _ _ _ H' nx s5 (g.seqN s5) ⟨dx, fs, e, l, q0, sl, kd, upd_same, sf.mono (same_close t)⟩
/-- what held tells -/
def HeldV (K : PySem.W.Frag) (G' H' H : Hp) (r : Addr) (en : List (Option Int)) (ld : List Int) : Prop :=
  (∃ a b hd lp, H a = none ∧ H b = none ∧ a ≠ b ∧ SqT K G' r [.str "endless", .ref a, .ref b] ∧ At G' H' a (.lst (hd.map vO)) ∧ At G' H' b (.lst (lp.map vO)) ∧ EndRes en ld hd lp) ∨
  (∃ a b wd as pp n ST, H a = none ∧ H b = none ∧ a ≠ b ∧ SqT K G' r [.str "ends", .int (n : Nat), .ref a, .ref b] ∧ At G' H' a (.lst (wd.map vO)) ∧ LongRes en ld n wd ∧ At G' H' b (.lst (as.map V.ref)) ∧ Paired (fun a x => RowP K G' a x) as pp ∧ PapRes en ld ST pp ∧ StOk en ld ST)
def spHeld (K : PySem.W.Frag) (CM : Addr) : Sp := fun vs H Q _ => ∃ (G : Hp) (m l : Addr) (ws : List W3) (ld : List Int), vs = [.ref m, .ref l] ∧ Same G H ∧ MemAt K CM G m ws ∧ G l = some (.lst (ld.map V.int)) ∧ OkLd ld ∧ manyS (ws.map lim) ld ≤ 2000 ∧
  ∀ r G' H', Gr No G H G' H' → HeldV K G' H' H r (ws.map lim) ld → Q (.ref r) H'
theorem i_held {K : PySem.W.Frag} {X : Addr → Prop} {G0 H0 G H : Hp} {Q : VK} {CM : Addr} {E : XK} {m l : Addr} {ws : List W3} {ld : List Int} (g : Gr X G0 H0 G H) (M : MemAt K CM G m ws) (hl : G l = some (.lst (ld.map V.int))) (okl : OkLd ld) (hm : manyS (ws.map lim) ld ≤ 2000)
    (k : ∀ r G' H', Gr No G H G' H' → Gr X G0 H0 G' H' → HeldV K G' H' H r (ws.map lim) ld → Q (.ref r) H') : spHeld K CM ([.ref m, .ref l] ++ []) H Q E :=
  ⟨G, m, l, ws, ld, rfl, g.sub, M, hl, okl, hm, fun r G' H' s h => k r G' H' s (g.seqN s) h⟩
end Z
set_option Elab.async false
set_option linter.all false
set_option maxRecDepth 100000
set_option maxHeartbeats 4000000
namespace Z
open PySem PySem.Spec PyProof.Rows L2
/-! ### own limits, how many states; plans and what is held -/
def spLimL (K : PySem.W.Frag) : Sp := fun vs H Q _ => ∃ (G : Hp) (m : Addr) (ws : List W3), vs = [.ref m] ∧ Same G H ∧ TupL K G m (ws.map vW) ∧ OkWs ws ∧ ∀ p H', H p = none → Gr No G H G H' → At G H' p (.lst ((ws.map lim).map vO)) → Q (.ref p) H'
def spMany (K : PySem.W.Frag) : Sp := fun vs H Q _ => ∃ (G : Hp) (m l : Addr) (ws : List W3) (ld : List Int), vs = [.ref m, .ref l] ∧ Same G H ∧ TupL K G m (ws.map vW) ∧ OkWs ws ∧ G l = some (.lst (ld.map V.int)) ∧ ∀ H', Gr No G H G H' → Q (.int (manyS (ws.map lim) ld : Nat)) H'
section
variable {K : PySem.W.Frag} {X : Addr → Prop} {G0 H0 G H : Hp} {Q : VK} {E : XK} {m l : Addr} {ws : List W3} {ld : List Int}
theorem i_limL (g : Gr X G0 H0 G H) (hw : TupL K G m (ws.map vW)) (ok : OkWs ws) (k : ∀ p H', H p = none → Gr No G H G H' → Gr X G0 H0 G H' → At G H' p (.lst ((ws.map lim).map vO)) → Q (.ref p) H') : spLimL K ([.ref m] ++ []) H Q E :=
  ⟨G, m, ws, rfl, g.sub, hw, ok, fun p H' np s t => k p H' np s (g.seqN s) t⟩
theorem i_many (g : Gr X G0 H0 G H) (hw : TupL K G m (ws.map vW)) (ok : OkWs ws) (hl : G l = some (.lst (ld.map V.int))) (k : ∀ H', Gr No G H G H' → Gr X G0 H0 G H' → Q (.int (manyS (ws.map lim) ld : Nat)) H') : spMany K ([.ref m, .ref l] ++ []) H Q E :=
  ⟨G, m, l, ws, ld, rfl, g.sub, hw, ok, hl, fun H' s => k H' s (g.seqN s)⟩
end
/-- the state behind b beats of a plan -/
def agesAt (en : List (Option Int)) (m : Nat → Option Int) (b : Nat) : List Int := (List.range en.length).map fun i => if (en.getD i none).isSome then ((gl m (i : Nat) b : Nat) : Int) else 0
def stAt (en : List (Option Int)) (ld : List Int) (m : Nat → Option Int) (b : Nat) : S := (((b % ld.length : Nat) : Int), agesAt en m b)
/-- the mendings that count -/
def limM (en : List (Option Int)) (m : Nat → Option Int) (b : Nat) : Option Int := match m b with
  | none => none
  | some v => if (en.getD v.toNat none).isSome then some v else none
section
variable {en : List (Option Int)} {ld : List Int} {m : Nat → Option Int} {b : Nat}
theorem agesAt_get {i : Nat} (hi : i < en.length) : (agesAt en m b).getD i 0 = if (en.getD i none).isSome then ((gl m (i : Nat) b : Nat) : Int) else 0 := by
  unfold agesAt
  rw [List.getD_eq_getElem?_getD, List.getElem?_map, List.getElem?_range hi]
  rfl
theorem agesAt_take (n : Nat) (hn : n < en.length) : (List.range (n + 1)).map (fun i => if (en.getD i none).isSome then ((gl m (i : Nat) b : Nat) : Int) else 0) = (List.range n).map (fun i => if (en.getD i none).isSome then ((gl m (i : Nat) b : Nat) : Int) else 0) ++ [if (en.getD n none).isSome then ((gl m (n : Nat) b : Nat) : Int) else 0] := by
  rw [List.range_succ, List.map_append]
  rfl
/-- one beat by a plan -/
theorem beh_sched (hok : ∀ i L, i < en.length → en.getD i none = some L → ((gl m (i : Nat) (b + 1) : Nat) : Int) ≤ L) : ∀ n, n ≤ en.length → beh en (agesAt en m b) (m b) n = some ((List.range n).map fun i => if (en.getD i none).isSome then ((gl m (i : Nat) (b + 1) : Nat) : Int) else 0)
  | 0, _ => rfl
  | n + 1, hn => by
    rw [beh, beh_sched hok n (by omega)]
    have h1 : nx1 en (agesAt en m b) (m b) n = some (if (en.getD n none).isSome then ((gl m (n : Nat) (b + 1) : Nat) : Int) else 0) := by
      unfold nx1
      have hok := hok n
      cases he : en.getD n none with
      | none => rfl
      | some L =>
        have h2 := hok L hn he
        have h3 : (if m b = some ((n : Nat) : Int) then (1 : Int) else (agesAt en m b).getD n 0 + 1) = ((gl m (n : Nat) (b + 1) : Nat) : Int) := by
          rw [gl, agesAt_get (by omega), he]
          split
          · rfl
          · simp
        show (if L < (if m b = some ((n : Nat) : Int) then (1 : Int) else (agesAt en m b).getD n 0 + 1) then none else some (if m b = some ((n : Nat) : Int) then (1 : Int) else (agesAt en m b).getD n 0 + 1)) = _
        rw [h3, if_neg (by omega)]
        rfl
    rw [h1]
    show some (_ ++ [_]) = _
    rw [← agesAt_take n (by omega)]
theorem step_sched (l1 : 1 ≤ ld.length) (hok : ∀ i L, i < en.length → en.getD i none = some L → ((gl m (i : Nat) (b + 1) : Nat) : Int) ≤ L) : step en ld (stAt en ld m b) (m b) = some (stAt en ld m (b + 1)) := by
  unfold step
  rw [show (stAt en ld m b).2 = agesAt en m b from rfl, beh_sched hok en.length (Nat.le_refl _)]
  show some (_, _) = some (stAt en ld m (b + 1))
  unfold stAt
  congr 2
  show (((b % ld.length : Nat) : Int) + 1) % (ld.length : Nat) = (((b + 1) % ld.length : Nat) : Int)
  rw [← Nat.mod_add_mod]
  exact (Int.natCast_emod (b % ld.length + 1) ld.length).symm
theorem stAt_zero (en : List (Option Int)) (ld : List Int) (m : Nat → Option Int) : stAt en ld m 0 = firstS en := by
  unfold stAt firstS agesAt
  rw [Nat.zero_mod]
  congr 1
  refine List.ext_getElem (by simp) fun i h1 h2 => ?_
  rw [List.getElem_map, List.getElem_replicate]
  show (if _ then ((0 : Nat) : Int) else 0) = 0
  split <;> rfl
/-- a mending that counts can be chosen -/
theorem opts_sched (hm : ∀ v, m b = some v → 0 ≤ v ∧ v < en.length ∧ (en.getD v.toNat none).isSome ∧ ld.getD (b % ld.length) 1 = 0) : m b ∈ opts en ld (stAt en ld m b) := by
  unfold opts
  cases h : m b with
  | none => exact List.mem_cons_self
  | some v =>
    obtain ⟨h0, h1, h2, h3⟩ := hm v h
    refine List.mem_cons_of_mem _ ?_
    rw [if_pos (by show ld.getD ((b % ld.length : Nat) : Int).toNat 1 = 0; rw [Int.toNat_natCast]; exact h3)]
    unfold lims
    exact List.mem_map.mpr ⟨v.toNat, List.mem_filter.mpr ⟨List.mem_range.mpr (by omega), h2⟩, by rw [show ((v.toNat : Nat) : Int) = v by omega]⟩
theorem hold_sched (l1 : 1 ≤ ld.length) (hm : ∀ b v, m b = some v → 0 ≤ v ∧ v < en.length ∧ (en.getD v.toNat none).isSome ∧ ld.getD (b % ld.length) 1 = 0) {N : Nat} (hok : ∀ b, b < N → ∀ i L, i < en.length → en.getD i none = some L → ((gl m (i : Nat) (b + 1) : Nat) : Int) ≤ L) : ∀ k b, b + k ≤ N → hold en ld k (stAt en ld m b)
  | 0, _, _ => True.intro
  | k + 1, b, h => ⟨m b, opts_sched (hm b), stAt en ld m (b + 1), step_sched l1 (hok b (by omega)), hold_sched l1 hm hok k (b + 1) (by omega)⟩
theorem gl_limM {i : Nat} (h : (en.getD i none).isSome) : ∀ t, gl (limM en m) (i : Nat) t = gl m (i : Nat) t
  | 0 => rfl
  | t + 1 => by
    have e : limM en m t = some ((i : Nat) : Int) ↔ m t = some ((i : Nat) : Int) := by
      unfold limM
      cases hm : m t with
      | none => exact Iff.rfl
      | some v =>
        show (if (en.getD v.toNat none).isSome then some v else none) = some ((i : Nat) : Int) ↔ some v = some ((i : Nat) : Int)
        constructor
        · intro h2
          split at h2
          · exact h2
          · cases h2
        · intro h2
          cases h2
          rw [Int.toNat_natCast, if_pos h]
    rw [gl, gl, gl_limM h t]
    by_cases h2 : m t = some ((i : Nat) : Int)
    · rw [if_pos h2, if_pos (e.mpr h2)]
    · rw [if_neg h2, if_neg fun z => h2 (e.mp z)]
/-- a plan by which no word is over its limit for N beats: so many are held -/
theorem hold_plan (l1 : 1 ≤ ld.length) (hm : ∀ b v, m b = some v → 0 ≤ v ∧ v < en.length ∧ ld.getD (b % ld.length) 1 = 0) {N : Nat} (hok : ∀ b, b < N → ∀ i L, i < en.length → en.getD i none = some L → ((gl m (i : Nat) (b + 1) : Nat) : Int) ≤ L) : hold en ld N (firstS en) := by
  rw [← stAt_zero en ld (limM en m)]
  refine hold_sched (N := N) l1 (fun b v h => ?_) (fun b hb i L hi he => ?_) N 0 (by omega)
  · unfold limM at h
    cases h2 : m b with
    | none => rw [h2] at h; cases h
    | some u =>
      rw [h2] at h
      have h : (if (en.getD u.toNat none).isSome then some u else none) = some v := h
      split at h
      · rename_i hs
        cases h
        obtain ⟨a, c, d⟩ := hm b v h2
        exact ⟨a, c, hs, d⟩
      · cases h
  · rw [gl_limM (by rw [he]; rfl)]
    exact hok b hb i L hi he
end
theorem lim_getD {ws : List W3} {i : Nat} (hi : i < ws.length) : (ws.map lim).getD i none = lim (ws.getD i d3) := by
  rw [List.getD_eq_getElem?_getD, List.getElem?_map, getD_at (d := d3) hi]
  rfl
/-- no loss before N: no word over its limit -/
theorem no_lose {ws : List W3} (okw : OkWs ws) {m : Nat → Option Int} {N : Nat} (h : ∀ v t, t < N → ¬ Lose ws m v t) {i : Nat} {L : Int} (hi : i < ws.length) (he : lim (ws.getD i d3) = some L) : ∀ b, b ≤ N → ((gl m (i : Nat) b : Nat) : Int) ≤ L
  | 0, _ => by
    have := (lim_nat (okw.ok _ (getD_mem (d := d3) hi)) he).1
    show ((0 : Nat) : Int) ≤ L
    omega
  | b + 1, hb => by
    have ih := no_lose okw h hi he b (by omega)
    have h0 := (lim_nat (okw.ok _ (getD_mem (d := d3) hi)) he).1
    have hn := h i b (by omega)
    have h1 : ((gl m (i : Nat) (b + 1) : Nat) : Int) ≤ L + 1 := by
      rw [gl]
      split
      · omega
      · omega
    rcases Int.lt_or_le L (gl m (i : Nat) (b + 1) : Nat) with h2 | h2
    · exact absurd ⟨hi, L, he, by omega⟩ hn
    · exact h2
theorem mend_free {ld : List Int} {hd lp : List (Option Int)} {b : Nat} {v : Int} (h : mend ld hd lp b = some v) : ld.getD (b % ld.length) 1 = 0 := by
  unfold mend at h
  split at h
  · assumption
  · cases h
/-- by breaking's answer -/
theorem brk_hold {ws : List W3} {ld : List Int} {hd lp : List (Option Int)} (okw : OkWs ws) (okl : OkLd ld) (okp : OkPl ws.length hd lp) {N : Nat} (h : ∀ v t, t < N → ¬ Lose ws (mend ld hd lp) v t) : hold (ws.map lim) ld N (firstS (ws.map lim)) := by
  refine hold_plan (m := mend ld hd lp) okl.l1 (fun b v hv => ?_) (fun b hb i L hi he => ?_)
  · obtain ⟨a, c⟩ := mend_ok okp b v hv
    rw [List.length_map]
    exact ⟨a, c, mend_free hv⟩
  · rw [List.length_map] at hi
    rw [lim_getD hi] at he
    exact no_lose okw h hi he (b + 1) (by omega)
theorem brk_none_lasts {ws : List W3} {ld : List Int} {hd lp : List (Option Int)} (okw : OkWs ws) (okl : OkLd ld) (okp : OkPl ws.length hd lp) (h : BrkSem ws (mend ld hd lp) none) : Lasts (ws.map lim) ld (firstS (ws.map lim)) := fun N => brk_hold okw okl okp fun v t _ => h v t
theorem brk_some_hold {ws : List W3} {ld : List Int} {hd lp : List (Option Int)} {t w : Nat} (okw : OkWs ws) (okl : OkLd ld) (okp : OkPl ws.length hd lp) (h : BrkSem ws (mend ld hd lp) (some (t, w))) : hold (ws.map lim) ld t (firstS (ws.map lim)) := brk_hold okw okl okp fun v s hs hl => by
  rcases h.2 v s hl with h1 | h1
  · omega
  · omega
end Z
set_option Elab.async false
set_option linter.all false
set_option maxRecDepth 100000
set_option maxHeartbeats 4000000
namespace Z
open PySem PySem.Spec PyProof.Rows L2
/-! ### strings; what is held, without the lists -/
section
variable {K : PySem.W.Frag} {H : Hp} {Q : VK}
theorem i_eqSt {x : Str} (q : Q (.bl true) H) : rEq (.str x) (.str x) H Q := ⟨rfl, by rw [decide_eq_true rfl]; exact q⟩
theorem i_eqSf {x y : Str} (n : ¬ x = y) (q : Q (.bl false) H) : rEq (.str x) (.str y) H Q := ⟨rfl, by rw [decide_eq_false (fun e => n (by injection e))]; exact q⟩
end
theorem s_ee : ¬ (("endless" : Str) = ("ends" : Str)) := by decide +kernel
theorem s_ee2 : ¬ (("ends" : Str) = ("endless" : Str)) := by decide +kernel
/-- the tuple held tells, by what the program shows of it -/
def HeldT (K : PySem.W.Frag) (G : Hp) (r : Addr) (en : List (Option Int)) (ld : List Int) : Prop :=
  (∃ a b, SqT K G r [.str "endless", .ref a, .ref b] ∧ Lasts en ld (firstS en)) ∨ (∃ a b n, SqT K G r [.str "ends", .int (n : Nat), .ref a, .ref b] ∧ Rank en ld (firstS en) n)
theorem HeldT.mono {K : PySem.W.Frag} {G G' : Hp} {r : Addr} {en : List (Option Int)} {ld : List Int} (e : Same G G') (h : HeldT K G r en ld) : HeldT K G' r en ld := by
  rcases h with ⟨a, b, h1, h2⟩ | ⟨a, b, n, h1, h2⟩
  · exact .inl ⟨a, b, sqt e h1, h2⟩
  · exact .inr ⟨a, b, n, sqt e h1, h2⟩
theorem HeldV.t {K : PySem.W.Frag} {G' H' H : Hp} {r : Addr} {en : List (Option Int)} {ld : List Int} (h : HeldV K G' H' H r en ld) : HeldT K G' r en ld := by
  rcases h with ⟨a, b, hd, lp, _, _, _, h1, _, _, h2⟩ | ⟨a, b, wd, as, pp, n, ST, _, _, _, h1, _, h2, _⟩
  · exact .inl ⟨a, b, h1, h2.la⟩
  · exact .inr ⟨a, b, n, h1, h2.rk⟩
theorem rgV_vO (k : Nat) : rgV 0 (k : Int) = ((List.range k).map fun (i : Nat) => some ((i : Nat) : Int)).map vO := by
  unfold rgV
  rw [List.map_map, Int.sub_zero, Int.toNat_natCast]
  refine List.map_congr_left fun i _ => ?_
  show V.int (0 + (i : Int)) = V.int i
  rw [Int.zero_add]
theorem cutV_zero (xs : List V) : cutV xs none (some 0) = [] := by
  have := cutV_take (xs := xs) (c := 0) (Nat.zero_le _)
  rw [List.take_zero] at this
  exact this
end Z
set_option Elab.async false
set_option linter.all false
set_option maxRecDepth 100000
set_option maxHeartbeats 4000000
/-! The program's exceptions: what the text says of their classes, what a refusal is told as. -/
namespace Z
open PySem PySem.Spec PyProof.Rows L2 HotX L2H LamX
/-! ### the classes -/
def exWords : List Str := ["memory", "load", "plan", "strokes", "many", "text"]
def exWord (i : Nat) : Str := exWords.getD i "text"
def exFld (i : Nat) : Str := if i = 5 then "row" else "number"
/-- 0 .. 5: BadMemory, BadLoad, BadPlan, BadStrokes, TooMany, BadText; 6: ScrubError -/
structure XF (K : PySem.W.Frag) (mg : Str → Option Value) (c : Nat → Addr) : Prop where
  g0 : mg "BadMemory" = some (.ref (c 0))
  g1 : mg "BadLoad" = some (.ref (c 1))
  g2 : mg "BadPlan" = some (.ref (c 2))
  g3 : mg "BadStrokes" = some (.ref (c 3))
  g4 : mg "TooMany" = some (.ref (c 4))
  g5 : mg "BadText" = some (.ref (c 5))
  g6 : mg "ScrubError" = some (.ref (c 6))
  nV : mg "ValueError" = none
  kit : ∀ i j, i < 6 → j < 6 → PySem.W.kitOne K (.ref (c i)) (.ref (c j)) = some (decide (i = j))
  kV : ∀ i, i < 6 → PySem.W.kitOne K (.ref (c i)) (.type "ValueError") = some true
  exm : ∀ i, i < 6 → PySem.W.exmOne K (.ref (c i)) (.ref (c 6)) = some true
  cls : ∀ i, i < 6 → ExcC K (c i)
  xf : ∀ i, i < 6 → XfC K (c i)
  nat : ∀ i, i < 6 → PySem.W.findIn K (.ref (c i)) (exFld i) = some none
theorem exWord_inj : ∀ i, i < 6 → ∀ j, j < 6 → exWord i = exWord j → i = j := by
  have h : ∀ i : Fin 6, ∀ j : Fin 6, exWord i.1 = exWord j.1 → i.1 = j.1 := by decide +kernel
  exact fun i hi j hj => h ⟨i, hi⟩ ⟨j, hj⟩
def dictOk (H : Hp) (d : Option Addr) : Prop := ∀ dd, d = some dd → ∃ fs, H dd = some (.xd fs)
theorem dictOk.mono {H H' : Hp} {d : Option Addr} (h : dictOk H d) (s : Same H H') : dictOk H' d := fun dd e => (h dd e).imp fun fs q => s _ _ q
/-- whether it is the j-th kind -/
def spIsA (c : Nat → Addr) (a : Addr) (cls : Value) (d : Option Addr) : Sp := fun vs H Q _ => ∃ i j, i < 6 ∧ j < 6 ∧ vs = [.ref a, .str (exWord j)] ∧ cls = .ref (c i) ∧ dictOk H d ∧ ∀ H', Same H H' → Q (.bl (decide (i = j))) H'
def spIs (c : Nat → Addr) (p : Addr × Obj) : Sp := fun vs H Q E => ∃ cls d, Zc cls d p.2 ∧ (∃ vs, p.2.data = .fields vs) ∧ spIsA c p.1 cls d vs H Q E
/-- what is told of an exception -/
def ToldQ (c : Nat → Addr) (cls : Value) (d : Option Addr) (H' : Hp) (Q : VK) : Prop := ∃ i, i < 6 ∧ cls = .ref (c i) ∧ dictOk H' d ∧
  ((i = 0 ∨ i = 3 ∨ i = 5) → ∃ dd fs n, d = some dd ∧ H' dd = some (.xd fs) ∧ fs.lookup (exFld i) = some (.int n) ∧ ∀ l H'', Same H' H'' → H' l = none → H'' l = some (.lst [.str (exWord i), .int n]) → Q (.ref l) H'') ∧
  ((i = 1 ∨ i = 2 ∨ i = 4) → ∀ l H'', Same H' H'' → H' l = none → H'' l = some (.lst [.str (exWord i)]) → Q (.ref l) H'')
def TToldX (c : Nat → Addr) (tl : XK → Hp → VK → Prop) (H : Hp) (Q : VK) : Prop := tl (fun cls d H' => ToldQ c cls d H' Q) H (fun _ H' => Q .non H')
section
variable {K : PySem.W.Frag} {H : Hp} {Q : VK} {x y : Str}
theorem i_eqS (q : Q (.bl (decide (x = y))) H) : rEq (.str x) (.str y) H Q := ⟨rfl, by
  have e : decide (V.str x = V.str y) = decide (x = y) := decide_eq_decide.mpr ⟨fun h => V.str.inj h, fun h => by rw [h]⟩
  rw [e]; exact q⟩
/-- lists of truth values -/
theorem dp_bools {K : PySem.W.Frag} {G : Hp} : ∀ bs : List Bool, DpAll K G (bs.map V.bl) (bs.map PyData.bool)
  | [] => .nil
  | b :: bs => .cons (.bl b) (dp_bools bs)
theorem dk_bools {k : Nat} (bs : List Bool) : Dk (k + 1) (.list (bs.map PyData.bool)) := dk_list fun d hd => by
  obtain ⟨b, _, rfl⟩ := List.mem_map.mp hd
  exact ⟨rfl, Nat.zero_le _⟩
end
/-! ### readings -/
section
variable {X : Cx}
/-- e.f, e the exception that is handled -/
def tXfA (K : PySem.W.Frag) (a : Addr) (cls : Value) (d : Option Addr) (f : Str) (te : TE) : TE := fun σ H Q => ∃ C, cls = .ref C ∧ XfC K C ∧ PySem.W.findIn K (.ref C) f = some none ∧ tXf a cls d C f te σ H Q
theorem pe_xfA {a : Addr} {oe : Obj} {cls : Value} {d : Option Addr} {pn : List (Addr × Obj)} {e : Expr} {te : TE} {pos : Pos} {n : Str} (hz : Zc cls d oe) (hf : ∃ vs, oe.data = .fields vs) (he : PE (X.suite a ((a, oe) :: pn)) e te)
    (hb : attributeBase e n X.env (eval e X.env) = eval e X.env := by rfl) : PE (X.suite a ((a, oe) :: pn)) (.Attribute e n pos) (tXfA X.K a cls d n te) :=
  ⟨fun pins s σ H Q I ⟨C, _, T, hno, h⟩ => (pe_xf T hno hz hf he hb).run pins s σ H Q I h⟩
theorem i_xfA {K : PySem.W.Frag} {a C dd : Addr} {f : Str} {te : TE} {σ : L2.St} {H : Hp} {Q : VK} (T : XfC K C) (hno : PySem.W.findIn K (.ref C) f = some none) (q : te σ H fun x H1 => x = .ref a ∧ ∃ (fs : List (Str × V)) (v : V), H1 dd = some (.xd fs) ∧ fs.lookup f = some v ∧ Q v H1) : tXfA K a (.ref C) (some dd) f te σ H Q := by
  refine ⟨C, rfl, T, hno, ?_⟩
  have e : (fun x H1 => x = V.ref a ∧ Value.ref C = .ref C ∧ ∃ (d2 : Addr) (fs : List (Str × V)) (v : V), some dd = some d2 ∧ H1 d2 = some (.xd fs) ∧ fs.lookup f = some v ∧ Q v H1) = fun x H1 => x = V.ref a ∧ ∃ (fs : List (Str × V)) (v : V), H1 dd = some (.xd fs) ∧ fs.lookup f = some v ∧ Q v H1 := by
    funext x H1
    refine propext ⟨fun ⟨h1, _, d2, fs, v, h2, h3⟩ => ⟨h1, fs, v, by cases h2; exact h3⟩, fun ⟨h1, fs, v, h3⟩ => ⟨h1, rfl, dd, fs, v, rfl, h3⟩⟩
  show te σ H fun x H1 => x = V.ref a ∧ Value.ref C = .ref C ∧ ∃ (d2 : Addr) (fs : List (Str × V)) (v : V), some dd = some d2 ∧ H1 d2 = some (.xd fs) ∧ fs.lookup f = some v ∧ Q v H1
  rw [e]
  exact q
/-- what isinstance asks of the exception -/
theorem i_isP {K : PySem.W.Frag} {mg : Str → Option Value} {c : Nat → Addr} {a : Addr} {i j : Nat} {d : Option Addr} {H : Hp} {Q : VK} (Y : XF K mg c) (hi : i < 6) (hj : j < 6) (hd : dictOk H d) (q : Q (.bl (decide (i = j))) H) : rIsP K a (c i) d [.ref a, .ref (c j)] H Q := ⟨_, _, _, rfl, .own _, Y.kit i j hi hj, hd, q⟩
theorem i_isPV {K : PySem.W.Frag} {mg : Str → Option Value} {c : Nat → Addr} {a : Addr} {i : Nat} {d : Option Addr} {H : Hp} {Q : VK} (Y : XF K mg c) (hi : i < 6) (hd : dictOk H d) (q : Q (.bl true) H) : rIsP K a (c i) d [.ref a, .ty "ValueError"] H Q := ⟨_, _, _, rfl, .ty _, Y.kV i hi, hd, q⟩
end
/-! ### exceptions made and raised -/
/-- __init__(self, n) of an own exception -/
def spXI (K : PySem.W.Frag) (fld : Str) : Sp := fun vs H Q _ => ∃ (a : Addr) (n : Int) (C : Addr), vs = [.ref a, .int n] ∧ OexC K C ∧ PySem.W.findIn K (.ref C) fld = some none ∧ H a = some (exo a C none) ∧ ∀ dx, H dx = none → dx ≠ a → Q .non (upd (upd H dx (exd dx [(fld, .int n)])) a (exo a C (some dx)))
/-- such a class, as its makers see it -/
structure CalXc (P : Program) (w : World) (K : PySem.W.Frag) (mg : Str → Option Value) (base : Heap) (x : Str) (C : Addr) (par fld : Str) : Prop where
  gC : mg x = some (.ref C)
  ox : OexC K C
  no : PySem.W.findIn K (.ref C) fld = some none
  ex : ∃ (fI : Addr) (fd : FuncData), PySem.W.findIn K (.ref C) "__init__" = some (some (.ref fI)) ∧ PySem.W.typeIn K (.ref fI) = some (.type "function") ∧ Binds K fd ["self", par] [] ∧ FnOk P w K mg base CX0 1 fI fd ["self", par] (spXI K fld)
def MkoQ (K : PySem.W.Frag) (C : Addr) (fld : Str) (vs : List V) (H1 : Hp) (Q : XK) : Prop := vs.length ≤ 1000 ∧ ∀ a, H1 a = none → spXI K fld (.ref a :: (vs ++ [])) (upd H1 a (exo a C none))
  (fun v H2 => v = .non ∧ ∃ (d : Addr) (fs : List (Str × V)), H2 a = some (exo a C (some d)) ∧ H2 d = some (exd d fs) ∧ H1 d = none ∧ Q (.ref C) (some d) (upd (del H2 a) d (.xd fs))) (fun _ _ _ => False)
def tRaiX (K : PySem.W.Frag) (C : Addr) (fld : Str) (W : WX) (t : TA) : TS := fun _ σ H => t σ H fun vs H1 => MkoQ K C fld vs H1 fun cls d H' => W cls d σ H'
section
variable {X : Cx}
theorem ps_raiX {W : WX} {x : Str} {C : Addr} {par fld : Str} {e : Expr} {es : List Expr} {t : TA} {p pos pos' : Pos} (c : CalXc X.prog X.w X.K X.mg X.base x C par fld) (hr : Room 2 X.A) (tk : L2N.Takes X W) (ha : PA X (e :: es) t) (hc : X.calm = true := by rfl) (hg : Gl X x := by rfl)
    (hdb : (x == ("__debug__" : Str)) = false := by decide) (he : starEach (e :: es) X.env = (false, eval e X.env) :: starEach es X.env := by rfl) (hpl : (backTo pos (starEach es X.env)).any (·.1) = false := by rfl) :
    PS X (.Raise (some (.Call (.Name x p) (e :: es) [] pos)) none pos') (tRaiX X.K C fld W t) := by
  obtain ⟨fI, fd, iC, tI, hb, F⟩ := c.ex
  exact L2N.ps_raise hc tk (pmkN c.ox iC tI F hr hb pass0 c.gC ha hg hdb he hpl)
theorem i_raiX {K : PySem.W.Frag} {C : Addr} {fld : Str} {W : WX} {t : TA} {D : Ends} {σ : L2.St} {H : Hp} (q : t σ H fun vs H1 => MkoQ K C fld vs H1 fun cls d H' => W cls d σ H') : tRaiX K C fld W t D σ H := q
theorem mkoX {K : PySem.W.Frag} {C : Addr} {fld : Str} {n : Int} {H : Hp} {Q : XK} (T : OexC K C) (no : PySem.W.findIn K (.ref C) fld = some none) (q : ∀ dx H', H dx = none → Same H H' → H' dx = some (.xd [(fld, .int n)]) → Q (.ref C) (some dx) H') : MkoQ K C fld [.int n] H Q := by
  refine ⟨(show (1 : Nat) ≤ 1000 by decide), fun a na => ⟨a, n, C, rfl, T, no, upd_same, fun dx nd ne => ⟨rfl, dx, [(fld, .int n)], upd_same, ?_, ?_, ?_⟩⟩⟩
  · rw [upd_ne ne, upd_same]
  · rw [upd_ne ne] at nd
    exact nd
  · rw [upd_ne ne] at nd
    refine q dx _ nd (fun b o e => ?_) upd_same
    have n1 : b ≠ dx := ne_of_none e nd
    have n2 : b ≠ a := ne_of_none e na
    rw [upd_ne n1, del_ne n2, upd_ne n2, upd_ne n1, upd_ne n2]
    exact e
/-- an exception without a field -/
structure CalX0 (K : PySem.W.Frag) (mg : Str → Option Value) (x : Str) (C : Addr) : Prop where
  gC : mg x = some (.ref C)
  ex : PySem.W.excIn K C [.type "ValueError", .type "Exception", .type "BaseException", .type "object"] "ValueError.__new__" = true
  kp : PySem.W.keepIn K (.ref C) = true
  sb : PySem.W.subIn K (.ref C) (.type "BaseException") = some true
  ty : PySem.W.typeIn K (.ref C) = some (.type "type")
theorem ps_rai0 {W : WX} {x m : Str} {C : Addr} {j : Nat} {p p2 pos pos' : Pos} (c : CalX0 X.K X.mg x C) (tk : L2N.Takes X W) (hc : X.calm = true := by rfl) (hg : Gl X x := by rfl) (hdb : (x == ("__debug__" : Str)) = false := by decide) :
    PS X (.Raise (some (.Call (.Name x p) [.Constant (.str m) j p2] [] pos)) none pos') (fun _ σ H => W (.ref C) none σ H) :=
  L2N.ps_raise hc tk (L2N.pmk_own F.excBase_ValueError c.ex c.gC c.kp (raises_own c.sb c.ty) hg hdb)
end
/-! ### defs that raise -/
theorem okN {P : Program} {w : World} {K : PySem.W.Frag} {mg : Str → Option Value} {base : Heap} {x qual : Str} {st : Stmt} {f : Addr} {fd : FuncData} {N ps : List Str} {k : Nat} {sp : Sp} (F : Fun K x qual st f fd) (S : FnScope N ps (defScope st)) (len : ∀ vs H Q E, sp vs H Q E → vs.length = ps.length)
    (hbody : ∀ (cdv : Value) (A : Around) (outer : List Env) (s : Shared) (H : Hp) (vs : List V) (Q : VK) (E : XK), Room k (A.deeper (envOfC qual (defScope st) s.heap.objs.size f cdv)) → sp vs H Q E →
      ∃ t, PSs (cxOf (L2N.CX P w) P w K mg base N qual (defScope st) f cdv A outer s H E) (defBody st) t ∧ t { nx := fun _ H' => Q .non H', rt := Q } (L2.start N vs) H) : FnOk P w K mg base (L2N.CX P w) (k + 1) f fd ps sp := by
  obtain ⟨oc, od, kV, doc, pm, an, cdv, ct, osl, rfl, lk, hcd⟩ := F.ex
  exact fn_of lk hcd S len fun A outer s H vs Q E hr hsp => hbody cdv A outer s H vs Q E hr hsp
theorem tkN {P : Program} {w : World} {K : PySem.W.Frag} {mg : Str → Option Value} {base : Heap} {N : List Str} {q : Str} {sc : Scope} {f : Addr} {cd : Value} {A : Around} {outer : List Env} {s : Shared} {H : Hp} {E : XK} : L2N.Takes (cxOf (L2N.CX P w) P w K mg base N q sc f cd A outer s H E) (fun cls d _ H => E cls d H) :=
  L2N.takes_of (E₁ := fun e' s'' => L2N.CX P w outer H s E e' s'') rfl rfl rfl rfl
/-- the body's own code object is known -/
theorem okC {P : Program} {w : World} {K : PySem.W.Frag} {mg : Str → Option Value} {base : Heap} {x qual : Str} {st : Stmt} {f c : Addr} {fd : FuncData} {N ps : List Str} {k : Nat} {sp : Sp} (F : Fun K x qual st f fd) (hc : fd.code = .ref c) (S : FnScope N ps (defScope st)) (len : ∀ vs H Q E, sp vs H Q E → vs.length = ps.length)
    (hbody : ∀ (A : Around) (outer : List Env) (s : Shared) (H : Hp) (vs : List V) (Q : VK) (E : XK), Room k (A.deeper (envOfC qual (defScope st) s.heap.objs.size f (.ref c))) → sp vs H Q E →
      ∃ t, PSs (cxOf CX0 P w K mg base N qual (defScope st) f (.ref c) A outer s H E).nox (defBody st) t ∧ t { nx := fun _ H' => Q .non H', rt := Q } (L2.start N vs) H) : FnOk P w K mg base CX0 (k + 1) f fd ps sp := by
  obtain ⟨oc, od, kV, doc, pm, an, cdv, ct, osl, rfl, lk, hcd⟩ := F.ex
  cases (show cdv = .ref c from hc)
  refine fn_of lk hcd S len fun A outer s H vs Q E hr hsp => ?_
  obtain ⟨t, h, q⟩ := hbody A outer s H vs Q E hr hsp
  exact ⟨t, h.nox, q⟩
/-- a def that may raise, as callers see it -/
structure CalR (P : Program) (w : World) (K : PySem.W.Frag) (mg : Str → Option Value) (base : Heap) (x : Str) (k : Nat) (ps : List Str) (sp : Sp) : Prop where
  ex : ∃ (f : Addr) (fd : FuncData), mg x = some (.ref f) ∧ PySem.W.keepIn K (.ref f) = true ∧ Binds K fd ps [] ∧ FnOk P w K mg base (L2N.CX P w) k f fd ps sp
structure CalMkR (P : Program) (w : World) (K : PySem.W.Frag) (mg : Str → Option Value) (base : Heap) (x : Str) (C : Addr) (k : Nat) (ps : List Str) (sp : Sp) : Prop where
  ex : ∃ (f : Addr) (fd : FuncData), mg x = some (.ref C) ∧ Mk K C f ∧ Binds K fd ps [] ∧ FnOk P w K mg base (L2N.CX P w) k f fd ps sp
section
variable {X : Cx}
theorem pcR {W : WX} {E : XK} {x : Str} {k : Nat} {ps : List Str} {sp : Sp} {e : Expr} {es : List Expr} {t : TA} {p pos : Pos} (c : CalR X.prog X.w X.K X.mg X.base x k ps sp) (tk : L2N.Takes X W) (hW : ∀ cls d σ H, E cls d H → W cls d σ H) (hr : Room k X.A) (ha : PA X (e :: es) t) (hg : Gl X x := by rfl) (hdb : (x == ("__debug__" : Str)) = false := by decide)
    (hs : starEach (e :: es) X.env = (false, eval e X.env) :: starEach es X.env := by rfl) (hpl : (backTo pos (starEach es X.env)).any (·.1) = false := by rfl) : PE X (.Call (.Name x p) (e :: es) [] pos) (tCall sp [] E t) := by
  obtain ⟨f, fd, hm, hk, hb, F⟩ := c.ex
  exact pe_call F hr hg hm hk hb .nil (L2N.passes_call tk hW) ha hdb hs hpl
theorem pmkR {W : WX} {E : XK} {x : Str} {C : Addr} {k : Nat} {ps : List Str} {sp : Sp} {e : Expr} {es : List Expr} {t : TA} {p pos : Pos} (c : CalMkR X.prog X.w X.K X.mg X.base x C k ps sp) (tk : L2N.Takes X W) (hW : ∀ cls d σ H, E cls d H → W cls d σ H) (hr : Room (k + 1) X.A) (ha : PA X (e :: es) t) (hg : Gl X x := by rfl) (hdb : (x == ("__debug__" : Str)) = false := by decide)
    (hs : starEach (e :: es) X.env = (false, eval e X.env) :: starEach es X.env := by rfl) (hpl : (backTo pos (starEach es X.env)).any (·.1) = false := by rfl) : PE X (.Call (.Name x p) (e :: es) [] pos) (tMake C sp [] E t) := by
  obtain ⟨f, fd, hm, M, hb, F⟩ := c.ex
  exact pe_make M F hr hg hm hb .nil (L2N.passes_call tk hW) ha hdb hs hpl
end
/-! ### steps of plain growth -/
theorem Gr.ofSame {G H H' : Hp} (s : Same G H) (t : Same H H') : Gr No G H G H' := ⟨Same.refl G, s.trans t, fun b o _ e => t _ _ e, fun b o e => ⟨o, t _ _ e⟩, fun _ _ _ h => h⟩
/-- behind a lambda's making: all but tables stay -/
def noTbl (G : Hp) : Hp := fun b => match G b with
  | some (.tbl _) => none
  | x => x
theorem noTbl_of {G : Hp} {b : Addr} {o : HO} (h : G b = some o) (n : ∀ ps, o ≠ .tbl ps) : noTbl G b = some o := by
  unfold noTbl
  rw [h]
  cases o <;> first | rfl | exact absurd rfl (n _)
theorem noTbl_sub {G H H1 : Hp} (s : Same G H) (e : ExtN H H1) : Same (noTbl G) H1 := fun b o h => by
  unfold noTbl at h
  cases q : G b with
  | none => rw [q] at h; cases h
  | some u =>
    rw [q] at h
    cases u <;> first | (cases h; exact e _ _ (s _ _ q) (fun ps z => by cases z)) | cases h
theorem noTbl_same {G : Hp} : ExtN G (noTbl G) := fun b o h n => noTbl_of h n
section
variable {K : PySem.W.Frag} {G G' : Hp}
theorem extL {a : Addr} {xs : List V} (e : ExtN G G') (h : G a = some (.lst xs)) : G' a = some (.lst xs) := e _ _ h fun ps z => by cases z
theorem extT {a : Addr} {xs : List V} (e : ExtN G G') (h : SqT K G a xs) : SqT K G' a xs := by
  rcases h with (h | ⟨o, h⟩) | h
  · exact .inl (.inl (e _ _ h fun ps z => by cases z))
  · exact .inl (.inr ⟨o, e _ _ h fun ps z => by cases z⟩)
  · exact .inr h
theorem extP {as : List Addr} {ts : List (List V)} (e : ExtN G G') (h : Paired (fun p t => SqT K G p t) as ts) : Paired (fun p t => SqT K G' p t) as ts := Paired.imp (fun _ _ => extT e) h
theorem extTL {a : Addr} {ts : List (List V)} (e : ExtN G G') (h : TupL K G a ts) : TupL K G' a ts := by
  obtain ⟨as, h1, h2⟩ := h
  exact ⟨as, extL e h1, extP e h2⟩
theorem extM {C m : Addr} {ws : List (Int × Int × Int)} (e : ExtN G G') (h : MemAt K C G m ws) : MemAt K C G' m ws := by
  obtain ⟨dx, l, h1, h2, h3⟩ := h
  exact ⟨dx, l, e _ _ h1 (fun ps z => by cases z), extTL e h2, h3⟩
end

/-! ### _law_is -/
theorem kinds_eq : ∀ i, i < 6 → ∀ j, j < 6 → PyData.eqv (.list (([decide (i = 0), decide (i = 1), decide (i = 2), decide (i = 3)] ++ [decide (i = 4), decide (i = 5)]).map PyData.bool)) (.list ((exWords.map fun w => decide (exWord j = w)).map PyData.bool)) = decide (i = j) := by
  have h : ∀ i : Fin 6, ∀ j : Fin 6, PyData.eqv (.list (([decide (i.1 = 0), decide (i.1 = 1), decide (i.1 = 2), decide (i.1 = 3)] ++ [decide (i.1 = 4), decide (i.1 = 5)]).map PyData.bool)) (.list ((exWords.map fun w => decide (exWord j.1 = w)).map PyData.bool)) = decide (i.1 = j.1) := by decide +kernel
  exact fun i hi j hj => h ⟨i, hi⟩ ⟨j, hj⟩
theorem i_eqD {K : PySem.W.Frag} {x y : V} {d e : PyData} {H : Hp} {Q : VK} {b : Bool} {k : Nat} (h1 : Dp K H x d) (h2 : Dp K H y e) (s1 : Dk k d) (s2 : Dk k e) (hk : k ≤ 64) (hb : PyData.eqv d e = b) (q : Q (.bl b) H) : rEqD K x y H Q := ⟨d, e, h1, h2, s1.sh hk, s2.sh hk, by rw [hb]; exact q⟩
theorem hot_of {A : Around} {a : Addr} {oe : Obj} {cls : Value} {d : Option Addr} (hz : L2N.Zn cls d oe) (hf : ∃ vs, oe.data = .fields vs) : Hot1 (A.mark (some (.ref a))) (a, oe) := by
  obtain ⟨vs, h⟩ := hf
  exact ⟨rfl, vs, h, hz.2.2 vs h⟩
/-- what the law's own _law_is and _law_told need -/
structure IsC (P : Program) (w : World) (K : PySem.W.Frag) (mg : Str → Option Value) (base : Heap) (c : Nat → Addr) : Prop where
  Y : XF K mg c
  ex : ∃ (f : Addr) (fd : FuncData), mg "_law_is" = some (.ref f) ∧ PySem.W.keepIn K (.ref f) = true ∧ Binds K fd ["_law_e", "_law_word"] [] ∧ HotFn P w K mg base 1 f fd ["_law_e", "_law_word"] (spIs c)
section
variable {c : Nat → Addr} {a : Addr} {d : Option Addr} {i : Nat} {H : Hp} {Q : VK} {E : XK}
theorem i_isA (j : Nat) (hi : i < 6) (hj : j < 6) (hd : dictOk H d) (q : ∀ H', Same H H' → Q (.bl (decide (i = j))) H') : spIsA c a (.ref (c i)) d ([.ref a, .str (exWord j)] ++ []) H Q E := ⟨i, j, hi, hj, rfl, rfl, hd, q⟩
end
end Z
set_option Elab.async false
set_option linter.all false
set_option maxRecDepth 100000
set_option maxHeartbeats 4000000
/-! Memories that are refused; a memory of a list that stays open. -/
namespace Z
open PySem PySem.Spec PyProof.Rows L2 HotX L2H LamX
/-- the number that BadMemory tells -/
def BadWs (ws : List W3) (n : Nat) : Prop := (¬ (1 ≤ ws.length ∧ ws.length ≤ 4) ∧ n = ws.length) ∨ (1 ≤ ws.length ∧ ws.length ≤ 4 ∧ n < ws.length ∧ ¬ okW (ws.getD n d3) ∧ ∀ i, i < n → okW (ws.getD i d3))
def spInitBad (K : PySem.W.Frag) (cM : Addr) : Sp := fun vs H Q E => ∃ (G : Hp) (p l : Addr) (ws : List W3) (n : Nat), vs = [.ref p, .ref l] ∧ Same G H ∧ (∃ as : List Addr, SqL K H l (as.map V.ref) ∧ Paired (fun p t => SqT K G p t) as (ws.map vW)) ∧ ws.length ≤ 1000 ∧ BadWs ws n ∧
  ∀ dx H', H dx = none → Same H H' → H' dx = some (.xd [("number", .int n)]) → E (.ref cM) (some dx) H'
def spInitO (K : PySem.W.Frag) (C : Addr) : Sp := fun vs H Q _ => ∃ (G : Hp) (p dx l : Addr) (ws : List W3), vs = [.ref p, .ref l] ∧ Same G H ∧ At G H p (.ins C dx []) ∧ (∃ as : List Addr, SqL K H l (as.map V.ref) ∧ Paired (fun p t => SqT K G p t) as (ws.map vW)) ∧ OkWs ws ∧
  ∀ l2 G' H', Gr (· = p) G H G' H' → At G' H' p (.ins C dx (fK l2)) → TupL K G' l2 (ws.map vW) → Q .non H'
section
variable {K : PySem.W.Frag} {σ : L2.St} {X : Addr → Prop} {G0 H0 G H : Hp} {Q : VK} {C cM : Addr} {E : XK}
/-- a memory of a list that is still open -/
theorem i_memO {l : Addr} {as : List Addr} {ws : List W3} (g : Gr X G0 H0 G H) (hl : SqL K H l (as.map V.ref)) (pr : Paired (fun p t => SqT K G p t) as (ws.map vW)) (ok : OkWs ws)
    (k : ∀ m G' H', H m = none → Gr No G H G' H' → Gr X G0 H0 G' H' → MemAt K C G' m ws → Q (.ref m) H') : MakeQ C (spInitO K C) E [.ref l] H Q := by
  intro x dx nx ndx nex
  have s1 : Gr No G H G (upd H dx (.own x)) := Gr.new (Gr.refl g.sub) ndx
  have nx1 : (upd H dx (.own x)) x = none := by rw [upd_ne nex.symm]; exact nx
  have s2 : Gr No G H G (upd (upd H dx (.own x)) x (.ins C dx [])) := s1.new nx1
  refine ⟨G, x, dx, l, ws, rfl, s2.sub, At.of s1 nx1, ⟨as, sql s2.same hl, pr⟩, ok, fun l2 G' H' s3 t tl => ⟨rfl, ?_⟩⟩
  have s4 : Gr No G H G' H' := s2.seq s3 fun c e => .inr (by rw [e]; exact nx)
  have t2 := same_close t
  exact k x (upd G' x (.ins C dx (fK l2))) H' nx (s4.close t nx) ((g.seqN s4).close t (g.fresh nx)) ⟨dx, l2, upd_same, tl.mono t2, ok⟩
/-- a memory refused -/
theorem i_memBad {l : Addr} {as : List Addr} {ws : List W3} {n : Nat} (s : Same G H) (hl : SqL K H l (as.map V.ref)) (pr : Paired (fun p t => SqT K G p t) as (ws.map vW)) (h5 : ws.length ≤ 1000) (bad : BadWs ws n)
    (k : ∀ dd H', Same H H' → H' dd = some (.xd [("number", .int n)]) → E (.ref cM) (some dd) H') : MakeQ C (spInitBad K cM) E [.ref l] H Q := by
  intro x dx nx ndx nex
  have s1 : Same H (upd H dx (.own x)) := same_new ndx
  have nx1 : (upd H dx (.own x)) x = none := by rw [upd_ne nex.symm]; exact nx
  have s2 := s1.trans (same_new (o := .ins C dx []) nx1)
  exact ⟨G, x, l, ws, n, rfl, s.trans s2, ⟨as, sql s2 hl, pr⟩, h5, bad, fun dd H' _ e1 e2 => k dd H' (s2.trans e1) e2⟩
/-- what is told of it -/
theorem toldMem {c : Nat → Addr} {n : Int} {dd : Addr} {H' : Hp} (e : H' dd = some (.xd [("number", .int n)])) (k : ∀ l H'', Same H' H'' → H' l = none → H'' l = some (.lst [.str "memory", .int n]) → Q (.ref l) H'') : ToldQ c (.ref (c 0)) (some dd) H' Q :=
  ⟨0, by decide, rfl, fun d2 e2 => by cases e2; exact ⟨_, e⟩, fun _ => ⟨dd, _, n, rfl, e, rfl, k⟩, fun h => by rcases h with h | h | h <;> cases h⟩
end
/-- the law's promise, its code's table told -/
def spLawT (K : PySem.W.Frag) (Pt : Addr) : Sp := fun vs H Q _ => ∃ (a : Addr) (ns : List Int), vs = [.ref a] ∧ SqL K H a (ns.map V.int) ∧ ns.length ≤ 63 ∧ H Pt = some (.tbl #[]) ∧ ∀ H', Q (.bl true) H'
section
variable {K : PySem.W.Frag} {σ : L2.St} {H : Hp} {Q : VK} {Pt : Addr} {q : Str} {TT : (XK → Hp → VK → Prop) → Hp → VK → Prop} {t : XK → TE}
theorem i_lamN (h : TabS H Pt q) (k : ∀ H1, ExtN H H1 → TabS H1 Pt q → TT (fun E H' Q' => t E σ H' Q') H1 Q) : tLamN Pt q TT t σ H Q := ⟨h, k⟩
theorem cutV_to {xs : List V} {c : Nat} : cutV xs none (some (c : Int)) = xs.take c := by
  unfold cutV
  rw [HT.sIx_nat, HT.sIx_none, List.drop_zero, Nat.sub_zero]
  by_cases h : c ≤ xs.length
  · rw [Nat.min_eq_left h]
  · rw [Nat.min_eq_right (by omega), List.take_of_length_le (Nat.le_refl _), List.take_of_length_le (by omega)]
end
/-- a table stays when nothing of the old is written -/
theorem TabS.keep {H H' : Hp} {P : Addr} {q : Str} (t : TabS H P q) (s : Same H H') : TabS H' P q := t.ext s
theorem Paired.tk {α β : Type} {R : α → β → Prop} : ∀ {xs : List α} {ys : List β} (n : Nat), Paired R xs ys → Paired R (xs.take n) (ys.take n)
  | _, _, 0, _ => by rw [List.take_zero, List.take_zero]; exact .nil
  | _, _, n + 1, .nil => .nil
  | _, _, n + 1, .cons r t => .cons r (Paired.tk n t)
theorem Paired.dr {α β : Type} {R : α → β → Prop} : ∀ {xs : List α} {ys : List β} (n : Nat), Paired R xs ys → Paired R (xs.drop n) (ys.drop n)
  | _, _, 0, h => h
  | _, _, n + 1, .nil => .nil
  | _, _, n + 1, .cons r t => Paired.dr n t
theorem Paired.rep {α β : Type} {R : α → β → Prop} {xs : List α} {ys : List β} (h : Paired R xs ys) : ∀ n : Nat, Paired R (List.replicate n xs).flatten (List.replicate n ys).flatten
  | 0 => .nil
  | n + 1 => by
    rw [List.replicate_succ, List.replicate_succ, List.flatten_cons, List.flatten_cons]
    exact Paired.app h (Paired.rep h n)
end Z
set_option Elab.async false
set_option linter.all false
set_option maxRecDepth 100000
set_option maxHeartbeats 4000000
/-! What a head must say of the exceptions' classes: one Bool, and what follows. -/
namespace Z
open PySem PySem.Spec PyProof.Rows L2 HotX L2H LamX
def exNames : List Str := ["BadMemory", "BadLoad", "BadPlan", "BadStrokes", "TooMany", "BadText", "ScrubError"]
def exC (K : PySem.W.Frag) (i : Nat) : Addr := He.ga K (exNames.getD i "ScrubError")
def oexB (K : PySem.W.Frag) (C : Addr) : Bool := match K.lookup C with
  | some ⟨.type t, _, .cls cd, sl⟩ => decide (t = "type") && (cd.hasDict && (!cd.hasDel && (match cd.mro, sl.toList with
    | .ref C' :: bm, [_, _, _, _, some (.builtin n), _] => decide (C' = C) && (decide (n = "ValueError.__new__") && PySem.HandSPX.refsVE bm)
    | _, _ => false)))
  | _ => false
theorem oexB_ok {K : PySem.W.Frag} {C : Addr} (h : oexB K C = true) : ∃ nm q N bs bm sn sub ab col dd k0 k1 k2 k3 k5, K.lookup C = some (excClassObj nm q C N bs bm true sn sub ab col dd k0 k1 k2 k3 k5 "ValueError.__new__") ∧ PySem.HandSPX.refsVE bm = true := by
  unfold oexB at h
  split at h
  · rename_i t dd cd sl ho
    obtain ⟨h1, h⟩ := Bool.and_eq_true_iff.mp h
    obtain ⟨h2, h⟩ := Bool.and_eq_true_iff.mp h
    obtain ⟨h3, h⟩ := Bool.and_eq_true_iff.mp h
    split at h
    · rename_i C' bm k0 k1 k2 k3 n k5 hm hs
      obtain ⟨h4, h⟩ := Bool.and_eq_true_iff.mp h
      obtain ⟨h5, h6⟩ := Bool.and_eq_true_iff.mp h
      obtain ⟨nm, bs, mro, ns, qn, hd, sn, sub, ab, col, del⟩ := cd
      dsimp only at hm h2 h3
      have e1 := of_decide_eq_true h1
      have e4 := of_decide_eq_true h4
      have e5 := of_decide_eq_true h5
      have e3 : del = false := by simpa using h3
      subst e1 e4 e5 e3 hm h2
      have hsl : sl = #[k0, k1, k2, k3, some (.builtin "ValueError.__new__"), k5] := by
        obtain ⟨l⟩ := sl
        simp only at hs
        rw [hs]
      subst hsl
      exact ⟨nm, qn, ns, bs, bm, sn, sub, ab, col, dd, k0, k1, k2, k3, k5, ho, h6⟩
    · cases h
  · cases h
def excCB (K : PySem.W.Frag) (D : Addr) : Bool := He.eqO (PySem.W.findIn K (.ref D) "__getattribute__") (some (some (.builtin "BaseException.__getattribute__"))) && (He.eqO (PySem.W.findIn K (.ref D) "__getattr__") (some none) && (decide (PySem.W.subIn K (.ref D) (.type "BaseException") = some true) && (PySem.W.hasDictIn K D && (He.eqO (PySem.W.findIn K (.ref D) "__class__") (some (some (.builtin "object.__class__"))) && (decide (PySem.W.mroIn K D (.type "object") = some true))))))
def objB (K : PySem.W.Frag) : Bool := He.eqO (PySem.W.specialIn K (.builtin "object.__class__") "__get__") (some (some (.builtin "getset_descriptor.__get__"))) && decide (PySem.W.takesIn K (.builtin "object.__class__") = some true)
theorem excCB_ok {K : PySem.W.Frag} {D : Addr} (h : excCB K D = true) (o : objB K = true) : ExcC K D := by
  obtain ⟨h1, h⟩ := Bool.and_eq_true_iff.mp h
  obtain ⟨h2, h⟩ := Bool.and_eq_true_iff.mp h
  obtain ⟨h3, h⟩ := Bool.and_eq_true_iff.mp h
  obtain ⟨h4, h⟩ := Bool.and_eq_true_iff.mp h
  obtain ⟨h5, h6⟩ := Bool.and_eq_true_iff.mp h
  obtain ⟨o1, o2⟩ := Bool.and_eq_true_iff.mp o
  exact ⟨He.eqO_ok h1, He.eqO_ok h2, of_decide_eq_true h3, h4, He.eqO_ok h5, He.eqO_ok o1, of_decide_eq_true o2, of_decide_eq_true h6⟩
/-- of each of the six classes -/
def exB1 (K : PySem.W.Frag) (i : Nat) : Bool := (List.range 6).all (fun j => decide (PySem.W.kitOne K (.ref (exC K i)) (.ref (exC K j)) = some (decide (i = j)))) && (decide (PySem.W.kitOne K (.ref (exC K i)) (.type "ValueError") = some true) && (decide (PySem.W.exmOne K (.ref (exC K i)) (.ref (exC K 6)) = some true) && (excCB K (exC K i) && (xfB K (exC K i) && He.eqO (PySem.W.findIn K (.ref (exC K i)) (exFld i)) (some none)))))
/-- of a class with an __init__ of its own -/
def exB2 (K : PySem.W.Frag) (i : Nat) : Bool := oexB K (exC K i) && (He.eqO (PySem.W.findIn K (.ref (exC K i)) "__setattr__") (some (some (.builtin "object.__setattr__"))) && (decide (PySem.W.typeIn K (.ref (exC K i)) = some (.type "type")) && (PySem.W.keepIn K (.ref (exC K i)) && (He.eqO (PySem.W.findIn K (.ref (exC K i)) "__init__") (some (some (.ref (He.ma K (exC K i) "__init__")))) && decide (PySem.W.typeIn K (.ref (He.ma K (exC K i) "__init__")) = some (.type "function"))))))
/-- of one without -/
def exB3 (K : PySem.W.Frag) (i : Nat) : Bool := PySem.W.excIn K (exC K i) [.type "ValueError", .type "Exception", .type "BaseException", .type "object"] "ValueError.__new__" && (PySem.W.keepIn K (.ref (exC K i)) && decide (PySem.W.typeIn K (.ref (exC K i)) = some (.type "type")))
/-- of ScrubError -/
def exB6 (K : PySem.W.Frag) : Bool := He.eqO (PySem.W.specialIn K (.ref (exC K 6)) "__getattribute__") (some (some (.builtin "type.__getattribute__"))) && (PySem.W.readsIn K (exC K 6) (.type "type") && (match PySem.W.findCls K (.ref (exC K 6)) (.type "type") "__init__" with
  | some (.val (.builtin n)) => decide (n = "ValueError.__init__")
  | _ => false))
def exB (K : PySem.W.Frag) : Bool := (List.range 6).all (exB1 K) && (objB K && (exB2 K 0 && (exB2 K 3 && (exB2 K 5 && (exB3 K 1 && (exB3 K 2 && (exB3 K 4 && exB6 K)))))))
section
variable {K : PySem.W.Frag} {mg : Str → Option Value}
theorem exB_1 (h : exB K = true) (i : Nat) (hi : i < 6) : exB1 K i = true ∧ objB K = true := by
  obtain ⟨h1, h⟩ := Bool.and_eq_true_iff.mp h
  obtain ⟨h2, _⟩ := Bool.and_eq_true_iff.mp h
  exact ⟨List.all_eq_true.mp h1 i (List.mem_range.mpr hi), h2⟩
theorem xf_of (h : exB K = true) (g : ∀ i, i < 7 → mg (exNames.getD i "ScrubError") = some (.ref (exC K i))) (nV : mg "ValueError" = none) : XF K mg (exC K) := by
  have p : ∀ i, i < 6 → _ := fun i hi => exB_1 h i hi
  have q : ∀ i, i < 6 → (∀ j, j < 6 → PySem.W.kitOne K (.ref (exC K i)) (.ref (exC K j)) = some (decide (i = j))) ∧ PySem.W.kitOne K (.ref (exC K i)) (.type "ValueError") = some true ∧ PySem.W.exmOne K (.ref (exC K i)) (.ref (exC K 6)) = some true ∧ ExcC K (exC K i) ∧ XfC K (exC K i) ∧ PySem.W.findIn K (.ref (exC K i)) (exFld i) = some none := fun i hi => by
    obtain ⟨h0, ho⟩ := p i hi
    obtain ⟨h1, h0⟩ := Bool.and_eq_true_iff.mp h0
    obtain ⟨h2, h0⟩ := Bool.and_eq_true_iff.mp h0
    obtain ⟨h3, h0⟩ := Bool.and_eq_true_iff.mp h0
    obtain ⟨h4, h0⟩ := Bool.and_eq_true_iff.mp h0
    obtain ⟨h5, h6⟩ := Bool.and_eq_true_iff.mp h0
    exact ⟨fun j hj => of_decide_eq_true (List.all_eq_true.mp h1 j (List.mem_range.mpr hj)), of_decide_eq_true h2, of_decide_eq_true h3, excCB_ok h4 ho, xfB_ok h5, He.eqO_ok h6⟩
  exact ⟨g 0 (by decide), g 1 (by decide), g 2 (by decide), g 3 (by decide), g 4 (by decide), g 5 (by decide), g 6 (by decide), nV, fun i j hi hj => (q i hi).1 j hj, fun i hi => (q i hi).2.1, fun i hi => (q i hi).2.2.1, fun i hi => (q i hi).2.2.2.1, fun i hi => (q i hi).2.2.2.2.1, fun i hi => (q i hi).2.2.2.2.2⟩
theorem exB_2 (h : exB K = true) : exB2 K 0 = true ∧ exB2 K 3 = true ∧ exB2 K 5 = true ∧ exB3 K 1 = true ∧ exB3 K 2 = true ∧ exB3 K 4 = true ∧ exB6 K = true := by
  obtain ⟨_, h⟩ := Bool.and_eq_true_iff.mp h
  obtain ⟨_, h⟩ := Bool.and_eq_true_iff.mp h
  obtain ⟨h1, h⟩ := Bool.and_eq_true_iff.mp h
  obtain ⟨h2, h⟩ := Bool.and_eq_true_iff.mp h
  obtain ⟨h3, h⟩ := Bool.and_eq_true_iff.mp h
  obtain ⟨h4, h⟩ := Bool.and_eq_true_iff.mp h
  obtain ⟨h5, h⟩ := Bool.and_eq_true_iff.mp h
  obtain ⟨h6, h7⟩ := Bool.and_eq_true_iff.mp h
  exact ⟨h1, h2, h3, h4, h5, h6, h7⟩
theorem xc_of {P : Program} {w : World} {base : Heap} {i : Nat} {par : Str} {fd : FuncData} (hi : i < 6) (h : exB K = true) (h2 : exB2 K i = true) (g : mg (exNames.getD i "ScrubError") = some (.ref (exC K i))) (hb : Binds K fd ["self", par] []) (F : FnOk P w K mg base CX0 1 (He.ma K (exC K i) "__init__") fd ["self", par] (spXI K (exFld i))) :
    CalXc P w K mg base (exNames.getD i "ScrubError") (exC K i) par (exFld i) := by
  obtain ⟨h1, ho⟩ := exB_1 h i hi
  have q := (xf_of (mg := fun x => if x = "ValueError" then none else if x = "BadMemory" then some (.ref (exC K 0)) else if x = "BadLoad" then some (.ref (exC K 1)) else if x = "BadPlan" then some (.ref (exC K 2)) else if x = "BadStrokes" then some (.ref (exC K 3)) else if x = "TooMany" then some (.ref (exC K 4)) else if x = "BadText" then some (.ref (exC K 5)) else some (.ref (exC K 6))) h (fun i hi => by
    match i, hi with
    | 0, _ | 1, _ | 2, _ | 3, _ | 4, _ | 5, _ | 6, _ => rfl) rfl)
  obtain ⟨a1, a⟩ := Bool.and_eq_true_iff.mp h2
  obtain ⟨a2, a⟩ := Bool.and_eq_true_iff.mp a
  obtain ⟨a3, a⟩ := Bool.and_eq_true_iff.mp a
  obtain ⟨a4, a⟩ := Bool.and_eq_true_iff.mp a
  obtain ⟨a5, a6⟩ := Bool.and_eq_true_iff.mp a
  exact ⟨g, ⟨oexB_ok a1, He.eqO_ok a2, (q.cls i hi).hs, of_decide_eq_true a3, a4⟩, q.nat i hi, _, fd, He.eqO_ok a5, of_decide_eq_true a6, hb, F⟩
theorem x0_of {i : Nat} (hi : i < 6) (h : exB K = true) (h3 : exB3 K i = true) (g : mg (exNames.getD i "ScrubError") = some (.ref (exC K i))) : CalX0 K mg (exNames.getD i "ScrubError") (exC K i) := by
  obtain ⟨h1, ho⟩ := exB_1 h i hi
  obtain ⟨_, h1⟩ := Bool.and_eq_true_iff.mp h1
  obtain ⟨_, h1⟩ := Bool.and_eq_true_iff.mp h1
  obtain ⟨_, h1⟩ := Bool.and_eq_true_iff.mp h1
  obtain ⟨h4, _⟩ := Bool.and_eq_true_iff.mp h1
  obtain ⟨a1, a⟩ := Bool.and_eq_true_iff.mp h3
  obtain ⟨a2, a3⟩ := Bool.and_eq_true_iff.mp a
  exact ⟨g, a1, a2, (excCB_ok h4 ho).hs, of_decide_eq_true a3⟩
theorem ini_of (h : exB6 K = true) : OwnIni K (exC K 6) := by
  obtain ⟨h1, h⟩ := Bool.and_eq_true_iff.mp h
  obtain ⟨h2, h3⟩ := Bool.and_eq_true_iff.mp h
  refine ⟨He.eqO_ok h1, h2, ?_⟩
  split at h3
  · rename_i n e
    rw [e, of_decide_eq_true h3]
  · cases h3
/-- a def's code object -/
theorem code_of {p : Str × Option Str} {x q : Str} {params : Arguments} {body : List Stmt} {scope : Scope} {dvs : List V} {kws : List (Str × V)} {fd : FuncData} (F : FunD K x q params body scope dvs kws (He.fAd K p) fd) : fd.code = .ref (He.cT K p).1 := by
  obtain ⟨oc, od, dV, kV, doc, pm, an, cdv, ct, osl, e, lk, hc, _, _⟩ := F.ex
  obtain ⟨c, ec⟩ := He.codeIn_ref hc
  have e2 : fd.code = .ref c := by rw [e, ← ec] <;> rfl
  rw [e2, ← He.codeOf_eq lk e2]
  rfl
end
/-! ### the Hook: what the names reach, and the interpreter's statics -/
def asY (g : Addr → Option Obj) (n : Nat) : List Addr := He.asD g n ++ [cStatics]
def frY (g : Addr → Option Obj) (n : Nat) : PySem.W.Frag := He.frT g (asY g n)
def lawN : He.Defn := ("law", none)
structure SaysY (fa : List He.Fa) (fn : List He.DefD) (h : Heap) (K : PySem.W.Frag) : Prop where
  t : He.SaysD fa fn K
  more : exB K = true
  hd : PySem.W.codeHdIn K (He.cT K lawN).1 (He.cT K lawN).2 = true
  out : K.lookup (He.cT K lawN).2 = none
  empty : h.get? (He.cT K lawN).2 = some { cls := .none, data := .fields #[] }
def obsY (n : Nat) (fa : List He.Fa) (fn : List He.DefD) (g : Addr → Option Obj) : He.AlD × Bool := (He.obsD fa fn (frY g n), exB (frY g n) && He.tabsB g [lawN] (frY g n))
theorem saysY_of {n : Nat} {fa : List He.Fa} {fn : List He.DefD} {h : Heap} (e : obsY n fa fn h.get? = (He.valD fn, true)) : SaysY fa fn h (frY h.get? n) := by
  have e1 : He.obsD fa fn (frY h.get? n) = He.valD fn := congrArg (fun z : He.AlD × Bool => z.1) e
  have e2 : (exB (frY h.get? n) && He.tabsB h.get? [lawN] (frY h.get? n)) = true := congrArg (fun z : He.AlD × Bool => z.2) e
  obtain ⟨h1, h2⟩ := Bool.and_eq_true_iff.mp e2
  obtain ⟨h3, h4⟩ := Bool.and_eq_true_iff.mp (List.all_eq_true.mp h2 lawN (List.mem_singleton.mpr rfl))
  cases q : h.get? (He.cT (frY h.get? n) lawN).2 with
  | none =>
    rw [q] at h4
    cases h4
  | some o =>
    rw [q] at h4
    have h5 : He.emptyTab o = true := h4
    exact ⟨e1, h1, h3, He.frT_none q h5, by rw [q, He.emptyTab_eq h5]⟩
def hookY (n : Nat) (fa : List He.Fa) (fn : List He.DefD) : PySem.W.Hook where
  α := He.AlD × Bool
  obs := fun s => obsY n fa fn s.heap.get?
  val := fun _ => (He.valD fn, true)
  says := fun _ h => ∃ K : PySem.W.Frag, K.In h ∧ SaysY fa fn h K
  of := fun _ _ e => ⟨_, He.frT_in, saysY_of e⟩
  keeps := fun _ _ _ ⟨K, hK, c⟩ k => ⟨K, PySem.W.Frag.In.keeps hK k, ⟨c.t, c.more, c.hd, c.out, k _ _ c.empty⟩⟩
theorem obsY_eq {n : Nat} {fa : List He.Fa} {fn : List He.DefD} {g : Addr → Option Obj} {s : Shared} (h : ∀ a, g a = s.heap.get? a) : obsY n fa fn g = (hookY n fa fn).obs s := by
  have e : g = s.heap.get? := funext h
  rw [e] <;> rfl
end Z
set_option Elab.async false
set_option linter.all false
set_option maxRecDepth 100000
set_option maxHeartbeats 4000000
namespace Z
open PySem PySem.Spec PyProof.Rows L2
local macro_rules | `(tactic| walk_at "zrd") => `(tactic| (repeat (first | ((with_reducible apply i_var); (· exact rfl)) | with_reducible refine i_c ?_ | with_reducible refine i_op ?_ | with_reducible refine i_I0 ?_ | with_reducible refine i_eqI ?_ | with_reducible refine i_neI ?_ | with_reducible refine i_test ?_ | with_reducible refine i_cons ?_ | with_reducible refine i_nil ?_ | with_reducible refine i_seq ?_ | with_reducible refine i_nx ?_ | with_reducible refine i_rt ?_ | with_reducible refine i_pass ?_ | with_reducible refine i_asg ?_ | with_reducible refine i_gname ?_ | with_reducible refine i_ret ?_ | with_reducible refine i_drop ?_ | with_reducible refine i_ifS ?_ | with_reducible refine i_if ?_ | with_reducible refine i_not ?_ | with_reducible refine i_and ?_ | with_reducible refine i_or ?_ | with_reducible refine i_lst ?_ | with_reducible refine i_tup ?_ | with_reducible refine i_cb ?_ | with_reducible refine i_call ?_ | with_reducible refine i_gsub ?_ | with_reducible refine i_B ?_ | with_reducible refine i_un ?_ | with_reducible refine i_U ?_ | with_reducible refine i_eqOI ?_ | with_reducible refine i_eqIO ?_ | with_reducible refine i_forL ?_ | with_reducible refine i_forT ?_ | with_reducible refine i_forR ?_ | with_reducible refine i_forR2 ?_ | with_reducible refine i_forR3 ?_ | with_reducible refine i_forE ?_ | with_reducible refine i_lcL ?_ | with_reducible refine i_lcT ?_ | with_reducible refine i_lcR ?_ | with_reducible refine i_yes ?_ | with_reducible refine i_lce ?_ | with_reducible refine i_lcf ?_ | with_reducible refine i_gcons ?_ | with_reducible refine i_gnil ?_ | with_reducible refine i_chain ?_ | with_reducible refine i_t ?_ | with_reducible refine i_f ?_ | with_reducible refine i_nt ?_ | with_reducible refine i_nf ?_ | with_reducible refine i_bm ?_ | with_reducible refine i_bm0 ?_ | with_reducible refine i_and2 ?_ | with_reducible refine i_or2 ?_ | with_reducible refine i_intI ?_ | with_reducible refine i_intB ?_ | with_reducible refine i_sl ?_ | with_reducible refine i_part ?_ | with_reducible refine i_nopart ?_ | with_reducible refine i_cut ?_ | with_reducible refine i_lrg ?_ | with_reducible refine i_make ?_ | with_reducible refine i_meth ?_ | with_reducible refine i_fld ?_ | with_reducible refine i_sfld ?_ | with_reducible refine i_dnew ?_ | with_reducible refine i_par3 ?_ | with_reducible refine i_par3e ?_ | with_reducible refine i_par2 ?_ | with_reducible refine i_par2e ?_ | with_reducible refine i_dput ?_ | with_reducible refine i_dget2 ?_ | with_reducible refine i_din ?_ | with_reducible refine i_dget ?_ | with_reducible refine i_isO ?_ | with_reducible refine i_isR ?_ | with_reducible refine i_isN ?_ | with_reducible refine i_isI ?_ | with_reducible refine i_noO ?_ | with_reducible refine i_noR ?_ | with_reducible refine i_noN ?_ | with_reducible refine i_noI ?_ | with_reducible refine i_dgetN ?_ | with_reducible refine i_dputN ?_ | with_reducible refine i_dnewN ?_ | with_reducible refine i_ckw ?_ | with_reducible refine (show ∃ k, V.bl _ = V.bl k ∧ _ from ⟨_, rfl, ?_⟩) | with_reducible refine (show ∃ k, V.int _ = V.int k ∧ _ from ⟨_, rfl, ?_⟩) | ((with_reducible apply i_ixL); (· assumption); (· exact rfl)) | ((with_reducible apply i_ixT); (· assumption); (· exact rfl)) | ((with_reducible apply i_lenL); (· assumption)) | ((with_reducible apply i_lenT); (· assumption)) | ((with_reducible apply i_I); (· (first | omega | (dsimp only; omega) | exact ⟨by omega, by omega⟩ | exact Or.inr ⟨by omega, by omega⟩ | exact Or.inl ⟨by omega, by omega⟩ | exact ⟨by decide, by decide, by decide⟩))) | ((with_reducible apply i_gtup); (· assumption); (· rfl)) | ((with_reducible apply i_p); (· omega)) | ((with_reducible apply i_n); (· omega)) | ((with_reducible apply i_np); (· omega)) | ((with_reducible apply i_nn); (· omega)) | ((with_reducible apply i_lcP); (· omega)) | ((with_reducible apply i_lcN); (· omega)) | ((with_reducible apply i_lcnP); (· omega)) | ((with_reducible apply i_lcnN); (· omega)))))
def topS (i : Nat) : Stmt := PySem.Challenge.pw_scrubround_k06_whole_held_or_shown.main.body.getD i (.Pass ⟨0, 0, 0, 0⟩)
structure Txt (K : PySem.W.Frag) (mg : Str → Option Value) : Prop where
  b_len : mg "len" = none
  b_int : mg "int" = none
  b_range : mg "range" = none
  b_list : mg "list" = none
  b_tuple : mg "tuple" = none
  b_sorted : mg "sorted" = none
  b_max : mg "max" = none
  b_min : mg "min" = none
  b_enumerate : mg "enumerate" = none
  b_isinstance : mg "isinstance" = none
  b_str : mg "str" = none
  b_bool : mg "bool" = none
  b_dict : mg "dict" = none
  c_MOST_WORDS : ∃ t, mg "MOST_WORDS" = some (.int 4 t)
  c_MOST_WIDE : ∃ t, mg "MOST_WIDE" = some (.int 8 t)
  c_MOST_GAP : ∃ t, mg "MOST_GAP" = some (.int 9 t)
  c_MOST_LOAD : ∃ t, mg "MOST_LOAD" = some (.int 12 t)
  c_MOST_PLAN : ∃ t, mg "MOST_PLAN" = some (.int 2000 t)
  c_MOST_STATES : ∃ t, mg "MOST_STATES" = some (.int 2000 t)
section
variable {P : Program} {w : World} {K : PySem.W.Frag} {mg : Str → Option Value} {base : Heap} {f : Addr} {fd : FuncData}
abbrev s_law_dice : Stmt := topS 28
theorem sc_law_dice : FnScope ["_law_script", "_law_mixed", "_law_cell"] ["_law_script"] (defScope s_law_dice) := ⟨rfl, rfl, rfl, by decide +kernel, rfl, by decide +kernel, by decide +kernel⟩
abbrev s_law_next : Stmt := topS 29
theorem sc_law_next : FnScope ["_law_dice_here", "_law_many_here", "_law_found", "_law_cell"] ["_law_dice_here", "_law_many_here"] (defScope s_law_next) := ⟨rfl, rfl, rfl, by decide +kernel, rfl, by decide +kernel, by decide +kernel⟩
theorem ok_next (T : Txt K mg) (F : Fun K "_law_next" "_law_next" s_law_next f fd) : FnOk P w K mg base CX0 1 f fd ["_law_dice_here", "_law_many_here"] (spNext K) := by
  refine F.ok sc_law_next (fun vs H Q E h => ?_) (fun cdv A outer s H vs Q E hr h => ?_)
  · obtain ⟨G, d, m, rfl, _⟩ := h
    rfl
  · obtain ⟨G, d, m, rfl, sb, ⟨sa, ns, i, x, r, t, hS, hi⟩, hm, hm2, k⟩ := h
    refine ⟨_, (pss_cons (ps_if (pt_cmpR op_gt (pe_ix (r := rIxL K) ix_list (pv 0) pe_int (fun _ _ => rfl)) pe_int (nomark _)) (pss_cons (ps_set (i := 2) sc_law_next.nd rfl (Or.inl rfl) (pe_op op_mod (pe_ix (r := rIxL K) ix_list (pv 0) pe_int (fun _ _ => rfl)) (pv 1)))
      (pss_cons (ps_asg (pe_op op_fdiv (pe_ix (r := rIxL K) ix_list (pv 0) pe_int (fun _ _ => rfl)) (pv 1)) (pg_sub (pv 0) pe_int set_list))
      (pss_one (ps_ret (pv 2))))) pss_nil)
      (pss_cons (ps_asg (pe_op op_add (pe_ix (r := rIxL K) ix_list (pv 0) pe_int (fun _ _ => rfl)) pe_int) (pg_sub (pv 0) pe_int set_list))
      (pss_cons (ps_if (pt_cmpR op_le (pe_ix (r := rIxL K) ix_list (pv 0) pe_int (fun _ _ => rfl)) (pe_callB (r := rLen K) cl_len (by rfl) T.b_len (by decide +kernel) (pa_cons (pe_ix (r := rIxL K) ix_list (pv 0) pe_int (fun _ _ => rfl)) pa_nil)) (nomark _)) (pss_cons (ps_set (i := 3) sc_law_next.nd rfl (Or.inl rfl) (pe_ix (r := rIxL K) ix_list (pe_ix (r := rIxL K) ix_list (pv 0) pe_int (fun _ _ => rfl)) (pe_op op_sub (pe_ix (r := rIxL K) ix_list (pv 0) pe_int (fun _ _ => rfl)) pe_int) (fun _ _ => rfl)))
      (pss_cons (ps_asg (pe_ifExp (pt_cmpR op_ge (pv 3) (pe_op op_pow pe_int pe_int) (nomark _)) (pe_op op_fdiv (pv 3) (pv 1)) pe_int) (pg_sub (pv 0) pe_int set_list))
      (pss_one (ps_ret (pe_op op_mod (pv 3) (pv 1)))))) pss_nil)
      (pss_cons (ps_asg (pe_op op_mod (pe_op op_mul (pe_ix (r := rIxL K) ix_list (pv 0) pe_int (fun _ _ => rfl)) pe_int) pe_int) (pg_sub (pv 0) pe_int set_list))
      (pss_one (ps_ret (pe_op op_mod (pe_op op_fdiv (pe_ix (r := rIxL K) ix_list (pv 0) pe_int (fun _ _ => rfl)) pe_int) (pv 1)))))))), ?_⟩
    try dsimp only [cxOf, L2.Cx.nox, L2.Cx.wish]
    refine i_start (σ' := [some (.ref d), some (.int m), none, none]) rfl ?_
    have hd : SqL K H d [.ref sa, .int i, .int x, .int r] := .inl (.inl t.h)
    have hsa : SqL K H sa (ns.map V.int) := sql sb hS
    walk_at "zrd"
    refine i_ite (fun h1 => ?_) (fun h1 => ?_)
    · walk_at "zrd"
      refine i_setL [.ref sa, .int i, .int x, .int (r / m)] t.h rfl rfl ?_
      walk_at "zrd"
      exact k _ _ (Gr.mut (Gr.refl sb) t (Or.inl rfl)) ⟨sa, ns, i, x, _, t.put, hS, hi⟩ (Int.emod_nonneg _ (by omega)) (Int.emod_lt_of_pos _ hm)
    · walk_at "zrd"
      refine i_setL [.ref sa, .int (i + 1), .int x, .int r] t.h rfl rfl ?_
      have g1 := Gr.mut (u := .lst [.ref sa, .int (i + 1), .int x, .int r]) (X := (· = d)) (Gr.refl sb) t (Or.inl rfl)
      have t1 := t.put (u := .lst [.ref sa, .int (i + 1), .int x, .int r])
      revert g1 t1
      generalize upd H d (.lst [.ref sa, .int (i + 1), .int x, .int r]) = H1
      intro g1 t1
      have hd : SqL K H1 d [.ref sa, .int (i + 1), .int x, .int r] := .inl (.inl t1.h)
      have hsa : SqL K H1 sa (ns.map V.int) := sql g1.sub hS
      walk_at "zrd"
      refine i_ite (fun h2 => ?_) (fun h2 => ?_)
      · rw [List.length_map] at h2
        have hlt : i.toNat < ns.length := by omega
        walk_at "zrd"
        refine i_ixL hsa (atN (k := i.toNat) (by omega) (by rw [List.getElem?_map, List.getElem?_eq_getElem hlt]; rfl)) ?_
        walk_at "zrd"
        refine i_ite (fun h3 => ?_) (fun h3 => ?_)
        · walk_at "zrd"
          refine i_setL [.ref sa, .int (i + 1), .int x, .int (ns[i.toNat] / m)] t1.h rfl rfl ?_
          walk_at "zrd"
          exact k _ _ (g1.mut t1 (Or.inl rfl)) ⟨sa, ns, _, x, _, t1.put, hS, by omega⟩ (Int.emod_nonneg _ (by omega)) (Int.emod_lt_of_pos _ hm)
        · walk_at "zrd"
          refine i_setL [.ref sa, .int (i + 1), .int x, .int 0] t1.h rfl rfl ?_
          walk_at "zrd"
          exact k _ _ (g1.mut t1 (Or.inl rfl)) ⟨sa, ns, _, x, _, t1.put, hS, by omega⟩ (Int.emod_nonneg _ (by omega)) (Int.emod_lt_of_pos _ hm)
      · walk_at "zrd"
        refine i_setL [.ref sa, .int (i + 1), .int (x * 48271 % 2147483647), .int r] t1.h rfl rfl ?_
        have hd : SqL K (upd H1 d (.lst [.ref sa, .int (i + 1), .int (x * 48271 % 2147483647), .int r])) d [.ref sa, .int (i + 1), .int (x * 48271 % 2147483647), .int r] := .inl (.inl upd_same)
        walk_at "zrd"
        exact k _ _ (g1.mut t1 (Or.inl rfl)) ⟨sa, ns, _, _, _, t1.put, hS, by omega⟩ (Int.emod_nonneg _ (by omega)) (Int.emod_lt_of_pos _ hm)
theorem ok_dice (T : Txt K mg) (F : Fun K "_law_dice" "_law_dice" s_law_dice f fd) : FnOk P w K mg base CX0 1 f fd ["_law_script"] (spDice K) := by
  refine F.ok sc_law_dice (fun vs H Q E h => ?_) (fun cdv A outer s H vs Q E hr h => ?_)
  · obtain ⟨s, ns, G, rfl, _⟩ := h
    rfl
  · obtain ⟨sa, ns, G, rfl, sb, hS, k⟩ := h
    refine ⟨_, (pss_cons (ps_set (i := 1) sc_law_dice.nd rfl (Or.inl rfl) pe_int)
      (pss_cons (ps_for PassesOwn.never rfl (pi_list (pv 0)) (pg_name (i := 2) sc_law_dice.nd rfl (Or.inl rfl)) (pss_one (ps_set (i := 1) sc_law_dice.nd rfl (Or.inl rfl) (pe_op op_mod (pe_op op_add (pe_op op_add (pe_op op_mul (pv 1) pe_int) (pe_op op_mul (pe_op op_mod (pv 2) pe_int) pe_int)) pe_int) pe_int))))
      (pss_one (ps_ret (pe_lst (pa_cons (pv 0) (pa_cons pe_int (pa_cons (pe_op op_mul (pv 1) (pe_callTy cl_int (by rfl) T.b_int (by decide +kernel) (pa_cons (pe_cmpR op_gt (pe_callB (r := rLen K) cl_len (by rfl) T.b_len (by decide +kernel) (pa_cons (pv 0) pa_nil)) pe_int (nomark _)) pa_nil))) (pa_cons pe_int pa_nil))))))))), ?_⟩
    try dsimp only [cxOf, L2.Cx.nox, L2.Cx.wish]
    refine i_start (σ' := [some (.ref sa), none, none]) rfl ?_
    have hs : SqL K H sa (ns.map V.int) := sql sb hS
    walk_at "zrd"
    refine forL hs (fun i σ H' => ∃ (m : Int) (v : Option V), σ = [some (.ref sa), some (.int m), v] ∧ H' = H) ⟨0, none, rfl, rfl⟩ (fun i σ H' _ ⟨_, _, _, e⟩ => by rw [e]; exact hs) ?_ ?_
    · rintro i y σ H' hi ⟨m, v, rfl, rfl⟩
      obtain ⟨z, hz, rfl⟩ := map_at hi
      walk_at "zrd"
      exact ⟨_, _, rfl, rfl⟩
    · rintro σ H' ⟨m, v, rfl, rfl⟩
      walk_at "zrd"
      refine newL (X0 := No) (Gr.refl sb) (by simp) fun p H2 np _ s g t => ?_
      walk_at "zrd"
      exact k p _ g ⟨sa, ns, 0, _, 0, t, hS, Int.le_refl 0⟩ np
end
end Z
set_option Elab.async false
set_option linter.all false
set_option maxRecDepth 100000
set_option maxHeartbeats 4000000
namespace Z
open PySem PySem.Spec PyProof.Rows L2
local macro_rules | `(tactic| walk_at "zrd") => `(tactic| (repeat (first | ((with_reducible apply i_var); (· exact rfl)) | with_reducible refine i_c ?_ | with_reducible refine i_op ?_ | with_reducible refine i_I0 ?_ | with_reducible refine i_eqI ?_ | with_reducible refine i_neI ?_ | with_reducible refine i_test ?_ | with_reducible refine i_cons ?_ | with_reducible refine i_nil ?_ | with_reducible refine i_seq ?_ | with_reducible refine i_nx ?_ | with_reducible refine i_rt ?_ | with_reducible refine i_pass ?_ | with_reducible refine i_asg ?_ | with_reducible refine i_gname ?_ | with_reducible refine i_ret ?_ | with_reducible refine i_drop ?_ | with_reducible refine i_ifS ?_ | with_reducible refine i_if ?_ | with_reducible refine i_not ?_ | with_reducible refine i_and ?_ | with_reducible refine i_or ?_ | with_reducible refine i_lst ?_ | with_reducible refine i_tup ?_ | with_reducible refine i_cb ?_ | with_reducible refine i_call ?_ | with_reducible refine i_gsub ?_ | with_reducible refine i_B ?_ | with_reducible refine i_un ?_ | with_reducible refine i_U ?_ | with_reducible refine i_eqOI ?_ | with_reducible refine i_eqIO ?_ | with_reducible refine i_forL ?_ | with_reducible refine i_forT ?_ | with_reducible refine i_forR ?_ | with_reducible refine i_forR2 ?_ | with_reducible refine i_forR3 ?_ | with_reducible refine i_forE ?_ | with_reducible refine i_lcL ?_ | with_reducible refine i_lcT ?_ | with_reducible refine i_lcR ?_ | with_reducible refine i_yes ?_ | with_reducible refine i_lce ?_ | with_reducible refine i_lcf ?_ | with_reducible refine i_gcons ?_ | with_reducible refine i_gnil ?_ | with_reducible refine i_chain ?_ | with_reducible refine i_t ?_ | with_reducible refine i_f ?_ | with_reducible refine i_nt ?_ | with_reducible refine i_nf ?_ | with_reducible refine i_bm ?_ | with_reducible refine i_bm0 ?_ | with_reducible refine i_and2 ?_ | with_reducible refine i_or2 ?_ | with_reducible refine i_intI ?_ | with_reducible refine i_intB ?_ | with_reducible refine i_sl ?_ | with_reducible refine i_part ?_ | with_reducible refine i_nopart ?_ | with_reducible refine i_cut ?_ | with_reducible refine i_lrg ?_ | with_reducible refine i_make ?_ | with_reducible refine i_meth ?_ | with_reducible refine i_fld ?_ | with_reducible refine i_sfld ?_ | with_reducible refine i_dnew ?_ | with_reducible refine i_par3 ?_ | with_reducible refine i_par3e ?_ | with_reducible refine i_par2 ?_ | with_reducible refine i_par2e ?_ | with_reducible refine i_dput ?_ | with_reducible refine i_dget2 ?_ | with_reducible refine i_din ?_ | with_reducible refine i_dget ?_ | with_reducible refine i_isO ?_ | with_reducible refine i_isR ?_ | with_reducible refine i_isN ?_ | with_reducible refine i_isI ?_ | with_reducible refine i_noO ?_ | with_reducible refine i_noR ?_ | with_reducible refine i_noN ?_ | with_reducible refine i_noI ?_ | with_reducible refine i_dgetN ?_ | with_reducible refine i_dputN ?_ | with_reducible refine i_dnewN ?_ | with_reducible refine i_ckw ?_ | with_reducible refine (show ∃ k, V.bl _ = V.bl k ∧ _ from ⟨_, rfl, ?_⟩) | with_reducible refine (show ∃ k, V.int _ = V.int k ∧ _ from ⟨_, rfl, ?_⟩) | ((with_reducible apply i_ixL); (· assumption); (· exact rfl)) | ((with_reducible apply i_ixT); (· assumption); (· exact rfl)) | ((with_reducible apply i_lenL); (· assumption)) | ((with_reducible apply i_lenT); (· assumption)) | ((with_reducible apply i_I); (· (first | omega | (dsimp only; omega) | exact ⟨by omega, by omega⟩ | exact Or.inr ⟨by omega, by omega⟩ | exact Or.inl ⟨by omega, by omega⟩ | exact ⟨by decide, by decide, by decide⟩))) | ((with_reducible apply i_gtup); (· assumption); (· rfl)) | ((with_reducible apply i_p); (· omega)) | ((with_reducible apply i_n); (· omega)) | ((with_reducible apply i_np); (· omega)) | ((with_reducible apply i_nn); (· omega)) | ((with_reducible apply i_lcP); (· omega)) | ((with_reducible apply i_lcN); (· omega)) | ((with_reducible apply i_lcnP); (· omega)) | ((with_reducible apply i_lcnN); (· omega)))))
section
variable {P : Program} {w : World} {K : PySem.W.Frag} {mg : Str → Option Value} {base : Heap} {f : Addr} {fd : FuncData} {C : Addr}
abbrev sMemory___init__ : Stmt := inClass (topS 14) 0
theorem scMemory___init__ : FnScope ["self", "words", "number", "wide", "bears", "gap"] ["self", "words"] (defScope sMemory___init__) := ⟨rfl, rfl, rfl, by decide +kernel, rfl, by decide +kernel, by decide +kernel⟩
abbrev sMemory_words : Stmt := inClass (topS 14) 1
theorem scMemory_words : FnScope ["self"] ["self"] (defScope sMemory_words) := ⟨rfl, rfl, rfl, by decide +kernel, rfl, by decide +kernel, by decide +kernel⟩
theorem ok_init (T : Txt K mg) (cl : Cls K C) (na : NoAttr K C "kept") (F : Fun K "__init__" "Memory.__init__" sMemory___init__ f fd) : FnOk P w K mg base CX0 1 f fd ["self", "words"] (spInit K C) := by
  refine F.ok scMemory___init__ (fun vs H Q E h => ?_) (fun cdv A outer s H0 vs Q E hr h => ?_)
  · obtain ⟨G, p, dx, l, ws, rfl, _⟩ := h
    rfl
  · obtain ⟨G0, p, dx, l, ws, rfl, sb, tp, hw, ok, k⟩ := h
    refine ⟨_, (pss_cons (ps_if (pt_not (pt_chain op_le op_le pe_int (pe_callB (r := rLen K) cl_len (by rfl) T.b_len (by decide +kernel) (pa_cons (pv 1) pa_nil)) (pgc T.c_MOST_WORDS))) (pss_one ps_never) pss_nil)
      (pss_cons (ps_for PassesOwn.never rfl (pi_range1 (by rfl) T.b_range (pa_cons (pe_callB (r := rLen K) cl_len (by rfl) T.b_len (by decide +kernel) (pa_cons (pv 1) pa_nil)) pa_nil)) (pg_name (i := 2) scMemory___init__.nd rfl (Or.inl rfl)) (pss_cons (ps_asg (pe_ix (r := rIxL K) ix_list (pv 1) (pv 2) (fun _ _ => rfl)) (pg_tup rfl (pgs_cons (pg_name (i := 3) scMemory___init__.nd rfl (Or.inl rfl)) (pgs_cons (pg_name (i := 4) scMemory___init__.nd rfl (Or.inl rfl)) (pgs_cons (pg_name (i := 5) scMemory___init__.nd rfl (Or.inl rfl)) pgs_nil)))))
      (pss_one (ps_if (PW.pt (pw_or (pt_not (pt_chain op_le op_le pe_int (pv 3) (pgc T.c_MOST_WIDE))) (pw_or (pt_not (pt_chain op_le op_le pe_int (pv 4) (pgc T.c_MOST_WIDE))) (pw_or1 (pt_not (pt_chain op_le op_le pe_int (pv 5) (pgc T.c_MOST_GAP))))))) (pss_one ps_never) pss_nil))))
      (pss_one (ps_fld (pv 0) (pe_callTy (r := rList K) cl_list (by rfl) T.b_list (by decide +kernel) (pa_cons (pv 1) pa_nil)) rfl)))), ?_⟩
    try dsimp only [cxOf, L2.Cx.nox, L2.Cx.wish]
    refine i_start (σ' := [some (.ref p), some (.ref l), none, none, none, none]) rfl ?_
    have g : Gr (· = p) G0 H0 G0 H0 := Gr.refl sb
    obtain ⟨as, hl, pr⟩ := id hw
    have hl1 : SqL K H0 l (as.map V.ref) := ls hl g.sub
    have e1 : (as.map V.ref).length = ws.length := by rw [List.length_map, Paired.len pr, List.length_map]
    have l1 := ok.l1
    have l4 := ok.l4
    walk_at "zrd"
    refine forR (by omega) (by omega) (fun i σ H' => ∃ (v2 v3 v4 v5 : Option V), σ = [some (.ref p), some (.ref l), v2, v3, v4, v5] ∧ H' = H0) ⟨none, none, none, none, rfl, rfl⟩ ?_ ?_
    · rintro i σ H' hi ⟨v2, v3, v4, v5, rfl, rfl⟩
      have hi2 : i < ws.length := by omega
      obtain ⟨a, ha, ht⟩ := word_at pr (List.getElem?_eq_getElem hi2)
      have ht := sqt g.sub ht
      obtain ⟨o1, o2, o3, o4, o5, o6⟩ := ok.ok ws[i] (List.getElem_mem hi2)
      walk_at "zrd"
      refine i_ixL hl1 (atN (k := i) rfl ha) ?_
      walk_at "zrd"
      exact ⟨_, _, _, _, rfl, rfl⟩
    · rintro σ H' ⟨v2, v3, v4, v5, rfl, rfl⟩
      walk_at "zrd"
      refine i_listL hl1 (by rw [e1]; exact Nat.le_of_lt (small1000 (by omega))) ?_
      refine newLC g (by first | omega | (simp; done) | (simp; omega)) fun l2 G2 H2 nl2 zl2 s g tl2 => ?_
      have npl2 := ne_of_none tp.h nl2
      have tp := tp.monoN s
      walk_at "zrd"
      refine sfld tp cl na (by show 0 < 1000; decide) ?_
      walk_at "zrd"
      exact k l2 G2 _ (g.mut tp (.inl rfl)) tp.put ⟨as, tl2, prt s.gg pr⟩
theorem ok_words (T : Txt K mg) (cl : Cls K C) (na : NoAttr K C "kept") (F : Fun K "words" "Memory.words" sMemory_words f fd) : FnOk P w K mg base CX0 1 f fd ["self"] (spWords K C) := by
  refine F.ok scMemory_words (fun vs H Q E h => ?_) (fun cdv A outer s H0 vs Q E hr h => ?_)
  · obtain ⟨G, m, ws, rfl, _⟩ := h
    rfl
  · obtain ⟨G0, m, ws, rfl, sb, ⟨dx, l, hm, ⟨as, hl, pr⟩, ok⟩, k⟩ := h
    refine ⟨_, (pss_one (ps_ret (pe_callTy (r := rList K) cl_list (by rfl) T.b_list (by decide +kernel) (pa_cons (pe_fld (pv 0) rfl) pa_nil)))), ?_⟩
    try dsimp only [cxOf, L2.Cx.nox, L2.Cx.wish]
    refine i_start (σ' := [some (.ref m)]) rfl ?_
    have g : Gr No G0 H0 G0 H0 := Gr.refl sb
    walk_at "zrd"
    refine fld (g.sub _ _ hm) cl na (fK_look l) ?_
    walk_at "zrd"
    have e1 : (as.map V.ref).length = ws.length := by rw [List.length_map, Paired.len pr, List.length_map]
    have l4 := ok.l4
    refine i_listL (ls (K := K) hl g.sub) (by rw [e1]; exact Nat.le_of_lt (small1000 (by omega))) ?_
    refine newL g (by first | omega | (simp; done) | (simp; omega)) fun p H2 np zp s g tp => ?_
    walk_at "zrd"
    exact k p as H2 np g tp pr
end
end Z
set_option Elab.async false
set_option linter.all false
set_option maxRecDepth 100000
set_option maxHeartbeats 4000000
namespace Z
open PySem PySem.Spec PyProof.Rows L2
local macro_rules | `(tactic| walk_at "zrd") => `(tactic| (repeat (first | ((with_reducible apply i_var); (· exact rfl)) | with_reducible refine i_c ?_ | with_reducible refine i_op ?_ | with_reducible refine i_I0 ?_ | with_reducible refine i_eqI ?_ | with_reducible refine i_neI ?_ | with_reducible refine i_test ?_ | with_reducible refine i_cons ?_ | with_reducible refine i_nil ?_ | with_reducible refine i_seq ?_ | with_reducible refine i_nx ?_ | with_reducible refine i_rt ?_ | with_reducible refine i_pass ?_ | with_reducible refine i_asg ?_ | with_reducible refine i_gname ?_ | with_reducible refine i_ret ?_ | with_reducible refine i_drop ?_ | with_reducible refine i_ifS ?_ | with_reducible refine i_if ?_ | with_reducible refine i_not ?_ | with_reducible refine i_and ?_ | with_reducible refine i_or ?_ | with_reducible refine i_lst ?_ | with_reducible refine i_tup ?_ | with_reducible refine i_cb ?_ | with_reducible refine i_call ?_ | with_reducible refine i_gsub ?_ | with_reducible refine i_B ?_ | with_reducible refine i_un ?_ | with_reducible refine i_U ?_ | with_reducible refine i_eqOI ?_ | with_reducible refine i_eqIO ?_ | with_reducible refine i_forL ?_ | with_reducible refine i_forT ?_ | with_reducible refine i_forR ?_ | with_reducible refine i_forR2 ?_ | with_reducible refine i_forR3 ?_ | with_reducible refine i_forE ?_ | with_reducible refine i_lcL ?_ | with_reducible refine i_lcT ?_ | with_reducible refine i_lcR ?_ | with_reducible refine i_yes ?_ | with_reducible refine i_lce ?_ | with_reducible refine i_lcf ?_ | with_reducible refine i_gcons ?_ | with_reducible refine i_gnil ?_ | with_reducible refine i_chain ?_ | with_reducible refine i_t ?_ | with_reducible refine i_f ?_ | with_reducible refine i_nt ?_ | with_reducible refine i_nf ?_ | with_reducible refine i_bm ?_ | with_reducible refine i_bm0 ?_ | with_reducible refine i_and2 ?_ | with_reducible refine i_or2 ?_ | with_reducible refine i_intI ?_ | with_reducible refine i_intB ?_ | with_reducible refine i_sl ?_ | with_reducible refine i_part ?_ | with_reducible refine i_nopart ?_ | with_reducible refine i_cut ?_ | with_reducible refine i_lrg ?_ | with_reducible refine i_make ?_ | with_reducible refine i_meth ?_ | with_reducible refine i_fld ?_ | with_reducible refine i_sfld ?_ | with_reducible refine i_dnew ?_ | with_reducible refine i_par3 ?_ | with_reducible refine i_par3e ?_ | with_reducible refine i_par2 ?_ | with_reducible refine i_par2e ?_ | with_reducible refine i_dput ?_ | with_reducible refine i_dget2 ?_ | with_reducible refine i_din ?_ | with_reducible refine i_dget ?_ | with_reducible refine i_isO ?_ | with_reducible refine i_isR ?_ | with_reducible refine i_isN ?_ | with_reducible refine i_isI ?_ | with_reducible refine i_noO ?_ | with_reducible refine i_noR ?_ | with_reducible refine i_noN ?_ | with_reducible refine i_noI ?_ | with_reducible refine i_dgetN ?_ | with_reducible refine i_dputN ?_ | with_reducible refine i_dnewN ?_ | with_reducible refine i_ckw ?_ | with_reducible refine (show ∃ k, V.bl _ = V.bl k ∧ _ from ⟨_, rfl, ?_⟩) | with_reducible refine (show ∃ k, V.int _ = V.int k ∧ _ from ⟨_, rfl, ?_⟩) | ((with_reducible apply i_ixL); (· assumption); (· exact rfl)) | ((with_reducible apply i_ixT); (· assumption); (· exact rfl)) | ((with_reducible apply i_lenL); (· assumption)) | ((with_reducible apply i_lenT); (· assumption)) | ((with_reducible apply i_I); (· (first | omega | (dsimp only; omega) | exact ⟨by omega, by omega⟩ | exact Or.inr ⟨by omega, by omega⟩ | exact Or.inl ⟨by omega, by omega⟩ | exact ⟨by decide, by decide, by decide⟩))) | ((with_reducible apply i_gtup); (· assumption); (· rfl)) | ((with_reducible apply i_p); (· omega)) | ((with_reducible apply i_n); (· omega)) | ((with_reducible apply i_np); (· omega)) | ((with_reducible apply i_nn); (· omega)) | ((with_reducible apply i_lcP); (· omega)) | ((with_reducible apply i_lcN); (· omega)) | ((with_reducible apply i_lcnP); (· omega)) | ((with_reducible apply i_lcnN); (· omega)))))
section
variable {P : Program} {w : World} {K : PySem.W.Frag} {mg : Str → Option Value} {base : Heap} {f : Addr} {fd : FuncData} {C : Addr}
abbrev sneed_load : Stmt := topS 16
theorem scneed_load : FnScope ["load", "one"] ["load"] (defScope sneed_load) := ⟨rfl, rfl, rfl, by decide +kernel, rfl, by decide +kernel, by decide +kernel⟩
abbrev sneed_plan : Stmt := topS 17
theorem scneed_plan : FnScope ["memory", "plan", "head", "loop", "word"] ["memory", "plan"] (defScope sneed_plan) := ⟨rfl, rfl, rfl, by decide +kernel, rfl, by decide +kernel, by decide +kernel⟩
abbrev smended_at : Stmt := topS 23
theorem scmended_at : FnScope ["load", "plan", "beats", "head", "loop", "found", "at", "beat", "word"] ["load", "plan", "beats"] (defScope smended_at) := ⟨rfl, rfl, rfl, by decide +kernel, rfl, by decide +kernel, by decide +kernel⟩
theorem ok_need_load (T : Txt K mg) (F : Fun K "need_load" "need_load" sneed_load f fd) : FnOk P w K mg base CX0 1 f fd ["load"] (spNeedLoad K) := by
  refine F.ok scneed_load (fun vs H Q E h => ?_) (fun cdv A outer s H0 vs Q E hr h => ?_)
  · obtain ⟨G, a, ld, rfl, _⟩ := h
    rfl
  · obtain ⟨G0, a, ld, rfl, sb, hl, ok, k⟩ := h
    refine ⟨_, (pss_one (ps_if (PW.pt (pw_or (pt_not (pt_chain op_le op_le pe_int (pe_callB (r := rLen K) cl_len (by rfl) T.b_len (by decide +kernel) (pa_cons (pv 0) pa_nil)) (pgc T.c_MOST_LOAD))) (pw_or (pt_cmpR (r := rNeD K) (op_neD hr.units) (pe_lc (own := [("one", 1)]) (g := gName 1) rfl scneed_load.nd (pi_list (pv 0)) (blkOk_by (own := [("one", 1)]) (N := ["load", "one"]) (sc := defScope sneed_load) (by decide +kernel)) (fun _ _ _ _ _ => (pg_name (i := 1) scneed_load.nd rfl (Or.inl rfl))) (fun _ _ _ _ _ => (pts_one (pt_cmpR (r := rIn K true) op_notIn_seq (pv 1) (pe_tup (pa_cons pe_int (pa_cons pe_int pa_nil))) rfl))) (fun _ _ _ _ _ => (pv 1))) (pe_lst pa_nil) (nomark _)) (pw_or1 (pt_cmpR (r := rIn K true) op_notIn_seq pe_int (pv 0) rfl))))) (pss_one ps_never) pss_nil)), ?_⟩
    try dsimp only [cxOf, L2.Cx.nox, L2.Cx.wish]
    refine i_start (σ' := [some (.ref a), none]) rfl ?_
    have g : Gr No G0 H0 G0 H0 := Gr.refl sb
    have l1 := ok.l1
    have l12 := ok.l12
    have hlen : (ld.map V.int).length = ld.length := List.length_map _
    have hL : SqL K H0 a (ld.map V.int) := ls hl g.sub
    walk_at "zrd"
    refine lcL hL (fun D i H' => Gr No G0 H0 G0 H' ∧ At G0 H' D (.lst [])) ?_ ?_ ?_ ?_
    · intro D nD
      exact ⟨g.new nD, At.of g nD⟩
    · rintro D i H' nD ⟨g, tD⟩
      exact ls hl g.sub
    · rintro D i x H' nD hx ⟨g, tD⟩
      obtain ⟨z, hz, rfl⟩ := map_at hx
      walk_at "zrd"
      refine i_lcw rfl ?_
      walk_at "zrd"
      refine newTO g (by first | omega | (simp; done) | (simp; omega)) fun t H2 nt zt s g tt => ?_
      have nDt := ne_of_none tD.h nt
      have tD := tD.monoN s
      walk_at "zrd"
      refine i_niT1 (.inl (.inl tt.h)) rfl rfl ?_ ?_
      · rcases ok.bit z (List.mem_of_getElem? hz) with rfl | rfl <;> rfl
      walk_at "zrd"
      exact ⟨g, tD⟩
    · rintro D H' nD ⟨g, tD⟩
      walk_at "zrd"
      refine newL g (by first | omega | (simp; done) | (simp; omega)) fun e H2 ne ze s g te => ?_
      have nDe := ne_of_none tD.h ne
      have tD := tD.monoN s
      walk_at "zrd"
      refine i_neD1 (dp_nil (.inl (.inl tD.h))) (dp_nil (.inl (.inl te.h))) (dk_ints (k := 0) []) (by decide) ?_
      walk_at "zrd"
      refine i_niL1 (ls hl g.sub) rfl (flat_ints ld) (by rw [inV_ints]; exact decide_eq_true ok.free) ?_
      walk_at "zrd"
      exact k _ g
theorem ok_need_plan (T : Txt K mg) (C_words : CalMt P w K mg base C "words" 1 ["self"] (spWords K C)) (F : Fun K "need_plan" "need_plan" sneed_plan f fd) : FnOk P w K mg base CX0 2 f fd ["memory", "plan"] (spNeedPlan K C) := by
  refine F.ok scneed_plan (fun vs H Q E h => ?_) (fun cdv A outer s H0 vs Q E hr h => ?_)
  · obtain ⟨G, m, p, ws, hd, lp, rfl, _⟩ := h
    rfl
  · obtain ⟨G0, m, p, ws, hd, lp, rfl, sb, M, ⟨a, b, hp, ha, hb⟩, ok, k⟩ := h
    refine ⟨_, (pss_cons (ps_asg (pv 1) (pg_tup rfl (pgs_cons (pg_name (i := 2) scneed_plan.nd rfl (Or.inl rfl)) (pgs_cons (pg_name (i := 3) scneed_plan.nd rfl (Or.inl rfl)) pgs_nil))))
      (pss_cons (ps_if (PW.pt (pw_or (pt_cmpR op_eq (pe_callB (r := rLen K) cl_len (by rfl) T.b_len (by decide +kernel) (pa_cons (pv 3) pa_nil)) pe_int (nomark _)) (pw_or (pt_cmpR op_gt (pe_callB (r := rLen K) cl_len (by rfl) T.b_len (by decide +kernel) (pa_cons (pv 2) pa_nil)) (pgc T.c_MOST_PLAN) (nomark _)) (pw_or1 (pt_cmpR op_gt (pe_callB (r := rLen K) cl_len (by rfl) T.b_len (by decide +kernel) (pa_cons (pv 3) pa_nil)) (pgc T.c_MOST_PLAN) (nomark _)))))) (pss_one ps_never) pss_nil)
      (pss_one (ps_if (pt_cmpR (r := rNeD K) (op_neD hr.units) (pe_lc (own := [("word", 4)]) (g := gName 4) rfl scneed_plan.nd (pi_list (pe_op op_cat (pv 2) (pv 3))) (blkOk_by (own := [("word", 4)]) (N := ["memory", "plan", "head", "loop", "word"]) (sc := defScope sneed_plan) (by decide +kernel)) (fun _ _ _ _ _ => (pg_name (i := 4) scneed_plan.nd rfl (Or.inl rfl))) (fun _ _ _ _ _ => (pts_one (PW.pt (pw_and (pt_cmpR op_notNz (pv 4) pe_non (nomark _)) (pw_and1 (pt_not (pt_chain op_le op_lt pe_int (pv 4) (pe_callB (r := rLen K) cl_len (by rfl) T.b_len (by decide +kernel) (pa_cons (pmt C_words (hr.mono (by decide)) (pv 0)) pa_nil))))))))) (fun _ _ _ _ _ => (pv 4))) (pe_lst pa_nil) (nomark _)) (pss_one ps_never) pss_nil)))), ?_⟩
    try dsimp only [cxOf, L2.Cx.nox, L2.Cx.wish]
    refine i_start (σ' := [some (.ref m), some (.ref p), none, none, none]) rfl ?_
    have g : Gr No G0 H0 G0 H0 := Gr.refl sb
    obtain ⟨h40, l1, l40, hok, lok⟩ := id ok
    have e1 : (hd.map vO).length = hd.length := List.length_map _
    have e2 : (lp.map vO).length = lp.length := List.length_map _
    have hp1 := sqt (K := K) g.sub hp
    have ha1 : SqL K H0 a (hd.map vO) := ls ha g.sub
    have hb1 : SqL K H0 b (lp.map vO) := ls hb g.sub
    walk_at "zrd"
    refine i_cat (g.sub _ _ ha) (g.sub _ _ hb) ?_
    rw [← List.map_append]
    refine newL g (by first | omega | (simp; done) | (simp; omega)) fun c H1 nc zc s g tc => ?_
    walk_at "zrd"
    have gA := g
    have ec : ((hd ++ lp).map vO).length = hd.length + lp.length := by rw [List.length_map, List.length_append]
    refine lcL (.inl (.inl tc.h)) (fun D i H' => Gr No G0 H0 G0 H' ∧ At G0 H' D (.lst []) ∧ At G0 H' c (.lst ((hd ++ lp).map vO))) ?_ ?_ ?_ ?_
    · intro D nD
      exact ⟨g.new nD, At.of g nD, tc.new nD⟩
    · rintro D i H' nD ⟨g, tD, tc⟩
      exact .inl (.inl tc.h)
    · rintro D i x H' nD hx ⟨g, tD, tc⟩
      obtain ⟨o, ho, rfl⟩ := map_at hx
      have hok2 : okT ws.length o := by
        rcases List.mem_append.mp (List.mem_of_getElem? ho) with h | h
        · exact hok o h
        · exact lok o h
      walk_at "zrd"
      refine i_lcw rfl ?_
      walk_at "zrd"
      cases o with
      | none =>
        refine i_np rfl ?_
        walk_at "zrd"
        exact ⟨g, tD, tc⟩
      | some j =>
        refine i_nn (by simp) ?_
        obtain ⟨j0, j1⟩ := hok2 j rfl
        dsimp only [vO]
        walk_at "zrd"
        refine i_words g (M.mono (fun _ _ h => h)) fun q as H5 nq s g tq pr => ?_
        have tD := tD.monoN s
        have tc := tc.monoN s
        have e5 : (as.map V.ref).length = ws.length := by rw [List.length_map, Paired.len pr, List.length_map]
        have hq : SqL K H5 q (as.map V.ref) := .inl (.inl tq.h)
        walk_at "zrd"
        exact ⟨g, tD, tc⟩
    · rintro D H' nD ⟨g, tD, tc⟩
      walk_at "zrd"
      refine newL g (by first | omega | (simp; done) | (simp; omega)) fun e H2 ne ze s g te => ?_
      have nDe := ne_of_none tD.h ne
      have tD := tD.monoN s
      walk_at "zrd"
      refine i_neD1 (dp_nil (.inl (.inl tD.h))) (dp_nil (.inl (.inl te.h))) (dk_ints (k := 0) []) (by decide) ?_
      walk_at "zrd"
      exact k _ g
theorem ok_mended (T : Txt K mg) (F : Fun K "mended_at" "mended_at" smended_at f fd) : FnOk P w K mg base CX0 1 f fd ["load", "plan", "beats"] (spMended K) := by
  refine F.ok scmended_at (fun vs H Q E h => ?_) (fun cdv A outer s H0 vs Q E hr h => ?_)
  · obtain ⟨G, a, p, n, ld, hd, lp, j, rfl, _⟩ := h
    rfl
  · obtain ⟨G0, l, p, n, ld, hd, lp, j, rfl, sb, hl, okl, ⟨a, b, hp, ha, hb⟩, ok, n0, n1, k⟩ := h
    refine ⟨_, (pss_cons (ps_asg (pv 1) (pg_tup rfl (pgs_cons (pg_name (i := 3) scmended_at.nd rfl (Or.inl rfl)) (pgs_cons (pg_name (i := 4) scmended_at.nd rfl (Or.inl rfl)) pgs_nil))))
      (pss_cons (ps_set (i := 5) scmended_at.nd rfl (Or.inl rfl) (pe_lst pa_nil))
      (pss_cons (ps_set (i := 6) scmended_at.nd rfl (Or.inl rfl) pe_int)
      (pss_cons (ps_for PassesOwn.never rfl (pi_range1 (by rfl) T.b_range (pa_cons (pv 2) pa_nil)) (pg_name (i := 7) scmended_at.nd rfl (Or.inl rfl)) (pss_cons (ps_set (i := 8) scmended_at.nd rfl (Or.inl rfl) pe_non)
      (C8.pss_cut (ps_if (pt_cmpR op_eq (pe_ix (r := rIxL K) ix_list (pv 0) (pe_op op_mod (pv 7) (pe_callB (r := rLen K) cl_len (by rfl) T.b_len (by decide +kernel) (pa_cons (pv 0) pa_nil))) (fun _ _ => rfl)) pe_int (nomark _)) (pss_cons (ps_set (i := 8) scmended_at.nd rfl (Or.inl rfl) (pe_ifExp (pt_cmpR op_lt (pv 6) (pe_callB (r := rLen K) cl_len (by rfl) T.b_len (by decide +kernel) (pa_cons (pv 3) pa_nil)) (nomark _)) (pe_ix (r := rIxL K) ix_list (pv 3) (pv 6) (fun _ _ => rfl)) (pe_ix (r := rIxL K) ix_list (pv 4) (pe_op op_mod (pe_op op_sub (pv 6) (pe_callB (r := rLen K) cl_len (by rfl) T.b_len (by decide +kernel) (pa_cons (pv 3) pa_nil))) (pe_callB (r := rLen K) cl_len (by rfl) T.b_len (by decide +kernel) (pa_cons (pv 4) pa_nil))) (fun _ _ => rfl))))
      (pss_one (ps_set (i := 6) scmended_at.nd rfl (Or.inl rfl) (pe_op op_add (pv 6) pe_int)))) pss_nil)
      (pss_one (ps_expr (pe_bm PySem.F.plainAttrs_list PySem.F.slot_list_append PySem.F.type_list_append mt_append (pv 5) (pa_cons (pv 8) pa_nil)))))))
      (pss_one (ps_ret (pv 5))))))), ?_⟩
    try dsimp only [cxOf, L2.Cx.nox, L2.Cx.wish]
    refine i_start (σ' := [some (.ref l), some (.ref p), some (.int n), none, none, none, none, none, none]) rfl ?_
    have g : Gr No G0 H0 G0 H0 := Gr.refl sb
    obtain ⟨h40, l1, l40, hok, lok⟩ := id ok
    have L1 := okl.l1
    have L12 := okl.l12
    have e0 : (ld.map V.int).length = ld.length := List.length_map _
    have e1 : (hd.map vO).length = hd.length := List.length_map _
    have e2 : (lp.map vO).length = lp.length := List.length_map _
    have hp1 := sqt (K := K) g.sub hp
    walk_at "zrd"
    refine newL g (by first | omega | (simp; done) | (simp; omega)) fun q H1 nq zq s g tq => ?_
    walk_at "zrd"
    refine forR n0 (by omega) (fun i σ H' => ∃ (v7 v8 : Option V), σ = [some (.ref l), some (.ref p), some (.int n), some (.ref a), some (.ref b), some (.ref q), some (.int (fr ld i : Nat)), v7, v8] ∧ Gr No G0 H0 G0 H' ∧ At G0 H' q (.lst ((mends ld hd lp i).map vO))) ⟨none, none, rfl, g, tq⟩ ?_ ?_
    · rintro i σ H' hi ⟨v7, v8, rfl, g, tq⟩
      have hl1 : SqL K H' l (ld.map V.int) := ls hl g.sub
      have ha1 : SqL K H' a (hd.map vO) := ls ha g.sub
      have hb1 : SqL K H' b (lp.map vO) := ls hb g.sub
      have hm : i % ld.length < ld.length := Nat.mod_lt _ (by omega)
      have eml := mends_len ld hd lp i
      walk_at "zrd"
      refine ⟨fun σ H2 => H2 = H' ∧ σ = [some (.ref l), some (.ref p), some (.int n), some (.ref a), some (.ref b), some (.ref q), some (.int (fr ld (i + 1) : Nat)), some (.int i), some (vO (mend ld hd lp i))], ?_, ?_⟩
      · walk_at "zrd"
        refine i_ixL hl1 (atN (k := i % ld.length) (by rw [e0]; rfl) (map_getD (d := 1) hm)) ?_
        walk_at "zrd"
        refine i_ite (fun hz => ?_) (fun hz => ?_)
        · have em : mend ld hd lp i = thing hd lp (fr ld i) := by unfold mend; rw [if_pos hz]
          have ef : fr ld (i + 1) = fr ld i + 1 := by rw [fr, if_pos hz]
          rw [em, ef]
          walk_at "zrd"
          refine i_ite (fun hlt => ?_) (fun hlt => ?_)
          · have hlt2 : fr ld i < hd.length := by omega
            have et : thing hd lp (fr ld i) = hd.getD (fr ld i) none := by unfold thing; rw [if_pos hlt2]
            rw [et]
            walk_at "zrd"
            refine i_ixL ha1 (atN (k := fr ld i) rfl (map_getD (d := none) hlt2)) ?_
            walk_at "zrd"
            exact ⟨rfl, rfl⟩
          · have hlt2 : ¬ fr ld i < hd.length := by omega
            have et : thing hd lp (fr ld i) = lp.getD ((fr ld i - hd.length) % lp.length) none := by unfold thing; rw [if_neg hlt2]
            rw [et]
            walk_at "zrd"
            refine i_ixL hb1 (atN (k := (fr ld i - hd.length) % lp.length) (by rw [e1, e2, Int.natCast_emod, Int.natCast_sub (by omega)]) (map_getD (d := none) (Nat.mod_lt _ (by omega)))) ?_
            walk_at "zrd"
            exact ⟨rfl, rfl⟩
        · have em : mend ld hd lp i = none := by unfold mend; rw [if_neg hz]
          have ef : fr ld (i + 1) = fr ld i := by rw [fr, if_neg hz, Nat.add_zero]
          rw [em, ef]
          walk_at "zrd"
          exact ⟨rfl, rfl⟩
      · rintro σ H2 ⟨rfl, rfl⟩
        walk_at "zrd"
        refine ⟨tyL tq.h, ?_⟩
        walk_at "zrd"
        refine i_append tq.h (by rw [List.length_map, eml]; omega) ?_
        walk_at "zrd"
        refine ⟨_, _, rfl, g.mut tq (.inr nq), ?_⟩
        rw [mends_succ, List.map_append]
        exact tq.put
    · rintro σ H' ⟨v7, v8, rfl, g, tq⟩
      walk_at "zrd"
      exact k q H' nq g tq
end
end Z
set_option Elab.async false
set_option linter.all false
set_option maxRecDepth 100000
set_option maxHeartbeats 4000000
namespace Z
open PySem PySem.Spec PyProof.Rows L2
local macro_rules | `(tactic| walk_at "zrd") => `(tactic| (repeat (first | ((with_reducible apply i_var); (· exact rfl)) | with_reducible refine i_c ?_ | with_reducible refine i_op ?_ | with_reducible refine i_I0 ?_ | with_reducible refine i_eqI ?_ | with_reducible refine i_neI ?_ | with_reducible refine i_test ?_ | with_reducible refine i_cons ?_ | with_reducible refine i_nil ?_ | with_reducible refine i_seq ?_ | with_reducible refine i_nx ?_ | with_reducible refine i_rt ?_ | with_reducible refine i_pass ?_ | with_reducible refine i_asg ?_ | with_reducible refine i_gname ?_ | with_reducible refine i_ret ?_ | with_reducible refine i_drop ?_ | with_reducible refine i_ifS ?_ | with_reducible refine i_if ?_ | with_reducible refine i_not ?_ | with_reducible refine i_and ?_ | with_reducible refine i_or ?_ | with_reducible refine i_lst ?_ | with_reducible refine i_tup ?_ | with_reducible refine i_cb ?_ | with_reducible refine i_call ?_ | with_reducible refine i_gsub ?_ | with_reducible refine i_B ?_ | with_reducible refine i_un ?_ | with_reducible refine i_U ?_ | with_reducible refine i_eqOI ?_ | with_reducible refine i_eqIO ?_ | with_reducible refine i_forL ?_ | with_reducible refine i_forT ?_ | with_reducible refine i_forR ?_ | with_reducible refine i_forR2 ?_ | with_reducible refine i_forR3 ?_ | with_reducible refine i_forE ?_ | with_reducible refine i_lcL ?_ | with_reducible refine i_lcT ?_ | with_reducible refine i_lcR ?_ | with_reducible refine i_yes ?_ | with_reducible refine i_lce ?_ | with_reducible refine i_lcf ?_ | with_reducible refine i_gcons ?_ | with_reducible refine i_gnil ?_ | with_reducible refine i_chain ?_ | with_reducible refine i_t ?_ | with_reducible refine i_f ?_ | with_reducible refine i_nt ?_ | with_reducible refine i_nf ?_ | with_reducible refine i_bm ?_ | with_reducible refine i_bm0 ?_ | with_reducible refine i_and2 ?_ | with_reducible refine i_or2 ?_ | with_reducible refine i_intI ?_ | with_reducible refine i_intB ?_ | with_reducible refine i_sl ?_ | with_reducible refine i_part ?_ | with_reducible refine i_nopart ?_ | with_reducible refine i_cut ?_ | with_reducible refine i_lrg ?_ | with_reducible refine i_make ?_ | with_reducible refine i_meth ?_ | with_reducible refine i_fld ?_ | with_reducible refine i_sfld ?_ | with_reducible refine i_dnew ?_ | with_reducible refine i_par3 ?_ | with_reducible refine i_par3e ?_ | with_reducible refine i_par2 ?_ | with_reducible refine i_par2e ?_ | with_reducible refine i_dput ?_ | with_reducible refine i_dget2 ?_ | with_reducible refine i_din ?_ | with_reducible refine i_dget ?_ | with_reducible refine i_isO ?_ | with_reducible refine i_isR ?_ | with_reducible refine i_isN ?_ | with_reducible refine i_isI ?_ | with_reducible refine i_noO ?_ | with_reducible refine i_noR ?_ | with_reducible refine i_noN ?_ | with_reducible refine i_noI ?_ | with_reducible refine i_dgetN ?_ | with_reducible refine i_dputN ?_ | with_reducible refine i_dnewN ?_ | with_reducible refine i_ckw ?_ | with_reducible refine (show ∃ k, V.bl _ = V.bl k ∧ _ from ⟨_, rfl, ?_⟩) | with_reducible refine (show ∃ k, V.int _ = V.int k ∧ _ from ⟨_, rfl, ?_⟩) | ((with_reducible apply i_ixL); (· assumption); (· exact rfl)) | ((with_reducible apply i_ixT); (· assumption); (· exact rfl)) | ((with_reducible apply i_lenL); (· assumption)) | ((with_reducible apply i_lenT); (· assumption)) | ((with_reducible apply i_I); (· (first | omega | (dsimp only; omega) | exact ⟨by omega, by omega⟩ | exact Or.inr ⟨by omega, by omega⟩ | exact Or.inl ⟨by omega, by omega⟩ | exact ⟨by decide, by decide, by decide⟩))) | ((with_reducible apply i_gtup); (· assumption); (· rfl)) | ((with_reducible apply i_p); (· omega)) | ((with_reducible apply i_n); (· omega)) | ((with_reducible apply i_np); (· omega)) | ((with_reducible apply i_nn); (· omega)) | ((with_reducible apply i_lcP); (· omega)) | ((with_reducible apply i_lcN); (· omega)) | ((with_reducible apply i_lcnP); (· omega)) | ((with_reducible apply i_lcnN); (· omega)))))
section
variable {P : Program} {w : World} {K : PySem.W.Frag} {mg : Str → Option Value} {base : Heap} {f : Addr} {fd : FuncData} {C : Addr}
abbrev s_law_mends : Stmt := topS 35
theorem sc_law_mends : FnScope ["_law_load_here", "_law_plan_here", "_law_beats", "_law_left", "_law_found", "_law_beat", "_law_word"] ["_law_load_here", "_law_plan_here", "_law_beats"] (defScope s_law_mends) := ⟨rfl, rfl, rfl, by decide +kernel, rfl, by decide +kernel, by decide +kernel⟩
theorem ok_mends (T : Txt K mg) (F : Fun K "_law_mends" "_law_mends" s_law_mends f fd) : FnOk P w K mg base CX0 1 f fd ["_law_load_here", "_law_plan_here", "_law_beats"] (spMends K) := by
  refine F.ok sc_law_mends (fun vs H Q E h => ?_) (fun cdv A outer s H0 vs Q E hr h => ?_)
  · obtain ⟨G, a, p, n, ld, hd, lp, j, rfl, _⟩ := h
    rfl
  · obtain ⟨G0, l, p, n, ld, hd, lp, j, rfl, sb, hl, okl, ⟨a, b, hp, ha, hb⟩, ok, n0, n1, k⟩ := h
    refine ⟨_, (pss_cons (ps_set (i := 3) sc_law_mends.nd rfl (Or.inl rfl) (pe_callTy (r := rList K) cl_list (by rfl) T.b_list (by decide +kernel) (pa_cons (pe_ix (r := rIxT K) ix_tup (pv 1) pe_int (fun _ _ => rfl)) pa_nil)))
      (pss_cons (ps_set (i := 4) sc_law_mends.nd rfl (Or.inl rfl) (pe_lst pa_nil))
      (pss_cons (ps_for PassesOwn.never rfl (pi_range1 (by rfl) T.b_range (pa_cons (pv 2) pa_nil)) (pg_name (i := 5) sc_law_mends.nd rfl (Or.inl rfl)) (pss_cons (ps_set (i := 6) sc_law_mends.nd rfl (Or.inl rfl) pe_non)
      (C8.pss_cut (ps_if (pt_cmpR op_eq (pe_ix (r := rIxL K) ix_list (pv 0) (pe_op op_mod (pv 5) (pe_callB (r := rLen K) cl_len (by rfl) T.b_len (by decide +kernel) (pa_cons (pv 0) pa_nil))) (fun _ _ => rfl)) pe_int (nomark _)) (C8.pss_cut (ps_if (pt_cmpR (r := rEqD K) (op_eqD hr.units) (pv 3) (pe_lst pa_nil) (nomark _)) (pss_one (ps_set (i := 3) sc_law_mends.nd rfl (Or.inl rfl) (pe_callTy (r := rList K) cl_list (by rfl) T.b_list (by decide +kernel) (pa_cons (pe_ix (r := rIxT K) ix_tup (pv 1) pe_int (fun _ _ => rfl)) pa_nil)))) pss_nil)
      (pss_one (ps_set (i := 6) sc_law_mends.nd rfl (Or.inl rfl) (pe_bm PySem.F.plainAttrs_list PySem.F.slot_list_pop PySem.F.type_list_pop mt_popAt (pv 3) (pa_cons pe_int pa_nil))))) pss_nil)
      (pss_one (ps_expr (pe_bm PySem.F.plainAttrs_list PySem.F.slot_list_append PySem.F.type_list_append mt_append (pv 4) (pa_cons (pv 6) pa_nil)))))))
      (pss_one (ps_ret (pv 4)))))), ?_⟩
    try dsimp only [cxOf, L2.Cx.nox, L2.Cx.wish]
    refine i_start (σ' := [some (.ref l), some (.ref p), some (.int n), none, none, none, none]) rfl ?_
    have g : Gr No G0 H0 G0 H0 := Gr.refl sb
    obtain ⟨h40, l1, l40, hok, lok⟩ := id ok
    have L1 := okl.l1
    have L12 := okl.l12
    have e0 : (ld.map V.int).length = ld.length := List.length_map _
    have e1 : (hd.map vO).length = hd.length := List.length_map _
    have e2 : (lp.map vO).length = lp.length := List.length_map _
    have hp1 := sqt (K := K) g.sub hp
    walk_at "zrd"
    refine i_listL (Z.ls ha g.sub) (by rw [e1]; exact Nat.le_trans h40 (by decide)) ?_
    refine newL g (by first | omega | (simp; done) | (simp; omega)) fun lf H1 nlf zlf s g tlf => ?_
    walk_at "zrd"
    refine newL g (by first | omega | (simp; done) | (simp; omega)) fun q H2 nq zq s g tq => ?_
    have nlfq := ne_of_none tlf.h nq
    have tlf := tlf.monoN s
    walk_at "zrd"
    refine forR n0 (by omega) (fun i σ H' => ∃ (v5 v6 : Option V) (lf : Addr) (L : List (Option Int)), σ = [some (.ref l), some (.ref p), some (.int n), some (.ref lf), some (.ref q), v5, v6] ∧ Gr No G0 H0 G0 H' ∧ At G0 H' q (.lst ((mends ld hd lp i).map vO)) ∧ At G0 H' lf (.lst (L.map vO)) ∧ lf ≠ q ∧ H0 lf = none ∧ Left hd lp (fr ld i) L) ⟨none, none, lf, hd, rfl, g, tq, tlf, nlfq, zlf, left_zero hd lp⟩ ?_ ?_
    · rintro i σ H' hi ⟨v5, v6, lf, L, rfl, g, tq, tlf, nlq, zlf, lft⟩
      have hl1 : SqL K H' l (ld.map V.int) := Z.ls hl g.sub
      have hm : i % ld.length < ld.length := Nat.mod_lt _ (by omega)
      have eml := mends_len ld hd lp i
      walk_at "zrd"
      refine ⟨fun σ H2 => ∃ (lf : Addr) (L : List (Option Int)), σ = [some (.ref l), some (.ref p), some (.int n), some (.ref lf), some (.ref q), some (.int i), some (vO (mend ld hd lp i))] ∧ Gr No G0 H0 G0 H2 ∧ At G0 H2 q (.lst ((mends ld hd lp i).map vO)) ∧ At G0 H2 lf (.lst (L.map vO)) ∧ lf ≠ q ∧ H0 lf = none ∧ Left hd lp (fr ld (i + 1)) L, ?_, ?_⟩
      · walk_at "zrd"
        refine i_ixL hl1 (atN (k := i % ld.length) (by rw [e0]; rfl) (map_getD (d := 1) hm)) ?_
        walk_at "zrd"
        refine i_ite (fun hz => ?_) (fun hz => ?_)
        · have em : mend ld hd lp i = thing hd lp (fr ld i) := by unfold mend; rw [if_pos hz]
          have ef : fr ld (i + 1) = fr ld i + 1 := by rw [fr, if_pos hz]
          rw [em, ef]
          walk_at "zrd"
          refine ⟨fun σ H2 => ∃ (lf : Addr) (o : Option Int) (L : List (Option Int)), σ = [some (.ref l), some (.ref p), some (.int n), some (.ref lf), some (.ref q), some (.int i), some .non] ∧ Gr No G0 H0 G0 H2 ∧ At G0 H2 q (.lst ((mends ld hd lp i).map vO)) ∧ At G0 H2 lf (.lst ((o :: L).map vO)) ∧ lf ≠ q ∧ H0 lf = none ∧ Left hd lp (fr ld i) (o :: L), ?_, ?_⟩
          · walk_at "zrd"
            refine newL g (by first | omega | (simp; done) | (simp; omega)) fun e H3 ne ze s g te => ?_
            have nqe := ne_of_none tq.h ne
            have nlfe := ne_of_none tlf.h ne
            have tq := tq.monoN s
            have tlf := tlf.monoN s
            walk_at "zrd"
            refine i_eqNil (k := 1) (.lst (.inl (.inl tlf.h)) (dpAll_vO L)) (dp_nil (.inl (.inl te.h))) (dk_vOs L) (by decide) ?_
            walk_at "zrd"
            refine i_b (fun hb0 => ?_) (fun hb0 => ?_)
            · have eL : L = [] := by simpa using hb0
              subst eL
              have hp2 := sqt (K := K) g.sub hp
              walk_at "zrd"
              refine i_listL (Z.ls hb g.sub) (by rw [e2]; exact Nat.le_trans l40 (by decide)) ?_
              refine newL g (by first | omega | (simp; done) | (simp; omega)) fun l2 H4 nl2 zl2 s g tl2 => ?_
              have nql2 := ne_of_none tq.h nl2
              have tq := tq.monoN s
              walk_at "zrd"
              obtain ⟨o, lr, elp⟩ : ∃ o lr, lp = o :: lr := by
                cases lp with
                | nil => exact absurd l1 (by simp)
                | cons o lr => exact ⟨o, lr, rfl⟩
              exact ⟨l2, o, lr, rfl, g, tq, by rw [← elp]; exact tl2, nql2.symm, zl2, by rw [← elp]; exact left_new lft l1⟩
            · obtain ⟨o, L2, eL⟩ : ∃ o lr, L = o :: lr := by
                cases L with
                | nil => exact absurd hb0 (by simp)
                | cons o lr => exact ⟨o, lr, rfl⟩
              subst eL
              walk_at "zrd"
              exact ⟨lf, o, L2, rfl, g, tq, tlf, nlq, zlf, lft⟩
          · rintro σ H2 ⟨lf, o, L, rfl, g, tq, tlf, nlq, zlf, lft⟩
            obtain ⟨eo, lft⟩ := left_pop lft
            walk_at "zrd"
            refine ⟨tyL tlf.h, ?_⟩
            walk_at "zrd"
            refine i_pop0 tlf.h ?_
            walk_at "zrd"
            exact ⟨lf, L, by rw [← eo]; rfl, g.mut tlf (.inr zlf), tq.off nlq.symm, tlf.put, nlq, zlf, lft⟩
        · have em : mend ld hd lp i = none := by unfold mend; rw [if_neg hz]
          have ef : fr ld (i + 1) = fr ld i := by rw [fr, if_neg hz, Nat.add_zero]
          rw [em, ef]
          walk_at "zrd"
          exact ⟨lf, L, rfl, g, tq, tlf, nlq, zlf, lft⟩
      · rintro σ H2 ⟨lf, L, rfl, g, tq, tlf, nlq, zlf, lft⟩
        walk_at "zrd"
        refine ⟨tyL tq.h, ?_⟩
        walk_at "zrd"
        refine i_append tq.h (by rw [List.length_map, eml]; omega) ?_
        walk_at "zrd"
        refine ⟨_, _, lf, L, rfl, g.mut tq (.inr zq), ?_, tlf.off nlq, nlq, zlf, lft⟩
        rw [mends_succ, List.map_append]
        exact tq.put
    · rintro σ H' ⟨v5, v6, lf, L, rfl, g, tq, tlf, nlq, zlf, lft⟩
      walk_at "zrd"
      exact k q H' zq g tq
end
end Z
set_option Elab.async false
set_option linter.all false
set_option maxRecDepth 100000
set_option maxHeartbeats 4000000
namespace Z
open PySem PySem.Spec PyProof.Rows L2
local macro_rules | `(tactic| walk_at "zrd") => `(tactic| (repeat (first | ((with_reducible apply i_var); (· exact rfl)) | with_reducible refine i_c ?_ | with_reducible refine i_op ?_ | with_reducible refine i_I0 ?_ | with_reducible refine i_eqI ?_ | with_reducible refine i_neI ?_ | with_reducible refine i_test ?_ | with_reducible refine i_cons ?_ | with_reducible refine i_nil ?_ | with_reducible refine i_seq ?_ | with_reducible refine i_nx ?_ | with_reducible refine i_rt ?_ | with_reducible refine i_pass ?_ | with_reducible refine i_asg ?_ | with_reducible refine i_gname ?_ | with_reducible refine i_ret ?_ | with_reducible refine i_drop ?_ | with_reducible refine i_ifS ?_ | with_reducible refine i_if ?_ | with_reducible refine i_not ?_ | with_reducible refine i_and ?_ | with_reducible refine i_or ?_ | with_reducible refine i_lst ?_ | with_reducible refine i_tup ?_ | with_reducible refine i_cb ?_ | with_reducible refine i_call ?_ | with_reducible refine i_gsub ?_ | with_reducible refine i_B ?_ | with_reducible refine i_un ?_ | with_reducible refine i_U ?_ | with_reducible refine i_eqOI ?_ | with_reducible refine i_eqIO ?_ | with_reducible refine i_forL ?_ | with_reducible refine i_forT ?_ | with_reducible refine i_forR ?_ | with_reducible refine i_forR2 ?_ | with_reducible refine i_forR3 ?_ | with_reducible refine i_forE ?_ | with_reducible refine i_lcL ?_ | with_reducible refine i_lcT ?_ | with_reducible refine i_lcR ?_ | with_reducible refine i_yes ?_ | with_reducible refine i_lce ?_ | with_reducible refine i_lcf ?_ | with_reducible refine i_gcons ?_ | with_reducible refine i_gnil ?_ | with_reducible refine i_chain ?_ | with_reducible refine i_t ?_ | with_reducible refine i_f ?_ | with_reducible refine i_nt ?_ | with_reducible refine i_nf ?_ | with_reducible refine i_bm ?_ | with_reducible refine i_bm0 ?_ | with_reducible refine i_and2 ?_ | with_reducible refine i_or2 ?_ | with_reducible refine i_intI ?_ | with_reducible refine i_intB ?_ | with_reducible refine i_sl ?_ | with_reducible refine i_part ?_ | with_reducible refine i_nopart ?_ | with_reducible refine i_cut ?_ | with_reducible refine i_lrg ?_ | with_reducible refine i_make ?_ | with_reducible refine i_meth ?_ | with_reducible refine i_fld ?_ | with_reducible refine i_sfld ?_ | with_reducible refine i_dnew ?_ | with_reducible refine i_par3 ?_ | with_reducible refine i_par3e ?_ | with_reducible refine i_par2 ?_ | with_reducible refine i_par2e ?_ | with_reducible refine i_dput ?_ | with_reducible refine i_dget2 ?_ | with_reducible refine i_din ?_ | with_reducible refine i_dget ?_ | with_reducible refine i_isO ?_ | with_reducible refine i_isR ?_ | with_reducible refine i_isN ?_ | with_reducible refine i_isI ?_ | with_reducible refine i_noO ?_ | with_reducible refine i_noR ?_ | with_reducible refine i_noN ?_ | with_reducible refine i_noI ?_ | with_reducible refine i_dgetN ?_ | with_reducible refine i_dputN ?_ | with_reducible refine i_dnewN ?_ | with_reducible refine i_ckw ?_ | with_reducible refine (show ∃ k, V.bl _ = V.bl k ∧ _ from ⟨_, rfl, ?_⟩) | with_reducible refine (show ∃ k, V.int _ = V.int k ∧ _ from ⟨_, rfl, ?_⟩) | ((with_reducible apply i_ixL); (· assumption); (· exact rfl)) | ((with_reducible apply i_ixT); (· assumption); (· exact rfl)) | ((with_reducible apply i_lenL); (· assumption)) | ((with_reducible apply i_lenT); (· assumption)) | ((with_reducible apply i_I); (· (first | omega | (dsimp only; omega) | exact ⟨by omega, by omega⟩ | exact Or.inr ⟨by omega, by omega⟩ | exact Or.inl ⟨by omega, by omega⟩ | exact ⟨by decide, by decide, by decide⟩))) | ((with_reducible apply i_gtup); (· assumption); (· rfl)) | ((with_reducible apply i_p); (· omega)) | ((with_reducible apply i_n); (· omega)) | ((with_reducible apply i_np); (· omega)) | ((with_reducible apply i_nn); (· omega)) | ((with_reducible apply i_lcP); (· omega)) | ((with_reducible apply i_lcN); (· omega)) | ((with_reducible apply i_lcnP); (· omega)) | ((with_reducible apply i_lcnN); (· omega)))))
section
variable {P : Program} {w : World} {K : PySem.W.Frag} {mg : Str → Option Value} {base : Heap} {f : Addr} {fd : FuncData}
abbrev s_law_memory : Stmt := topS 31
theorem sc_law_memory : FnScope ["_law_d", "_law_most", "_law_words", "_law_k", "_law_wide", "_law_bears"] ["_law_d", "_law_most"] (defScope s_law_memory) := ⟨rfl, rfl, rfl, by decide +kernel, rfl, by decide +kernel, by decide +kernel⟩
theorem ok_memory (T : Txt K mg) (C__law_next : Cal P w K mg base "_law_next" 1 ["_law_dice_here", "_law_many_here"] (spNext K)) (F : Fun K "_law_memory" "_law_memory" s_law_memory f fd) : FnOk P w K mg base CX0 2 f fd ["_law_d", "_law_most"] (spMemory K) := by
  refine F.ok sc_law_memory (fun vs H Q E h => ?_) (fun cdv A outer s H0 vs Q E hr h => ?_)
  · obtain ⟨G, d, m, rfl, _⟩ := h
    rfl
  · obtain ⟨G0, d, m, rfl, sb, D, hm0, hm4, k⟩ := h
    refine ⟨_, (pss_cons (ps_set (i := 2) sc_law_memory.nd rfl (Or.inl rfl) (pe_lst pa_nil))
      (pss_cons (ps_for PassesOwn.never rfl (pi_range1 (by rfl) T.b_range (pa_cons (pe_op op_add pe_int (pc C__law_next (hr.mono (by decide)) (pa_cons (pv 0) (pa_cons (pv 1) pa_nil)))) pa_nil)) (pg_name (i := 3) sc_law_memory.nd rfl (Or.inl rfl)) (pss_cons (ps_set (i := 4) sc_law_memory.nd rfl (Or.inl rfl) (pe_op op_add pe_int (pc C__law_next (hr.mono (by decide)) (pa_cons (pv 0) (pa_cons pe_int pa_nil)))))
      (pss_cons (ps_set (i := 5) sc_law_memory.nd rfl (Or.inl rfl) (pe_ix (r := rIxL K) ix_list (pe_lst (pa_cons pe_int (pa_cons pe_int (pa_cons pe_int (pa_cons (pc C__law_next (hr.mono (by decide)) (pa_cons (pv 0) (pa_cons pe_int pa_nil))) pa_nil))))) (pc C__law_next (hr.mono (by decide)) (pa_cons (pv 0) (pa_cons pe_int pa_nil))) (fun _ _ => rfl)))
      (pss_one (ps_expr (pe_bm PySem.F.plainAttrs_list PySem.F.slot_list_append PySem.F.type_list_append mt_append (pv 2) (pa_cons (pe_tup (pa_cons (pv 4) (pa_cons (pv 5) (pa_cons (pe_op op_add pe_int (pc C__law_next (hr.mono (by decide)) (pa_cons (pv 0) (pa_cons (pe_ix (r := rIxL K) ix_list (pe_lst (pa_cons pe_int (pa_cons pe_int pa_nil))) (pc C__law_next (hr.mono (by decide)) (pa_cons (pv 0) (pa_cons pe_int pa_nil))) (fun _ _ => rfl)) pa_nil)))) pa_nil)))) pa_nil)))))))
      (pss_one (ps_ret (pv 2))))), ?_⟩
    try dsimp only [cxOf, L2.Cx.nox, L2.Cx.wish]
    refine i_start (σ' := [some (.ref d), some (.int m), none, none, none, none]) rfl ?_
    have g : Gr (· = d) G0 H0 G0 H0 := Gr.refl sb
    walk_at "zrd"
    refine newL g (by first | omega | (simp; done) | (simp; omega)) fun l H1 nl zl s g tl => ?_
    have ndl := D.ne nl
    have D := D.monoN s
    walk_at "zrd"
    refine i_next g D (by first | exact Or.inl rfl | exact Or.inr (by assumption)) (by omega) (by omega) fun n1 H2 s g D hn10 hn11 => ?_
    have tl := tl.mono s ndl
    walk_at "zrd"
    refine forR (by omega) (by omega) (fun i σ H' => ∃ (v3 v4 v5 : Option V) (G' : Hp) (as : List Addr) (ws : List (Int × Int × Int)), σ = [some (.ref d), some (.int m), some (.ref l), v3, v4, v5] ∧ Gr (· = d) G0 H0 G' H' ∧ Dice K G' H' d ∧ At G' H' l (.lst (as.map V.ref)) ∧ Paired (fun p t => SqT K G' p t) as (ws.map vW) ∧ ws.length = i ∧ ∀ w ∈ ws, okW w)
      ⟨none, none, none, G0, [], [], rfl, g, D, tl, .nil, rfl, by simp⟩ ?_ ?_
    · rintro i σ H' hi ⟨v3, v4, v5, G, as, ws, rfl, g, D, tl, pr, el, ok⟩
      have hlen : as.length = ws.length := by rw [Paired.len pr, List.length_map]
      walk_at "zrd"
      refine i_next g D (by first | exact Or.inl rfl | exact Or.inr (by assumption)) (by omega) (by omega) fun a H3 s g D ha0 ha1 => ?_
      have tl := tl.mono s ndl
      walk_at "zrd"
      refine i_next g D (by first | exact Or.inl rfl | exact Or.inr (by assumption)) (by omega) (by omega) fun b H4 s g D hb0 hb1 => ?_
      have tl := tl.mono s ndl
      walk_at "zrd"
      refine newL g (by first | omega | (simp; done) | (simp; omega)) fun q H5 nq zq s g tq => ?_
      have ndq := D.ne nq
      have nlq := ne_of_none tl.h nq
      have D := D.monoN s
      have tl := tl.monoN s
      walk_at "zrd"
      refine i_next g D (by first | exact Or.inl rfl | exact Or.inr (by assumption)) (by omega) (by omega) fun c H6 s g D hc0 hc1 => ?_
      have tl := tl.mono s ndl
      have tq := tq.mono s ndq
      walk_at "zrd"
      obtain ⟨v, hv, ha⟩ := atPick (xs := [V.int 1, V.int 1, V.int 2, V.int b]) hc0 (by simpa using hc1)
      obtain ⟨e, rfl, he0, he8⟩ : ∃ e, v = V.int e ∧ 0 ≤ e ∧ e ≤ 8 := by
        simp only [List.mem_cons, List.not_mem_nil, or_false] at hv
        rcases hv with rfl | rfl | rfl | rfl <;> exact ⟨_, rfl, by omega, by omega⟩
      refine i_ixL (.inl (.inl tq.h)) ha ?_
      walk_at "zrd"
      refine ⟨tyL tl.h, ?_⟩
      walk_at "zrd"
      refine newL g (by first | omega | (simp; done) | (simp; omega)) fun r H7 nr zr s g tr => ?_
      have ndr := D.ne nr
      have nlr := ne_of_none tl.h nr
      have D := D.monoN s
      have tl := tl.monoN s
      walk_at "zrd"
      refine i_next g D (by first | exact Or.inl rfl | exact Or.inr (by assumption)) (by omega) (by omega) fun y H8 s g D hy0 hy1 => ?_
      have tl := tl.mono s ndl
      have tr := tr.mono s ndr
      walk_at "zrd"
      obtain ⟨v, hv, ha⟩ := atPick (xs := [V.int 4, V.int 9]) hy0 (by simpa using hy1)
      obtain ⟨e2, rfl, he20, he28⟩ : ∃ e, v = V.int e ∧ 4 ≤ e ∧ e ≤ 9 := by
        simp only [List.mem_cons, List.not_mem_nil, or_false] at hv
        rcases hv with rfl | rfl <;> exact ⟨_, rfl, by omega, by omega⟩
      refine i_ixL (.inl (.inl tr.h)) ha ?_
      walk_at "zrd"
      refine i_next g D (by first | exact Or.inl rfl | exact Or.inr (by assumption)) (by omega) (by omega) fun z H9 s g D hz0 hz1 => ?_
      have tl := tl.mono s ndl
      walk_at "zrd"
      refine newT (K := K) g (by first | omega | (simp; done) | (simp; omega)) fun t G2 H10 nt zt s g tt => ?_
      have ndt := D.ne nt
      have nlt := ne_of_none tl.h nt
      have D := D.monoN s
      have tl := tl.monoN s
      have pr := prt s.gg pr
      walk_at "zrd"
      refine i_append tl.h (by simp; omega) ?_
      walk_at "zrd"
      refine ⟨_, _, _, G2, as ++ [t], ws ++ [(1 + a, e, 1 + z)], rfl, g.mut tl (.inr nl), D.off ndl, ?_, ?_, by simp [el], ?_⟩
      · rw [List.map_append]
        exact tl.put
      · rw [List.map_append]
        exact Paired.snoc tt pr
      · intro w hw
        rcases List.mem_append.mp hw with h | h
        · exact ok w h
        · rw [List.mem_singleton.mp h]
          exact ⟨by show 1 ≤ 1 + a; omega, by show 1 + a ≤ 8; omega, he0, he8, by show 1 ≤ 1 + z; omega, by show 1 + z ≤ 9; omega⟩
    · rintro σ H' ⟨v3, v4, v5, G, as, ws, rfl, g, D, tl, pr, el, ok⟩
      walk_at "zrd"
      exact k ws l _ H' (g.close tl nl) (D.close tl ndl) nl ⟨as, upd_same, prt (same_close tl) pr⟩ ⟨by omega, by omega, ok⟩ (by omega)
abbrev s_law_load : Stmt := topS 32
theorem sc_law_load : FnScope ["_law_d", "_law_most", "_law_load_here", "_law_k"] ["_law_d", "_law_most"] (defScope s_law_load) := ⟨rfl, rfl, rfl, by decide +kernel, rfl, by decide +kernel, by decide +kernel⟩
theorem ok_load (T : Txt K mg) (C__law_next : Cal P w K mg base "_law_next" 1 ["_law_dice_here", "_law_many_here"] (spNext K)) (F : Fun K "_law_load" "_law_load" s_law_load f fd) : FnOk P w K mg base CX0 2 f fd ["_law_d", "_law_most"] (spLoad K) := by
  refine F.ok sc_law_load (fun vs H Q E h => ?_) (fun cdv A outer s H0 vs Q E hr h => ?_)
  · obtain ⟨G, d, m, rfl, _⟩ := h
    rfl
  · obtain ⟨G0, d, m, rfl, sb, D, hm0, hm4, k⟩ := h
    refine ⟨_, (pss_cons (ps_setLc (i := 2) (own := [("_law_k", 3)]) (g := gName 3) rfl sc_law_load.nd rfl rfl (sw_true rfl rfl rfl (by decide +kernel)) (pi_range1 (by rfl) T.b_range (pa_cons (pe_op op_add pe_int (pc C__law_next (hr.mono (by decide)) (pa_cons (pv 0) (pa_cons (pv 1) pa_nil)))) pa_nil)) (blkOk_by (own := [("_law_k", 3)]) (N := ["_law_d", "_law_most", "_law_load_here", "_law_k"]) (sc := defScope s_law_load) (by decide +kernel)) (fun _ _ _ _ _ => (pg_name (i := 3) sc_law_load.nd rfl (Or.inl rfl))) (fun _ _ _ _ _ => pts_nil) (fun _ _ _ _ _ => (pe_callTy cl_int (by rfl) T.b_int (by decide +kernel) (pa_cons (pe_cmpR op_eq (pc C__law_next (hr.mono (by decide)) (pa_cons (pv 0) (pa_cons pe_int pa_nil))) pe_int (nomark _)) pa_nil))))
      (pss_cons (ps_asg pe_int (pg_sub (pv 2) (pc C__law_next (hr.mono (by decide)) (pa_cons (pv 0) (pa_cons (pe_callB (r := rLen K) cl_len (by rfl) T.b_len (by decide +kernel) (pa_cons (pv 2) pa_nil)) pa_nil))) set_list))
      (pss_one (ps_ret (pv 2))))), ?_⟩
    try dsimp only [cxOf, L2.Cx.nox, L2.Cx.wish]
    refine i_start (σ' := [some (.ref d), some (.int m), none, none]) rfl ?_
    have g : Gr (· = d) G0 H0 G0 H0 := Gr.refl sb
    walk_at "zrd"
    refine i_next g D (by first | exact Or.inl rfl | exact Or.inr (by assumption)) (by omega) (by omega) fun n1 H2 s g D hn10 hn11 => ?_
    walk_at "zrd"
    have gA := g
    refine lcR (by omega) (by omega) (fun C i H' => ∃ (ld : List Int), Gr (· = d) G0 H0 G0 H' ∧ Dice K G0 H' d ∧ At G0 H' C (.lst (ld.map V.int)) ∧ ld.length = i ∧ ∀ x ∈ ld, x = 0 ∨ x = 1) ?_ ?_ ?_
    · intro C nC
      exact ⟨[], g.new nC, D.monoN (Gr.new (Gr.refl g.sub) nC), At.of g nC, rfl, by simp⟩
    · rintro C i H' nC hi ⟨ld, g, D, tC, el, ok⟩
      have ndC := Dice.ne (by assumption) nC
      walk_at "zrd"
      refine i_lcw rfl ?_
      walk_at "zrd"
      refine i_next g D (by first | exact Or.inl rfl | exact Or.inr (by assumption)) (by omega) (by omega) fun a H3 s g D ha0 ha1 => ?_
      have tC := tC.mono s ndC
      walk_at "zrd"
      refine lcp tC (by simp; omega) ?_
      refine ⟨ld ++ [if decide (a = 2) = true then 1 else 0], g.mut tC (.inr (gA.fresh nC)), D.off ndC, ?_, by simp [el], ?_⟩
      · rw [List.map_append]
        exact tC.put
      · intro x hx
        rcases List.mem_append.mp hx with h | h
        · exact ok x h
        · rw [List.mem_singleton.mp h]
          split
          · exact .inr rfl
          · exact .inl rfl
    · rintro C H' nC ⟨ld, g, D, tC, el, ok⟩
      have ndC := Dice.ne (by assumption) nC
      have hC : SqL K H' C (ld.map V.int) := .inl (.inl tC.h)
      have hlen : (ld.map V.int).length = ld.length := List.length_map _
      walk_at "zrd"
      refine i_next g D (by first | exact Or.inl rfl | exact Or.inr (by assumption)) (by omega) (by omega) fun a H3 s g D ha0 ha1 => ?_
      have tC := tC.mono s ndC
      walk_at "zrd"
      have ha : a.toNat < ld.length := by omega
      refine i_setL ((ld.set a.toNat 0).map V.int) tC.h (ixN_nat (k := a.toNat) (by omega) (by omega)) (by rw [List.map_set]) ?_
      walk_at "zrd"
      refine k (ld.set a.toNat 0) C _ _ ((g.mut tC (.inr (gA.fresh nC))).close tC.put (gA.fresh nC)) ((D.off ndC).close tC.put ndC) (gA.fresh nC) upd_same ⟨by rw [List.length_set]; omega, by rw [List.length_set]; omega, fun x hx => ?_, ?_⟩ (by rw [List.length_set]; omega)
      · rcases List.mem_or_eq_of_mem_set hx with h | h
        · exact ok x h
        · exact .inl h
      · exact List.mem_of_getElem? (List.getElem?_set_self ha)
abbrev s_law_plan : Stmt := topS 34
theorem sc_law_plan : FnScope ["_law_d", "_law_many_here", "_law_size", "_law_head", "_law_loop", "_law_k"] ["_law_d", "_law_many_here"] (defScope s_law_plan) := ⟨rfl, rfl, rfl, by decide +kernel, rfl, by decide +kernel, by decide +kernel⟩
theorem ok_plan (T : Txt K mg) (C__law_next : Cal P w K mg base "_law_next" 1 ["_law_dice_here", "_law_many_here"] (spNext K)) (F : Fun K "_law_plan" "_law_plan" s_law_plan f fd) : FnOk P w K mg base CX0 2 f fd ["_law_d", "_law_many_here"] (spPlan K) := by
  refine F.ok sc_law_plan (fun vs H Q E h => ?_) (fun cdv A outer s H0 vs Q E hr h => ?_)
  · obtain ⟨G, d, m, rfl, _⟩ := h
    rfl
  · obtain ⟨G0, d, m, rfl, sb, D, hm0, hm4, k⟩ := h
    refine ⟨_, (pss_cons (ps_set (i := 2) sc_law_plan.nd rfl (Or.inl rfl) (pc C__law_next (hr.mono (by decide)) (pa_cons (pv 0) (pa_cons (pe_ix (r := rIxL K) ix_list (pe_lst (pa_cons pe_int (pa_cons pe_int (pa_cons pe_int (pa_cons pe_int pa_nil))))) (pc C__law_next (hr.mono (by decide)) (pa_cons (pv 0) (pa_cons pe_int pa_nil))) (fun _ _ => rfl)) pa_nil))))
      (pss_cons (ps_setLc (i := 3) (own := [("_law_k", 5)]) (g := gName 5) rfl sc_law_plan.nd rfl rfl (sw_true rfl rfl rfl (by decide +kernel)) (pi_range1 (by rfl) T.b_range (pa_cons (pv 2) pa_nil)) (blkOk_by (own := [("_law_k", 5)]) (N := ["_law_d", "_law_many_here", "_law_size", "_law_head", "_law_loop", "_law_k"]) (sc := defScope s_law_plan) (by decide +kernel)) (fun _ _ _ _ _ => (pg_name (i := 5) sc_law_plan.nd rfl (Or.inl rfl))) (fun _ _ _ _ _ => pts_nil) (fun _ _ _ _ _ => (pe_ix (r := rIxL K) ix_list (pe_lst (pa_cons pe_non (pa_cons (pc C__law_next (hr.mono (by decide)) (pa_cons (pv 0) (pa_cons (pv 1) pa_nil))) pa_nil))) (pe_callTy cl_int (by rfl) T.b_int (by decide +kernel) (pa_cons (pe_cmpR op_gt (pc C__law_next (hr.mono (by decide)) (pa_cons (pv 0) (pa_cons pe_int pa_nil))) pe_int (nomark _)) pa_nil)) (fun _ _ => rfl))))
      (pss_cons (ps_set (i := 2) sc_law_plan.nd rfl (Or.inl rfl) (pe_op op_add pe_int (pc C__law_next (hr.mono (by decide)) (pa_cons (pv 0) (pa_cons (pe_ix (r := rIxL K) ix_list (pe_lst (pa_cons pe_int (pa_cons pe_int (pa_cons pe_int (pa_cons pe_int pa_nil))))) (pc C__law_next (hr.mono (by decide)) (pa_cons (pv 0) (pa_cons pe_int pa_nil))) (fun _ _ => rfl)) pa_nil)))))
      (pss_cons (ps_setLc (i := 4) (own := [("_law_k", 5)]) (g := gName 5) rfl sc_law_plan.nd rfl rfl (sw_true rfl rfl rfl (by decide +kernel)) (pi_range1 (by rfl) T.b_range (pa_cons (pv 2) pa_nil)) (blkOk_by (own := [("_law_k", 5)]) (N := ["_law_d", "_law_many_here", "_law_size", "_law_head", "_law_loop", "_law_k"]) (sc := defScope s_law_plan) (by decide +kernel)) (fun _ _ _ _ _ => (pg_name (i := 5) sc_law_plan.nd rfl (Or.inl rfl))) (fun _ _ _ _ _ => pts_nil) (fun _ _ _ _ _ => (pe_ix (r := rIxL K) ix_list (pe_lst (pa_cons pe_non (pa_cons (pc C__law_next (hr.mono (by decide)) (pa_cons (pv 0) (pa_cons (pv 1) pa_nil))) pa_nil))) (pe_callTy cl_int (by rfl) T.b_int (by decide +kernel) (pa_cons (pe_cmpR op_gt (pc C__law_next (hr.mono (by decide)) (pa_cons (pv 0) (pa_cons pe_int pa_nil))) pe_int (nomark _)) pa_nil)) (fun _ _ => rfl))))
      (pss_cons (ps_if (pt_cmpR op_eq (pc C__law_next (hr.mono (by decide)) (pa_cons (pv 0) (pa_cons pe_int pa_nil))) pe_int (nomark _)) (pss_one (ps_set (i := 4) sc_law_plan.nd rfl (Or.inl rfl) (pe_op op_cat (pe_listRg rfl (by rfl) T.b_list (prg_1 (by rfl) T.b_range (pv 1))) (pe_op op_rep (pe_lst (pa_cons pe_non pa_nil)) (pc C__law_next (hr.mono (by decide)) (pa_cons (pv 0) (pa_cons pe_int pa_nil))))))) pss_nil)
      (pss_one (ps_ret (pe_tup (pa_cons (pv 3) (pa_cons (pv 4) pa_nil)))))))))), ?_⟩
    try dsimp only [cxOf, L2.Cx.nox, L2.Cx.wish]
    refine i_start (σ' := [some (.ref d), some (.int m), none, none, none, none]) rfl ?_
    have g : Gr (· = d) G0 H0 G0 H0 := Gr.refl sb
    walk_at "zrd"
    refine newL g (by first | omega | (simp; done) | (simp; omega)) fun q1 H1 nq1 zq1 s g tq1 => ?_
    have ndq1 := D.ne nq1
    have D := D.monoN s
    walk_at "zrd"
    refine i_next g D (by first | exact Or.inl rfl | exact Or.inr (by assumption)) (by omega) (by omega) fun x1 H2 s g D hx10 hx11 => ?_
    have tq1 := tq1.mono s ndq1
    walk_at "zrd"
    obtain ⟨v, hv, ha⟩ := atPick (xs := [V.int 7, V.int 7, V.int 7, V.int 41]) hx10 (by simpa using hx11)
    obtain ⟨e, rfl, he0, he8⟩ : ∃ e, v = V.int e ∧ 1 ≤ e ∧ e ≤ 41 := by
      simp only [List.mem_cons, List.not_mem_nil, or_false] at hv
      rcases hv with rfl | rfl | rfl | rfl <;> exact ⟨_, rfl, by omega, by omega⟩
    refine i_ixL (.inl (.inl tq1.h)) ha ?_
    walk_at "zrd"
    refine i_next g D (by first | exact Or.inl rfl | exact Or.inr (by assumption)) (by omega) (by omega) fun n1 H3 s g D hn10 hn11 => ?_
    walk_at "zrd"
    have gA := g
    have DA := D
    refine lcR (by omega) (by omega) (fun C i H' => ∃ (os : List (Option Int)), Gr (· = d) G0 H0 G0 H' ∧ Dice K G0 H' d ∧ At G0 H' C (.lst (os.map vO)) ∧ os.length = i ∧ ∀ o ∈ os, okT m.toNat o) ?_ ?_ ?_
    · intro C nC
      exact ⟨[], g.new nC, D.monoN (Gr.new (Gr.refl g.sub) nC), At.of g nC, rfl, by simp⟩
    · rintro C i H' nC hi ⟨os, g, D, tC, el, ok⟩
      have ndC := DA.ne nC
      walk_at "zrd"
      refine i_lcw rfl ?_
      walk_at "zrd"
      refine i_next g D (by first | exact Or.inl rfl | exact Or.inr (by assumption)) (by omega) (by omega) fun a H4 s g D ha0 ha1 => ?_
      have tC := tC.mono s ndC
      walk_at "zrd"
      refine newL g (by first | omega | (simp; done) | (simp; omega)) fun q H5 nq zq s g tq => ?_
      have ndq := D.ne nq
      have nCq := ne_of_none tC.h nq
      have D := D.monoN s
      have tC := tC.monoN s
      walk_at "zrd"
      refine i_next g D (by first | exact Or.inl rfl | exact Or.inr (by assumption)) (by omega) (by omega) fun c H6 s g D hc0 hc1 => ?_
      have tC := tC.mono s ndC
      have tq := tq.mono s ndq
      walk_at "zrd"
      have nCz := gA.fresh nC
      obtain ⟨v, hv, ha⟩ := atPick (xs := [V.non, V.int a]) (n := if decide (0 < c) = true then 1 else 0) (by split <;> omega) (by split <;> simp)
      obtain ⟨o, rfl, ho⟩ : ∃ o, v = vO o ∧ okT m.toNat o := by
        simp only [List.mem_cons, List.not_mem_nil, or_false] at hv
        rcases hv with rfl | rfl
        · exact ⟨none, rfl, fun i e => by cases e⟩
        · exact ⟨some a, rfl, fun i e => by cases e; omega⟩
      refine i_ixL (.inl (.inl tq.h)) ha ?_
      walk_at "zrd"
      refine lcp tC (by simp; omega) ?_
      refine ⟨os ++ [o], g.mut tC (.inr nCz), D.off ndC, ?_, by simp [el], ?_⟩
      · rw [List.map_append]
        exact tC.put
      · intro x hx
        rcases List.mem_append.mp hx with h | h
        · exact ok x h
        · rw [List.mem_singleton.mp h]
          exact ho
    · rintro C H' nC ⟨os, g, D, tC, el, ok⟩
      have ndC := DA.ne nC
      have nCz := gA.fresh nC
      walk_at "zrd"
      have gB := g
      obtain ⟨G1, g, D, lC, hGG⟩ : ∃ G1, Gr (· = d) G0 H0 G1 H' ∧ Dice K G1 H' d ∧ G1 C = some (.lst (os.map vO)) ∧ Same G0 G1 := ⟨_, g.close tC nCz, D.close tC ndC, upd_same, same_close tC⟩
      refine newL g (by first | omega | (simp; done) | (simp; omega)) fun q2 H4 nq2 zq2 s g tq2 => ?_
      have ndq2 := D.ne nq2
      have D := D.monoN s
      walk_at "zrd"
      refine i_next g D (by first | exact Or.inl rfl | exact Or.inr (by assumption)) (by omega) (by omega) fun x2 H5 s g D hx20 hx21 => ?_
      have tq2 := tq2.mono s ndq2
      walk_at "zrd"
      obtain ⟨v, hv, ha⟩ := atPick (xs := [V.int 9, V.int 9, V.int 9, V.int 40]) hx20 (by simpa using hx21)
      obtain ⟨e2, rfl, he20, he28⟩ : ∃ e, v = V.int e ∧ 1 ≤ e ∧ e ≤ 40 := by
        simp only [List.mem_cons, List.not_mem_nil, or_false] at hv
        rcases hv with rfl | rfl | rfl | rfl <;> exact ⟨_, rfl, by omega, by omega⟩
      refine i_ixL (.inl (.inl tq2.h)) ha ?_
      walk_at "zrd"
      refine i_next g D (by first | exact Or.inl rfl | exact Or.inr (by assumption)) (by omega) (by omega) fun n2 H6 s g D hn20 hn21 => ?_
      walk_at "zrd"
      have gC := g
      have DC := D
      refine lcR (by omega) (by omega) (fun C2 i H' => ∃ (os2 : List (Option Int)), Gr (· = d) G0 H0 G1 H' ∧ Dice K G1 H' d ∧ At G1 H' C2 (.lst (os2.map vO)) ∧ os2.length = i ∧ ∀ o ∈ os2, okT m.toNat o) ?_ ?_ ?_
      · intro C nC
        exact ⟨[], g.new nC, D.monoN (Gr.new (Gr.refl g.sub) nC), At.of g nC, rfl, by simp⟩
      · rintro C2 i H' nC hi ⟨os2, g, D, tC, el, ok⟩
        have ndC := DC.ne nC
        walk_at "zrd"
        refine i_lcw rfl ?_
        walk_at "zrd"
        refine i_next g D (by first | exact Or.inl rfl | exact Or.inr (by assumption)) (by omega) (by omega) fun a H4 s g D ha0 ha1 => ?_
        have tC := tC.mono s ndC
        walk_at "zrd"
        refine newL g (by first | omega | (simp; done) | (simp; omega)) fun q H5 nq zq s g tq => ?_
        have ndq := D.ne nq
        have nCq := ne_of_none tC.h nq
        have D := D.monoN s
        have tC := tC.monoN s
        walk_at "zrd"
        refine i_next g D (by first | exact Or.inl rfl | exact Or.inr (by assumption)) (by omega) (by omega) fun c H6 s g D hc0 hc1 => ?_
        have tC := tC.mono s ndC
        have tq := tq.mono s ndq
        walk_at "zrd"
        have nCz := gC.fresh nC
        obtain ⟨v, hv, ha⟩ := atPick (xs := [V.non, V.int a]) (n := if decide (0 < c) = true then 1 else 0) (by split <;> omega) (by split <;> simp)
        obtain ⟨o, rfl, ho⟩ : ∃ o, v = vO o ∧ okT m.toNat o := by
          simp only [List.mem_cons, List.not_mem_nil, or_false] at hv
          rcases hv with rfl | rfl
          · exact ⟨none, rfl, fun i e => by cases e⟩
          · exact ⟨some a, rfl, fun i e => by cases e; omega⟩
        refine i_ixL (.inl (.inl tq.h)) ha ?_
        walk_at "zrd"
        refine lcp tC (by simp; omega) ?_
        refine ⟨os2 ++ [o], g.mut tC (.inr nCz), D.off ndC, ?_, by simp [el], ?_⟩
        · rw [List.map_append]
          exact tC.put
        · intro x hx
          rcases List.mem_append.mp hx with h | h
          · exact ok x h
          · rw [List.mem_singleton.mp h]
            exact ho
      · rintro C2 H' nC2 ⟨os2, g, D, tC2, el2, ok2⟩
        have ndC2 := DC.ne nC2
        have nCz2 := gC.fresh nC2
        walk_at "zrd"
        obtain ⟨G2, g, D, lC2, hGG2⟩ : ∃ G2, Gr (· = d) G0 H0 G2 H' ∧ Dice K G2 H' d ∧ G2 C2 = some (.lst (os2.map vO)) ∧ Same G1 G2 := ⟨_, g.close tC2 nCz2, D.close tC2 ndC2, upd_same, same_close tC2⟩
        have lC := hGG2 _ _ lC
        refine i_next g D (by first | exact Or.inl rfl | exact Or.inr (by assumption)) (by omega) (by omega) fun y H7 s g D hy0 hy1 => ?_
        walk_at "zrd"
        refine i_ite (fun hy => ?_) (fun hy => ?_)
        · walk_at "zrd"
          have hrg : (rgV 0 m).length = m.toNat := by rw [rgV_length, Int.sub_zero]
          refine lrg (by omega) (by omega) ?_
          refine newL g (by first | omega | (simp; done) | (simp; omega)) fun q3 H8 nq3 zq3 s g tq3 => ?_
          have ndq3 := D.ne nq3
          have D := D.monoN s
          walk_at "zrd"
          refine newL g (by first | omega | (simp; done) | (simp; omega)) fun q4 H9 nq4 zq4 s g tq4 => ?_
          have ndq4 := D.ne nq4
          have nq3q4 := ne_of_none tq3.h nq4
          have D := D.monoN s
          have tq3 := tq3.monoN s
          walk_at "zrd"
          refine i_next g D (by first | exact Or.inl rfl | exact Or.inr (by assumption)) (by omega) (by omega) fun z H10 s g D hz0 hz1 => ?_
          have tq3 := tq3.mono s ndq3
          have tq4 := tq4.mono s ndq4
          walk_at "zrd"
          refine i_rep tq4.h (by omega) (by omega) (by show 1 * z.toNat ≤ 100000; omega) ?_
          refine newL g (by first | omega | (simp; done) | (simp; omega)) fun q5 H11 nq5 zq5 s g tq5 => ?_
          have ndq5 := D.ne nq5
          have nq3q5 := ne_of_none tq3.h nq5
          have D := D.monoN s
          have tq3 := tq3.monoN s
          walk_at "zrd"
          refine i_cat tq3.h tq5.h ?_
          have e : rgV 0 m ++ (List.replicate z.toNat [V.non]).flatten = ((List.range m.toNat).map (fun i => some ((i : Nat) : Int)) ++ List.replicate z.toNat none).map vO := by
            rw [List.map_append, List.map_map, List.map_replicate, List.flatten_replicate_singleton]
            congr 1
            unfold rgV
            rw [Int.sub_zero]
            refine List.map_congr_left fun i _ => ?_
            show V.int (0 + (i : Nat)) = vO (some ((i : Nat) : Int))
            rw [Int.zero_add]
            rfl
          rw [e]
          refine newLC g (by first | omega | (simp; done) | (simp; omega)) fun q6 G3 H12 nq6 zq6 s g tq6 => ?_
          have ndq6 := D.ne nq6
          have D := D.monoN s
          have lC := s.gg _ _ lC
          walk_at "zrd"
          refine newT (K := K) g (by first | omega | (simp; done) | (simp; omega)) fun p G4 H13 np zp s g tp => ?_
          have ndp := D.ne np
          have D := D.monoN s
          have lC := s.gg _ _ lC
          have tq6 := s.gg _ _ tq6
          walk_at "zrd"
          refine k _ _ p _ _ g D ⟨C, q6, tp, lC, tq6⟩ ⟨by omega, by simp; omega, by simp; omega, ok, fun o ho => ?_⟩ (by omega) (by simp; omega)
          rcases List.mem_append.mp ho with h | h
          · obtain ⟨i, hi, rfl⟩ := List.mem_map.mp h
            intro j ej
            cases ej
            have := List.mem_range.mp hi
            omega
          · rw [(List.mem_replicate.mp h).2]
            intro j ej
            cases ej
        · walk_at "zrd"
          refine newT (K := K) g (by first | omega | (simp; done) | (simp; omega)) fun p G4 H13 np zp s g tp => ?_
          have ndp := D.ne np
          have D := D.monoN s
          have lC := s.gg _ _ lC
          have lC2 := s.gg _ _ lC2
          walk_at "zrd"
          exact k _ _ p _ _ g D ⟨C, C2, tp, lC, lC2⟩ ⟨by omega, by omega, by omega, ok, ok2⟩ (by omega) (by omega)
end
end Z
set_option Elab.async false
set_option linter.all false
set_option maxRecDepth 100000
set_option maxHeartbeats 4000000
namespace Z
open PySem PySem.Spec PyProof.Rows L2
local macro_rules | `(tactic| walk_at "zrd") => `(tactic| (repeat (first | ((with_reducible apply i_var); (· exact rfl)) | with_reducible refine i_c ?_ | with_reducible refine i_op ?_ | with_reducible refine i_I0 ?_ | with_reducible refine i_eqI ?_ | with_reducible refine i_neI ?_ | with_reducible refine i_test ?_ | with_reducible refine i_cons ?_ | with_reducible refine i_nil ?_ | with_reducible refine i_seq ?_ | with_reducible refine i_nx ?_ | with_reducible refine i_rt ?_ | with_reducible refine i_pass ?_ | with_reducible refine i_asg ?_ | with_reducible refine i_gname ?_ | with_reducible refine i_ret ?_ | with_reducible refine i_drop ?_ | with_reducible refine i_ifS ?_ | with_reducible refine i_if ?_ | with_reducible refine i_not ?_ | with_reducible refine i_and ?_ | with_reducible refine i_or ?_ | with_reducible refine i_lst ?_ | with_reducible refine i_tup ?_ | with_reducible refine i_cb ?_ | with_reducible refine i_call ?_ | with_reducible refine i_gsub ?_ | with_reducible refine i_B ?_ | with_reducible refine i_un ?_ | with_reducible refine i_U ?_ | with_reducible refine i_eqOI ?_ | with_reducible refine i_eqIO ?_ | with_reducible refine i_forL ?_ | with_reducible refine i_forT ?_ | with_reducible refine i_forR ?_ | with_reducible refine i_forR2 ?_ | with_reducible refine i_forR3 ?_ | with_reducible refine i_forE ?_ | with_reducible refine i_lcL ?_ | with_reducible refine i_lcT ?_ | with_reducible refine i_lcR ?_ | with_reducible refine i_yes ?_ | with_reducible refine i_lce ?_ | with_reducible refine i_lcf ?_ | with_reducible refine i_gcons ?_ | with_reducible refine i_gnil ?_ | with_reducible refine i_chain ?_ | with_reducible refine i_t ?_ | with_reducible refine i_f ?_ | with_reducible refine i_nt ?_ | with_reducible refine i_nf ?_ | with_reducible refine i_bm ?_ | with_reducible refine i_bm0 ?_ | with_reducible refine i_and2 ?_ | with_reducible refine i_or2 ?_ | with_reducible refine i_intI ?_ | with_reducible refine i_intB ?_ | with_reducible refine i_sl ?_ | with_reducible refine i_part ?_ | with_reducible refine i_nopart ?_ | with_reducible refine i_cut ?_ | with_reducible refine i_lrg ?_ | with_reducible refine i_make ?_ | with_reducible refine i_meth ?_ | with_reducible refine i_fld ?_ | with_reducible refine i_sfld ?_ | with_reducible refine i_dnew ?_ | with_reducible refine i_par3 ?_ | with_reducible refine i_par3e ?_ | with_reducible refine i_par2 ?_ | with_reducible refine i_par2e ?_ | with_reducible refine i_dput ?_ | with_reducible refine i_dget2 ?_ | with_reducible refine i_din ?_ | with_reducible refine i_dget ?_ | with_reducible refine i_isO ?_ | with_reducible refine i_isR ?_ | with_reducible refine i_isN ?_ | with_reducible refine i_isI ?_ | with_reducible refine i_noO ?_ | with_reducible refine i_noR ?_ | with_reducible refine i_noN ?_ | with_reducible refine i_noI ?_ | with_reducible refine i_dgetN ?_ | with_reducible refine i_dputN ?_ | with_reducible refine i_dnewN ?_ | with_reducible refine i_ckw ?_ | with_reducible refine (show ∃ k, V.bl _ = V.bl k ∧ _ from ⟨_, rfl, ?_⟩) | with_reducible refine (show ∃ k, V.int _ = V.int k ∧ _ from ⟨_, rfl, ?_⟩) | ((with_reducible apply i_ixL); (· assumption); (· exact rfl)) | ((with_reducible apply i_ixT); (· assumption); (· exact rfl)) | ((with_reducible apply i_lenL); (· assumption)) | ((with_reducible apply i_lenT); (· assumption)) | ((with_reducible apply i_I); (· (first | omega | (dsimp only; omega) | exact ⟨by omega, by omega⟩ | exact Or.inr ⟨by omega, by omega⟩ | exact Or.inl ⟨by omega, by omega⟩ | exact ⟨by decide, by decide, by decide⟩))) | ((with_reducible apply i_gtup); (· assumption); (· rfl)) | ((with_reducible apply i_p); (· omega)) | ((with_reducible apply i_n); (· omega)) | ((with_reducible apply i_np); (· omega)) | ((with_reducible apply i_nn); (· omega)) | ((with_reducible apply i_lcP); (· omega)) | ((with_reducible apply i_lcN); (· omega)) | ((with_reducible apply i_lcnP); (· omega)) | ((with_reducible apply i_lcnN); (· omega)))))
section
variable {P : Program} {w : World} {K : PySem.W.Frag} {mg : Str → Option Value} {base : Heap} {f : Addr} {fd : FuncData}
abbrev s_law_soonest : Stmt := topS 36
theorem sc_law_soonest : FnScope ["_law_words", "_law_load_here", "_law_plan_here", "_law_beats", "_law_mends_here", "_law_word", "_law_ages", "_law_beat", "_law_wide", "_law_bears", "_law_gap", "_law_age"] ["_law_words", "_law_load_here", "_law_plan_here", "_law_beats"] (defScope s_law_soonest) := ⟨rfl, rfl, rfl, by decide +kernel, rfl, by decide +kernel, by decide +kernel⟩
theorem ok_soonest (T : Txt K mg) (C__law_mends : Cal P w K mg base "_law_mends" 1 ["_law_load_here", "_law_plan_here", "_law_beats"] (spMends K)) (F : Fun K "_law_soonest" "_law_soonest" s_law_soonest f fd) : FnOk P w K mg base CX0 2 f fd ["_law_words", "_law_load_here", "_law_plan_here", "_law_beats"] (spSoonest K) := by
  refine F.ok sc_law_soonest (fun vs H Q E h => ?_) (fun cdv A outer s H0 vs Q E hr h => ?_)
  · obtain ⟨G, m, a, p, n, ws, ld, hd, lp, rfl, _⟩ := h
    rfl
  · obtain ⟨G0, m, a, p, n, ws, ld, hd, lp, rfl, sb, ⟨wa, hwa, wpr⟩, okw, hl, okl, pl, okp, n0, n1, k⟩ := h
    refine ⟨_, (pss_cons (ps_set (i := 4) sc_law_soonest.nd rfl (Or.inl rfl) (pc C__law_mends (hr.mono (by decide)) (pa_cons (pv 1) (pa_cons (pv 2) (pa_cons (pv 3) pa_nil)))))
      (pss_cons (ps_setLc (i := 6) (own := [("_law_word", 5)]) (g := gName 5) rfl sc_law_soonest.nd rfl rfl (sw_true rfl rfl rfl (by decide +kernel)) (pi_list (pv 0)) (blkOk_by (own := [("_law_word", 5)]) (N := ["_law_words", "_law_load_here", "_law_plan_here", "_law_beats", "_law_mends_here", "_law_word", "_law_ages", "_law_beat", "_law_wide", "_law_bears", "_law_gap", "_law_age"]) (sc := defScope s_law_soonest) (by decide +kernel)) (fun _ _ _ _ _ => (pg_name (i := 5) sc_law_soonest.nd rfl (Or.inl rfl))) (fun _ _ _ _ _ => pts_nil) (fun _ _ _ _ _ => pe_int))
      (pss_cons (ps_for PassesOwn.never rfl (pi_range1 (by rfl) T.b_range (pa_cons (pv 3) pa_nil)) (pg_name (i := 7) sc_law_soonest.nd rfl (Or.inl rfl)) (pss_cons (ps_for PassesOwn.never rfl (pi_range1 (by rfl) T.b_range (pa_cons (pe_callB (r := rLen K) cl_len (by rfl) T.b_len (by decide +kernel) (pa_cons (pv 0) pa_nil)) pa_nil)) (pg_name (i := 5) sc_law_soonest.nd rfl (Or.inl rfl)) (pss_cons (ps_asg (pe_ix (r := rIxL K) ix_list (pv 0) (pv 5) (fun _ _ => rfl)) (pg_tup rfl (pgs_cons (pg_name (i := 8) sc_law_soonest.nd rfl (Or.inl rfl)) (pgs_cons (pg_name (i := 9) sc_law_soonest.nd rfl (Or.inl rfl)) (pgs_cons (pg_name (i := 10) sc_law_soonest.nd rfl (Or.inl rfl)) pgs_nil)))))
      (C8.pss_cut (ps_if (pt_cmpR op_eq (pe_ix (r := rIxL K) ix_list (pv 4) (pv 7) (fun _ _ => rfl)) (pv 5) (nomark _)) (pss_one (ps_asg pe_int (pg_sub (pv 6) (pv 5) set_list))) pss_nil)
      (pss_one (ps_if (PW.pt (pw_and (pt_cmpR op_gt (pe_op op_add (pe_op op_fdiv (pe_ix (r := rIxL K) ix_list (pv 6) (pv 5) (fun _ _ => rfl)) (pv 10)) pe_int) (pv 9) (nomark _)) (pw_and1 (pt_cmpR op_lt (pv 9) (pv 8) (nomark _))))) (pss_one (ps_ret (pe_tup (pa_cons (pv 7) (pa_cons (pv 5) pa_nil))))) pss_nil)))))
      (pss_one (ps_setLc (i := 6) (own := [("_law_age", 11)]) (g := gName 11) rfl sc_law_soonest.nd rfl rfl (sw_true rfl rfl rfl (by decide +kernel)) (pi_list (pv 6)) (blkOk_by (own := [("_law_age", 11)]) (N := ["_law_words", "_law_load_here", "_law_plan_here", "_law_beats", "_law_mends_here", "_law_word", "_law_ages", "_law_beat", "_law_wide", "_law_bears", "_law_gap", "_law_age"]) (sc := defScope s_law_soonest) (by decide +kernel)) (fun _ _ _ _ _ => (pg_name (i := 11) sc_law_soonest.nd rfl (Or.inl rfl))) (fun _ _ _ _ _ => pts_nil) (fun _ _ _ _ _ => (pe_op op_add (pv 11) pe_int))))))
      (pss_one (ps_ret pe_non))))), ?_⟩
    try dsimp only [cxOf, L2.Cx.nox, L2.Cx.wish]
    refine i_start (σ' := [some (.ref m), some (.ref a), some (.ref p), some (.int n), none, none, none, none, none, none, none, none]) rfl ?_
    have g : Gr No G0 H0 G0 H0 := Gr.refl sb
    obtain ⟨N, rfl⟩ : ∃ N : Nat, n = N := ⟨n.toNat, by omega⟩
    rw [Int.toNat_natCast] at k
    have w4 := okw.l4
    have ew : (wa.map V.ref).length = ws.length := by rw [List.length_map, Paired.len wpr, List.length_map]
    generalize hmf : mend ld hd lp = mf at k
    walk_at "zrd"
    refine i_mends g hl okl pl okp (by omega) (by omega) fun ms H2 nms s g tm => ?_
    rw [Int.toNat_natCast] at tm
    have zms := Gr.fresh (by assumption) nms
    have eml := mends_len ld hd lp N
    have gA := g
    have tmA := tm
    walk_at "zrd"
    refine lcL (ls (K := K) hwa g.sub) (fun D i H' => Gr No G0 H0 G0 H' ∧ At G0 H' ms (.lst ((mends ld hd lp N).map vO)) ∧ At G0 H' D (.lst ((List.replicate i (0 : Int)).map V.int))) ?_ ?_ ?_ ?_
    · intro D nD
      exact ⟨g.new nD, tm.new nD, At.of g nD⟩
    · rintro D i H' nD ⟨g, tm, tD⟩
      exact ls hwa g.sub
    · rintro D i x H' nD hx ⟨g, tm, tD⟩
      have nmD : ms ≠ D := ne_of_none tmA.h nD
      have hi : i < ws.length := by rw [← ew]; exact (List.getElem?_eq_some_iff.mp hx).1
      walk_at "zrd"
      refine i_lcw rfl ?_
      walk_at "zrd"
      refine lcp tD (by rw [List.length_map, List.length_replicate]; omega) ?_
      refine ⟨g.mut tD (.inr (gA.fresh nD)), tm.off nmD, ?_⟩
      rw [List.replicate_succ', List.map_append]
      exact tD.put
    · rintro D H' nD ⟨g, tm, tD⟩
      have zD := gA.fresh nD
      have nmD : ms ≠ D := ne_of_none tmA.h nD
      rw [ew, ← ages_zero mf] at tD
      walk_at "zrd"
      refine forR (by omega) (by omega) (fun b σ H' => ∃ (v5 v7 v8 v9 v10 : Option V) (ag : Addr), σ = [some (.ref m), some (.ref a), some (.ref p), some (.int (N : Nat)), some (.ref ms), v5, some (.ref ag), v7, v8, v9, v10, none] ∧ Gr No G0 H0 G0 H' ∧ At G0 H' ms (.lst ((mends ld hd lp N).map vO)) ∧ H0 ag = none ∧ ms ≠ ag ∧ At G0 H' ag (.lst ((ages mf ws.length b 0).map V.int)) ∧ ∀ s, s < b → ∀ v, v < ws.length → ¬ Late ws mf v s)
        ⟨none, none, none, none, none, D, rfl, g, tm, zD, nmD, tD, fun s hs => absurd hs (Nat.not_lt_zero s)⟩ ?_ ?_
      · rintro b σ H' hb ⟨v5, v7, v8, v9, v10, ag, rfl, g, tm, zag, nma, tag, hno⟩
        rw [Int.toNat_natCast] at hb
        have em : ((mends ld hd lp N).map vO)[b]? = some (vO (mf b)) := by rw [← hmf, List.getElem?_map, mends_at ld hd lp hb]; rfl
        have hm1 : SqL K H' m (wa.map V.ref) := ls hwa g.sub
        walk_at "zrd"
        rw [ew]
        refine forR (by omega) (by omega) (fun j σ H' => ∃ (v5 v8 v9 v10 : Option V), σ = [some (.ref m), some (.ref a), some (.ref p), some (.int (N : Nat)), some (.ref ms), v5, some (.ref ag), some (.int (b : Nat)), v8, v9, v10, none] ∧ Gr No G0 H0 G0 H' ∧ At G0 H' ms (.lst ((mends ld hd lp N).map vO)) ∧ At G0 H' ag (.lst ((ages mf ws.length b j).map V.int)) ∧ ∀ v, v < j → ¬ Late ws mf v b)
          ⟨_, _, _, _, rfl, g, tm, tag, fun v hv => absurd hv (Nat.not_lt_zero v)⟩ ?_ ?_
        · rintro j σ H' hj ⟨v5, v8, v9, v10, rfl, g, tm, tag, hnj⟩
          rw [Int.toNat_natCast] at hj
          obtain ⟨ap, hap, hat⟩ := word_at wpr (getD_at (d := d3) hj)
          have hat1 := sqt g.sub hat
          obtain ⟨o1, o2, o3, o4, o5, o6⟩ := okw.ok _ (getD_mem (d := d3) hj)
          walk_at "zrd"
          refine i_ixL (ls hwa g.sub) (atN (k := j) rfl hap) ?_
          walk_at "zrd"
          refine ⟨fun σ H2 => σ = [some (.ref m), some (.ref a), some (.ref p), some (.int (N : Nat)), some (.ref ms), some (.int (j : Nat)), some (.ref ag), some (.int (b : Nat)), some (.int (ws.getD j d3).1), some (.int (ws.getD j d3).2.1), some (.int (ws.getD j d3).2.2), none] ∧ Gr No G0 H0 G0 H2 ∧ At G0 H2 ms (.lst ((mends ld hd lp N).map vO)) ∧ At G0 H2 ag (.lst ((ages mf ws.length b (j + 1)).map V.int)), ?_, ?_⟩
          · walk_at "zrd"
            refine i_ixL (.inl (.inl tm.h)) (atN (k := b) rfl em) ?_
            walk_at "zrd"
            refine i_ite (fun hm => ?_) (fun hm => ?_)
            · walk_at "zrd"
              refine i_setL ((ages mf ws.length b (j + 1)).map V.int) tag.h (ixN_nat (k := j) rfl (by rw [List.length_map, ages_len]; exact hj)) (by rw [← ages_yes hm, List.map_set]) ?_
              walk_at "zrd"
              exact ⟨rfl, g.mut tag (.inr zag), tm.off nma, tag.put⟩
            · walk_at "zrd"
              rw [← ages_no hm]
              exact ⟨rfl, g, tm, tag⟩
          · rintro σ H2 ⟨rfl, g, tm, tag⟩
            have ea : ((ages mf ws.length b (j + 1)).map V.int)[j]? = some (.int (((gl mf (j : Nat) (b + 1) : Nat) : Int) - 1)) := by
              rw [List.getElem?_map, ages_at hj, if_pos (Nat.lt_succ_self j)]
              rfl
            walk_at "zrd"
            refine i_ixL (.inl (.inl tag.h)) (atN (k := j) rfl ea) ?_
            walk_at "zrd"
            refine i_ite (fun h1 => ?_) (fun h1 => ?_)
            · walk_at "zrd"
              refine i_ite (fun h2 => ?_) (fun h2 => ?_)
              · have hlate := (late_iff (m := mf) (t := b) okw hj).mp ⟨h1, h2⟩
                walk_at "zrd"
                refine newT (K := K) g (by first | omega | (simp; done) | (simp; omega)) fun r G3 H3 nr zr s g tr => ?_
                walk_at "zrd"
                exact k (some (b, j)) (.ref r) G3 _ ⟨hb, soon_some okw hj hlate hno hnj⟩ g ⟨r, rfl, tr⟩
              · walk_at "zrd"
                refine ⟨_, _, _, _, rfl, g, tm, tag, fun v hv hl => ?_⟩
                by_cases e : v < j
                · exact hnj v e hl
                · rw [show v = j by omega] at hl
                  exact h2 ((late_iff (m := mf) (t := b) okw hj).mpr hl).2
            · walk_at "zrd"
              refine ⟨_, _, _, _, rfl, g, tm, tag, fun v hv hl => ?_⟩
              by_cases e : v < j
              · exact hnj v e hl
              · rw [show v = j by omega] at hl
                exact h1 ((late_iff (m := mf) (t := b) okw hj).mpr hl).1
        · rintro σ H' ⟨v5, v8, v9, v10, rfl, g, tm, tag, hnj⟩
          rw [Int.toNat_natCast] at tag hnj
          have gB := g
          have tmB := tm
          have taB := tag
          have eal : ((ages mf ws.length b ws.length).map V.int).length = ws.length := by rw [List.length_map, ages_len]
          walk_at "zrd"
          refine lcL (.inl (.inl tag.h)) (fun E i H' => Gr No G0 H0 G0 H' ∧ At G0 H' ms (.lst ((mends ld hd lp N).map vO)) ∧ At G0 H' ag (.lst ((ages mf ws.length b ws.length).map V.int)) ∧ At G0 H' E (.lst ((((ages mf ws.length b ws.length).take i).map fun x => x + 1).map V.int))) ?_ ?_ ?_ ?_
          · intro E nE
            exact ⟨g.new nE, tm.new nE, tag.new nE, At.of g nE⟩
          · rintro E i H' nE ⟨g, tm, tag, tE⟩
            exact .inl (.inl tag.h)
          · rintro E i x H' nE hx ⟨g, tm, tag, tE⟩
            have nmE : ms ≠ E := ne_of_none tmB.h nE
            have naE : ag ≠ E := ne_of_none taB.h nE
            obtain ⟨y, hy, rfl⟩ := map_at hx
            have hil : (((((ages mf ws.length b ws.length).take i).map fun x => x + 1).map V.int)).length ≤ ws.length := by
              rw [List.length_map, List.length_map, List.length_take, ages_len]
              omega
            rw [List.take_add_one, hy, List.map_append, List.map_append]
            walk_at "zrd"
            refine i_lcw rfl ?_
            walk_at "zrd"
            refine lcp tE (by omega) ?_
            exact ⟨g.mut tE (.inr (gB.fresh nE)), tm.off nmE, tag.off naE, tE.put⟩
          · rintro E H' nE ⟨g, tm, tag, tE⟩
            have nmE : ms ≠ E := ne_of_none tmB.h nE
            rw [eal, List.take_of_length_le (by rw [ages_len]; exact Nat.le_refl _), ages_next] at tE
            walk_at "zrd"
            refine ⟨_, _, _, _, _, E, rfl, g, tm, gB.fresh nE, nmE, tE, fun s hs v hv hl => ?_⟩
            by_cases e : s < b
            · exact hno s e v hv hl
            · rw [show s = b by omega] at hl
              exact hnj v hv hl
      · rintro σ H' ⟨v5, v7, v8, v9, v10, ag, rfl, g, tm, zag, nma, tag, hno⟩
        rw [Int.toNat_natCast] at hno
        walk_at "zrd"
        exact k none .non G0 H' (soon_none hno) g rfl
end
end Z
set_option Elab.async false
set_option linter.all false
set_option maxRecDepth 100000
set_option maxHeartbeats 4000000
namespace Z
open PySem PySem.Spec PyProof.Rows L2
local macro_rules | `(tactic| walk_at "zrd") => `(tactic| (repeat (first | ((with_reducible apply i_var); (· exact rfl)) | with_reducible refine i_c ?_ | with_reducible refine i_op ?_ | with_reducible refine i_I0 ?_ | with_reducible refine i_eqI ?_ | with_reducible refine i_neI ?_ | with_reducible refine i_test ?_ | with_reducible refine i_cons ?_ | with_reducible refine i_nil ?_ | with_reducible refine i_seq ?_ | with_reducible refine i_nx ?_ | with_reducible refine i_rt ?_ | with_reducible refine i_pass ?_ | with_reducible refine i_asg ?_ | with_reducible refine i_gname ?_ | with_reducible refine i_ret ?_ | with_reducible refine i_drop ?_ | with_reducible refine i_ifS ?_ | with_reducible refine i_if ?_ | with_reducible refine i_not ?_ | with_reducible refine i_and ?_ | with_reducible refine i_or ?_ | with_reducible refine i_lst ?_ | with_reducible refine i_tup ?_ | with_reducible refine i_cb ?_ | with_reducible refine i_call ?_ | with_reducible refine i_gsub ?_ | with_reducible refine i_B ?_ | with_reducible refine i_un ?_ | with_reducible refine i_U ?_ | with_reducible refine i_eqOI ?_ | with_reducible refine i_eqIO ?_ | with_reducible refine i_forL ?_ | with_reducible refine i_forT ?_ | with_reducible refine i_forR ?_ | with_reducible refine i_forR2 ?_ | with_reducible refine i_forR3 ?_ | with_reducible refine i_forE ?_ | with_reducible refine i_lcL ?_ | with_reducible refine i_lcT ?_ | with_reducible refine i_lcR ?_ | with_reducible refine i_yes ?_ | with_reducible refine i_lce ?_ | with_reducible refine i_lcf ?_ | with_reducible refine i_gcons ?_ | with_reducible refine i_gnil ?_ | with_reducible refine i_chain ?_ | with_reducible refine i_t ?_ | with_reducible refine i_f ?_ | with_reducible refine i_nt ?_ | with_reducible refine i_nf ?_ | with_reducible refine i_bm ?_ | with_reducible refine i_bm0 ?_ | with_reducible refine i_and2 ?_ | with_reducible refine i_or2 ?_ | with_reducible refine i_intI ?_ | with_reducible refine i_intB ?_ | with_reducible refine i_sl ?_ | with_reducible refine i_part ?_ | with_reducible refine i_nopart ?_ | with_reducible refine i_cut ?_ | with_reducible refine i_lrg ?_ | with_reducible refine i_make ?_ | with_reducible refine i_meth ?_ | with_reducible refine i_fld ?_ | with_reducible refine i_sfld ?_ | with_reducible refine i_dnew ?_ | with_reducible refine i_par3 ?_ | with_reducible refine i_par3e ?_ | with_reducible refine i_par2 ?_ | with_reducible refine i_par2e ?_ | with_reducible refine i_dput ?_ | with_reducible refine i_dget2 ?_ | with_reducible refine i_din ?_ | with_reducible refine i_dget ?_ | with_reducible refine i_isO ?_ | with_reducible refine i_isR ?_ | with_reducible refine i_isN ?_ | with_reducible refine i_isI ?_ | with_reducible refine i_noO ?_ | with_reducible refine i_noR ?_ | with_reducible refine i_noN ?_ | with_reducible refine i_noI ?_ | with_reducible refine i_dgetN ?_ | with_reducible refine i_dputN ?_ | with_reducible refine i_dnewN ?_ | with_reducible refine i_ckw ?_ | with_reducible refine (show ∃ k, V.bl _ = V.bl k ∧ _ from ⟨_, rfl, ?_⟩) | with_reducible refine (show ∃ k, V.int _ = V.int k ∧ _ from ⟨_, rfl, ?_⟩) | ((with_reducible apply i_ixL); (· assumption); (· exact rfl)) | ((with_reducible apply i_ixT); (· assumption); (· exact rfl)) | ((with_reducible apply i_lenL); (· assumption)) | ((with_reducible apply i_lenT); (· assumption)) | ((with_reducible apply i_I); (· (first | omega | (dsimp only; omega) | exact ⟨by omega, by omega⟩ | exact Or.inr ⟨by omega, by omega⟩ | exact Or.inl ⟨by omega, by omega⟩ | exact ⟨by decide, by decide, by decide⟩))) | ((with_reducible apply i_gtup); (· assumption); (· rfl)) | ((with_reducible apply i_p); (· omega)) | ((with_reducible apply i_n); (· omega)) | ((with_reducible apply i_np); (· omega)) | ((with_reducible apply i_nn); (· omega)) | ((with_reducible apply i_lcP); (· omega)) | ((with_reducible apply i_lcN); (· omega)) | ((with_reducible apply i_lcnP); (· omega)) | ((with_reducible apply i_lcnN); (· omega)))))
section
variable {P : Program} {w : World} {K : PySem.W.Frag} {mg : Str → Option Value} {base : Heap} {f : Addr} {fd : FuncData} {C : Addr}
abbrev slimits : Stmt := topS 15
theorem sclimits : FnScope ["memory", "wide", "bears", "gap"] ["memory"] (defScope slimits) := ⟨rfl, rfl, rfl, by decide +kernel, rfl, by decide +kernel, by decide +kernel⟩
abbrev sbeats_of : Stmt := topS 24
theorem scbeats_of : FnScope ["load", "plan", "free", "turns", "one"] ["load", "plan"] (defScope sbeats_of) := ⟨rfl, rfl, rfl, by decide +kernel, rfl, by decide +kernel, by decide +kernel⟩
abbrev sstretches : Stmt := topS 25
theorem scstretches : FnScope ["memory", "load", "plan", "many", "mends", "found", "word", "begins", "rows", "k", "beat"] ["memory", "load", "plan"] (defScope sstretches) := ⟨rfl, rfl, rfl, by decide +kernel, rfl, by decide +kernel, by decide +kernel⟩
theorem ok_limits (T : Txt K mg) (C_words : CalMt P w K mg base C "words" 1 ["self"] (spWords K C)) (F : Fun K "limits" "limits" slimits f fd) : FnOk P w K mg base CX0 2 f fd ["memory"] (spLimits K C) := by
  refine F.ok sclimits (fun vs H Q E h => ?_) (fun cdv A outer s H0 vs Q E hr h => ?_)
  · obtain ⟨G, m, ws, rfl, _⟩ := h
    rfl
  · obtain ⟨G0, m, ws, rfl, sb, M, k⟩ := h
    refine ⟨_, (pss_one (ps_ret (pe_lc (own := [("wide", 1), ("bears", 2), ("gap", 3)]) (g := gTup K 3 (gCons (gName 1) (gCons (gName 2) (gCons (gName 3) gNil)))) rfl sclimits.nd (pi_list (pmt C_words (hr.mono (by decide)) (pv 0))) (blkOk_by (own := [("wide", 1), ("bears", 2), ("gap", 3)]) (N := ["memory", "wide", "bears", "gap"]) (sc := defScope slimits) (by decide +kernel)) (fun _ _ _ _ _ => (pg_tup rfl (pgs_cons (pg_name (i := 1) sclimits.nd rfl (Or.inl rfl)) (pgs_cons (pg_name (i := 2) sclimits.nd rfl (Or.inl rfl)) (pgs_cons (pg_name (i := 3) sclimits.nd rfl (Or.inl rfl)) pgs_nil))))) (fun _ _ _ _ _ => pts_nil) (fun _ _ _ _ _ => (pe_ifExp (pt_cmpR op_ge (pv 2) (pv 1) (nomark _)) pe_non (pe_op op_mul (pv 2) (pv 3))))))), ?_⟩
    try dsimp only [cxOf, L2.Cx.nox, L2.Cx.wish]
    refine i_start (σ' := [some (.ref m), none, none, none]) rfl ?_
    have g : Gr No G0 H0 G0 H0 := Gr.refl sb
    have okm := M.ok
    have l4 := okm.l4
    walk_at "zrd"
    refine i_words g M fun q as H1 nq s g tq pr => ?_
    have gA := g
    have tqA := tq
    have eq : (as.map V.ref).length = ws.length := by rw [List.length_map, Paired.len pr, List.length_map]
    walk_at "zrd"
    refine lcL (.inl (.inl tq.h)) (fun D i H' => Gr No G0 H0 G0 H' ∧ At G0 H' q (.lst (as.map V.ref)) ∧ At G0 H' D (.lst (((ws.take i).map lim).map vO))) ?_ ?_ ?_ ?_
    · intro D nD
      exact ⟨g.new nD, tq.new nD, At.of g nD⟩
    · rintro D i H' nD ⟨g, tq, tD⟩
      exact .inl (.inl tq.h)
    · rintro D i x H' nD hx ⟨g, tq, tD⟩
      have nqD : q ≠ D := ne_of_none tqA.h nD
      have hi2 : i < ws.length := by rw [← eq]; exact (List.getElem?_eq_some_iff.mp hx).1
      have hgi := List.getElem?_eq_getElem hi2
      obtain ⟨ap, hap, hat⟩ := word_at pr hgi
      rw [hap] at hx
      cases hx
      have hat1 := sqt g.sub hat
      obtain ⟨o1, o2, o3, o4, o5, o6⟩ := okm.ok ws[i] (List.getElem_mem hi2)
      have hlen : (((ws.take i).map lim).map vO).length ≤ 4 := by rw [List.length_map, List.length_map, List.length_take]; omega
      have el : (ws.take (i + 1)).map lim = (ws.take i).map lim ++ [lim ws[i]] := by rw [List.take_add_one, hgi, List.map_append]; rfl
      rw [el, List.map_append]
      walk_at "zrd"
      refine i_lcw rfl ?_
      walk_at "zrd"
      refine i_ite (fun hc => ?_) (fun hc => ?_)
      · have e : lim ws[i] = none := by unfold lim; rw [if_pos hc]
        rw [e]
        walk_at "zrd"
        refine lcp tD (by omega) ?_
        exact ⟨g.mut tD (.inr (gA.fresh nD)), tq.off nqD, tD.put⟩
      · have e : lim ws[i] = some (ws[i].2.1 * ws[i].2.2) := by unfold lim; rw [if_neg hc]
        rw [e]
        walk_at "zrd"
        refine lcp tD (by omega) ?_
        exact ⟨g.mut tD (.inr (gA.fresh nD)), tq.off nqD, tD.put⟩
    · rintro D H' nD ⟨g, tq, tD⟩
      rw [eq, List.take_length] at tD
      walk_at "zrd"
      exact k D H' (gA.fresh nD) g tD
theorem ok_beats_of (T : Txt K mg) (F : Fun K "beats_of" "beats_of" sbeats_of f fd) : FnOk P w K mg base CX0 1 f fd ["load", "plan"] (spBeats K) := by
  refine F.ok scbeats_of (fun vs H Q E h => ?_) (fun cdv A outer s H0 vs Q E hr h => ?_)
  · obtain ⟨G, a, p, ld, hd, lp, j, rfl, _⟩ := h
    rfl
  · obtain ⟨G0, l, p, ld, hd, lp, j, rfl, sb, hl, okl, ⟨a, b, hp, ha, hb⟩, okp, k⟩ := h
    refine ⟨_, (pss_cons (ps_set (i := 2) scbeats_of.nd rfl (Or.inl rfl) (pe_callB (r := rLen K) cl_len (by rfl) T.b_len (by decide +kernel) (pa_cons (pe_lc (own := [("one", 4)]) (g := gName 4) rfl scbeats_of.nd (pi_list (pv 0)) (blkOk_by (own := [("one", 4)]) (N := ["load", "plan", "free", "turns", "one"]) (sc := defScope sbeats_of) (by decide +kernel)) (fun _ _ _ _ _ => (pg_name (i := 4) scbeats_of.nd rfl (Or.inl rfl))) (fun _ _ _ _ _ => (pts_one (pt_cmpR op_eq (pv 4) pe_int (nomark _)))) (fun _ _ _ _ _ => (pv 4))) pa_nil)))
      (pss_cons (ps_set (i := 3) scbeats_of.nd rfl (Or.inl rfl) (pe_op op_add (pe_op op_add (pe_op op_fdiv (pe_callB (r := rLen K) cl_len (by rfl) T.b_len (by decide +kernel) (pa_cons (pe_ix (r := rIxT K) ix_tup (pv 1) pe_int (fun _ _ => rfl)) pa_nil)) (pv 2)) pe_int) (pe_op op_mul pe_int (pe_callB (r := rLen K) cl_len (by rfl) T.b_len (by decide +kernel) (pa_cons (pe_ix (r := rIxT K) ix_tup (pv 1) pe_int (fun _ _ => rfl)) pa_nil)))))
      (pss_one (ps_ret (pe_op op_mul (pv 3) (pe_callB (r := rLen K) cl_len (by rfl) T.b_len (by decide +kernel) (pa_cons (pv 0) pa_nil))))))), ?_⟩
    try dsimp only [cxOf, L2.Cx.nox, L2.Cx.wish]
    refine i_start (σ' := [some (.ref l), some (.ref p), none, none, none]) rfl ?_
    have g : Gr No G0 H0 G0 H0 := Gr.refl sb
    have fp := free_pos okl
    have L12 := okl.l12
    have fl := free_le ld
    have h40 := okp.h40
    have l40 := okp.l40
    have eh : (hd.map vO).length = hd.length := List.length_map _
    have elp : (lp.map vO).length = lp.length := List.length_map _
    walk_at "zrd"
    refine lcL (ls hl g.sub) (fun D i H' => Gr No G0 H0 G0 H' ∧ At G0 H' D (.lst (((ld.take i).filter fun x => decide (x = 0)).map V.int))) ?_ ?_ ?_ ?_
    · intro D nD
      exact ⟨g.new nD, At.of g nD⟩
    · rintro D i H' nD ⟨g, tD⟩
      exact ls hl g.sub
    · rintro D i x H' nD hx ⟨g, tD⟩
      obtain ⟨z, hz, rfl⟩ := map_at hx
      have hlen : (((ld.take i).filter fun x => decide (x = 0)).map V.int).length ≤ 12 := by
        rw [List.length_map]
        have := List.length_filter_le (fun x => decide (x = 0)) (ld.take i)
        rw [List.length_take] at this
        omega
      rw [filter_take hz]
      walk_at "zrd"
      refine i_lcw rfl ?_
      walk_at "zrd"
      refine i_lcd (fun h0 => ?_) (fun h0 => ?_)
      · walk_at "zrd"
        refine lcp tD (by omega) ?_
        refine ⟨g.mut tD (.inr nD), ?_⟩
        rw [if_pos (decide_eq_true h0), List.map_append]
        exact tD.put
      · refine ⟨g, ?_⟩
        rw [if_neg (by simpa using h0), List.append_nil]
        exact tD
    · rintro D H' nD ⟨g, tD⟩
      have ef : ((ld.filter fun x => decide (x = 0)).map V.int).length = free ld := by rw [List.length_map, free_len]
      rw [List.length_map, List.take_length] at tD
      have hD : SqL K H' D ((ld.filter fun x => decide (x = 0)).map V.int) := .inl (.inl tD.h)
      have hl1 : SqL K H' l (ld.map V.int) := ls hl g.sub
      have hp1 := sqt (K := K) g.sub hp
      have ha1 : SqL K H' a (hd.map vO) := ls ha g.sub
      have hb1 : SqL K H' b (lp.map vO) := ls hb g.sub
      walk_at "zrd"
      rw [ef]
      walk_at "zrd"
      have e1 : (((hd.map vO).length : Nat) : Int) / ((free ld : Nat) : Int) + 1 + 3 * (((lp.map vO).length : Nat) : Int) = ((hd.length / free ld + 1 + 3 * lp.length : Nat) : Int) := by
        rw [List.length_map, List.length_map, Int.natCast_add, Int.natCast_add, Int.natCast_ediv, Int.natCast_mul]
        rfl
      have e2 : ((hd.length / free ld + 1 + 3 * lp.length : Nat) : Int) * (((ld.map V.int).length : Nat) : Int) = (nB ld hd lp : Nat) := by
        rw [List.length_map, ← Int.natCast_mul]
        rfl
      have ell : (ld.map V.int).length = ld.length := List.length_map _
      rw [e1]
      walk_at "zrd"
      rw [e2]
      exact k _ g
theorem ok_stretches (T : Txt K mg) (C_words : CalMt P w K mg base C "words" 1 ["self"] (spWords K C)) (C_mended_at : Cal P w K mg base "mended_at" 1 ["load", "plan", "beats"] (spMended K)) (C_beats_of : Cal P w K mg base "beats_of" 1 ["load", "plan"] (spBeats K))
    (F : Fun K "stretches" "stretches" sstretches f fd) : FnOk P w K mg base CX0 2 f fd ["memory", "load", "plan"] (spStretches K C) := by
  refine F.ok scstretches (fun vs H Q E h => ?_) (fun cdv A outer s H0 vs Q E hr h => ?_)
  · obtain ⟨G, m, a, p, ws, ld, hd, lp, rfl, _⟩ := h
    rfl
  · obtain ⟨G0, m, a, p, ws, ld, hd, lp, rfl, sb, M, hl, okl, pl, okp, k⟩ := h
    refine ⟨_, (pss_cons (ps_set (i := 3) scstretches.nd rfl (Or.inl rfl) (pc C_beats_of (hr.mono (by decide)) (pa_cons (pv 1) (pa_cons (pv 2) pa_nil))))
      (pss_cons (ps_set (i := 4) scstretches.nd rfl (Or.inr rfl) (pc C_mended_at (hr.mono (by decide)) (pa_cons (pv 1) (pa_cons (pv 2) (pa_cons (pv 3) pa_nil)))))
      (pss_cons (ps_set (i := 5) scstretches.nd rfl (Or.inl rfl) (pe_lst pa_nil))
      (pss_cons (ps_for PassesOwn.never rfl (pi_range1 (by rfl) T.b_range (pa_cons (pe_callB (r := rLen K) cl_len (by rfl) T.b_len (by decide +kernel) (pa_cons (pmt C_words (hr.mono (by decide)) (pv 0)) pa_nil)) pa_nil)) (pg_name (i := 6) scstretches.nd rfl (Or.inr rfl)) (pss_cons (ps_set (i := 7) scstretches.nd rfl (Or.inr rfl) (pe_op op_cat (pe_lst (pa_cons pe_int pa_nil)) (pe_lc (own := [("beat", 10)]) (g := gName 10) rfl scstretches.nd (pi_range1 (by rfl) T.b_range (pa_cons (pv 3) pa_nil)) (blkOk_by (own := [("beat", 10)]) (N := ["memory", "load", "plan", "many", "mends", "found", "word", "begins", "rows", "k", "beat"]) (sc := defScope sstretches) (by decide +kernel)) (fun _ _ _ _ _ => (pg_name (i := 10) scstretches.nd rfl (Or.inl rfl))) (fun _ _ _ _ _ => (pts_one (pt_cmpR op_eq (pe_ix (r := rIxL K) ix_list (pv 4) (pv 10) (fun _ _ => rfl)) (pv 6) (nomark _)))) (fun _ _ _ _ _ => (pv 10)))))
      (pss_cons (ps_setLc (i := 8) (own := [("k", 9)]) (g := gName 9) rfl scstretches.nd rfl rfl (sw_true rfl rfl rfl (by decide +kernel)) (pi_range1 (by rfl) T.b_range (pa_cons (pe_op op_sub (pe_callB (r := rLen K) cl_len (by rfl) T.b_len (by decide +kernel) (pa_cons (pv 7) pa_nil)) pe_int) pa_nil)) (blkOk_by (own := [("k", 9)]) (N := ["memory", "load", "plan", "many", "mends", "found", "word", "begins", "rows", "k", "beat"]) (sc := defScope sstretches) (by decide +kernel)) (fun _ _ _ _ _ => (pg_name (i := 9) scstretches.nd rfl (Or.inl rfl))) (fun _ _ _ _ _ => pts_nil) (fun _ _ _ _ _ => (pe_tup (pa_cons (pe_ix (r := rIxL K) ix_list (pv 7) (pv 9) (fun _ _ => rfl)) (pa_cons (pe_op op_sub (pe_ix (r := rIxL K) ix_list (pv 7) (pe_op op_add (pv 9) pe_int) (fun _ _ => rfl)) (pe_ix (r := rIxL K) ix_list (pv 7) (pv 9) (fun _ _ => rfl))) pa_nil)))))
      (C8.pss_cut (ps_if (pt_cmpR (r := rIn K true) op_notIn_seq (pv 6) (pe_ix (r := rIxT K) ix_tup (pv 2) pe_int (fun _ _ => rfl)) rfl) (pss_one (ps_expr (pe_bm PySem.F.plainAttrs_list PySem.F.slot_list_append PySem.F.type_list_append mt_append (pv 8) (pa_cons (pe_tup (pa_cons (pe_ix (r := rIxL K) ix_list (pv 7) (pe_un un_neg pe_int) (fun _ _ => rfl)) (pa_cons pe_non pa_nil))) pa_nil)))) pss_nil)
      (pss_one (ps_expr (pe_bm PySem.F.plainAttrs_list PySem.F.slot_list_append PySem.F.type_list_append mt_append (pv 5) (pa_cons (pv 8) pa_nil))))))))
      (pss_one (ps_ret (pv 5))))))), ?_⟩
    try dsimp only [cxOf, L2.Cx.nox, L2.Cx.wish]
    refine i_start (σ' := [some (.ref m), some (.ref a), some (.ref p), none, none, none, none, none, none, none, none]) rfl ?_
    have g : Gr No G0 H0 G0 H0 := Gr.refl sb
    have okm := M.ok
    have l4 := okm.l4
    have nb := nB_le okl okp
    obtain ⟨pa, pb, hp, hpa, hpb⟩ := id pl
    walk_at "zrd"
    refine i_beats g hl okl pl okp fun H1 s g => ?_
    walk_at "zrd"
    generalize hN : nB ld hd lp = N at nb k ⊢
    refine i_mended g hl okl pl okp (by omega) (by omega) fun ms H2 nms s g tm => ?_
    rw [Int.toNat_natCast] at tm
    have zms := Gr.fresh (by assumption) nms
    have eml := mends_len ld hd lp N
    walk_at "zrd"
    refine newL g (by first | omega | (simp; done) | (simp; omega)) fun q H3 nq zq s g tq => ?_
    have nmq := ne_of_none tm.h nq
    have tm := tm.monoN s
    walk_at "zrd"
    walk_at "zrd"
    refine i_words g M fun qw as H4 nqw s g tw pr => ?_
    have zqw := Gr.fresh (by assumption) nqw
    have tm := tm.monoN s
    have tq := tq.monoN s
    have ew : (as.map V.ref).length = ws.length := by rw [List.length_map, Paired.len pr, List.length_map]
    have hqw : SqL K H4 qw (as.map V.ref) := .inl (.inl tw.h)
    clear tw
    walk_at "zrd"
    rw [ew]
    refine forR (by omega) (by omega) (fun i σ H' => ∃ (v6 v7 v8 : Option V) (G : Hp) (fs : List Addr), σ = [some (.ref m), some (.ref a), some (.ref p), some (.int (N : Nat)), some (.ref ms), some (.ref q), v6, v7, v8, none, none] ∧ Gr No G0 H0 G H' ∧ At G H' ms (.lst ((mends ld hd lp N).map vO)) ∧ At G H' q (.lst (fs.map V.ref)) ∧ Paired (fun l w => TupL K G l ((rowsM (mend ld hd lp) lp (w : Nat) N).map vR)) fs (List.range i))
      ⟨none, none, none, G0, [], rfl, g, tm, tq, .nil⟩ ?_ ?_
    · rintro i σ H' hi ⟨v6, v7, v8, G, fs, rfl, g, tm, tq, pfs⟩
      rw [Int.toNat_natCast] at hi
      walk_at "zrd"
      refine newL g (by first | omega | (simp; done) | (simp; omega)) fun b0 H5 nb0 zb0 s g tb0 => ?_
      have nmb0 := ne_of_none tm.h nb0
      have nqb0 := ne_of_none tq.h nb0
      have tm := tm.monoN s
      have tq := tq.monoN s
      walk_at "zrd"
      have gA := g
      have tmA := tm
      have tqA := tq
      have tbA := tb0
      refine lcR (by omega) (by omega) (fun D j H' => Gr No G0 H0 G H' ∧ At G H' ms (.lst ((mends ld hd lp N).map vO)) ∧ At G H' q (.lst (fs.map V.ref)) ∧ At G H' b0 (.lst [.int 0]) ∧ At G H' D (.lst (((mB (mend ld hd lp) (i : Nat) j).map fun b => ((b : Nat) : Int)).map V.int))) ?_ ?_ ?_
      · intro D nD
        exact ⟨g.new nD, tm.new nD, tq.new nD, tb0.new nD, At.of g nD⟩
      · rintro D j H' nD hj ⟨g, tm, tq, tb0, tD⟩
        rw [Int.toNat_natCast] at hj
        have nmD : ms ≠ D := ne_of_none tmA.h nD
        have nqD : q ≠ D := ne_of_none tqA.h nD
        have nbD : b0 ≠ D := ne_of_none tbA.h nD
        have em : ((mends ld hd lp N).map vO)[j]? = some (vO (mend ld hd lp j)) := by rw [List.getElem?_map, mends_at ld hd lp hj]; rfl
        have hlen : (((mB (mend ld hd lp) (i : Nat) j).map fun b => ((b : Nat) : Int)).map V.int).length ≤ j := by rw [List.length_map, List.length_map]; exact mB_len _ _ _
        rw [mB_succ]
        walk_at "zrd"
        refine i_lcw rfl ?_
        walk_at "zrd"
        refine i_ixL (.inl (.inl tm.h)) (atN (k := j) rfl em) ?_
        walk_at "zrd"
        refine i_lcd (fun h0 => ?_) (fun h0 => ?_)
        · walk_at "zrd"
          refine lcp tD (by omega) ?_
          refine ⟨g.mut tD (.inr (gA.fresh nD)), tm.off nmD, tq.off nqD, tb0.off nbD, ?_⟩
          rw [if_pos h0, List.map_append, List.map_append]
          exact tD.put
        · refine ⟨g, tm, tq, tb0, ?_⟩
          rw [if_neg h0, List.append_nil]
          exact tD
      · rintro D H' nD ⟨g, tm, tq, tb0, tD⟩
        have zD := gA.fresh nD
        rw [Int.toNat_natCast] at tD
        have hml := mB_len (mend ld hd lp) (i : Nat) N
        walk_at "zrd"
        refine i_cat tb0.h tD.h ?_
        have eb : [V.int 0] ++ ((mB (mend ld hd lp) (i : Nat) N).map fun b => ((b : Nat) : Int)).map V.int = (begs (mend ld hd lp) (i : Nat) N).map V.int := rfl
        rw [eb]
        have hbl := begs_len (mend ld hd lp) (i : Nat) N
        have ebl : ((begs (mend ld hd lp) (i : Nat) N).map V.int).length = (mB (mend ld hd lp) (i : Nat) N).length + 1 := by rw [List.length_map, hbl]
        refine newL g (by first | omega | (simp; done) | (simp; omega)) fun bg H6 nbg zbg s g tbg => ?_
        have nmbg := ne_of_none tm.h nbg
        have nqbg := ne_of_none tq.h nbg
        have tm := tm.monoN s
        have tq := tq.monoN s
        walk_at "zrd"
        have hbg : SqL K H6 bg ((begs (mend ld hd lp) (i : Nat) N).map V.int) := .inl (.inl tbg.h)
        walk_at "zrd"
        rw [ebl, show (((mB (mend ld hd lp) (i : Nat) N).length + 1 : Nat) : Int) - 1 = (((mB (mend ld hd lp) (i : Nat) N).length : Nat) : Int) by omega]
        have gB := g
        have tmB := tm
        have tqB := tq
        have tbB := tbg
        refine lcR (by omega) (by omega) (fun E j H' => ∃ (G2 : Hp) (fa : List Addr), Gr No G H6 G2 H' ∧ At G2 H' ms (.lst ((mends ld hd lp N).map vO)) ∧ At G2 H' q (.lst (fs.map V.ref)) ∧ At G2 H' bg (.lst ((begs (mend ld hd lp) (i : Nat) N).map V.int)) ∧ At G2 H' E (.lst (fa.map V.ref)) ∧ Paired (fun p t => SqT K G2 p t) fa ((((mB (mend ld hd lp) (i : Nat) N).take j).map (rowB (mend ld hd lp) (i : Nat))).map vR)) ?_ ?_ ?_
        · intro E nE
          exact ⟨G, [], (Gr.refl g.sub).new nE, tm.new nE, tq.new nE, tbg.new nE, At.of g nE, .nil⟩
        · rintro E j H' nE hj ⟨G2, fa, g2, tm, tq, tbg, tE, pr2⟩
          rw [Int.toNat_natCast] at hj
          have g := g2
          have nmE : ms ≠ E := ne_of_none tmB.h nE
          have nqE : q ≠ E := ne_of_none tqB.h nE
          have nbE : bg ≠ E := ne_of_none tbB.h nE
          have hbg : SqL K H' bg ((begs (mend ld hd lp) (i : Nat) N).map V.int) := .inl (.inl tbg.h)
          have hfl : (fa.map V.ref).length = j := by
            rw [List.length_map, Paired.len pr2, List.length_map, List.length_map, List.length_take]
            omega
          obtain ⟨r1, r2⟩ := rows_at (lp := lp) hj
          walk_at "zrd"
          refine i_lcw rfl ?_
          walk_at "zrd"
          refine i_ixL hbg (atN (k := j) rfl (map_getD (d := 0) (by omega))) ?_
          walk_at "zrd"
          refine i_ixL hbg (atN (k := j + 1) (by omega) (map_getD (d := 0) (by omega))) ?_
          walk_at "zrd"
          refine i_ixL hbg (atN (k := j) rfl (map_getD (d := 0) (by omega))) ?_
          walk_at "zrd"
          refine newT (K := K) g (by first | omega | (simp; done) | (simp; omega)) fun u G3 H7 nu zu s g tu => ?_
          have nmu := ne_of_none tm.h nu
          have nqu := ne_of_none tq.h nu
          have nbgu := ne_of_none tbg.h nu
          have nEu := ne_of_none tE.h nu
          have tm := tm.monoN s
          have tq := tq.monoN s
          have tbg := tbg.monoN s
          have tE := tE.monoN s
          have pr2 := prt s.gg pr2
          walk_at "zrd"
          refine lcp tE (by omega) ?_
          refine ⟨G3, fa ++ [u], g.mut tE (.inr nE), tm.off nmE, tq.off nqE, tbg.off nbE, ?_, ?_⟩
          · rw [List.map_append]
            exact tE.put
          · rw [List.take_add_one, getD_at (d := 0) hj, List.map_append, List.map_append]
            refine Paired.snoc ?_ pr2
            show SqT K G3 u [V.int _, vO _]
            rw [← r1, ← r2]
            exact tu
        · rintro E H' nE ⟨G2, fa, g2, tm, tq, tbg, tE, pr2⟩
          rw [Int.toNat_natCast, List.take_length] at pr2
          have zE := gB.fresh nE
          have nqE : q ≠ E := ne_of_none tqB.h nE
          have nmE : ms ≠ E := ne_of_none tmB.h nE
          have pfs := Paired.imp (fun _ _ h => TupL.mono g2.gg h) pfs
          have g := g.seqN g2
          have hp1 := sqt (K := K) (g.gg.trans g.sub) hp
          have hb1 : SqL K H' pb (lp.map vO) := ls hpb (g.gg.trans g.sub)
          have hbg : SqL K H' bg ((begs (mend ld hd lp) (i : Nat) N).map V.int) := .inl (.inl tbg.h)
          have hfl : (fa.map V.ref).length ≤ N := by
            rw [List.length_map, Paired.len pr2, List.length_map, List.length_map]
            exact hml
          walk_at "zrd"
          refine ⟨fun σ H2 => ∃ (G3 : Hp) (fa : List Addr), σ = [some (.ref m), some (.ref a), some (.ref p), some (.int (N : Nat)), some (.ref ms), some (.ref q), some (.int (i : Nat)), some (.ref bg), some (.ref E), none, none] ∧ Gr No G0 H0 G3 H2 ∧ At G3 H2 ms (.lst ((mends ld hd lp N).map vO)) ∧ At G3 H2 q (.lst (fs.map V.ref)) ∧ Paired (fun l w => TupL K G3 l ((rowsM (mend ld hd lp) lp (w : Nat) N).map vR)) fs (List.range i) ∧ At G3 H2 E (.lst (fa.map V.ref)) ∧ Paired (fun p t => SqT K G3 p t) fa ((rowsM (mend ld hd lp) lp (i : Nat) N).map vR), ?_, ?_⟩
          · walk_at "zrd"
            refine i_niL hb1 rfl (flat_vOs lp) (inV_vOs _ lp) ?_
            walk_at "zrd"
            refine i_iteN (fun hn => ?_) (fun hn => ?_)
            · have er : rowsM (mend ld hd lp) lp (i : Nat) N = (mB (mend ld hd lp) (i : Nat) N).map (rowB (mend ld hd lp) (i : Nat)) ++ [((N : Int) - gl (mend ld hd lp) (i : Nat) N, none)] := by unfold rowsM; rw [if_neg hn]
              obtain ⟨ini, eini⟩ := begs_split (mend ld hd lp) (i : Nat) N
              rw [eini, List.map_append] at hbg
              walk_at "zrd"
              refine ⟨tyL tE.h, ?_⟩
              walk_at "zrd"
              refine i_ixL hbg (atI_last _ _) ?_
              walk_at "zrd"
              refine newT (K := K) g (by first | omega | (simp; done) | (simp; omega)) fun u G3 H7 nu zu s g tu => ?_
              have nmu := ne_of_none tm.h nu
              have nqu := ne_of_none tq.h nu
              have nEu := ne_of_none tE.h nu
              have tm := tm.monoN s
              have tq := tq.monoN s
              have tE := tE.monoN s
              have pr2 := prt s.gg pr2
              walk_at "zrd"
              have pfs := Paired.imp (fun _ _ h => TupL.mono s.gg h) pfs
              refine i_append tE.h (by omega) ?_
              walk_at "zrd"
              refine ⟨G3, fa ++ [u], rfl, g.mut tE (.inr zE), tm.off nmE, tq.off nqE, pfs, ?_, ?_⟩
              · rw [List.map_append]
                exact tE.put
              · rw [er, List.map_append]
                exact Paired.snoc tu pr2
            · have er : rowsM (mend ld hd lp) lp (i : Nat) N = (mB (mend ld hd lp) (i : Nat) N).map (rowB (mend ld hd lp) (i : Nat)) := by unfold rowsM; rw [if_pos (by simpa using hn), List.append_nil]
              walk_at "zrd"
              refine ⟨G2, fa, rfl, g, tm, tq, pfs, tE, ?_⟩
              rw [er]
              exact pr2
          · rintro σ H2 ⟨G3, fa, rfl, g, tm, tq, pfs, tE, pr2⟩
            have hfs : (fs.map V.ref).length = i := by rw [List.length_map, Paired.len pfs, List.length_range]
            walk_at "zrd"
            refine ⟨tyL tq.h, ?_⟩
            walk_at "zrd"
            refine i_append tq.h (by omega) ?_
            walk_at "zrd"
            have g := g.close tE zE
            have sE := same_close tE
            refine ⟨_, _, _, _, fs ++ [E], rfl, g.mut (tq.close nqE) (.inr zq), (tm.close nmE).off nmq, ?_, ?_⟩
            · rw [List.map_append]
              exact (tq.close nqE).put
            · rw [List.range_succ]
              exact Paired.snoc ⟨fa, upd_same, prt sE pr2⟩ (Paired.imp (fun _ _ h => TupL.mono sE h) pfs)
    · rintro σ H' ⟨v6, v7, v8, G, fs, rfl, g, tm, tq, pfs⟩
      rw [Int.toNat_natCast] at pfs
      walk_at "zrd"
      exact k q _ H' zq (g.close tq zq) ⟨fs, upd_same, Paired.imp (fun _ _ h => TupL.mono (same_close tq) h) pfs⟩
end
end Z
set_option Elab.async false
set_option linter.all false
set_option maxRecDepth 100000
set_option maxHeartbeats 4000000
namespace Z
open PySem PySem.Spec PyProof.Rows L2
local macro_rules | `(tactic| walk_at "zrd") => `(tactic| (repeat (first | ((with_reducible apply i_var); (· exact rfl)) | with_reducible refine i_c ?_ | with_reducible refine i_op ?_ | with_reducible refine i_I0 ?_ | with_reducible refine i_eqI ?_ | with_reducible refine i_neI ?_ | with_reducible refine i_test ?_ | with_reducible refine i_cons ?_ | with_reducible refine i_nil ?_ | with_reducible refine i_seq ?_ | with_reducible refine i_nx ?_ | with_reducible refine i_rt ?_ | with_reducible refine i_pass ?_ | with_reducible refine i_asg ?_ | with_reducible refine i_gname ?_ | with_reducible refine i_ret ?_ | with_reducible refine i_drop ?_ | with_reducible refine i_ifS ?_ | with_reducible refine i_if ?_ | with_reducible refine i_not ?_ | with_reducible refine i_and ?_ | with_reducible refine i_or ?_ | with_reducible refine i_lst ?_ | with_reducible refine i_tup ?_ | with_reducible refine i_cb ?_ | with_reducible refine i_call ?_ | with_reducible refine i_gsub ?_ | with_reducible refine i_B ?_ | with_reducible refine i_un ?_ | with_reducible refine i_U ?_ | with_reducible refine i_eqOI ?_ | with_reducible refine i_eqIO ?_ | with_reducible refine i_forL ?_ | with_reducible refine i_forT ?_ | with_reducible refine i_forR ?_ | with_reducible refine i_forR2 ?_ | with_reducible refine i_forR3 ?_ | with_reducible refine i_forE ?_ | with_reducible refine i_lcL ?_ | with_reducible refine i_lcT ?_ | with_reducible refine i_lcR ?_ | with_reducible refine i_yes ?_ | with_reducible refine i_lce ?_ | with_reducible refine i_lcf ?_ | with_reducible refine i_gcons ?_ | with_reducible refine i_gnil ?_ | with_reducible refine i_chain ?_ | with_reducible refine i_t ?_ | with_reducible refine i_f ?_ | with_reducible refine i_nt ?_ | with_reducible refine i_nf ?_ | with_reducible refine i_bm ?_ | with_reducible refine i_bm0 ?_ | with_reducible refine i_and2 ?_ | with_reducible refine i_or2 ?_ | with_reducible refine i_intI ?_ | with_reducible refine i_intB ?_ | with_reducible refine i_sl ?_ | with_reducible refine i_part ?_ | with_reducible refine i_nopart ?_ | with_reducible refine i_cut ?_ | with_reducible refine i_lrg ?_ | with_reducible refine i_make ?_ | with_reducible refine i_meth ?_ | with_reducible refine i_fld ?_ | with_reducible refine i_sfld ?_ | with_reducible refine i_dnew ?_ | with_reducible refine i_par3 ?_ | with_reducible refine i_par3e ?_ | with_reducible refine i_par2 ?_ | with_reducible refine i_par2e ?_ | with_reducible refine i_dput ?_ | with_reducible refine i_dget2 ?_ | with_reducible refine i_din ?_ | with_reducible refine i_dget ?_ | with_reducible refine i_isO ?_ | with_reducible refine i_isR ?_ | with_reducible refine i_isN ?_ | with_reducible refine i_isI ?_ | with_reducible refine i_noO ?_ | with_reducible refine i_noR ?_ | with_reducible refine i_noN ?_ | with_reducible refine i_noI ?_ | with_reducible refine i_dgetN ?_ | with_reducible refine i_dputN ?_ | with_reducible refine i_dnewN ?_ | with_reducible refine i_ckw ?_ | with_reducible refine (show ∃ k, V.bl _ = V.bl k ∧ _ from ⟨_, rfl, ?_⟩) | with_reducible refine (show ∃ k, V.int _ = V.int k ∧ _ from ⟨_, rfl, ?_⟩) | ((with_reducible apply i_ixL); (· assumption); (· exact rfl)) | ((with_reducible apply i_ixT); (· assumption); (· exact rfl)) | ((with_reducible apply i_lenL); (· assumption)) | ((with_reducible apply i_lenT); (· assumption)) | ((with_reducible apply i_I); (· (first | omega | (dsimp only; omega) | exact ⟨by omega, by omega⟩ | exact Or.inr ⟨by omega, by omega⟩ | exact Or.inl ⟨by omega, by omega⟩ | exact ⟨by decide, by decide, by decide⟩))) | ((with_reducible apply i_gtup); (· assumption); (· rfl)) | ((with_reducible apply i_p); (· omega)) | ((with_reducible apply i_n); (· omega)) | ((with_reducible apply i_np); (· omega)) | ((with_reducible apply i_nn); (· omega)) | ((with_reducible apply i_lcP); (· omega)) | ((with_reducible apply i_lcN); (· omega)) | ((with_reducible apply i_lcnP); (· omega)) | ((with_reducible apply i_lcnN); (· omega)))))
section
variable {P : Program} {w : World} {K : PySem.W.Frag} {mg : Str → Option Value} {base : Heap} {f : Addr} {fd : FuncData} {C : Addr}
abbrev sbreaking : Stmt := topS 26
theorem scbreaking : FnScope ["memory", "load", "plan", "best", "rows", "word", "limit", "begin", "length", "beat", "wide", "bears", "gap", "k"] ["memory", "load", "plan"] (defScope sbreaking) := ⟨rfl, rfl, rfl, by decide +kernel, rfl, by decide +kernel, by decide +kernel⟩
def BestV (K : PySem.W.Frag) (G : Hp) (ws : List W3) (v : V) (o : Option (Int × Nat)) : Prop := match o with
  | none => v = .non
  | some (t, w) => ∃ p L, v = .ref p ∧ w < ws.length ∧ lim (ws.getD w d3) = some L ∧ SqT K G p [.int t, .int (w : Nat), .int (t - L)]
theorem BestV.mono {G G' : Hp} {ws : List W3} {v : V} {o : Option (Int × Nat)} (e : Same G G') (h : BestV K G ws v o) : BestV K G' ws v o := by
  match o, h with
  | none, h => exact h
  | some (t, w), ⟨p, L, h1, h2, h3, h4⟩ => exact ⟨p, L, h1, h2, h3, sqt e h4⟩
theorem ok_breaking (T : Txt K mg) (C_words : CalMt P w K mg base C "words" 1 ["self"] (spWords K C)) (C_need_load : Cal P w K mg base "need_load" 1 ["load"] (spNeedLoad K)) (C_need_plan : Cal P w K mg base "need_plan" 2 ["memory", "plan"] (spNeedPlan K C)) (C_stretches : Cal P w K mg base "stretches" 2 ["memory", "load", "plan"] (spStretches K C)) (C_limits : Cal P w K mg base "limits" 2 ["memory"] (spLimits K C))
    (F : Fun K "breaking" "breaking" sbreaking f fd) : FnOk P w K mg base CX0 3 f fd ["memory", "load", "plan"] (spBreaking K C) := by
  refine F.ok scbreaking (fun vs H Q E h => ?_) (fun cdv A outer s H0 vs Q E hr h => ?_)
  · obtain ⟨G, m, a, p, ws, ld, hd, lp, rfl, _⟩ := h
    rfl
  · obtain ⟨G0, m, a, p, ws, ld, hd, lp, rfl, sb, M, hl, okl, pl, okp, k⟩ := h
    refine ⟨_, (pss_cons (ps_expr (pc C_need_load (hr.mono (by decide)) (pa_cons (pv 1) pa_nil)))
      (pss_cons (ps_expr (pc C_need_plan (hr.mono (by decide)) (pa_cons (pv 0) (pa_cons (pv 2) pa_nil))))
      (pss_cons (ps_set (i := 3) scbreaking.nd rfl (Or.inl rfl) pe_non)
      (pss_cons (ps_set (i := 4) scbreaking.nd rfl (Or.inl rfl) (pc C_stretches (hr.mono (by decide)) (pa_cons (pv 0) (pa_cons (pv 1) (pa_cons (pv 2) pa_nil)))))
      (pss_cons (ps_for PassesOwn.never rfl (pi_enum (by rfl) T.b_enumerate (pa_cons (pc C_limits (hr.mono (by decide)) (pa_cons (pv 0) pa_nil)) pa_nil)) (pg_tup rfl (pgs_cons (pg_name (i := 5) scbreaking.nd rfl (Or.inr rfl)) (pgs_cons (pg_name (i := 6) scbreaking.nd rfl (Or.inl rfl)) pgs_nil))) (pss_one (ps_for PassesOwn.never rfl (pi_list (pe_ix (r := rIxL K) ix_list (pv 4) (pv 5) (fun _ _ => rfl))) (pg_tup rfl (pgs_cons (pg_name (i := 7) scbreaking.nd rfl (Or.inr rfl)) (pgs_cons (pg_name (i := 8) scbreaking.nd rfl (Or.inl rfl)) pgs_nil))) (pss_one (ps_if (PW.pt (pw_and (pt_cmpR op_notNz (pv 6) pe_non (nomark _)) (pw_and1 (PW.pt (pw_or (pt_cmpR op_isNz (pv 8) pe_non (nomark _)) (pw_or1 (pt_cmpR op_gt (pv 8) (pv 6) (nomark _)))))))) (pss_one (ps_if (PW.pt (pw_or (pt_cmpR op_isNz (pv 3) pe_non (nomark _)) (pw_or1 (pt_cmpR op_lt (pe_op op_add (pv 7) (pv 6)) (pe_ix (r := rIxT K) ix_tup (pv 3) pe_int (fun _ _ => rfl)) (nomark _))))) (pss_one (ps_set (i := 3) scbreaking.nd rfl (Or.inl rfl) (pe_tup (pa_cons (pe_op op_add (pv 7) (pv 6)) (pa_cons (pv 5) (pa_cons (pv 7) pa_nil)))))) pss_nil)) pss_nil)))))
      (pss_cons (ps_if (pt_cmpR op_isNz (pv 3) pe_non (nomark _)) (pss_one (ps_ret pe_non)) pss_nil)
      (pss_cons (ps_asg (pv 3) (pg_tup rfl (pgs_cons (pg_name (i := 9) scbreaking.nd rfl (Or.inl rfl)) (pgs_cons (pg_name (i := 5) scbreaking.nd rfl (Or.inr rfl)) (pgs_cons (pg_name (i := 7) scbreaking.nd rfl (Or.inr rfl)) pgs_nil)))))
      (pss_cons (ps_asg (pe_ix (r := rIxL K) ix_list (pmt C_words (hr.mono (by decide)) (pv 0)) (pv 5) (fun _ _ => rfl)) (pg_tup rfl (pgs_cons (pg_name (i := 10) scbreaking.nd rfl (Or.inl rfl)) (pgs_cons (pg_name (i := 11) scbreaking.nd rfl (Or.inl rfl)) (pgs_cons (pg_name (i := 12) scbreaking.nd rfl (Or.inr rfl)) pgs_nil)))))
      (pss_one (ps_ret (pe_tup (pa_cons (pv 9) (pa_cons (pv 5) (pa_cons (pe_lc (own := [("k", 13)]) (g := gName 13) rfl scbreaking.nd (pi_range1 (by rfl) T.b_range (pa_cons (pe_op op_add (pv 11) pe_int) pa_nil)) (blkOk_by (own := [("k", 13)]) (N := ["memory", "load", "plan", "best", "rows", "word", "limit", "begin", "length", "beat", "wide", "bears", "gap", "k"]) (sc := defScope sbreaking) (by decide +kernel)) (fun _ _ _ _ _ => (pg_name (i := 13) scbreaking.nd rfl (Or.inl rfl))) (fun _ _ _ _ _ => pts_nil) (fun _ _ _ _ _ => (pe_tup (pa_cons (pe_op op_add (pv 7) (pe_op op_mul (pv 13) (pv 12))) (pa_cons (pv 5) (pa_cons (pv 13) pa_nil)))))) pa_nil)))))))))))))), ?_⟩
    try dsimp only [cxOf, L2.Cx.nox, L2.Cx.wish]
    refine i_start (σ' := [some (.ref m), some (.ref a), some (.ref p), none, none, none, none, none, none, none, none, none, none, none]) rfl ?_
    have g : Gr No G0 H0 G0 H0 := Gr.refl sb
    have okm := M.ok
    have l4 := okm.l4
    walk_at "zrd"
    refine i_needLoad g hl okl fun H1 s g => ?_
    walk_at "zrd"
    refine i_needPlan g M pl okp fun H2 s g => ?_
    walk_at "zrd"
    refine i_stretches g M hl okl pl okp fun r G H4 nr s g hrows => ?_
    obtain ⟨rl, hrl, prr⟩ := hrows
    have erl : (rl.map V.ref).length = ws.length := by rw [List.length_map, Paired.len prr, List.length_range]
    have M := M.mono g.gg
    walk_at "zrd"
    refine i_limits g M fun q H5 nq s g tq => ?_
    have zq := Gr.fresh (by assumption) nq
    have eq : ((ws.map lim).map vO).length = ws.length := by rw [List.length_map, List.length_map]
    walk_at "zrd"
    refine forE (.inl (.inl tq.h)) (fun i σ H' => ∃ (v5 v6 v7 v8 : Option V) (bv : V) (G2 : Hp) (o : Option (Int × Nat)), σ = [some (.ref m), some (.ref a), some (.ref p), some bv, some (.ref r), v5, v6, v7, v8, none, none, none, none, none] ∧ Same G G2 ∧ Gr No G0 H0 G2 H' ∧ At G2 H' q (.lst ((ws.map lim).map vO)) ∧ BestV K G2 ws bv o ∧ Best (CandTo ws (fun w => rowsM (mend ld hd lp) lp (w : Nat) (nB ld hd lp)) i 0) o)
      ⟨none, none, none, none, .non, G, none, rfl, Same.refl G, g, tq, rfl, best_zero⟩ ?_ ?_ ?_
    · rintro i σ H' hi ⟨v5, v6, v7, v8, bv, G2, o, rfl, sG, g, tq, hbv, hb⟩
      exact .inl (.inl tq.h)
    · rintro i x σ H' pe hx ⟨v5, v6, v7, v8, bv, G2, o, rfl, sG, g, tq, hbv, hb⟩ npe
      have hi2 : i < ws.length := by rw [← eq]; exact (List.getElem?_eq_some_iff.mp hx).1
      have hx2 : x = vO (lim (ws.getD i d3)) := by
        rw [List.getElem?_map, List.getElem?_map, getD_at (d := d3) hi2] at hx
        exact (Option.some.inj hx).symm
      subst hx2
      obtain ⟨ra, hra⟩ : ∃ ra, rl[i]? = some ra := ⟨_, List.getElem?_eq_getElem (by rw [← erl, List.length_map] at hi2; exact hi2)⟩
      obtain ⟨fa, hfa, pfa⟩ := Paired.at prr hra (List.getElem?_range hi2)
      have g := g.new (o := .tup [.int (i : Nat), vO (lim (ws.getD i d3))]) npe
      have tq := tq.new (u := .tup [.int (i : Nat), vO (lim (ws.getD i d3))]) npe
      have hpe : SqT K (upd H' pe (.tup [.int (i : Nat), vO (lim (ws.getD i d3))])) pe [.int (i : Nat), vO (lim (ws.getD i d3))] := .inl (.inl upd_same)
      revert g tq hpe
      generalize upd H' pe (.tup [.int (i : Nat), vO (lim (ws.getD i d3))]) = H6
      intro g tq hpe
      have erw : (fa.map V.ref).length = (rowsM (mend ld hd lp) lp (i : Nat) (nB ld hd lp)).length := by rw [List.length_map, Paired.len pfa, List.length_map]
      walk_at "zrd"
      refine i_ixL (ls hrl (sG.trans g.sub)) (atN (k := i) rfl (by rw [List.getElem?_map, hra]; rfl)) ?_
      walk_at "zrd"
      refine forL (ls hfa (sG.trans g.sub)) (fun j σ H' => ∃ (v7 v8 : Option V) (bv : V) (G2 : Hp) (o : Option (Int × Nat)), σ = [some (.ref m), some (.ref a), some (.ref p), some bv, some (.ref r), some (.int (i : Nat)), some (vO (lim (ws.getD i d3))), v7, v8, none, none, none, none, none] ∧ Same G G2 ∧ Gr No G0 H0 G2 H' ∧ At G2 H' q (.lst ((ws.map lim).map vO)) ∧ BestV K G2 ws bv o ∧ Best (CandTo ws (fun w => rowsM (mend ld hd lp) lp (w : Nat) (nB ld hd lp)) i j) o)
        ⟨_, _, bv, G2, o, rfl, sG, g, tq, hbv, hb⟩ ?_ ?_ ?_
      · rintro j σ H' hj ⟨v7, v8, bv, G2, o, rfl, sG, g, tq, hbv, hb⟩
        exact ls hfa (sG.trans g.sub)
      · rintro j x σ H' hx ⟨v7, v8, bv, G2, o, rfl, sG, g, tq, hbv, hb⟩
        have hj : j < (rowsM (mend ld hd lp) lp (i : Nat) (nB ld hd lp)).length := by rw [← erw]; exact (List.getElem?_eq_some_iff.mp hx).1
        have hRj := List.getElem?_eq_getElem hj
        obtain ⟨pa, hpa, hat⟩ := tup_at (t := vR (rowsM (mend ld hd lp) lp (i : Nat) (nB ld hd lp))[j]) pfa (by rw [List.getElem?_map, hRj]; rfl)
        rw [List.getElem?_map, hpa] at hx
        cases hx
        have hat1 := sqt (sG.trans g.sub) hat
        obtain ⟨b, len, eR⟩ : ∃ b len, (rowsM (mend ld hd lp) lp (i : Nat) (nB ld hd lp))[j] = (b, len) := ⟨_, _, rfl⟩
        rw [eR] at hat1 hRj
        dsimp only [vR] at hat1
        cases hL : lim (ws.getD i d3) with
        | none =>
          walk_at "zrd"
          refine ⟨_, _, bv, G2, o, rfl, sG, g, tq, hbv, best_no hb hRj fun L h => ?_⟩
          rw [hL] at h
          cases h
        | some L =>
          dsimp only [vO]
          have hLn := lim_nat (okm.ok _ (getD_mem hi2)) hL
          cases len with
          | none =>
            have hc : (none : Option Int) = none ∨ ∃ x, (none : Option Int) = some x ∧ L < x := .inl rfl
            dsimp only [vO] at hat1
            walk_at "zrd"
            match o, hbv, hb with
            | none, hbv, hb =>
              have e : bv = .non := hbv
              subst e
              walk_at "zrd"
              refine newT (K := K) g (by first | omega | (simp; done) | (simp; omega)) fun u G3 H8 nu zu s g tu => ?_
              have nqu := ne_of_none tq.h nu
              have tq := tq.monoN s
              walk_at "zrd"
              exact ⟨_, _, .ref u, G3, some (b + L, i), rfl, sG.trans s.gg, g, tq, ⟨u, L, rfl, hi2, hL, by rw [Int.add_sub_cancel]; exact tu⟩, best_take hb hRj hL hc (fun t w e => by cases e)⟩
            | some (t, w), ⟨pb, L2, e, hw2, hL2, hpb⟩, hb =>
              subst e
              have hpb1 := sqt g.sub hpb
              walk_at "zrd"
              refine i_ite (fun hlt => ?_) (fun hlt => ?_)
              · walk_at "zrd"
                refine newT (K := K) g (by first | omega | (simp; done) | (simp; omega)) fun u G3 H8 nu zu s g tu => ?_
                have nqu := ne_of_none tq.h nu
                have tq := tq.monoN s
                walk_at "zrd"
                exact ⟨_, _, .ref u, G3, some (b + L, i), rfl, sG.trans s.gg, g, tq, ⟨u, L, rfl, hi2, hL, by rw [Int.add_sub_cancel]; exact tu⟩, best_take hb hRj hL hc (fun t' w' e => by cases e; exact hlt)⟩
              · walk_at "zrd"
                exact ⟨_, _, .ref pb, G2, some (t, w), rfl, sG, g, tq, ⟨pb, L2, rfl, hw2, hL2, hpb⟩, best_keep hb hRj hL hc hlt⟩
          | some x =>
            dsimp only [vO] at hat1
            walk_at "zrd"
            refine i_ite (fun hx => ?_) (fun hx => ?_)
            · have hc : some x = none ∨ ∃ y, some x = some y ∧ L < y := .inr ⟨x, rfl, hx⟩
              walk_at "zrd"
              match o, hbv, hb with
              | none, hbv, hb =>
                have e : bv = .non := hbv
                subst e
                walk_at "zrd"
                refine newT (K := K) g (by first | omega | (simp; done) | (simp; omega)) fun u G3 H8 nu zu s g tu => ?_
                have nqu := ne_of_none tq.h nu
                have tq := tq.monoN s
                walk_at "zrd"
                exact ⟨_, _, .ref u, G3, some (b + L, i), rfl, sG.trans s.gg, g, tq, ⟨u, L, rfl, hi2, hL, by rw [Int.add_sub_cancel]; exact tu⟩, best_take hb hRj hL hc (fun t w e => by cases e)⟩
              | some (t, w), ⟨pb, L2, e, hw2, hL2, hpb⟩, hb =>
                subst e
                have hpb1 := sqt g.sub hpb
                walk_at "zrd"
                refine i_ite (fun hlt => ?_) (fun hlt => ?_)
                · walk_at "zrd"
                  refine newT (K := K) g (by first | omega | (simp; done) | (simp; omega)) fun u G3 H8 nu zu s g tu => ?_
                  have nqu := ne_of_none tq.h nu
                  have tq := tq.monoN s
                  walk_at "zrd"
                  exact ⟨_, _, .ref u, G3, some (b + L, i), rfl, sG.trans s.gg, g, tq, ⟨u, L, rfl, hi2, hL, by rw [Int.add_sub_cancel]; exact tu⟩, best_take hb hRj hL hc (fun t' w' e => by cases e; exact hlt)⟩
                · walk_at "zrd"
                  exact ⟨_, _, .ref pb, G2, some (t, w), rfl, sG, g, tq, ⟨pb, L2, rfl, hw2, hL2, hpb⟩, best_keep hb hRj hL hc hlt⟩
            · walk_at "zrd"
              refine ⟨_, _, bv, G2, o, rfl, sG, g, tq, hbv, best_no hb hRj fun L2 h h2 => ?_⟩
              rw [hL] at h
              cases h
              rcases h2 with h2 | ⟨y, h2, h3⟩
              · cases h2
              · cases h2
                exact hx h3
      · rintro σ H' ⟨v7, v8, bv, G2, o, rfl, sG, g, tq, hbv, hb⟩
        rw [erw] at hb
        walk_at "zrd"
        exact ⟨_, _, _, _, bv, G2, o, rfl, sG, g, tq, hbv, best_next hb⟩
    · rintro σ H' ⟨v5, v6, v7, v8, bv, G2, o, rfl, sG, g, tq, hbv, hb⟩
      rw [eq] at hb
      have hfin := best_brk okm okl okp hb
      match o, hbv, hfin with
      | none, hbv, hfin =>
        have e : bv = .non := hbv
        subst e
        walk_at "zrd"
        exact k none .non G2 H' g hfin rfl
      | some (t, w), ⟨pb, L, e, hw, hL, hpb⟩, ⟨n, hn, _, hbrk⟩ =>
        subst e hn
        have hpb1 := sqt g.sub hpb
        have M2 := M.mono sG
        obtain ⟨o1, o2, o3, o4, o5, o6⟩ := okm.ok _ (getD_mem (d := d3) hw)
        have eL : L = (ws.getD w d3).2.1 * (ws.getD w d3).2.2 := by
          unfold lim at hL
          split at hL
          · cases hL
          · exact (Option.some.inj hL).symm
        walk_at "zrd"
        refine i_words g M2 fun qw as H6 nqw s g tw prw => ?_
        obtain ⟨ap, hap, hat⟩ := word_at prw (getD_at (d := d3) hw)
        have hat1 := sqt g.sub hat
        walk_at "zrd"
        refine i_ixL (.inl (.inl tw.h)) (atN (k := w) rfl hap) ?_
        walk_at "zrd"
        have gB := g
        refine lcR (by omega) (by omega) (fun D j H' => ∃ (G3 : Hp) (fa : List Addr), Gr No G2 H6 G3 H' ∧ At G3 H' D (.lst (fa.map V.ref)) ∧ Paired (fun p t => SqT K G3 p t) fa (((List.range j).map fun (k : Nat) => ((n : Int) - (ws.getD w d3).2.1 * (ws.getD w d3).2.2 + (k : Int) * (ws.getD w d3).2.2, ((w : Int), (k : Int)))).map vW)) ?_ ?_ ?_
        · intro D nD
          exact ⟨G2, [], (Gr.refl g.sub).new nD, At.of g nD, .nil⟩
        · rintro D j H' nD hj ⟨G3, fa, g, tD, pr⟩
          have hfl : (fa.map V.ref).length = j := by
            rw [List.length_map, Paired.len pr, List.length_map, List.length_map, List.length_range]
          walk_at "zrd"
          refine i_lcw rfl ?_
          walk_at "zrd"
          refine newT (K := K) g (by first | omega | (simp; done) | (simp; omega)) fun u G4 H8 nu zu s g tu => ?_
          have nDu := ne_of_none tD.h nu
          have tD := tD.monoN s
          have pr := prt s.gg pr
          walk_at "zrd"
          refine lcp tD (by omega) ?_
          refine ⟨G4, fa ++ [u], g.mut tD (.inr nD), ?_, ?_⟩
          · rw [List.map_append]
            exact tD.put
          · rw [List.range_succ, List.map_append, List.map_append]
            refine Paired.snoc ?_ pr
            rw [← eL]
            exact tu
        · rintro D H' nD ⟨G3, fa, g2, tD, pr⟩
          have zD := gB.fresh nD
          have g := gB.seqN g2
          rw [show ((ws.getD w d3).2.1 + 1).toNat = (ws.getD w d3).2.1.toNat + 1 by omega] at pr
          walk_at "zrd"
          refine newT (K := K) g (by first | omega | (simp; done) | (simp; omega)) fun r4 G4 H8 nr4 zr4 s g tr4 => ?_
          have nDr4 := ne_of_none tD.h nr4
          have tD := tD.monoN s
          have pr := prt s.gg pr
          walk_at "zrd"
          exact k (some (n, w)) (.ref r4) G4 _ g hbrk ⟨r4, D, fa, rfl, zr4, zD, tr4, tD, pr⟩
end
end Z
set_option Elab.async false
set_option linter.all false
set_option maxRecDepth 100000
set_option maxHeartbeats 4000000
namespace Z
open PySem PySem.Spec PyProof.Rows L2
local macro_rules | `(tactic| walk_at "zrd") => `(tactic| (repeat (first | ((with_reducible apply i_var); (· exact rfl)) | with_reducible refine i_c ?_ | with_reducible refine i_op ?_ | with_reducible refine i_I0 ?_ | with_reducible refine i_eqI ?_ | with_reducible refine i_neI ?_ | with_reducible refine i_test ?_ | with_reducible refine i_cons ?_ | with_reducible refine i_nil ?_ | with_reducible refine i_seq ?_ | with_reducible refine i_nx ?_ | with_reducible refine i_rt ?_ | with_reducible refine i_pass ?_ | with_reducible refine i_asg ?_ | with_reducible refine i_gname ?_ | with_reducible refine i_ret ?_ | with_reducible refine i_drop ?_ | with_reducible refine i_ifS ?_ | with_reducible refine i_if ?_ | with_reducible refine i_not ?_ | with_reducible refine i_and ?_ | with_reducible refine i_or ?_ | with_reducible refine i_lst ?_ | with_reducible refine i_tup ?_ | with_reducible refine i_cb ?_ | with_reducible refine i_call ?_ | with_reducible refine i_gsub ?_ | with_reducible refine i_B ?_ | with_reducible refine i_un ?_ | with_reducible refine i_U ?_ | with_reducible refine i_eqOI ?_ | with_reducible refine i_eqIO ?_ | with_reducible refine i_forL ?_ | with_reducible refine i_forT ?_ | with_reducible refine i_forR ?_ | with_reducible refine i_forR2 ?_ | with_reducible refine i_forR3 ?_ | with_reducible refine i_forE ?_ | with_reducible refine i_lcL ?_ | with_reducible refine i_lcT ?_ | with_reducible refine i_lcR ?_ | with_reducible refine i_yes ?_ | with_reducible refine i_lce ?_ | with_reducible refine i_lcf ?_ | with_reducible refine i_gcons ?_ | with_reducible refine i_gnil ?_ | with_reducible refine i_chain ?_ | with_reducible refine i_t ?_ | with_reducible refine i_f ?_ | with_reducible refine i_nt ?_ | with_reducible refine i_nf ?_ | with_reducible refine i_bm ?_ | with_reducible refine i_bm0 ?_ | with_reducible refine i_and2 ?_ | with_reducible refine i_or2 ?_ | with_reducible refine i_intI ?_ | with_reducible refine i_intB ?_ | with_reducible refine i_sl ?_ | with_reducible refine i_part ?_ | with_reducible refine i_nopart ?_ | with_reducible refine i_cut ?_ | with_reducible refine i_lrg ?_ | with_reducible refine i_make ?_ | with_reducible refine i_meth ?_ | with_reducible refine i_fld ?_ | with_reducible refine i_sfld ?_ | with_reducible refine i_dnew ?_ | with_reducible refine i_par3 ?_ | with_reducible refine i_par3e ?_ | with_reducible refine i_par2 ?_ | with_reducible refine i_par2e ?_ | with_reducible refine i_dput ?_ | with_reducible refine i_dget2 ?_ | with_reducible refine i_din ?_ | with_reducible refine i_dget ?_ | with_reducible refine i_isO ?_ | with_reducible refine i_isR ?_ | with_reducible refine i_isN ?_ | with_reducible refine i_isI ?_ | with_reducible refine i_noO ?_ | with_reducible refine i_noR ?_ | with_reducible refine i_noN ?_ | with_reducible refine i_noI ?_ | with_reducible refine i_dgetN ?_ | with_reducible refine i_dputN ?_ | with_reducible refine i_dnewN ?_ | with_reducible refine i_ckw ?_ | with_reducible refine (show ∃ k, V.bl _ = V.bl k ∧ _ from ⟨_, rfl, ?_⟩) | with_reducible refine (show ∃ k, V.int _ = V.int k ∧ _ from ⟨_, rfl, ?_⟩) | ((with_reducible apply i_ixL); (· assumption); (· exact rfl)) | ((with_reducible apply i_ixT); (· assumption); (· exact rfl)) | ((with_reducible apply i_lenL); (· assumption)) | ((with_reducible apply i_lenT); (· assumption)) | ((with_reducible apply i_I); (· (first | omega | (dsimp only; omega) | exact ⟨by omega, by omega⟩ | exact Or.inr ⟨by omega, by omega⟩ | exact Or.inl ⟨by omega, by omega⟩ | exact ⟨by decide, by decide, by decide⟩))) | ((with_reducible apply i_gtup); (· assumption); (· rfl)) | ((with_reducible apply i_p); (· omega)) | ((with_reducible apply i_n); (· omega)) | ((with_reducible apply i_np); (· omega)) | ((with_reducible apply i_nn); (· omega)) | ((with_reducible apply i_lcP); (· omega)) | ((with_reducible apply i_lcN); (· omega)) | ((with_reducible apply i_lcnP); (· omega)) | ((with_reducible apply i_lcnN); (· omega)))))
section
variable {P : Program} {w : World} {K : PySem.W.Frag} {mg : Str → Option Value} {base : Heap} {f : Addr} {fd : FuncData} {C : Addr}
abbrev sSearch_behind : Stmt := inClass (topS 20) 2
theorem scSearch_behind : FnScope ["self", "phase", "ages", "word", "found", "at", "age"] ["self", "phase", "ages", "word"] (defScope sSearch_behind) := ⟨rfl, rfl, rfl, by decide +kernel, rfl, by decide +kernel, by decide +kernel⟩
abbrev sSearch_moves : Stmt := inClass (topS 20) 1
theorem scSearch_moves : FnScope ["self", "state", "phase", "ages", "some", "word"] ["self", "state"] (defScope sSearch_moves) := ⟨rfl, rfl, rfl, by decide +kernel, rfl, by decide +kernel, by decide +kernel⟩
theorem ok_behind (T : Txt K mg) (cl : Cls K C) (nE : NoAttr K C "ends") (nL : NoAttr K C "load") (F : Fun K "behind" "Search.behind" sSearch_behind f fd) : FnOk P w K mg base CX0 1 f fd ["self", "phase", "ages", "word"] (spBehind K C) := by
  refine F.ok scSearch_behind (fun vs H Q E h => ?_) (fun cdv A outer s H0 vs Q E hr h => ?_)
  · obtain ⟨G, p, ag, en, ld, fs, s, o, rfl, _⟩ := h
    rfl
  · obtain ⟨G0, p, ag, en, ld, fs, st, o, rfl, sb, ⟨dx, e, l, hp, he, hge, hl, hgl⟩, oke, okl, oks, hag, k⟩ := h
    refine ⟨_, (pss_cons (ps_set (i := 4) scSearch_behind.nd rfl (Or.inl rfl) (pe_lst pa_nil))
      (pss_cons (ps_for PassesOwn.never rfl (pi_range1 (by rfl) T.b_range (pa_cons (pe_callB (r := rLen K) cl_len (by rfl) T.b_len (by decide +kernel) (pa_cons (pv 2) pa_nil)) pa_nil)) (pg_name (i := 5) scSearch_behind.nd rfl (Or.inl rfl)) (pss_cons (ps_set (i := 6) scSearch_behind.nd rfl (Or.inl rfl) pe_int)
      (pss_cons (ps_if (pt_cmpR op_notNz (pe_ix (r := rIxL K) ix_list (pe_fld (pv 0) rfl) (pv 5) (fun _ _ => rfl)) pe_non (nomark _)) (pss_cons (ps_set (i := 6) scSearch_behind.nd rfl (Or.inl rfl) (pe_ifExp (pt_cmpR op_eq (pv 5) (pv 3) (nomark _)) pe_int (pe_op op_add (pe_ix (r := rIxT K) ix_tup (pv 2) (pv 5) (fun _ _ => rfl)) pe_int)))
      (pss_one (ps_if (pt_cmpR op_gt (pv 6) (pe_ix (r := rIxL K) ix_list (pe_fld (pv 0) rfl) (pv 5) (fun _ _ => rfl)) (nomark _)) (pss_one (ps_ret pe_non)) pss_nil))) pss_nil)
      (pss_one (ps_expr (pe_bm PySem.F.plainAttrs_list PySem.F.slot_list_append PySem.F.type_list_append mt_append (pv 4) (pa_cons (pv 6) pa_nil)))))))
      (pss_one (ps_ret (pe_tup (pa_cons (pe_op op_mod (pe_op op_add (pv 1) pe_int) (pe_callB (r := rLen K) cl_len (by rfl) T.b_len (by decide +kernel) (pa_cons (pe_fld (pv 0) rfl) pa_nil))) (pa_cons (pe_callTy (r := rTuple K) cl_tuple (by rfl) T.b_tuple (by decide +kernel) (pa_cons (pv 4) pa_nil)) pa_nil))))))), ?_⟩
    try dsimp only [cxOf, L2.Cx.nox, L2.Cx.wish]
    refine i_start (σ' := [some (.ref p), some (.int st.1), some (.ref ag), some (vO o), none, none, none]) rfl ?_
    have g : Gr No G0 H0 G0 H0 := Gr.refl sb
    have e1 : (st.2.map V.int).length = en.length := by rw [List.length_map, oks.len]
    have e2 : (en.map vO).length = en.length := List.length_map _
    have e3 : (ld.map V.int).length = ld.length := List.length_map _
    have l4 := oke.l4
    have L1 := okl.l1
    have hag1 := sqt (K := K) g.sub hag
    walk_at "zrd"
    refine newL g (by first | omega | (simp; done) | (simp; omega)) fun q H1 nq zq s g tq => ?_
    walk_at "zrd"
    have hag1 := sqt (K := K) g.sub hag
    walk_at "zrd"
    rw [e1]
    refine forR (by omega) (by omega) (fun i σ H' => ∃ (v5 v6 : Option V) (xs : List Int), σ = [some (.ref p), some (.int st.1), some (.ref ag), some (vO o), some (.ref q), v5, v6] ∧ Gr No G0 H0 G0 H' ∧ At G0 H' q (.lst (xs.map V.int)) ∧ beh en st.2 o i = some xs ∧ xs.length = i)
      ⟨none, none, [], rfl, g, tq, rfl, rfl⟩ ?_ ?_
    · rintro i σ H' hi ⟨v5, v6, xs, rfl, g, tq, hb, hxl⟩
      rw [Int.toNat_natCast] at hi
      have hp1 := g.old _ _ (fun z => z) hp
      have hag1 := sqt (K := K) g.sub hag
      have hen1 : SqL K H' e (en.map vO) := Z.ls hge g.sub
      have hei : (en.map vO)[i]? = some (vO (en.getD i none)) := map_getD (d := none) hi
      have hai : (st.2.map V.int)[i]? = some (.int (st.2.getD i 0)) := map_getD (d := 0) (by rw [oks.len]; exact hi)
      walk_at "zrd"
      refine fld hp1 cl nE he ?_
      walk_at "zrd"
      refine i_ixL hen1 (atN (k := i) rfl hei) ?_
      cases hLe : en.getD i none with
      | none =>
        have hn1 : nx1 en st.2 o i = some 0 := by unfold nx1; rw [hLe]
        walk_at "zrd"
        refine i_np rfl ?_
        walk_at "zrd"
        refine ⟨tyL tq.h, ?_⟩
        walk_at "zrd"
        refine i_append tq.h (by rw [List.length_map]; omega) ?_
        walk_at "zrd"
        refine ⟨_, _, xs ++ [0], rfl, g.mut tq (.inr zq), ?_, by rw [beh, hb, hn1], by rw [List.length_append, List.length_singleton, hxl]⟩
        rw [List.map_append]
        exact tq.put
      | some L =>
        rw [hLe] at hei
        walk_at "zrd"
        refine i_nn (by simp) ?_
        walk_at "zrd"
        have hn1 : ∀ a : Int, (if o = some (i : Int) then (1 : Int) else st.2.getD i 0 + 1) = a → nx1 en st.2 o i = if L < a then none else some a := fun a ea => by unfold nx1; rw [hLe]; show (if L < (if o = some (i : Int) then (1 : Int) else st.2.getD i 0 + 1) then none else some (if o = some (i : Int) then (1 : Int) else st.2.getD i 0 + 1)) = _; rw [ea]
        refine i_ite (fun hw => ?_) (fun hw => ?_)
        · have hn2 := hn1 1 (if_pos hw)
          walk_at "zrd"
          refine fld hp1 cl nE he ?_
          walk_at "zrd"
          refine i_ixL hen1 (atN (k := i) rfl hei) ?_
          dsimp only [vO]
          walk_at "zrd"
          refine i_ite (fun hc => ?_) (fun hc => ?_)
          · rw [if_pos hc] at hn2
            have hs : step en ld st o = none := by
              unfold step
              rw [beh_none (n := i + 1) (m := en.length) (by omega) (by rw [beh, hb, hn2])]
              rfl
            walk_at "zrd"
            exact k .non G0 H' g (by rw [hs]; rfl)
          · rw [if_neg hc] at hn2
            walk_at "zrd"
            refine ⟨tyL tq.h, ?_⟩
            walk_at "zrd"
            refine i_append tq.h (by rw [List.length_map]; omega) ?_
            walk_at "zrd"
            refine ⟨_, _, xs ++ [1], rfl, g.mut tq (.inr zq), ?_, by rw [beh, hb, hn2], by rw [List.length_append, List.length_singleton, hxl]⟩
            rw [List.map_append]
            exact tq.put
        · have hn2 := hn1 _ (if_neg hw)
          walk_at "zrd"
          refine i_ixT hag1 (atN (k := i) rfl hai) ?_
          walk_at "zrd"
          refine fld hp1 cl nE he ?_
          walk_at "zrd"
          refine i_ixL hen1 (atN (k := i) rfl hei) ?_
          dsimp only [vO]
          walk_at "zrd"
          refine i_ite (fun hc => ?_) (fun hc => ?_)
          · rw [if_pos hc] at hn2
            have hs : step en ld st o = none := by
              unfold step
              rw [beh_none (n := i + 1) (m := en.length) (by omega) (by rw [beh, hb, hn2])]
              rfl
            walk_at "zrd"
            exact k .non G0 H' g (by rw [hs]; rfl)
          · rw [if_neg hc] at hn2
            walk_at "zrd"
            refine ⟨tyL tq.h, ?_⟩
            walk_at "zrd"
            refine i_append tq.h (by rw [List.length_map]; omega) ?_
            walk_at "zrd"
            refine ⟨_, _, xs ++ [st.2.getD i 0 + 1], rfl, g.mut tq (.inr zq), ?_, by rw [beh, hb, hn2], by rw [List.length_append, List.length_singleton, hxl]⟩
            rw [List.map_append]
            exact tq.put
    · rintro σ H' ⟨v5, v6, xs, rfl, g, tq, hb, hxl⟩
      rw [Int.toNat_natCast] at hb hxl
      have hp1 := g.old _ _ (fun z => z) hp
      walk_at "zrd"
      refine fld hp1 cl nL hl ?_
      have hl1 : SqL K H' l (ld.map V.int) := Z.ls hgl g.sub
      walk_at "zrd"
      rw [e3]
      walk_at "zrd"
      refine i_tupleL (.inl (.inl tq.h)) ?_
      have hxl2 : (xs.map V.int).length ≤ 4 := by rw [List.length_map]; omega
      refine newT (K := K) g (by first | omega | (simp; done) | (simp; omega)) fun t1 G1 H2 nt1 zt1 s g tt1 => ?_
      have nqt1 := ne_of_none tq.h nt1
      have tq := tq.monoN s
      walk_at "zrd"
      refine newT (K := K) g (by first | omega | (simp; done) | (simp; omega)) fun t2 G2 H3 nt2 zt2 s g tt2 => ?_
      have tt1 := sqt s.gg tt1
      walk_at "zrd"
      refine k (.ref t2) G2 H3 g ?_
      unfold step
      rw [hb]
      exact ⟨t2, rfl, t1, tt2, tt1⟩
theorem ok_moves (T : Txt K mg) (cl : Cls K C) (nE : NoAttr K C "ends") (nL : NoAttr K C "load") (C_behind : CalMt P w K mg base C "behind" 1 ["self", "phase", "ages", "word"] (spBehind K C)) (F : Fun K "moves" "Search.moves" sSearch_moves f fd) : FnOk P w K mg base CX0 2 f fd ["self", "state"] (spMoves K C) := by
  refine F.ok scSearch_moves (fun vs H Q E h => ?_) (fun cdv A outer s H0 vs Q E hr h => ?_)
  · obtain ⟨G, p, q, en, ld, fs, s, rfl, _⟩ := h
    rfl
  · obtain ⟨G0, p, q, en, ld, fs, st, rfl, sb, ⟨dx, e, l, hp, he, hge, hl, hgl⟩, oke, okl, nb, oks, ⟨r0, hq1, hq2⟩, k⟩ := h
    refine ⟨_, (pss_cons (ps_asg (pv 1) (pg_tup rfl (pgs_cons (pg_name (i := 2) scSearch_moves.nd rfl (Or.inr rfl)) (pgs_cons (pg_name (i := 3) scSearch_moves.nd rfl (Or.inr rfl)) pgs_nil))))
      (pss_cons (ps_set (i := 4) scSearch_moves.nd rfl (Or.inl rfl) (pe_lst (pa_cons pe_non pa_nil)))
      (C8.pss_cut (ps_if (pt_cmpR op_eq (pe_ix (r := rIxL K) ix_list (pe_fld (pv 0) rfl) (pv 2) (fun _ _ => rfl)) pe_int (nomark _)) (pss_one (ps_set (i := 4) scSearch_moves.nd rfl (Or.inl rfl) (pe_op op_cat (pv 4) (pe_lc (own := [("word", 5)]) (g := gName 5) rfl scSearch_moves.nd (pi_range1 (by rfl) T.b_range (pa_cons (pe_callB (r := rLen K) cl_len (by rfl) T.b_len (by decide +kernel) (pa_cons (pv 3) pa_nil)) pa_nil)) (blkOk_by (own := [("word", 5)]) (N := ["self", "state", "phase", "ages", "some", "word"]) (sc := defScope sSearch_moves) (by decide +kernel)) (fun _ _ _ _ _ => (pg_name (i := 5) scSearch_moves.nd rfl (Or.inl rfl))) (fun _ _ _ _ _ => (pts_one (pt_cmpR op_notNz (pe_ix (r := rIxL K) ix_list (show PE _ _ (tFld K _ "ends") from (pe_fld (pv 0) rfl)) (pv 5) (fun _ _ => rfl)) pe_non (nomark _)))) (fun _ _ _ _ _ => (pv 5)))))) pss_nil)
      (pss_one (ps_ret (pe_lc (own := [("word", 5)]) (g := gName 5) rfl scSearch_moves.nd (pi_list (pv 4)) (blkOk_by (own := [("word", 5)]) (N := ["self", "state", "phase", "ages", "some", "word"]) (sc := defScope sSearch_moves) (by decide +kernel)) (fun _ _ _ _ _ => (pg_name (i := 5) scSearch_moves.nd rfl (Or.inl rfl))) (fun _ _ _ _ _ => pts_nil) (fun _ _ _ _ _ => (pe_tup (pa_cons (pv 5) (pa_cons (pmtA C_behind (hr.mono (by decide)) (pv 0) (pa_cons (pv 2) (pa_cons (pv 3) (pa_cons (pv 5) pa_nil)))) pa_nil)))))))))), ?_⟩
    try dsimp only [cxOf, L2.Cx.nox, L2.Cx.wish]
    refine i_start (σ' := [some (.ref p), some (.ref q), none, none, none, none]) rfl ?_
    have g : Gr No G0 H0 G0 H0 := Gr.refl sb
    have e1 : (st.2.map V.int).length = en.length := by rw [List.length_map, oks.len]
    have e3 : (ld.map V.int).length = ld.length := List.length_map _
    have l4 := oke.l4
    have L1 := okl.l1
    have ol := opts_len (ld := ld) oke st
    obtain ⟨p0, p1, _⟩ := id oks
    have hq3 := sqt (K := K) g.sub hq1
    walk_at "zrd"
    refine newL g (by first | omega | (simp; done) | (simp; omega)) fun sm H1 nsm zsm s g tsm => ?_
    walk_at "zrd"
    have hld : (ld.map V.int)[st.1.toNat]? = some (.int (ld.getD st.1.toNat 1)) := map_getD (d := 1) (by omega)
    refine ⟨fun σ H' => ∃ (so : Addr), σ = [some (.ref p), some (.ref q), some (.int st.1), some (.ref r0), some (.ref so), none] ∧ Gr No G0 H0 G0 H' ∧ At G0 H' so (.lst ((opts en ld st).map vO)) ∧ H0 so = none, ?_, ?_⟩
    · walk_at "zrd"
      refine fld (g.old _ _ (fun z => z) hp) cl nL hl ?_
      walk_at "zrd"
      refine i_ixL (Z.ls (K := K) hgl g.sub) (atN (k := st.1.toNat) (by omega) hld) ?_
      walk_at "zrd"
      refine i_ite (fun hz => ?_) (fun hz => ?_)
      · have hag1 := sqt (K := K) g.sub hq2
        walk_at "zrd"
        rw [e1]
        have gA := g
        have tA := tsm
        refine lcR (by omega) (by omega) (fun D i H' => Gr No G0 H0 G0 H' ∧ At G0 H' sm (.lst [.non]) ∧ At G0 H' D (.lst ((lims en i).map vO))) ?_ ?_ ?_
        · intro D nD
          exact ⟨g.new nD, tsm.new nD, At.of g nD⟩
        · rintro D i H' nD hi ⟨g, tsm, tD⟩
          rw [Int.toNat_natCast] at hi
          have nsD : sm ≠ D := ne_of_none tA.h nD
          have hei : (en.map vO)[i]? = some (vO (en.getD i none)) := map_getD (d := none) hi
          have hll := lims_len en i
          rw [lims_succ]
          walk_at "zrd"
          refine i_lcw rfl ?_
          walk_at "zrd"
          refine fld (g.old _ _ (fun z => z) hp) cl nE he ?_
          walk_at "zrd"
          refine i_ixL (Z.ls (K := K) hge g.sub) (atN (k := i) rfl hei) ?_
          walk_at "zrd"
          refine i_lcnd (fun h => ?_) (fun h => ?_)
          · walk_at "zrd"
            refine lcp tD (by rw [List.length_map]; omega) ?_
            refine ⟨g.mut tD (.inr (gA.fresh nD)), tsm.off nsD, ?_⟩
            rw [if_pos (by
              cases hz : en.getD i none with
              | none => exact absurd hz h
              | some L => rfl), List.map_append]
            exact tD.put
          · refine ⟨g, tsm, ?_⟩
            rw [h, if_neg (by simp), List.append_nil]
            exact tD
        · rintro D H' nD ⟨g, tsm, tD⟩
          rw [Int.toNat_natCast] at tD
          have hll := lims_len en en.length
          have eo : [V.non] ++ (lims en en.length).map vO = (opts en ld st).map vO := by
            unfold opts
            rw [if_pos hz, List.map_cons]
            rfl
          walk_at "zrd"
          refine i_cat tsm.h tD.h ?_
          rw [eo]
          refine newL g (by first | omega | (simp; done) | (simp; omega)) fun so H2 nso zso s g tso => ?_
          walk_at "zrd"
          exact ⟨so, rfl, g, tso, zso⟩
      · have eo : opts en ld st = [none] := by unfold opts; rw [if_neg hz]
        walk_at "zrd"
        refine ⟨sm, rfl, g, ?_, zsm⟩
        rw [eo]
        exact tsm
    · rintro σ H1 ⟨so, rfl, g, tso, zso⟩
      have gA := g
      have tA := tso
      walk_at "zrd"
      refine lcL (.inl (.inl tso.h)) (fun D i H' => ∃ (G : Hp) (fa : List Addr), Gr No G0 H0 G H' ∧ At G H' so (.lst ((opts en ld st).map vO)) ∧ At G H' D (.lst (fa.map V.ref)) ∧ Paired (fun a m => MvAt K G a m) fa ((moves en ld st).take i)) ?_ ?_ ?_ ?_
      · intro D nD
        exact ⟨G0, [], g.new nD, tso.new nD, At.of g nD, .nil⟩
      · rintro D i H' nD ⟨G, fa, g, tso, tD, pr⟩
        exact .inl (.inl tso.h)
      · rintro D i x H' nD hx ⟨G, fa, g, tso, tD, pr⟩
        obtain ⟨o, ho, rfl⟩ := map_at hx
        have nsD : so ≠ D := ne_of_none tA.h nD
        have hi : i < (opts en ld st).length := (List.getElem?_eq_some_iff.mp ho).1
        have hfl : (fa.map V.ref).length ≤ 5 := by rw [List.length_map, Paired.len pr, List.length_take]; omega
        have hm : (moves en ld st)[i]? = some (o, step en ld st o) := by unfold moves; rw [List.getElem?_map, ho]; rfl
        walk_at "zrd"
        refine i_lcw rfl ?_
        walk_at "zrd"
        refine methq (g.old _ _ (fun z => z) hp) nb ?_
        walk_at "zrd"
        refine i_behind g ⟨dx, e, l, g.old _ _ (fun z => z) hp, he, g.gg _ _ hge, hl, g.gg _ _ hgl⟩ oke okl oks (sqt g.gg hq2) fun v G2 H2 s g hv => ?_
        have tso := tso.monoN s
        have tD := tD.monoN s
        have pr := Paired.imp (fun _ _ h => MvAt.mono s.gg h) pr
        walk_at "zrd"
        refine newT (K := K) g (by first | omega | (simp; done) | (simp; omega)) fun u G3 H3 nu zu s g tu => ?_
        have nsou := ne_of_none tso.h nu
        have nDu := ne_of_none tD.h nu
        have tso := tso.monoN s
        have tD := tD.monoN s
        walk_at "zrd"
        have pr := Paired.imp (fun _ _ h => MvAt.mono s.gg h) pr
        have hv := hv.mono s.gg
        refine lcp tD (by omega) ?_
        refine ⟨G3, fa ++ [u], g.mut tD (.inr (gA.fresh nD)), tso.off nsD, ?_, ?_⟩
        · rw [List.map_append]
          exact tD.put
        · rw [List.take_add_one, hm]
          refine Paired.snoc ?_ pr
          exact ⟨v, tu, hv⟩
      · rintro D H' nD ⟨G, fa, g, tso, tD, pr⟩
        have em : (moves en ld st).length = (opts en ld st).length := by unfold moves; rw [List.length_map]
        rw [List.length_map, ← em, List.take_length] at pr
        walk_at "zrd"
        exact k D fa _ H' (gA.fresh nD) (g.close tD (gA.fresh nD)) upd_same (Paired.imp (fun _ _ h => MvAt.mono (same_close tD) h) pr)
end
end Z
set_option Elab.async false
set_option linter.all false
set_option maxRecDepth 100000
set_option maxHeartbeats 4000000
namespace Z
open PySem PySem.Spec PyProof.Rows L2
local macro_rules | `(tactic| walk_at "zrd") => `(tactic| (repeat (first | ((with_reducible apply i_var); (· exact rfl)) | with_reducible refine i_c ?_ | with_reducible refine i_op ?_ | with_reducible refine i_I0 ?_ | with_reducible refine i_eqI ?_ | with_reducible refine i_neI ?_ | with_reducible refine i_test ?_ | with_reducible refine i_cons ?_ | with_reducible refine i_nil ?_ | with_reducible refine i_seq ?_ | with_reducible refine i_nx ?_ | with_reducible refine i_rt ?_ | with_reducible refine i_pass ?_ | with_reducible refine i_asg ?_ | with_reducible refine i_gname ?_ | with_reducible refine i_ret ?_ | with_reducible refine i_drop ?_ | with_reducible refine i_ifS ?_ | with_reducible refine i_if ?_ | with_reducible refine i_not ?_ | with_reducible refine i_and ?_ | with_reducible refine i_or ?_ | with_reducible refine i_lst ?_ | with_reducible refine i_tup ?_ | with_reducible refine i_cb ?_ | with_reducible refine i_call ?_ | with_reducible refine i_gsub ?_ | with_reducible refine i_B ?_ | with_reducible refine i_un ?_ | with_reducible refine i_U ?_ | with_reducible refine i_eqOI ?_ | with_reducible refine i_eqIO ?_ | with_reducible refine i_forL ?_ | with_reducible refine i_forT ?_ | with_reducible refine i_forR ?_ | with_reducible refine i_forR2 ?_ | with_reducible refine i_forR3 ?_ | with_reducible refine i_forE ?_ | with_reducible refine i_lcL ?_ | with_reducible refine i_lcT ?_ | with_reducible refine i_lcR ?_ | with_reducible refine i_yes ?_ | with_reducible refine i_lce ?_ | with_reducible refine i_lcf ?_ | with_reducible refine i_gcons ?_ | with_reducible refine i_gnil ?_ | with_reducible refine i_chain ?_ | with_reducible refine i_t ?_ | with_reducible refine i_f ?_ | with_reducible refine i_nt ?_ | with_reducible refine i_nf ?_ | with_reducible refine i_bm ?_ | with_reducible refine i_bm0 ?_ | with_reducible refine i_and2 ?_ | with_reducible refine i_or2 ?_ | with_reducible refine i_intI ?_ | with_reducible refine i_intB ?_ | with_reducible refine i_sl ?_ | with_reducible refine i_part ?_ | with_reducible refine i_nopart ?_ | with_reducible refine i_cut ?_ | with_reducible refine i_lrg ?_ | with_reducible refine i_make ?_ | with_reducible refine i_meth ?_ | with_reducible refine i_fld ?_ | with_reducible refine i_sfld ?_ | with_reducible refine i_dnew ?_ | with_reducible refine i_par3 ?_ | with_reducible refine i_par3e ?_ | with_reducible refine i_par2 ?_ | with_reducible refine i_par2e ?_ | with_reducible refine i_dput ?_ | with_reducible refine i_dget2 ?_ | with_reducible refine i_din ?_ | with_reducible refine i_dget ?_ | with_reducible refine i_isO ?_ | with_reducible refine i_isR ?_ | with_reducible refine i_isN ?_ | with_reducible refine i_isI ?_ | with_reducible refine i_noO ?_ | with_reducible refine i_noR ?_ | with_reducible refine i_noN ?_ | with_reducible refine i_noI ?_ | with_reducible refine i_dgetN ?_ | with_reducible refine i_dputN ?_ | with_reducible refine i_dnewN ?_ | with_reducible refine i_ckw ?_ | with_reducible refine (show ∃ k, V.bl _ = V.bl k ∧ _ from ⟨_, rfl, ?_⟩) | with_reducible refine (show ∃ k, V.int _ = V.int k ∧ _ from ⟨_, rfl, ?_⟩) | ((with_reducible apply i_ixL); (· assumption); (· exact rfl)) | ((with_reducible apply i_ixT); (· assumption); (· exact rfl)) | ((with_reducible apply i_lenL); (· assumption)) | ((with_reducible apply i_lenT); (· assumption)) | ((with_reducible apply i_I); (· (first | omega | (dsimp only; omega) | exact ⟨by omega, by omega⟩ | exact Or.inr ⟨by omega, by omega⟩ | exact Or.inl ⟨by omega, by omega⟩ | exact ⟨by decide, by decide, by decide⟩))) | ((with_reducible apply i_gtup); (· assumption); (· rfl)) | ((with_reducible apply i_p); (· omega)) | ((with_reducible apply i_n); (· omega)) | ((with_reducible apply i_np); (· omega)) | ((with_reducible apply i_nn); (· omega)) | ((with_reducible apply i_lcP); (· omega)) | ((with_reducible apply i_lcN); (· omega)) | ((with_reducible apply i_lcnP); (· omega)) | ((with_reducible apply i_lcnN); (· omega)))))
section
variable {P : Program} {w : World} {K : PySem.W.Frag} {mg : Str → Option Value} {base : Heap} {f : Addr} {fd : FuncData} {C : Addr}
abbrev sSearch_best : Stmt := inClass (topS 20) 5
theorem scSearch_best : FnScope ["self", "state", "some", "lasting", "long", "pair"] ["self", "state"] (defScope sSearch_best) := ⟨rfl, rfl, rfl, by decide +kernel, rfl, by decide +kernel, by decide +kernel⟩
theorem ok_best (T : Txt K mg) (cl : Cls K C) (nK : NoAttr K C "known") (C_moves : CalMt P w K mg base C "moves" 2 ["self", "state"] (spMoves K C)) (F : Fun K "best" "Search.best" sSearch_best f fd) : FnOk P w K mg base CX0 3 f fd ["self", "state"] (spBest P w K C) := by
  refine F.ok scSearch_best (fun vs H Q E h => ?_) (fun cdv A outer s H0 vs Q E hr h => ?_)
  · obtain ⟨G, p, q, en, ld, ST, ks, s, rfl, _⟩ := h
    rfl
  · obtain ⟨G0, p, q, en, ld, ST, ks, z, rfl, sb, ⟨dx, fs, e, l, q0, sl, kd, hp, sf⟩, hsm, hq, hb, k⟩ := h
    refine ⟨_, (pss_cons (ps_setLc (i := 2) (own := [("pair", 5)]) (g := gName 5) rfl scSearch_best.nd rfl rfl (sw_true rfl rfl rfl (by decide +kernel)) (pi_list (pmtA C_moves (hr.mono (by decide)) (pv 0) (pa_cons (pv 1) pa_nil))) (blkOk_by (own := [("pair", 5)]) (N := ["self", "state", "some", "lasting", "long", "pair"]) (sc := defScope sSearch_best) (by decide +kernel)) (fun _ _ _ _ _ => (pg_name (i := 5) scSearch_best.nd rfl (Or.inl rfl))) (fun _ _ _ _ _ => (pts_one (pt_cmpR op_notNz (pe_ix (r := rIxT K) ix_tup (pv 5) pe_int (fun _ _ => rfl)) pe_non (nomark _)))) (fun _ _ _ _ _ => (pv 5)))
      (pss_cons (ps_setLc (i := 3) (own := [("pair", 5)]) (g := gName 5) rfl scSearch_best.nd rfl rfl (sw_true rfl rfl rfl (by decide +kernel)) (pi_list (pv 2)) (blkOk_by (own := [("pair", 5)]) (N := ["self", "state", "some", "lasting", "long", "pair"]) (sc := defScope sSearch_best) (by decide +kernel)) (fun _ _ _ _ _ => (pg_name (i := 5) scSearch_best.nd rfl (Or.inl rfl))) (fun _ _ _ _ _ => (pts_one (pt_cmpR (r := rNotInN P w K) (op_notInN hr.units) (pe_ix (r := rIxT K) ix_tup (pv 5) pe_int (fun _ _ => rfl)) (show PE _ _ (tFld K _ "known") from (pe_fld (pv 0) rfl)) rfl))) (fun _ _ _ _ _ => (pv 5)))
      (pss_cons (ps_if (pt_cmpR (r := rNeD K) (op_neD hr.units) (pv 3) (pe_lst pa_nil) (nomark _)) (pss_one (ps_ret (pe_ix (r := rIxL K) ix_list (pv 3) pe_int (fun _ _ => rfl)))) pss_nil)
      (pss_cons (ps_setLc (i := 4) (own := [("pair", 5)]) (g := gName 5) rfl scSearch_best.nd rfl rfl (sw_true rfl rfl rfl (by decide +kernel)) (pi_list (pv 2)) (blkOk_by (own := [("pair", 5)]) (N := ["self", "state", "some", "lasting", "long", "pair"]) (sc := defScope sSearch_best) (by decide +kernel)) (fun _ _ _ _ _ => (pg_name (i := 5) scSearch_best.nd rfl (Or.inl rfl))) (fun _ _ _ _ _ => (pts_one (pt_cmpR op_eq (pe_op op_add pe_int (show PE _ _ (tDGetN P w K _ _) from (pe_dgetN hr.units (show PE _ _ (tFld K _ "known") from (pe_fld (pv 0) rfl)) (pe_ix (r := rIxT K) ix_tup (pv 5) pe_int (fun _ _ => rfl)) (fun _ _ => rfl)))) (show PE _ _ (tDGetN P w K _ _) from (pe_dgetN hr.units (show PE _ _ (tFld K _ "known") from (pe_fld (pv 0) rfl)) (pv 1) (fun _ _ => rfl))) (nomark _)))) (fun _ _ _ _ _ => (pv 5)))
      (pss_one (ps_ret (pe_ix (r := rIxL K) ix_list (pv 4) pe_int (fun _ _ => rfl)))))))), ?_⟩
    try dsimp only [cxOf, L2.Cx.nox, L2.Cx.wish]
    refine i_start (σ' := [some (.ref p), some (.ref q), none, none, none, none]) rfl ?_
    have g : Gr No G0 H0 G0 H0 := Gr.refl sb
    have oke := sf.oke
    have okl := sf.okl
    have ok0 := sf.ok hsm
    have kn := sf.kn
    walk_at "zrd"
    refine methq (g.sub _ _ hp) sf.nm ?_
    walk_at "zrd"
    refine i_moves g (sf.sea (g.sub _ _ hp)) oke okl sf.nb ok0 hq fun r rs G2 H5 nr s2 g hr2 prm => ?_
    have gA := g
    refine lcL (Z.ls (K := K) hr2 g.sub) (fun D i H' => ∃ (fa : List Addr), Gr No G0 H0 G2 H' ∧ At G2 H' D (.lst (fa.map V.ref)) ∧ Paired (fun a m => GdAt K G2 a m) fa (((moves en ld z).take i).filterMap goodM)) ?_ ?_ ?_ ?_
    · intro D nD
      exact ⟨[], g.new nD, At.of g nD, .nil⟩
    · rintro D i H' nD ⟨fa, g, tD, pr⟩
      exact Z.ls hr2 g.sub
    · rintro D i x H' nD hx ⟨fa, g, tD, pr⟩
      obtain ⟨a, ⟨o, t⟩, v, rfl, hm, ha, hv, him⟩ := mv_one prm hx
      have ha1 := sqt (K := K) g.sub ha
      have hfl : (fa.map V.ref).length ≤ 5 := by rw [List.length_map, Paired.len pr]; exact good_len oke i
      rw [fm_take hm]
      walk_at "zrd"
      refine i_lcw rfl ?_
      walk_at "zrd"
      match t, hv, hm with
      | none, hv, hm =>
        have e : v = .non := hv
        subst e
        walk_at "zrd"
        refine ⟨fa, g, tD, ?_⟩
        show Paired _ fa (_ ++ [])
        rw [List.append_nil]
        exact pr
      | some t, ⟨q2, e, hq2⟩, hm =>
        subst e
        walk_at "zrd"
        refine lcp tD (by omega) ?_
        refine ⟨fa ++ [a], g.mut tD (.inr (gA.fresh nD)), ?_, Paired.snoc (show GdAt K G2 a (o, t) from ⟨_, ha, q2, rfl, hq2⟩) pr⟩
        rw [List.map_append]
        exact tD.put
    · rintro D H' nD ⟨fa, g, tD, pr⟩
      have em : (rs.map V.ref).length = (moves en ld z).length := by rw [List.length_map, Paired.len prm]
      rw [em, List.take_length] at pr
      have hfl : fa.length ≤ 5 := by
        have := good_len (ld := ld) (s := z) oke (moves en ld z).length
        rw [List.take_length] at this
        rw [Paired.len pr]
        exact this
      have g2 := g.close tD (gA.fresh nD)
      have sE : Same G0 (upd G2 D (.lst (fa.map V.ref))) := g.gg.trans (same_close tD)
      have sf := sf.mono sE
      have hq := hq.mono sE
      have hp := sE _ _ hp
      have pr : Paired (fun a m => GdAt K (upd G2 D (.lst (fa.map V.ref))) a m) fa (good en ld z) := Paired.imp (fun _ _ h => MvAt.mono (same_close tD) h) pr
      have hD : upd G2 D (.lst (fa.map V.ref)) D = some (.lst (fa.map V.ref)) := upd_same
      revert g2 sf hq hp pr hD
      generalize upd G2 D (.lst (fa.map V.ref)) = G3
      clear g sE tD prm hr2 gA
      intro g sf hq hp pr hD
      have efa : (fa.map V.ref).length = (good en ld z).length := by rw [List.length_map, Paired.len pr]
      have gA := g
      walk_at "zrd"
      refine lcL (Z.ls (K := K) hD g.sub) (fun E i H' => ∃ (fb : List Addr), Gr No G0 H0 G3 H' ∧ At G3 H' E (.lst (fb.map V.ref)) ∧ Paired (fun a m => GdAt K G3 a m) fb (((good en ld z).take i).filter fun m => !(valN ks m.2).isSome)) ?_ ?_ ?_ ?_
      · intro E nE
        exact ⟨[], g.new nE, At.of g nE, .nil⟩
      · rintro E i H' nE ⟨fb, g, tE, pb⟩
        exact Z.ls hD g.sub
      · rintro E i x H' nE hx ⟨fb, g, tE, pb⟩
        obtain ⟨a, o, t, r2, rfl, ht, ha, hr3, hi2⟩ := gd_one pr hx
        have ha1 := sqt (K := K) g.sub ha
        have hfb : (fb.map V.ref).length ≤ 5 := by
          have h1 := List.length_filter_le (fun m : Option Int × S => !(valN ks m.2).isSome) ((good en ld z).take i)
          rw [List.length_take, ← Paired.len pr] at h1
          rw [List.length_map, Paired.len pb]
          omega
        rw [fil_take ht]
        walk_at "zrd"
        refine i_lcw rfl ?_
        walk_at "zrd"
        refine fld (g.sub _ _ hp) cl nK sf.fk ?_
        walk_at "zrd"
        refine notInN (g.sub _ _ sf.hk) (sf.kx.mono g.sub) (hr3.mono g.sub) ?_
        walk_at "zrd"
        refine i_lcb (fun h => ?_) (fun h => ?_)
        · rw [if_pos h]
          walk_at "zrd"
          refine lcp tE (by omega) ?_
          refine ⟨fb ++ [a], g.mut tE (.inr (gA.fresh nE)), ?_, Paired.snoc (show GdAt K G3 a (o, t) from ⟨_, ha, r2, rfl, hr3⟩) pb⟩
          rw [List.map_append]
          exact tE.put
        · rw [if_neg (by rw [h]; exact Bool.false_ne_true), List.append_nil]
          exact ⟨fb, g, tE, pb⟩
      · rintro E H' nE ⟨fb, g, tE, pb⟩
        rw [efa, List.take_length] at pb
        walk_at "zrd"
        refine newL g (by first | omega | (simp; done) | (simp; omega)) fun e2 H6 ne2 ze2 s g te2 => ?_
        have nEe2 := ne_of_none tE.h ne2
        have tE := tE.monoN s
        walk_at "zrd"
        refine i_neNil (ds := ((good en ld z).filter fun m => !(valN ks m.2).isSome).map dM) (k := 4) (.lst (.inl (.inl tE.h)) (dp_goods (Paired.imp (fun _ _ h => MvAt.mono g.sub h) pb))) (dp_nil (.inl (.inl te2.h))) (dk_Ms _) (by decide) ?_
        walk_at "zrd"
        have kl := kn.lasting hsm
        cases hfe : (good en ld z).filter fun m => !(valN ks m.2).isSome with
        | cons m ms =>
          refine i_bT rfl ?_
          have hF := FirstOf.filter kl (x := m) (by rw [hfe]; rfl)
          rw [hfe] at pb
          cases pb with
          | @cons a _ fb _ h1 h2 =>
            walk_at "zrd"
            refine i_ixL (.inl (.inl tE.h)) (atN (v := .ref a) (k := 0) rfl rfl) ?_
            walk_at "zrd"
            exact k a m.1 m.2 G3 H6 g h1 (.inl hF)
        | nil =>
          refine i_bF rfl ?_
          have hnl : ∀ m ∈ good en ld z, ¬ Lasts en ld m.2 := by
            intro m hm hl
            have : m ∈ (good en ld z).filter fun m => !(valN ks m.2).isSome := List.mem_filter.mpr ⟨hm, (kl m hm).mpr hl⟩
            rw [hfe] at this
            cases this
          obtain ⟨n, hr1, hall, hex⟩ := kn.ranked hsm oke hb hnl
          have hvz := kn.of_rank hsm hr1
          clear pb tE te2 hfe
          have gA := g
          walk_at "zrd"
          refine lcL (Z.ls (K := K) hD g.sub) (fun E i H' => ∃ (fb : List Addr), Gr No G0 H0 G3 H' ∧ At G3 H' E (.lst (fb.map V.ref)) ∧ Paired (fun a m => GdAt K G3 a m) fb (((good en ld z).take i).filter fun m => decide (valN ks m.2 = some (.int (n : Nat))))) ?_ ?_ ?_ ?_
          · intro E nE
            exact ⟨[], g.new nE, At.of g nE, .nil⟩
          · rintro E i H' nE ⟨fb, g, tE, pb⟩
            exact Z.ls hD g.sub
          · rintro E i x H' nE hx ⟨fb, g, tE, pb⟩
            obtain ⟨a, o, t, r2, rfl, ht, ha, hr3, hi2⟩ := gd_one pr hx
            have ha1 := sqt (K := K) g.sub ha
            have hfb : (fb.map V.ref).length ≤ 5 := by
              have h1 := List.length_filter_le (fun m : Option Int × S => decide (valN ks m.2 = some (.int (n : Nat)))) ((good en ld z).take i)
              rw [List.length_take, ← Paired.len pr] at h1
              rw [List.length_map, Paired.len pb]
              omega
            obtain ⟨kk, hv, _⟩ := hall _ (List.mem_of_getElem? ht)
            have hv : valN ks t = some (.int (kk : Nat)) := hv
            rw [fil_take ht]
            walk_at "zrd"
            refine i_lcw rfl ?_
            walk_at "zrd"
            refine fld (g.sub _ _ hp) cl nK sf.fk ?_
            walk_at "zrd"
            refine dgetN (g.sub _ _ sf.hk) (sf.kx.mono g.sub) (hr3.mono g.sub) hv ?_
            walk_at "zrd"
            refine fld (g.sub _ _ hp) cl nK sf.fk ?_
            walk_at "zrd"
            refine dgetN (g.sub _ _ sf.hk) (sf.kx.mono g.sub) (hq.mono g.sub) hvz ?_
            walk_at "zrd"
            refine i_lcd (fun h => ?_) (fun h => ?_)
            · have e5 : kk = n := by omega
              rw [if_pos (show decide (valN ks t = some (.int (n : Nat))) = true from by rw [hv, e5]; exact decide_eq_true rfl)]
              walk_at "zrd"
              refine lcp tE (by omega) ?_
              refine ⟨fb ++ [a], g.mut tE (.inr (gA.fresh nE)), ?_, Paired.snoc (show GdAt K G3 a (o, t) from ⟨_, ha, r2, rfl, hr3⟩) pb⟩
              rw [List.map_append]
              exact tE.put
            · rw [if_neg (show ¬ decide (valN ks t = some (.int (n : Nat))) = true from by
                rw [hv]
                intro hd
                have := of_decide_eq_true hd
                injection this with this
                injection this with this
                omega), List.append_nil]
              exact ⟨fb, g, tE, pb⟩
          · rintro E H' nE ⟨fb, g, tE, pb⟩
            rw [efa, List.take_length] at pb
            have kr : ∀ m ∈ good en ld z, decide (valN ks m.2 = some (.int (n : Nat))) = true ↔ Rank en ld m.2 n := by
              intro m hm
              obtain ⟨kk, hv, hr⟩ := hall m hm
              rw [decide_eq_true_iff, hv]
              constructor
              · intro e
                injection e with e
                injection e with e
                obtain rfl : kk = n := by omega
                exact hr
              · intro h2
                rw [hr.uniq h2]
            obtain ⟨m0, hm0, hr0⟩ := hex
            have hin : m0 ∈ (good en ld z).filter fun m => decide (valN ks m.2 = some (.int (n : Nat))) := List.mem_filter.mpr ⟨hm0, (kr m0 hm0).mpr hr0⟩
            cases hfe : (good en ld z).filter fun m => decide (valN ks m.2 = some (.int (n : Nat))) with
            | nil => rw [hfe] at hin; cases hin
            | cons m ms =>
              have hF := FirstOf.filter kr (x := m) (by rw [hfe]; rfl)
              rw [hfe] at pb
              cases pb with
              | @cons a _ fb _ h1 h2 =>
                walk_at "zrd"
                refine i_ixL (.inl (.inl tE.h)) (atN (v := .ref a) (k := 0) rfl rfl) ?_
                walk_at "zrd"
                exact k a m.1 m.2 G3 H' g h1 (.inr ⟨hnl, n, hr1, hF⟩)
end
end Z
set_option Elab.async false
set_option linter.all false
set_option maxRecDepth 100000
set_option maxHeartbeats 4000000
namespace Z
open PySem PySem.Spec PyProof.Rows L2
local macro_rules | `(tactic| walk_at "zrd") => `(tactic| (repeat (first | ((with_reducible apply i_var); (· exact rfl)) | with_reducible refine i_c ?_ | with_reducible refine i_op ?_ | with_reducible refine i_I0 ?_ | with_reducible refine i_eqI ?_ | with_reducible refine i_neI ?_ | with_reducible refine i_test ?_ | with_reducible refine i_cons ?_ | with_reducible refine i_nil ?_ | with_reducible refine i_seq ?_ | with_reducible refine i_nx ?_ | with_reducible refine i_rt ?_ | with_reducible refine i_pass ?_ | with_reducible refine i_asg ?_ | with_reducible refine i_gname ?_ | with_reducible refine i_ret ?_ | with_reducible refine i_drop ?_ | with_reducible refine i_ifS ?_ | with_reducible refine i_if ?_ | with_reducible refine i_not ?_ | with_reducible refine i_and ?_ | with_reducible refine i_or ?_ | with_reducible refine i_lst ?_ | with_reducible refine i_tup ?_ | with_reducible refine i_cb ?_ | with_reducible refine i_call ?_ | with_reducible refine i_gsub ?_ | with_reducible refine i_B ?_ | with_reducible refine i_un ?_ | with_reducible refine i_U ?_ | with_reducible refine i_eqOI ?_ | with_reducible refine i_eqIO ?_ | with_reducible refine i_forL ?_ | with_reducible refine i_forT ?_ | with_reducible refine i_forR ?_ | with_reducible refine i_forR2 ?_ | with_reducible refine i_forR3 ?_ | with_reducible refine i_forE ?_ | with_reducible refine i_lcL ?_ | with_reducible refine i_lcT ?_ | with_reducible refine i_lcR ?_ | with_reducible refine i_yes ?_ | with_reducible refine i_lce ?_ | with_reducible refine i_lcf ?_ | with_reducible refine i_gcons ?_ | with_reducible refine i_gnil ?_ | with_reducible refine i_chain ?_ | with_reducible refine i_t ?_ | with_reducible refine i_f ?_ | with_reducible refine i_nt ?_ | with_reducible refine i_nf ?_ | with_reducible refine i_bm ?_ | with_reducible refine i_bm0 ?_ | with_reducible refine i_and2 ?_ | with_reducible refine i_or2 ?_ | with_reducible refine i_intI ?_ | with_reducible refine i_intB ?_ | with_reducible refine i_sl ?_ | with_reducible refine i_part ?_ | with_reducible refine i_nopart ?_ | with_reducible refine i_cut ?_ | with_reducible refine i_lrg ?_ | with_reducible refine i_make ?_ | with_reducible refine i_meth ?_ | with_reducible refine i_fld ?_ | with_reducible refine i_sfld ?_ | with_reducible refine i_dnew ?_ | with_reducible refine i_par3 ?_ | with_reducible refine i_par3e ?_ | with_reducible refine i_par2 ?_ | with_reducible refine i_par2e ?_ | with_reducible refine i_dput ?_ | with_reducible refine i_dget2 ?_ | with_reducible refine i_din ?_ | with_reducible refine i_dget ?_ | with_reducible refine i_isO ?_ | with_reducible refine i_isR ?_ | with_reducible refine i_isN ?_ | with_reducible refine i_isI ?_ | with_reducible refine i_noO ?_ | with_reducible refine i_noR ?_ | with_reducible refine i_noN ?_ | with_reducible refine i_noI ?_ | with_reducible refine i_dgetN ?_ | with_reducible refine i_dputN ?_ | with_reducible refine i_dnewN ?_ | with_reducible refine i_ckw ?_ | with_reducible refine (show ∃ k, V.bl _ = V.bl k ∧ _ from ⟨_, rfl, ?_⟩) | with_reducible refine (show ∃ k, V.int _ = V.int k ∧ _ from ⟨_, rfl, ?_⟩) | ((with_reducible apply i_ixL); (· assumption); (· exact rfl)) | ((with_reducible apply i_ixT); (· assumption); (· exact rfl)) | ((with_reducible apply i_lenL); (· assumption)) | ((with_reducible apply i_lenT); (· assumption)) | ((with_reducible apply i_I); (· (first | omega | (dsimp only; omega) | exact ⟨by omega, by omega⟩ | exact Or.inr ⟨by omega, by omega⟩ | exact Or.inl ⟨by omega, by omega⟩ | exact ⟨by decide, by decide, by decide⟩))) | ((with_reducible apply i_gtup); (· assumption); (· rfl)) | ((with_reducible apply i_p); (· omega)) | ((with_reducible apply i_n); (· omega)) | ((with_reducible apply i_np); (· omega)) | ((with_reducible apply i_nn); (· omega)) | ((with_reducible apply i_lcP); (· omega)) | ((with_reducible apply i_lcN); (· omega)) | ((with_reducible apply i_lcnP); (· omega)) | ((with_reducible apply i_lcnN); (· omega)))))
section
variable {P : Program} {w : World} {K : PySem.W.Frag} {mg : Str → Option Value} {base : Heap} {f : Addr} {fd : FuncData} {C : Addr}
abbrev sSearch_endless : Stmt := inClass (topS 20) 6
theorem scSearch_endless : FnScope ["self", "at", "words", "state", "word", "other"] ["self"] (defScope sSearch_endless) := ⟨rfl, rfl, rfl, by decide +kernel, rfl, by decide +kernel, by decide +kernel⟩
abbrev sSearch_longest : Stmt := inClass (topS 20) 7
theorem scSearch_longest : FnScope ["self", "words", "state", "word", "other"] ["self"] (defScope sSearch_longest) := ⟨rfl, rfl, rfl, by decide +kernel, rfl, by decide +kernel, by decide +kernel⟩
abbrev sSearch_paper : Stmt := inClass (topS 20) 8
theorem scSearch_paper : FnScope ["self", "state"] ["self"] (defScope sSearch_paper) := ⟨rfl, rfl, rfl, by decide +kernel, rfl, by decide +kernel, by decide +kernel⟩
theorem ok_endless (T : Txt K mg) (cl : Cls K C) (nF : NoAttr K C "first") (nL : NoAttr K C "load") (C_best : CalMt P w K mg base C "best" 3 ["self", "state"] (spBest P w K C)) (F : Fun K "endless" "Search.endless" sSearch_endless f fd) : FnOk P w K mg base CX0 4 f fd ["self"] (spEndless P w K C) := by
  refine F.ok scSearch_endless (fun vs H Q E h => ?_) (fun cdv A outer s H0 vs Q E hr h => ?_)
  · obtain ⟨G, p, en, ld, ST, ks, rfl, _⟩ := h
    rfl
  · obtain ⟨G0, p, en, ld, ST, ks, rfl, sb, sc0, hla, k⟩ := h
    refine ⟨_, (pss_cons (ps_set (i := 1) scSearch_endless.nd rfl (Or.inl rfl) pe_dnewN)
      (pss_cons (ps_set (i := 2) scSearch_endless.nd rfl (Or.inl rfl) (pe_lst pa_nil))
      (pss_cons (ps_set (i := 3) scSearch_endless.nd rfl (Or.inl rfl) (pe_fld (pv 0) rfl))
      (pss_cons (ps_while PassesOwn.never (pt_cmpR (r := rNotInN P w K) (op_notInN hr.units) (pv 3) (pv 1) rfl) (pss_cons (ps_dputN hr.units (pv 1) (pv 3) (pe_callB (r := rLen K) cl_len (by rfl) T.b_len (by decide +kernel) (pa_cons (pv 2) pa_nil)) rfl)
      (pss_cons (ps_asg (pmtA C_best (hr.mono (by decide)) (pv 0) (pa_cons (pv 3) pa_nil)) (pg_tup rfl (pgs_cons (pg_name (i := 4) scSearch_endless.nd rfl (Or.inl rfl)) (pgs_cons (pg_name (i := 5) scSearch_endless.nd rfl (Or.inl rfl)) pgs_nil))))
      (C8.pss_cut (ps_if (pt_cmpR op_eq (pe_ix (r := rIxL K) ix_list (pe_fld (pv 0) rfl) (pe_ix (r := rIxT K) ix_tup (pv 3) pe_int (fun _ _ => rfl)) (fun _ _ => rfl)) pe_int (nomark _)) (pss_one (ps_expr (pe_bm PySem.F.plainAttrs_list PySem.F.slot_list_append PySem.F.type_list_append mt_append (pv 2) (pa_cons (pv 4) pa_nil)))) pss_nil)
      (pss_one (ps_set (i := 3) scSearch_endless.nd rfl (Or.inl rfl) (pv 5)))))))
      (pss_one (ps_ret (pe_tup (pa_cons (pe_slice (r := rSlL K) sl_list (pv 2) po_none (po_some (pe_dgetN hr.units (pv 1) (pv 3) (fun _ _ => rfl)))) (pa_cons (pe_slice (r := rSlL K) sl_list (pv 2) (po_some (pe_dgetN hr.units (pv 1) (pv 3) (fun _ _ => rfl))) po_none) pa_nil))))))))), ?_⟩
    try dsimp only [cxOf, L2.Cx.nox, L2.Cx.wish]
    refine i_start (σ' := [some (.ref p), none, none, none, none, none]) rfl ?_
    obtain ⟨dx, fs, e, l, q0, sl, kd, hp0, sf0⟩ := id sc0
    have g : Gr No G0 H0 G0 H0 := Gr.refl sb
    have oke := sf0.oke
    have okl := sf0.okl
    have kn := sf0.kn
    have few := sf0.few
    walk_at "zrd"
    refine newN g fun ad H1 nad zad s g tA => ?_
    walk_at "zrd"
    refine newL g (by first | omega | (simp; done) | (simp; omega)) fun wl H2 nwl zwl s g twl => ?_
    have nAwl := ne_of_none tA.h nwl
    have tA := tA.monoN s
    walk_at "zrd"
    walk_at "zrd"
    refine fld (g.sub _ _ hp0) cl nF sf0.ff ?_
    walk_at "zrd"
    refine whl (fun m σ H' => ∃ (v4 v5 : Option V) (G : Hp) (q : Addr) (s : S) (ats : List (S × Addr × V)) (xs : List (S × Option Int)), σ = [some (.ref p), some (.ref ad), some (.ref wl), some (.ref q), v4, v5] ∧ Gr No G0 H0 G H' ∧ At G H' ad (dN P w ad ats) ∧ At G H' wl (.lst ((wrds ld xs).map vO)) ∧ KeysAt K G ats ∧ StAt K G q s ∧ Pth en ld xs s ∧ (xs.map (·.1)).Nodup ∧ Lasts en ld s ∧ AtsOk ld xs ats ∧ m = ST.length - xs.length)
      ST.length (by exact ⟨none, none, G0, q0, firstS en, [], [], rfl, g, tA, twl, (fun x hx => by cases hx), sf0.hf, .zero, List.nodup_nil, hla, atsOk_zero, rfl⟩) ?_
    clear g tA twl s
    rintro m σ H' ⟨v4, v5, G, q, z, ats, xs, rfl, g, tA, twl, kx, hq, pth, nd, la, ao, rfl⟩
    have sc := sc0.mono g.gg
    have sf := sf0.mono g.gg
    have hp := g.gg _ _ hp0
    have hxl : xs.length ≤ ST.length := by
      have := nodup_le nd (ys := ST) fun y hy => by
        obtain ⟨x, hx, rfl⟩ := List.mem_map.mp hy
        exact kn.reach (pth.mem_reach x hx)
      rw [List.length_map] at this
      exact this
    have hsm : z ∈ ST := kn.reach pth.reach
    have hwl := wrds_len (ld := ld) (xs := xs)
    have ok0 := sf.ok hsm
    have ewl : ((wrds ld xs).map vO).length = (wrds ld xs).length := List.length_map _
    have nad : ad ≠ wl := by
      rintro rfl
      have := tA.h
      rw [twl.h] at this
      cases this
    walk_at "zrd"
    refine notInN tA.h (kx.mono g.sub) (hq.mono g.sub) ?_
    walk_at "zrd"
    cases hvt : valN ats z with
    | some v =>
      refine whlF rfl ?_
      obtain ⟨i, o, hi, rfl⟩ := ao.val z v hvt
      have hw := wrds_take_len (ld := ld) (xs := xs) (i := i)
      walk_at "zrd"
      refine dgetN tA.h (kx.mono g.sub) (hq.mono g.sub) hvt ?_
      walk_at "zrd"
      refine i_slL (.inl (.inl twl.h)) ?_
      rw [cutV_take (by omega), ← List.map_take, take_wrds]
      refine newL g (by first | omega | (simp; done) | (simp; omega)) fun a H3 na za s g ta => ?_
      have nAa := ne_of_none tA.h na
      have nwla := ne_of_none twl.h na
      have tA := tA.monoN s
      have twl := twl.monoN s
      walk_at "zrd"
      walk_at "zrd"
      refine dgetN tA.h (kx.mono g.sub) (hq.mono g.sub) hvt ?_
      walk_at "zrd"
      refine i_slL (.inl (.inl twl.h)) ?_
      rw [cutV_drop (by omega), ← List.map_drop, drop_wrds]
      have hdl : (wrds ld (xs.drop i)).length ≤ 2000 := by
        have := wrds_len (ld := ld) (xs := xs.drop i)
        rw [List.length_drop] at this
        omega
      refine newL g (by first | omega | (simp; done) | (simp; omega)) fun b H4 nb zb s g tb => ?_
      have nab := ne_of_none ta.h nb
      have ta := ta.monoN s
      walk_at "zrd"
      refine newT (K := K) g (by first | omega | (simp; done) | (simp; omega)) fun r G5 H5 nr zr s g tr => ?_
      have nar := ne_of_none ta.h nr
      have nbr := ne_of_none tb.h nr
      have ta := ta.monoN s
      have tb := tb.monoN s
      walk_at "zrd"
      exact k r a b _ _ G5 H5 za zb nab g tr ta tb ⟨⟨xs, z, i, o, pth, nd, hi, rfl, rfl⟩, hla⟩
    | none =>
      refine whlT rfl ?_
      have hns := ao.not hvt
      have hx2 : (xs.map (·.1) ++ [z]).length ≤ ST.length := nodup_le (nodup_snoc nd hns) fun y hy => by
        rcases List.mem_append.mp hy with h1 | h1
        · obtain ⟨x, hx, rfl⟩ := List.mem_map.mp h1
          exact kn.reach (pth.mem_reach x hx)
        · rw [List.mem_singleton.mp h1]; exact hsm
      rw [List.length_append, List.length_map, List.length_singleton] at hx2
      have hal : ats.length = xs.length := by have := congrArg List.length ao.ks; rw [List.length_map, List.length_map] at this; exact this
      walk_at "zrd"
      refine i_lenL (.inl (.inl twl.h)) ?_
      walk_at "zrd"
      rw [ewl]
      refine dputN tA.h (kx.mono g.sub) (hq.mono g.sub) (by omega) ?_
      rw [putN_new hvt]
      have g := g.mut (u := dN P w ad (ats ++ [(z, q, .int ((wrds ld xs).length : Nat))])) tA (.inr zad)
      have twl := twl.off (u := dN P w ad (ats ++ [(z, q, .int ((wrds ld xs).length : Nat))])) (Ne.symm nad)
      have tA := tA.put (u := dN P w ad (ats ++ [(z, q, .int ((wrds ld xs).length : Nat))]))
      revert g twl tA
      generalize upd H' ad (dN P w ad (ats ++ [(z, q, .int ((wrds ld xs).length : Nat))])) = H6
      intro g twl tA
      walk_at "zrd"
      refine methq (g.sub _ _ hp) sf.nbe ?_
      walk_at "zrd"
      refine i_best g sc hsm hq (.inl la) fun a o t r G2 H7 s2 g ha hr bm => ?_
      have tA := tA.monoN s2
      have twl := twl.monoN s2
      have kx := kx.mono s2.gg
      have hq := hq.mono s2.gg
      have hp := s2.gg _ _ hp
      have sf := sf.mono s2.gg
      have ha1 := sqt (K := K) g.sub ha
      have hld : (ld.map V.int)[z.1.toNat]? = some (.int (ld.getD z.1.toNat 1)) := map_getD (d := 1) (by have := ok0.p0; have := ok0.p1; omega)
      obtain ⟨r2, hq1, hq2⟩ := id hq
      have hq3 := sqt (K := K) g.sub hq1
      walk_at "zrd"
      refine ⟨fun σ H3 => σ = [some (.ref p), some (.ref ad), some (.ref wl), some (.ref q), some (vO o), some (.ref r)] ∧ Gr No G0 H0 G2 H3 ∧ At G2 H3 ad (dN P w ad (ats ++ [(z, q, .int ((wrds ld xs).length : Nat))])) ∧ At G2 H3 wl (.lst ((wrds ld (xs ++ [(z, o)])).map vO)), ?_, ?_⟩
      · walk_at "zrd"
        refine fld (g.sub _ _ hp) cl nL sf.fl ?_
        walk_at "zrd"
        refine i_ixL (Z.ls (K := K) sf.hl g.sub) (atN (k := z.1.toNat) (by have := ok0.p0; omega) hld) ?_
        rw [wrds_snoc]
        walk_at "zrd"
        refine i_ite (fun hzz => ?_) (fun hzz => ?_)
        · walk_at "zrd"
          refine ⟨tyL twl.h, ?_⟩
          walk_at "zrd"
          refine i_append twl.h (by rw [ewl]; omega) ?_
          walk_at "zrd"
          rw [if_pos hzz, List.map_append]
          exact ⟨rfl, g.mut twl (.inr zwl), tA.off nad, twl.put⟩
        · walk_at "zrd"
          rw [if_neg hzz, List.append_nil]
          exact ⟨rfl, g, tA, twl⟩
      · rintro σ H3 ⟨rfl, g, tA, twl⟩
        walk_at "zrd"
        refine ⟨_, ?_, _, _, G2, r, t, _, xs ++ [(z, o)], rfl, g, tA, twl, fun x hx => ?_, hr, .step pth bm, ?_, bm.lasts oke la, ao.new hvt q o, rfl⟩
        · rw [List.length_append, List.length_singleton]; omega
        · rcases List.mem_append.mp hx with h1 | h1
          · exact kx x h1
          · rw [List.mem_singleton.mp h1]; exact hq
        · rw [List.map_append]
          exact nodup_snoc nd hns
theorem ok_slongest (T : Txt K mg) (cl : Cls K C) (nF : NoAttr K C "first") (nL : NoAttr K C "load") (nK : NoAttr K C "known") (C_best : CalMt P w K mg base C "best" 3 ["self", "state"] (spBest P w K C)) (F : Fun K "longest" "Search.longest" sSearch_longest f fd) : FnOk P w K mg base CX0 4 f fd ["self"] (spLongestS P w K C) := by
  refine F.ok scSearch_longest (fun vs H Q E h => ?_) (fun cdv A outer s H0 vs Q E hr h => ?_)
  · obtain ⟨G, p, en, ld, ST, ks, n, rfl, _⟩ := h
    rfl
  · obtain ⟨G0, p, en, ld, ST, ks, N, rfl, sb, sc0, hrk, k⟩ := h
    refine ⟨_, (pss_cons (ps_set (i := 1) scSearch_longest.nd rfl (Or.inl rfl) (pe_lst pa_nil))
      (pss_cons (ps_set (i := 2) scSearch_longest.nd rfl (Or.inl rfl) (pe_fld (pv 0) rfl))
      (pss_cons (ps_while PassesOwn.never (pt_cmpR op_gt (pe_dgetN hr.units (pe_fld (pv 0) rfl) (pv 2) (fun _ _ => rfl)) pe_int (nomark _)) (pss_cons (ps_asg (pmtA C_best (hr.mono (by decide)) (pv 0) (pa_cons (pv 2) pa_nil)) (pg_tup rfl (pgs_cons (pg_name (i := 3) scSearch_longest.nd rfl (Or.inl rfl)) (pgs_cons (pg_name (i := 4) scSearch_longest.nd rfl (Or.inl rfl)) pgs_nil))))
      (C8.pss_cut (ps_if (pt_cmpR op_eq (pe_ix (r := rIxL K) ix_list (pe_fld (pv 0) rfl) (pe_ix (r := rIxT K) ix_tup (pv 2) pe_int (fun _ _ => rfl)) (fun _ _ => rfl)) pe_int (nomark _)) (pss_one (ps_expr (pe_bm PySem.F.plainAttrs_list PySem.F.slot_list_append PySem.F.type_list_append mt_append (pv 1) (pa_cons (pv 3) pa_nil)))) pss_nil)
      (pss_one (ps_set (i := 2) scSearch_longest.nd rfl (Or.inl rfl) (pv 4))))))
      (pss_one (ps_ret (pv 1)))))), ?_⟩
    try dsimp only [cxOf, L2.Cx.nox, L2.Cx.wish]
    refine i_start (σ' := [some (.ref p), none, none, none, none]) rfl ?_
    obtain ⟨dx, fs, e, l, q0, sl, kd, hp0, sf0⟩ := id sc0
    have g : Gr No G0 H0 G0 H0 := Gr.refl sb
    have oke := sf0.oke
    have okl := sf0.okl
    have kn := sf0.kn
    have few := sf0.few
    have hN : N ≤ 2000 := by
      have h1 := kn.of_rank kn.sto.fi hrk
      have := rank_few kn hrk kn.sto.fi
      omega
    walk_at "zrd"
    refine newL g (by first | omega | (simp; done) | (simp; omega)) fun wl H2 nwl zwl s g twl => ?_
    walk_at "zrd"
    walk_at "zrd"
    refine fld (g.sub _ _ hp0) cl nF sf0.ff ?_
    walk_at "zrd"
    refine whl (fun m σ H' => ∃ (v4 v5 : Option V) (G : Hp) (q : Addr) (z : S) (xs : List (S × Option Int)), σ = [some (.ref p), some (.ref wl), some (.ref q), v4, v5] ∧ Gr No G0 H0 G H' ∧ At G H' wl (.lst ((wrds ld xs).map vO)) ∧ StAt K G q z ∧ Pth en ld xs z ∧ Rank en ld z m ∧ xs.length + m = N)
      N (by exact ⟨none, none, G0, q0, firstS en, [], rfl, g, twl, sf0.hf, .zero, hrk, Nat.zero_add _⟩) ?_
    clear g twl s
    rintro m σ H' ⟨v4, v5, G, q, z, xs, rfl, g, twl, hq, pth, rk, hm⟩
    have sc := sc0.mono g.gg
    have sf := sf0.mono g.gg
    have hp := g.gg _ _ hp0
    have hsm : z ∈ ST := kn.reach pth.reach
    have hwl := wrds_len (ld := ld) (xs := xs)
    have ok0 := sf.ok hsm
    have ewl : ((wrds ld xs).map vO).length = (wrds ld xs).length := List.length_map _
    have hv := kn.of_rank hsm rk
    walk_at "zrd"
    refine fld (g.sub _ _ hp) cl nK sf.fk ?_
    walk_at "zrd"
    refine dgetN (g.sub _ _ sf.hk) (sf.kx.mono g.sub) (hq.mono g.sub) hv ?_
    walk_at "zrd"
    cases m with
    | zero =>
      refine whlF (by rfl) ?_
      walk_at "zrd"
      exact k wl _ G H' zwl g twl ⟨⟨xs, z, pth, by omega, rfl⟩, hrk⟩
    | succ m =>
      refine whlT (decide_eq_true (by omega)) ?_
      walk_at "zrd"
      refine methq (g.sub _ _ hp) sf.nbe ?_
      walk_at "zrd"
      refine i_best g sc hsm hq (.inr ⟨m, rk⟩) fun a o t r G2 H7 s2 g ha hr bm => ?_
      have twl := twl.monoN s2
      have hq := hq.mono s2.gg
      have hp := s2.gg _ _ hp
      have sf := sf.mono s2.gg
      have ha1 := sqt (K := K) g.sub ha
      have hld : (ld.map V.int)[z.1.toNat]? = some (.int (ld.getD z.1.toNat 1)) := map_getD (d := 1) (by have := ok0.p0; have := ok0.p1; omega)
      obtain ⟨r2, hq1, hq2⟩ := id hq
      have hq3 := sqt (K := K) g.sub hq1
      walk_at "zrd"
      refine ⟨fun σ H3 => σ = [some (.ref p), some (.ref wl), some (.ref q), some (vO o), some (.ref r)] ∧ Gr No G0 H0 G2 H3 ∧ At G2 H3 wl (.lst ((wrds ld (xs ++ [(z, o)])).map vO)), ?_, ?_⟩
      · walk_at "zrd"
        refine fld (g.sub _ _ hp) cl nL sf.fl ?_
        walk_at "zrd"
        refine i_ixL (Z.ls (K := K) sf.hl g.sub) (atN (k := z.1.toNat) (by have := ok0.p0; omega) hld) ?_
        rw [wrds_snoc]
        walk_at "zrd"
        refine i_ite (fun hzz => ?_) (fun hzz => ?_)
        · walk_at "zrd"
          refine ⟨tyL twl.h, ?_⟩
          walk_at "zrd"
          refine i_append twl.h (by rw [ewl]; omega) ?_
          walk_at "zrd"
          rw [if_pos hzz, List.map_append]
          exact ⟨rfl, g.mut twl (.inr zwl), twl.put⟩
        · walk_at "zrd"
          rw [if_neg hzz, List.append_nil]
          exact ⟨rfl, g, twl⟩
      · rintro σ H3 ⟨rfl, g, twl⟩
        walk_at "zrd"
        refine ⟨m, by omega, _, _, G2, r, t, xs ++ [(z, o)], rfl, g, twl, hr, .step pth bm, bm.rank rk, ?_⟩
        rw [List.length_append, List.length_singleton]; omega
theorem ok_paper (T : Txt K mg) (cl : Cls K C) (nS : NoAttr K C "states") (nK : NoAttr K C "known") (F : Fun K "paper" "Search.paper" sSearch_paper f fd) : FnOk P w K mg base CX0 1 f fd ["self"] (spPaper P w K C) := by
  refine F.ok scSearch_paper (fun vs H Q E h => ?_) (fun cdv A outer s H0 vs Q E hr h => ?_)
  · obtain ⟨G, p, en, ld, ST, ks, n, rfl, _⟩ := h
    rfl
  · obtain ⟨G0, p, en, ld, ST, ks, N, rfl, sb, sc0, hrk, k⟩ := h
    refine ⟨_, (pss_one (ps_ret (pe_lc (own := [("state", 1)]) (g := gName 1) rfl scSearch_paper.nd (pi_list (show PE _ _ (tFld K _ "states") from (pe_fld (pv 0) rfl))) (blkOk_by (own := [("state", 1)]) (N := ["self", "state"]) (sc := defScope sSearch_paper) (by decide +kernel)) (fun _ _ _ _ _ => (pg_name (i := 1) scSearch_paper.nd rfl (Or.inl rfl))) (fun _ _ _ _ _ => pts_nil) (fun _ _ _ _ _ => (pe_op (r := rCatT K) op_catT (pv 1) (pe_tup (pa_cons (show PE _ _ (tDGetN P w K _ _) from (pe_dgetN hr.units (show PE _ _ (tFld K _ "known") from (pe_fld (pv 0) rfl)) (pv 1) (fun _ _ => rfl))) pa_nil))))))), ?_⟩
    try dsimp only [cxOf, L2.Cx.nox, L2.Cx.wish]
    refine i_start (σ' := [some (.ref p), none]) rfl ?_
    obtain ⟨dx, fs, e, l, q0, sl, kd, hp0, sf0⟩ := id sc0
    have g : Gr No G0 H0 G0 H0 := Gr.refl sb
    have kn := sf0.kn
    have few := sf0.few
    obtain ⟨sq, hsq, prq⟩ := id sf0.hs
    have esq : (sq.map V.ref).length = ST.length := by rw [List.length_map, Paired.len prq]
    have gA := g
    walk_at "zrd"
    refine fld (g.sub _ _ hp0) cl nS sf0.fs' ?_
    refine lcL (Z.ls (K := K) hsq g.sub) (fun D i H' => ∃ (G : Hp) (fa : List Addr) (pp : List (S × Nat)), Gr No G0 H0 G H' ∧ At G H' D (.lst (fa.map V.ref)) ∧ Paired (fun a x => RowP K G a x) fa pp ∧ pp.map (·.1) = ST.take i ∧ ∀ x ∈ pp, Rank en ld x.1 x.2) ?_ ?_ ?_ ?_
    · intro D nD
      exact ⟨G0, [], [], g.new nD, At.of g nD, .nil, rfl, fun x hx => by cases hx⟩
    · rintro D i H' nD ⟨G, fa, pp, g, tD, pr, hk, hr⟩
      exact Z.ls (g.gg _ _ hsq) g.sub
    · rintro D i x H' nD hx ⟨G, fa, pp, g, tD, pr, hk, hrr⟩
      obtain ⟨q, z, rfl, hs, hq, hi⟩ := sts_one (Paired.imp (fun _ _ h => StAt.mono g.gg h) prq) hx
      have hsm : z ∈ ST := List.mem_of_getElem? hs
      obtain ⟨n, hv, hr⟩ := kn.val_all hrk hsm
      have sf := sf0.mono g.gg
      have hfa : (fa.map V.ref).length ≤ 2000 := by
        have := congrArg List.length hk
        rw [List.length_map, List.length_take] at this
        rw [List.length_map, Paired.len pr]
        omega
      obtain ⟨r2, hq1, hq2⟩ := id hq
      have hq3 := sqt (K := K) g.sub hq1
      walk_at "zrd"
      refine i_lcw rfl ?_
      walk_at "zrd"
      refine fld (g.sub _ _ (g.gg _ _ hp0)) cl nK sf.fk ?_
      walk_at "zrd"
      refine dgetN (g.sub _ _ sf.hk) (sf.kx.mono g.sub) (hq.mono g.sub) hv ?_
      walk_at "zrd"
      refine newT (K := K) g (by first | omega | (simp; done) | (simp; omega)) fun u G1 H1 nu zu s g tu => ?_
      have nDu := ne_of_none tD.h nu
      have tD := tD.monoN s
      walk_at "zrd"
      have e1 := s.gg
      have hq4 := sqt (K := K) (e1.trans g.sub) hq1
      refine i_catT hq4 (sqt g.sub tu) (by simp) (by simp) ?_
      refine newT (K := K) g (by first | omega | (simp; done) | (simp; omega)) fun u2 G2 H2 nu2 zu2 s g tu2 => ?_
      have nDu2 := ne_of_none tD.h nu2
      have tD := tD.monoN s
      walk_at "zrd"
      have e2 := e1.trans s.gg
      refine lcp tD (by omega) ?_
      refine ⟨G2, fa ++ [u2], pp ++ [(z, n)], g.mut tD (.inr (gA.fresh nD)), ?_, Paired.snoc ⟨r2, tu2, sqt e2 hq2⟩ (Paired.imp (fun _ _ h => RowP.mono e2 h) pr), ?_, fun x hx => ?_⟩
      · rw [List.map_append]
        exact tD.put
      · rw [List.map_append, hk, List.take_add_one, hs]
        rfl
      · rcases List.mem_append.mp hx with h1 | h1
        · exact hrr x h1
        · rw [List.mem_singleton.mp h1]; exact hr
    · rintro D H' nD ⟨G, fa, pp, g, tD, pr, hk, hr⟩
      rw [esq, List.take_length] at hk
      walk_at "zrd"
      exact k D fa pp G H' nD g tD pr ⟨hk, hr⟩
end
end Z
set_option Elab.async false
set_option linter.all false
set_option maxRecDepth 100000
set_option maxHeartbeats 4000000
namespace Z
open PySem PySem.Spec PyProof.Rows L2
local macro_rules | `(tactic| walk_at "zrd") => `(tactic| (repeat (first | ((with_reducible apply i_var); (· exact rfl)) | with_reducible refine i_c ?_ | with_reducible refine i_op ?_ | with_reducible refine i_I0 ?_ | with_reducible refine i_eqI ?_ | with_reducible refine i_neI ?_ | with_reducible refine i_test ?_ | with_reducible refine i_cons ?_ | with_reducible refine i_nil ?_ | with_reducible refine i_seq ?_ | with_reducible refine i_nx ?_ | with_reducible refine i_rt ?_ | with_reducible refine i_pass ?_ | with_reducible refine i_asg ?_ | with_reducible refine i_gname ?_ | with_reducible refine i_ret ?_ | with_reducible refine i_drop ?_ | with_reducible refine i_ifS ?_ | with_reducible refine i_if ?_ | with_reducible refine i_not ?_ | with_reducible refine i_and ?_ | with_reducible refine i_or ?_ | with_reducible refine i_lst ?_ | with_reducible refine i_tup ?_ | with_reducible refine i_cb ?_ | with_reducible refine i_call ?_ | with_reducible refine i_gsub ?_ | with_reducible refine i_B ?_ | with_reducible refine i_un ?_ | with_reducible refine i_U ?_ | with_reducible refine i_eqOI ?_ | with_reducible refine i_eqIO ?_ | with_reducible refine i_forL ?_ | with_reducible refine i_forT ?_ | with_reducible refine i_forR ?_ | with_reducible refine i_forR2 ?_ | with_reducible refine i_forR3 ?_ | with_reducible refine i_forE ?_ | with_reducible refine i_lcL ?_ | with_reducible refine i_lcT ?_ | with_reducible refine i_lcR ?_ | with_reducible refine i_yes ?_ | with_reducible refine i_lce ?_ | with_reducible refine i_lcf ?_ | with_reducible refine i_gcons ?_ | with_reducible refine i_gnil ?_ | with_reducible refine i_chain ?_ | with_reducible refine i_t ?_ | with_reducible refine i_f ?_ | with_reducible refine i_nt ?_ | with_reducible refine i_nf ?_ | with_reducible refine i_bm ?_ | with_reducible refine i_bm0 ?_ | with_reducible refine i_and2 ?_ | with_reducible refine i_or2 ?_ | with_reducible refine i_intI ?_ | with_reducible refine i_intB ?_ | with_reducible refine i_sl ?_ | with_reducible refine i_part ?_ | with_reducible refine i_nopart ?_ | with_reducible refine i_cut ?_ | with_reducible refine i_lrg ?_ | with_reducible refine i_make ?_ | with_reducible refine i_meth ?_ | with_reducible refine i_fld ?_ | with_reducible refine i_sfld ?_ | with_reducible refine i_dnew ?_ | with_reducible refine i_par3 ?_ | with_reducible refine i_par3e ?_ | with_reducible refine i_par2 ?_ | with_reducible refine i_par2e ?_ | with_reducible refine i_dput ?_ | with_reducible refine i_dget2 ?_ | with_reducible refine i_din ?_ | with_reducible refine i_dget ?_ | with_reducible refine i_isO ?_ | with_reducible refine i_isR ?_ | with_reducible refine i_isN ?_ | with_reducible refine i_isI ?_ | with_reducible refine i_noO ?_ | with_reducible refine i_noR ?_ | with_reducible refine i_noN ?_ | with_reducible refine i_noI ?_ | with_reducible refine i_dgetN ?_ | with_reducible refine i_dputN ?_ | with_reducible refine i_dnewN ?_ | with_reducible refine i_ckw ?_ | with_reducible refine (show ∃ k, V.bl _ = V.bl k ∧ _ from ⟨_, rfl, ?_⟩) | with_reducible refine (show ∃ k, V.int _ = V.int k ∧ _ from ⟨_, rfl, ?_⟩) | ((with_reducible apply i_ixL); (· assumption); (· exact rfl)) | ((with_reducible apply i_ixT); (· assumption); (· exact rfl)) | ((with_reducible apply i_lenL); (· assumption)) | ((with_reducible apply i_lenT); (· assumption)) | ((with_reducible apply i_I); (· (first | omega | (dsimp only; omega) | exact ⟨by omega, by omega⟩ | exact Or.inr ⟨by omega, by omega⟩ | exact Or.inl ⟨by omega, by omega⟩ | exact ⟨by decide, by decide, by decide⟩))) | ((with_reducible apply i_gtup); (· assumption); (· rfl)) | ((with_reducible apply i_p); (· omega)) | ((with_reducible apply i_n); (· omega)) | ((with_reducible apply i_np); (· omega)) | ((with_reducible apply i_nn); (· omega)) | ((with_reducible apply i_lcP); (· omega)) | ((with_reducible apply i_lcN); (· omega)) | ((with_reducible apply i_lcnP); (· omega)) | ((with_reducible apply i_lcnN); (· omega)))))
section
variable {P : Program} {w : World} {K : PySem.W.Frag} {mg : Str → Option Value} {base : Heap} {f : Addr} {fd : FuncData} {C : Addr}
abbrev sSearch_rank : Stmt := inClass (topS 20) 4
theorem scSearch_rank : FnScope ["self", "more", "state", "some", "word", "other"] ["self"] (defScope sSearch_rank) := ⟨rfl, rfl, rfl, by decide +kernel, rfl, by decide +kernel, by decide +kernel⟩
theorem ok_rank (T : Txt K mg) (cl : Cls K C) (nS : NoAttr K C "states") (nK : NoAttr K C "known") (C_moves : CalMt P w K mg base C "moves" 2 ["self", "state"] (spMoves K C)) (F : Fun K "rank" "Search.rank" sSearch_rank f fd) : FnOk P w K mg base CX0 3 f fd ["self"] (spRank P w K C) := by
  refine F.ok scSearch_rank (fun vs H Q E h => ?_) (fun cdv A outer s H0 vs Q E hr h => ?_)
  · obtain ⟨G, p, sl, kd, en, ld, fs, ST, rfl, _⟩ := h
    rfl
  · obtain ⟨G0, p, sl, kd, en, ld, fs, ST, rfl, sb, sea0, oke, okl, hmany, nb, nm, hsl, hST, sto, hkd, tk, k⟩ := h
    refine ⟨_, (pss_cons (ps_set (i := 1) scSearch_rank.nd rfl (Or.inl rfl) pe_bl)
      (pss_one (ps_while PassesOwn.never (pt_val (pv 1)) (pss_cons (ps_set (i := 1) scSearch_rank.nd rfl (Or.inl rfl) pe_bl)
      (pss_one (ps_for PassesOwn.never rfl (pi_list (pe_fld (pv 0) rfl)) (pg_name (i := 2) scSearch_rank.nd rfl (Or.inl rfl)) (pss_one (ps_if (pt_cmpR (r := rNotInN P w K) (op_notInN hr.units) (pv 2) (pe_fld (pv 0) rfl) rfl) (pss_cons (ps_setLc (i := 3) (own := [("word", 4), ("other", 5)]) (g := gTup K 2 (gCons (gName 4) (gCons (gName 5) gNil))) rfl scSearch_rank.nd rfl rfl (sw_true rfl rfl rfl (by decide +kernel)) (pi_list (pmtA C_moves (hr.mono (by decide)) (pv 0) (pa_cons (pv 2) pa_nil))) (blkOk_by (own := [("word", 4), ("other", 5)]) (N := ["self", "more", "state", "some", "word", "other"]) (sc := defScope sSearch_rank) (by decide +kernel)) (fun _ _ _ _ _ => (pg_tup rfl (pgs_cons (pg_name (i := 4) scSearch_rank.nd rfl (Or.inl rfl)) (pgs_cons (pg_name (i := 5) scSearch_rank.nd rfl (Or.inl rfl)) pgs_nil)))) (fun _ _ _ _ _ => (pts_one (pt_cmpR op_notNz (pv 5) pe_non (nomark _)))) (fun _ _ _ _ _ => (pv 5)))
      (pss_one (ps_if (pt_cmpR (r := rEqD K) (op_eqD hr.units) (pe_lc (own := [("other", 5)]) (g := gName 5) rfl scSearch_rank.nd (pi_list (pv 3)) (blkOk_by (own := [("other", 5)]) (N := ["self", "more", "state", "some", "word", "other"]) (sc := defScope sSearch_rank) (by decide +kernel)) (fun _ _ _ _ _ => (pg_name (i := 5) scSearch_rank.nd rfl (Or.inl rfl))) (fun _ _ _ _ _ => (pts_one (pt_cmpR (r := rNotInN P w K) (op_notInN hr.units) (pv 5) (show PE _ _ (tFld K _ "known") from (pe_fld (pv 0) rfl)) rfl))) (fun _ _ _ _ _ => (pv 5))) (pe_lst pa_nil) (nomark _)) (pss_cons (ps_dputN hr.units (pe_fld (pv 0) rfl) (pv 2) (pe_callBK (cr_maxDef hr.units rfl) (by rfl) T.b_max (by decide +kernel) (pa_cons (pe_lc (own := [("other", 5)]) (g := gName 5) rfl scSearch_rank.nd (pi_list (pv 3)) (blkOk_by (own := [("other", 5)]) (N := ["self", "more", "state", "some", "word", "other"]) (sc := defScope sSearch_rank) (by decide +kernel)) (fun _ _ _ _ _ => (pg_name (i := 5) scSearch_rank.nd rfl (Or.inl rfl))) (fun _ _ _ _ _ => pts_nil) (fun _ _ _ _ _ => (pe_op op_add pe_int (show PE _ _ (tDGetN P w K _ _) from (pe_dgetN hr.units (show PE _ _ (tFld K _ "known") from (pe_fld (pv 0) rfl)) (pv 5) (fun _ _ => rfl)))))) pa_nil) (pk_cons pe_int pk_nil)) rfl)
      (pss_one (ps_set (i := 1) scSearch_rank.nd rfl (Or.inl rfl) pe_bl))) pss_nil))) pss_nil)))))))), ?_⟩
    try dsimp only [cxOf, L2.Cx.nox, L2.Cx.wish]
    refine i_start (σ' := [some (.ref p), none, none, none, none, none]) rfl ?_
    have g : Gr (· = kd) G0 H0 G0 H0 := Gr.refl sb
    have L1 := okl.l1
    obtain ⟨dx, e, l, hp, _⟩ := id sea0
    have npk : ¬ p = kd := by
      rintro rfl
      have := tk.h
      rw [hp] at this
      cases this
    have hSTl : ST.length ≤ 2000 := Nat.le_trans (states_le sto.nd fun s hs => (sto.re s hs).ok L1 oke) hmany
    obtain ⟨sq, hsq, prq⟩ := id hST
    have esq : (sq.map V.ref).length = ST.length := by rw [List.length_map, Paired.len prq]
    walk_at "zrd"
    refine whl (fun m σ H' => ∃ (b : Bool) (v2 v3 v4 v5 : Option V) (G : Hp) (ks : List (S × Addr × V)), σ = [some (.ref p), some (.bl b), v2, v3, v4, v5] ∧ Gr (· = kd) G0 H0 G H' ∧ At G H' kd (dN P w kd ks) ∧ KeysAt K G ks ∧ Rk en ld ST ks ∧ (b = false → Stuck en ld ST ks) ∧ m = 2 * (ST.length - ks.length) + (if b = true then 1 else 0))
      (2 * ST.length + 1) (by exact ⟨true, none, none, none, none, G0, [], rfl, g, tk, (fun x hx => by cases hx), rk_zero en ld ST, (fun e => by cases e), rfl⟩) ?_
    rintro m σ H' ⟨b, v2, v3, v4, v5, G, ks, rfl, g, tk, kx, rk, stk, rfl⟩
    walk_at "zrd"
    cases b with
    | false =>
      refine whlF rfl ?_
      walk_at "zrd"
      exact k ks G H' g tk kx rk (stk rfl)
    | true =>
      refine whlT rfl ?_
      walk_at "zrd"
      refine fld (g.old _ _ npk hp) cl nS hsl ?_
      have hkl := rk.len
      refine forL (Z.ls (K := K) (g.gg _ _ hsq) g.sub) (fun i σ H' => ∃ (b : Bool) (v2 v3 v4 v5 : Option V) (G : Hp) (ks' : List (S × Addr × V)), σ = [some (.ref p), some (.bl b), v2, v3, v4, v5] ∧ Gr (· = kd) G0 H0 G H' ∧ At G H' kd (dN P w kd ks') ∧ KeysAt K G ks' ∧ Rk en ld ST ks' ∧ ks.length ≤ ks'.length ∧ (b = true → ks.length < ks'.length) ∧ (b = false → StuckI en ld ST ks' i))
        (by exact ⟨false, v2, v3, v4, v5, G, ks, rfl, g, tk, kx, rk, Nat.le_refl _, (fun e => by cases e), (fun _ s hs => by rw [List.take_zero] at hs; cases hs)⟩) ?_ ?_ ?_
      · rintro i σ H' hi ⟨b, v2, v3, v4, v5, G, ks', rfl, g, tk, kx, rk, hl1, hl2, hst⟩
        exact Z.ls (K := K) (g.gg _ _ hsq) g.sub
      · clear g tk kx rk stk v2 v3 v4 v5
        rintro i x σ H' hx ⟨b, v2, v3, v4, v5, G, ks', rfl, g, tk, kx, rk, hl1, hl2, hst⟩
        obtain ⟨q, z, rfl, hs, hq, hi⟩ := sts_one (Paired.imp (fun _ _ h => StAt.mono g.gg h) prq) hx
        have hsm : z ∈ ST := List.mem_of_getElem? hs
        have ok0 := (sto.re z hsm).ok L1 oke
        have sea := sea0.mono g npk
        walk_at "zrd"
        refine fld (g.old _ _ npk hp) cl nK hkd ?_
        walk_at "zrd"
        refine notInN tk.h (kx.mono g.sub) (hq.mono g.sub) ?_
        walk_at "zrd"
        cases hvt : valN ks' z with
        | some u =>
          refine i_bF rfl ?_
          walk_at "zrd"
          exact ⟨b, _, _, _, _, G, ks', rfl, g, tk, kx, rk, hl1, hl2, fun e => (hst e).next hs fun n => by rw [hvt] at n; cases n⟩
        | none =>
          refine i_bT rfl ?_
          walk_at "zrd"
          refine methq (g.old _ _ npk hp) nm ?_
          walk_at "zrd"
          refine i_moves g sea oke okl nb ok0 hq fun r rs G2 H5 nr s2 g hr2 prm => ?_
          have tk := tk.monoN s2
          have kx := kx.mono s2.gg
          have hq := hq.mono s2.gg
          have gA := g
          have tkA := tk
          refine lcL (Z.ls (K := K) hr2 g.sub) (fun D i H' => ∃ (fa : List Addr), Gr (· = kd) G0 H0 G2 H' ∧ At G2 H' kd (dN P w kd ks') ∧ At G2 H' D (.lst (fa.map V.ref)) ∧ Paired (fun q z => StAt K G2 q z) fa (((moves en ld z).take i).filterMap (·.2))) ?_ ?_ ?_ ?_
          · intro D nD
            exact ⟨[], g.new nD, tk.new nD, At.of g nD, .nil⟩
          · rintro D i H' nD ⟨fa, g, tk, tD, pr⟩
            exact Z.ls hr2 g.sub
          · rintro D i x H' nD hx ⟨fa, g, tk, tD, pr⟩
            obtain ⟨a, ⟨o, t⟩, v, rfl, hm, ha, hv, him⟩ := mv_one prm hx
            have nkD : kd ≠ D := ne_of_none tkA.h nD
            have ha1 := sqt (K := K) g.sub ha
            have hfl : (fa.map V.ref).length ≤ 5 := by rw [List.length_map, Paired.len pr]; exact succs_len oke i
            rw [fm_take hm]
            walk_at "zrd"
            refine i_lcw rfl ?_
            walk_at "zrd"
            match t, hv, hm with
            | none, hv, hm =>
              have e : v = .non := hv
              subst e
              walk_at "zrd"
              refine ⟨fa, g, tk, tD, ?_⟩
              show Paired _ fa (_ ++ [])
              rw [List.append_nil]
              exact pr
            | some t, ⟨q2, e, hq2⟩, hm =>
              subst e
              walk_at "zrd"
              refine lcp tD (by omega) ?_
              refine ⟨fa ++ [q2], g.mut tD (.inr (gA.fresh nD)), tk.off nkD, ?_, Paired.snoc hq2 pr⟩
              rw [List.map_append]
              exact tD.put
          · rintro D H' nD ⟨fa, g, tk, tD, pr⟩
            have em : (rs.map V.ref).length = (moves en ld z).length := by rw [List.length_map, Paired.len prm]
            rw [em, List.take_length] at pr
            have nkD : kd ≠ D := ne_of_none tkA.h nD
            have hfl : fa.length ≤ 5 := by
              have := succs_len (ld := ld) (s := z) oke (moves en ld z).length
              rw [List.take_length] at this
              rw [Paired.len pr]
              exact this
            have g2 := g.close tD (gA.fresh nD)
            have tk := tk.close (u := .lst (fa.map V.ref)) nkD
            have sE := same_close tD
            have kx := kx.mono sE
            have hq := hq.mono sE
            have pr : Paired (fun q z => StAt K (upd G2 D (.lst (fa.map V.ref))) q z) fa (succs en ld z) := Paired.imp (fun _ _ h => StAt.mono sE h) pr
            have hD : upd G2 D (.lst (fa.map V.ref)) D = some (.lst (fa.map V.ref)) := upd_same
            revert g2 tk kx hq pr hD
            generalize upd G2 D (.lst (fa.map V.ref)) = G3
            clear g sE tD prm hr2 gA tkA
            intro g tk kx hq pr hD
            have gA := g
            have tkA := tk
            walk_at "zrd"
            refine lcL (Z.ls (K := K) hD g.sub) (fun E i H' => ∃ (fb : List Addr), Gr (· = kd) G0 H0 G3 H' ∧ At G3 H' kd (dN P w kd ks') ∧ At G3 H' E (.lst (fb.map V.ref)) ∧ Paired (fun q z => StAt K G3 q z) fb (((succs en ld z).take i).filter fun t => !(valN ks' t).isSome)) ?_ ?_ ?_ ?_
            · intro E nE
              exact ⟨[], g.new nE, tk.new nE, At.of g nE, .nil⟩
            · rintro E i H' nE ⟨fb, g, tk, tE, pb⟩
              exact Z.ls hD g.sub
            · rintro E i x H' nE hx ⟨fb, g, tk, tE, pb⟩
              obtain ⟨q2, t, rfl, ht, hq2, hi2⟩ := sts_one pr hx
              have nkE : kd ≠ E := ne_of_none tkA.h nE
              have hfb : (fb.map V.ref).length ≤ 5 := by
                have h1 := List.length_filter_le (fun t => !(valN ks' t).isSome) ((succs en ld z).take i)
                rw [List.length_take, ← Paired.len pr] at h1
                rw [List.length_map, Paired.len pb]
                omega
              rw [fil_take ht]
              walk_at "zrd"
              refine i_lcw rfl ?_
              walk_at "zrd"
              refine fld (g.old _ _ npk hp) cl nK hkd ?_
              walk_at "zrd"
              refine notInN tk.h (kx.mono g.sub) (hq2.mono g.sub) ?_
              walk_at "zrd"
              refine i_lcb (fun h => ?_) (fun h => ?_)
              · rw [if_pos h]
                walk_at "zrd"
                refine lcp tE (by omega) ?_
                refine ⟨fb ++ [q2], g.mut tE (.inr (gA.fresh nE)), tk.off nkE, ?_, Paired.snoc hq2 pb⟩
                rw [List.map_append]
                exact tE.put
              · rw [if_neg (by rw [h]; exact Bool.false_ne_true), List.append_nil]
                exact ⟨fb, g, tk, tE, pb⟩
            · rintro E H' nE ⟨fb, g, tk, tE, pb⟩
              have em : (fa.map V.ref).length = (succs en ld z).length := by rw [List.length_map, Paired.len pr]
              rw [em, List.take_length] at pb
              walk_at "zrd"
              refine newL g (by first | omega | (simp; done) | (simp; omega)) fun e2 H6 ne2 ze2 s g te2 => ?_
              have nke2 := ne_of_none tk.h ne2
              have nEe2 := ne_of_none tE.h ne2
              have tk := tk.monoN s
              have tE := tE.monoN s
              walk_at "zrd"
              refine i_eqNil (ds := ((succs en ld z).filter fun t => !(valN ks' t).isSome).map dS) (k := 3) (.lst (.inl (.inl tE.h)) (dp_states (Paired.imp (fun _ _ h => h.mono g.sub) pb))) (dp_nil (.inl (.inl te2.h))) (dk_Ss _) (by decide) ?_
              walk_at "zrd"
              cases hfe : (succs en ld z).filter fun t => !(valN ks' t).isSome with
              | cons t ts =>
                refine i_bF rfl ?_
                walk_at "zrd"
                refine ⟨b, _, _, _, _, G3, ks', rfl, g, tk, kx, rk, hl1, hl2, fun e => (hst e).next hs fun _ => ?_⟩
                have ht : t ∈ (succs en ld z).filter fun t => !(valN ks' t).isSome := by rw [hfe]; exact List.mem_cons_self
                obtain ⟨h1, h2⟩ := List.mem_filter.mp ht
                obtain ⟨o, ho, hst⟩ := mem_succs.mp h1
                refine ⟨o, ho, t, hst, ?_⟩
                cases hzz : valN ks' t with
                | none => rfl
                | some u => rw [hzz] at h2; cases h2
              | nil =>
                refine i_bT rfl ?_
                have hall : ∀ t ∈ succs en ld z, ∃ n : Nat, valN ks' t = some (.int (n : Nat)) ∧ Rank en ld t n := by
                  intro t ht
                  cases hzz : valN ks' t with
                  | none =>
                    have : t ∈ (succs en ld z).filter fun t => !(valN ks' t).isSome := List.mem_filter.mpr ⟨ht, by rw [hzz]; rfl⟩
                    rw [hfe] at this
                    cases this
                  | some u =>
                    obtain ⟨n, rfl, hr⟩ := rk.val t u hzz
                    exact ⟨n, rfl, hr⟩
                clear pb tE te2
                have gA := g
                have tkA := tk
                walk_at "zrd"
                refine lcL (Z.ls (K := K) hD g.sub) (fun E i H' => ∃ (ns : List Int), Gr (· = kd) G0 H0 G3 H' ∧ At G3 H' kd (dN P w kd ks') ∧ At G3 H' E (.lst (ns.map V.int)) ∧ Paired (fun t n => ∃ v : Int, valN ks' t = some (.int v) ∧ n = 1 + v) ((succs en ld z).take i) ns) ?_ ?_ ?_ ?_
                · intro E nE
                  exact ⟨[], g.new nE, tk.new nE, At.of g nE, .nil⟩
                · rintro E i H' nE ⟨ns, g, tk, tE, pb⟩
                  exact Z.ls hD g.sub
                · rintro E i x H' nE hx ⟨ns, g, tk, tE, pb⟩
                  obtain ⟨q2, t, rfl, ht, hq2, hi2⟩ := sts_one pr hx
                  have nkE : kd ≠ E := ne_of_none tkA.h nE
                  have hfb : (ns.map V.int).length ≤ 5 := by
                    rw [List.length_map, ← Paired.len pb, List.length_take, ← Paired.len pr]
                    omega
                  obtain ⟨n, hv, _⟩ := hall t (List.mem_of_getElem? ht)
                  walk_at "zrd"
                  refine i_lcw rfl ?_
                  walk_at "zrd"
                  refine fld (g.old _ _ npk hp) cl nK hkd ?_
                  walk_at "zrd"
                  refine dgetN tk.h (kx.mono g.sub) (hq2.mono g.sub) hv ?_
                  walk_at "zrd"
                  refine lcp tE (by omega) ?_
                  refine ⟨ns ++ [1 + (n : Int)], g.mut tE (.inr (gA.fresh nE)), tk.off nkE, ?_, ?_⟩
                  · rw [List.map_append]
                    exact tE.put
                  · rw [List.take_add_one, ht]
                    exact Paired.snoc ⟨(n : Int), hv, rfl⟩ pb
                · rintro E H' nE ⟨ns, g, tk, tE, pb⟩
                  rw [em, List.take_length] at pb
                  obtain ⟨hr0, hr1⟩ := rank_all rk pb
                  have put : ∀ n : Nat, Rank en ld z n → ∃ (c : Bool) (y2 y3 y4 y5 : Option V) (G : Hp) (ks2 : List (S × Addr × V)), [some (V.ref p), some (.bl true), some (.ref q), some (.ref D), v4, v5] = [some (.ref p), some (.bl c), y2, y3, y4, y5] ∧ Gr (· = kd) G0 H0 G (upd H' kd (dN P w kd (putN ks' z q (.int n)))) ∧ At G (upd H' kd (dN P w kd (putN ks' z q (.int n)))) kd (dN P w kd ks2) ∧ KeysAt K G ks2 ∧ Rk en ld ST ks2 ∧ ks.length ≤ ks2.length ∧ (c = true → ks.length < ks2.length) ∧ (c = false → StuckI en ld ST ks2 (i + 1)) := by
                    intro n hr
                    have hln := putN_len_new (q := q) (v := .int n) hvt
                    refine ⟨true, _, _, _, _, G3, putN ks' z q (.int n), rfl, g.mut tk (.inl rfl), tk.put, kx.put hq, ?_, by omega, (fun _ => by omega), (fun e => by cases e)⟩
                    rw [putN_new hvt]
                    exact rk.put hsm hvt hr
                  have hkl := rk.len
                  walk_at "zrd"
                  refine i_maxDef (.inl (.inl tE.h)) (fun e => ?_) (fun m hm hy => ?_)
                  · walk_at "zrd"
                    refine fld (g.old _ _ npk hp) cl nK hkd ?_
                    walk_at "zrd"
                    refine dputN tk.h (kx.mono g.sub) (hq.mono g.sub) (by omega) ?_
                    walk_at "zrd"
                    exact put 0 (hr0 e)
                  · obtain ⟨n, rfl, hr⟩ := hr1 m hm hy
                    walk_at "zrd"
                    refine fld (g.old _ _ npk hp) cl nK hkd ?_
                    walk_at "zrd"
                    refine dputN tk.h (kx.mono g.sub) (hq.mono g.sub) (by omega) ?_
                    walk_at "zrd"
                    exact put n hr
      · rintro σ H' ⟨b, v2, v3, v4, v5, G, ks', rfl, g, tk, kx, rk, hl1, hl2, hst⟩
        rw [esq] at hst
        have hkl := rk.len
        walk_at "zrd"
        refine ⟨_, ?_, b, v2, v3, v4, v5, G, ks', rfl, g, tk, kx, rk, fun e => (hst e).all, rfl⟩
        cases b with
        | false => simp; omega
        | true =>
          have := hl2 rfl
          simp
          omega
end
end Z
set_option Elab.async false
set_option linter.all false
set_option maxRecDepth 100000
set_option maxHeartbeats 4000000
namespace Z
open PySem PySem.Spec PyProof.Rows L2
local macro_rules | `(tactic| walk_at "zrd") => `(tactic| (repeat (first | ((with_reducible apply i_var); (· exact rfl)) | with_reducible refine i_c ?_ | with_reducible refine i_op ?_ | with_reducible refine i_I0 ?_ | with_reducible refine i_eqI ?_ | with_reducible refine i_neI ?_ | with_reducible refine i_test ?_ | with_reducible refine i_cons ?_ | with_reducible refine i_nil ?_ | with_reducible refine i_seq ?_ | with_reducible refine i_nx ?_ | with_reducible refine i_rt ?_ | with_reducible refine i_pass ?_ | with_reducible refine i_asg ?_ | with_reducible refine i_gname ?_ | with_reducible refine i_ret ?_ | with_reducible refine i_drop ?_ | with_reducible refine i_ifS ?_ | with_reducible refine i_if ?_ | with_reducible refine i_not ?_ | with_reducible refine i_and ?_ | with_reducible refine i_or ?_ | with_reducible refine i_lst ?_ | with_reducible refine i_tup ?_ | with_reducible refine i_cb ?_ | with_reducible refine i_call ?_ | with_reducible refine i_gsub ?_ | with_reducible refine i_B ?_ | with_reducible refine i_un ?_ | with_reducible refine i_U ?_ | with_reducible refine i_eqOI ?_ | with_reducible refine i_eqIO ?_ | with_reducible refine i_forL ?_ | with_reducible refine i_forT ?_ | with_reducible refine i_forR ?_ | with_reducible refine i_forR2 ?_ | with_reducible refine i_forR3 ?_ | with_reducible refine i_forE ?_ | with_reducible refine i_lcL ?_ | with_reducible refine i_lcT ?_ | with_reducible refine i_lcR ?_ | with_reducible refine i_yes ?_ | with_reducible refine i_lce ?_ | with_reducible refine i_lcf ?_ | with_reducible refine i_gcons ?_ | with_reducible refine i_gnil ?_ | with_reducible refine i_chain ?_ | with_reducible refine i_t ?_ | with_reducible refine i_f ?_ | with_reducible refine i_nt ?_ | with_reducible refine i_nf ?_ | with_reducible refine i_bm ?_ | with_reducible refine i_bm0 ?_ | with_reducible refine i_and2 ?_ | with_reducible refine i_or2 ?_ | with_reducible refine i_intI ?_ | with_reducible refine i_intB ?_ | with_reducible refine i_sl ?_ | with_reducible refine i_part ?_ | with_reducible refine i_nopart ?_ | with_reducible refine i_cut ?_ | with_reducible refine i_lrg ?_ | with_reducible refine i_make ?_ | with_reducible refine i_meth ?_ | with_reducible refine i_fld ?_ | with_reducible refine i_sfld ?_ | with_reducible refine i_dnew ?_ | with_reducible refine i_par3 ?_ | with_reducible refine i_par3e ?_ | with_reducible refine i_par2 ?_ | with_reducible refine i_par2e ?_ | with_reducible refine i_dput ?_ | with_reducible refine i_dget2 ?_ | with_reducible refine i_din ?_ | with_reducible refine i_dget ?_ | with_reducible refine i_isO ?_ | with_reducible refine i_isR ?_ | with_reducible refine i_isN ?_ | with_reducible refine i_isI ?_ | with_reducible refine i_noO ?_ | with_reducible refine i_noR ?_ | with_reducible refine i_noN ?_ | with_reducible refine i_noI ?_ | with_reducible refine i_dgetN ?_ | with_reducible refine i_dputN ?_ | with_reducible refine i_dnewN ?_ | with_reducible refine i_ckw ?_ | with_reducible refine (show ∃ k, V.bl _ = V.bl k ∧ _ from ⟨_, rfl, ?_⟩) | with_reducible refine (show ∃ k, V.int _ = V.int k ∧ _ from ⟨_, rfl, ?_⟩) | ((with_reducible apply i_ixL); (· assumption); (· exact rfl)) | ((with_reducible apply i_ixT); (· assumption); (· exact rfl)) | ((with_reducible apply i_lenL); (· assumption)) | ((with_reducible apply i_lenT); (· assumption)) | ((with_reducible apply i_I); (· (first | omega | (dsimp only; omega) | exact ⟨by omega, by omega⟩ | exact Or.inr ⟨by omega, by omega⟩ | exact Or.inl ⟨by omega, by omega⟩ | exact ⟨by decide, by decide, by decide⟩))) | ((with_reducible apply i_gtup); (· assumption); (· rfl)) | ((with_reducible apply i_p); (· omega)) | ((with_reducible apply i_n); (· omega)) | ((with_reducible apply i_np); (· omega)) | ((with_reducible apply i_nn); (· omega)) | ((with_reducible apply i_lcP); (· omega)) | ((with_reducible apply i_lcN); (· omega)) | ((with_reducible apply i_lcnP); (· omega)) | ((with_reducible apply i_lcnN); (· omega)))))
section
variable {P : Program} {w : World} {K : PySem.W.Frag} {mg : Str → Option Value} {base : Heap} {f : Addr} {fd : FuncData} {C : Addr}
abbrev sSearch_met : Stmt := inClass (topS 20) 3
theorem scSearch_met : FnScope ["self", "found", "waiting", "word", "state"] ["self"] (defScope sSearch_met) := ⟨rfl, rfl, rfl, by decide +kernel, rfl, by decide +kernel, by decide +kernel⟩
theorem ok_met (T : Txt K mg) (cl : Cls K C) (nF : NoAttr K C "first") (C_moves : CalMt P w K mg base C "moves" 2 ["self", "state"] (spMoves K C)) (F : Fun K "met" "Search.met" sSearch_met f fd) : FnOk P w K mg base CX0 3 f fd ["self"] (spMet P w K C) := by
  refine F.ok scSearch_met (fun vs H Q E h => ?_) (fun cdv A outer s H0 vs Q E hr h => ?_)
  · obtain ⟨G, p, q0, en, ld, fs, rfl, _⟩ := h
    rfl
  · obtain ⟨G0, p, q0, en, ld, fs, rfl, sb, sea0, oke, okl, hmany, nb, nm, hfi, hq0, k⟩ := h
    refine ⟨_, (pss_cons (ps_set (i := 1) scSearch_met.nd rfl (Or.inl rfl) (pe_dispN hr.units (pe_fld (pv 0) rfl) pe_bl))
      (pss_cons (ps_set (i := 2) scSearch_met.nd rfl (Or.inl rfl) (pe_lst (pa_cons (pe_fld (pv 0) rfl) pa_nil)))
      (pss_cons (ps_while PassesOwn.never (pt_cmpR (r := rNeD K) (op_neD hr.units) (pv 2) (pe_lst pa_nil) (nomark _)) (pss_one (ps_for PassesOwn.never rfl (pi_list (pmtA C_moves (hr.mono (by decide)) (pv 0) (pa_cons (pe_bm0 PySem.F.plainAttrs_list PySem.F.slot_list_pop PySem.F.type_list_pop mt_pop (pv 2)) pa_nil))) (pg_tup rfl (pgs_cons (pg_name (i := 3) scSearch_met.nd rfl (Or.inl rfl)) (pgs_cons (pg_name (i := 4) scSearch_met.nd rfl (Or.inl rfl)) pgs_nil))) (pss_one (ps_if (PW.pt (pw_and (pt_cmpR op_notNz (pv 4) pe_non (nomark _)) (pw_and1 (pt_cmpR (r := rNotInN P w K) (op_notInN hr.units) (pv 4) (pv 1) rfl)))) (pss_cons (ps_dputN hr.units (pv 1) (pv 4) pe_bl rfl)
      (pss_one (ps_expr (pe_bm PySem.F.plainAttrs_list PySem.F.slot_list_append PySem.F.type_list_append mt_append (pv 2) (pa_cons (pv 4) pa_nil))))) pss_nil)))))
      (pss_one (ps_ret (pe_callB (r := rSortedN P w K) (cr_sortedN hr.units rfl) (by rfl) T.b_sorted (by decide +kernel) (pa_cons (pv 1) pa_nil))))))), ?_⟩
    try dsimp only [cxOf, L2.Cx.nox, L2.Cx.wish]
    refine i_start (σ' := [some (.ref p), none, none, none, none]) rfl ?_
    have g : Gr No G0 H0 G0 H0 := Gr.refl sb
    have L1 := okl.l1
    obtain ⟨dx, e, l, hp, _⟩ := id sea0
    walk_at "zrd"
    refine i_dispN fun fd1 nfd => ?_
    have g1 := g.new (o := dN P w fd1 []) nfd
    walk_at "zrd"
    refine fld (g1.old _ _ (fun z => z) hp) cl nF hfi ?_
    walk_at "zrd"
    refine dispN (hq0.mono g1.sub) upd_same ?_
    have tf : At G0 (upd H0 fd1 (dN P w fd1 [])) fd1 (dN P w fd1 []) := At.of g nfd
    have g := g1.mut (u := dN P w fd1 [(firstS en, q0, .bl true)]) tf (.inr nfd)
    have tf := tf.put (u := dN P w fd1 [(firstS en, q0, .bl true)])
    revert g tf
    generalize upd (upd H0 fd1 (dN P w fd1 [])) fd1 (dN P w fd1 [(firstS en, q0, .bl true)]) = H1
    intro g tf
    clear g1
    walk_at "zrd"
    refine fld (g.old _ _ (fun z => z) hp) cl nF hfi ?_
    walk_at "zrd"
    refine newL g (by first | omega | (simp; done) | (simp; omega)) fun wt H2 nwt zwt s g twt => ?_
    have nfwt := ne_of_none tf.h nwt
    have tf := tf.monoN s
    walk_at "zrd"
    refine whl (fun m σ H' => ∃ (v3 v4 : Option V) (G : Hp) (xs : List (S × Addr × V)) (wq : List Addr) (W : List S), σ = [some (.ref p), some (.ref fd1), some (.ref wt), v3, v4] ∧ Gr No G0 H0 G H' ∧ At G H' fd1 (dN P w fd1 xs) ∧ At G H' wt (.lst (wq.map V.ref)) ∧ fd1 ≠ wt ∧ KeysAt K G xs ∧ Paired (fun q s => StAt K G q s) wq W ∧ Met en ld (xs.map (·.1)) W ∧ W.length ≤ xs.length ∧ m = 2 * (manyS en ld - xs.length) + W.length)
      (2 * (manyS en ld - 1) + 1) (by exact ⟨none, none, G0, [(firstS en, q0, .bl true)], [q0], [firstS en], rfl, g, tf, twt, nfwt, fun x hx => by rw [List.mem_singleton.mp hx]; exact hq0, .cons hq0 .nil, met_zero en ld, Nat.le_refl _, rfl⟩) ?_
    rintro m σ H' ⟨v3, v4, G, xs, wq, W, rfl, g, tf, twt, nfw, kx, pw, me, hwx, rfl⟩
    have hxl : xs.length ≤ manyS en ld := by
      have := states_le me.nd fun s hs => (me.re s hs).ok L1 oke
      rw [List.length_map] at this
      exact this
    walk_at "zrd"
    refine newL g (by first | omega | (simp; done) | (simp; omega)) fun e2 H3 ne2 ze2 s g te2 => ?_
    have nfe2 := ne_of_none tf.h ne2
    have nwte2 := ne_of_none twt.h ne2
    have tf := tf.monoN s
    have twt := twt.monoN s
    walk_at "zrd"
    refine i_neNil (ds := W.map dS) (k := 3) (.lst (.inl (.inl twt.h)) (dp_states (Paired.imp (fun _ _ h => h.mono g.sub) pw))) (dp_nil (.inl (.inl te2.h))) (dk_Ss W) (by decide) ?_
    walk_at "zrd"
    rcases List.eq_nil_or_concat W with eW | ⟨W0, s0, eW⟩
    · subst eW
      refine whlF rfl ?_
      walk_at "zrd"
      refine sortedN g tf.h (kx.mono g.sub) fun r H4 nr zr s g tr => ?_
      have ht : StsAt K (upd G r (.lst ((srtN xs).map fun x => V.ref x.2.1))) r ((srtN xs).map (·.1)) := by
        refine ⟨(srtN xs).map fun x => x.2.1, by rw [List.map_map]; exact upd_same, ?_⟩
        have sE := same_close tr
        have key : ∀ ys : List (S × Addr × V), KeysAt K G ys → Paired (fun q s => StAt K (upd G r (.lst ((srtN xs).map fun x => V.ref x.2.1))) q s) (ys.map fun x => x.2.1) (ys.map (·.1)) := by
          intro ys
          induction ys with
          | nil => intro _; exact .nil
          | cons y ys ih =>
            intro h
            exact .cons ((h y List.mem_cons_self).mono sE) (ih fun x hx => h x (List.mem_cons_of_mem _ hx))
        exact key _ fun x hx => kx x ((srtN_perm xs).mem_iff.mp hx)
      have hperm := (srtN_perm xs).map (·.1)
      walk_at "zrd"
      refine k r _ _ H4 zr (g.close tr zr) ht ⟨hperm.nodup_iff.mpr me.nd, fun s hs => me.re s (hperm.mem_iff.mp hs), hperm.mem_iff.mpr me.fi, fun s hs o ho t e => hperm.mem_iff.mpr (me.closed s (hperm.mem_iff.mp hs) o ho t e), _, srtN_keys xs⟩
    · rw [List.concat_eq_append] at eW
      subst eW
      obtain ⟨wq0, q1, rfl, pw0, hq1⟩ : ∃ wq0 q1, wq = wq0 ++ [q1] ∧ Paired (fun q s => StAt K G q s) wq0 W0 ∧ StAt K G q1 s0 := by
        have hne : wq ≠ [] := by
          rintro rfl
          have := Paired.len pw
          rw [List.length_append] at this
          simp at this
        have ee := (List.dropLast_concat_getLast hne).symm
        have hl := Paired.len pw
        rw [List.length_append, List.length_singleton] at hl
        have h1 : wq[W0.length]? = some (wq.getLast hne) := by rw [List.getLast_eq_getElem, ← List.getElem?_eq_getElem]; congr 1; omega
        have h2 : (W0 ++ [s0])[W0.length]? = some s0 := by rw [List.getElem?_append_right (Nat.le_refl _), Nat.sub_self]; rfl
        refine ⟨wq.dropLast, wq.getLast hne, ee, ?_, Paired.at pw h1 h2⟩
        have key : ∀ {as : List Addr} {bs : List S} {a : Addr} {b : S}, Paired (fun q s => StAt K G q s) (as ++ [a]) (bs ++ [b]) → Paired (fun q s => StAt K G q s) as bs := by
          intro as
          induction as with
          | nil =>
            intro bs a b h
            cases bs with
            | nil => exact .nil
            | cons c bs =>
              have := Paired.len h
              simp at this
          | cons c as ih =>
            intro bs a b h
            cases bs with
            | nil =>
              have := Paired.len h
              simp at this
            | cons d bs =>
              cases h with
              | cons h1 h2 => exact .cons h1 (ih h2)
        exact key (a := wq.getLast hne) (b := s0) (by rw [← ee]; exact pw)
      have hs0 : s0 ∈ xs.map (·.1) := me.sub s0 (List.mem_append_right _ (List.mem_singleton.mpr rfl))
      have ok0 := (me.re s0 hs0).ok L1 oke
      refine whlT (by rw [List.map_append]; simp) ?_
      walk_at "zrd"
      refine methq (g.old _ _ (fun z => z) hp) nm ?_
      walk_at "zrd"
      refine ⟨tyL twt.h, ?_⟩
      rw [List.map_append] at twt
      refine i_pop twt.h ?_
      have g := g.mut (u := .lst (wq0.map V.ref)) twt (.inr zwt)
      have tf := tf.off (u := .lst (wq0.map V.ref)) nfw
      have twt := twt.put (u := .lst (wq0.map V.ref))
      revert g tf twt
      generalize upd H3 wt (.lst (wq0.map V.ref)) = H4
      intro g tf twt
      have sea := sea0.monoN g
      walk_at "zrd"
      refine i_moves g sea oke okl nb ok0 hq1 fun r rs G2 H5 nr s g hr2 prm => ?_
      have tf := tf.monoN s
      have twt := twt.monoN s
      have kx := kx.mono s.gg
      have pw0 := Paired.imp (fun _ _ h => StAt.mono s.gg h) pw0
      have mi := me.pop
      clear te2
      refine forL (Z.ls (K := K) hr2 g.sub) (fun i σ H' => ∃ (v3 v4 : Option V) (xs' : List (S × Addr × V)) (wq : List Addr) (W : List S), σ = [some (.ref p), some (.ref fd1), some (.ref wt), v3, v4] ∧ Gr No G0 H0 G2 H' ∧ At G2 H' fd1 (dN P w fd1 xs') ∧ At G2 H' wt (.lst (wq.map V.ref)) ∧ KeysAt K G2 xs' ∧ Paired (fun q s => StAt K G2 q s) wq W ∧ MetI en ld (xs'.map (·.1)) W s0 i ∧ W.length ≤ xs'.length ∧ 2 * (manyS en ld - xs'.length) + W.length + 1 ≤ 2 * (manyS en ld - xs.length) + (W0 ++ [s0]).length)
        ⟨_, _, xs, wq0, W0, rfl, g, tf, twt, kx, pw0, mi, by rw [List.length_append, List.length_singleton] at hwx; omega, by rw [List.length_append, List.length_singleton]; omega⟩ ?_ ?_ ?_
      · rintro i σ H' hi ⟨v3, v4, xs', wq, W, rfl, g, tf, twt, kx, pw, mi, hwx, hms⟩
        exact Z.ls hr2 g.sub
      · rintro i x σ H' hx ⟨v3, v4, xs', wq, W, rfl, g, tf, twt, kx, pw, mi, hwx, hms⟩
        obtain ⟨a, ⟨o, t⟩, v, rfl, hm, ha, hv, him⟩ := mv_one prm hx
        obtain ⟨hop, hst⟩ := moves_at hm
        have ha1 := sqt (K := K) g.sub ha
        have hxl : xs'.length ≤ manyS en ld := by
          have := states_le mi.nd fun s hs => (mi.re s hs).ok L1 oke
          rw [List.length_map] at this
          exact this
        have hop : (opts en ld s0)[i]? = some o := hop
        have hst : step en ld s0 o = t := hst
        walk_at "zrd"
        match t, hv, hst with
        | none, hv, hst =>
          have e : v = .non := hv
          subst e
          walk_at "zrd"
          exact ⟨_, _, xs', wq, W, rfl, g, tf, twt, kx, pw, (mi.no hop fun t e => by rw [hst] at e; cases e), hwx, hms⟩
        | some t, ⟨q2, e, hq2⟩, hst =>
          subst e
          walk_at "zrd"
          refine notInN tf.h (kx.mono g.sub) (hq2.mono g.sub) ?_
          walk_at "zrd"
          cases hvt : valN xs' t with
          | some u =>
            refine i_bF rfl ?_
            walk_at "zrd"
            refine ⟨_, _, xs', wq, W, rfl, g, tf, twt, kx, pw, mi.no hop fun t2 e => ?_, hwx, hms⟩
            rw [hst] at e
            cases e
            obtain ⟨q, hq⟩ := valN_mem hvt
            exact List.mem_map.mpr ⟨_, hq, rfl⟩
          | none =>
            have hnt : ¬ t ∈ xs'.map (·.1) := fun h => by
              obtain ⟨x, hx, e⟩ := List.mem_map.mp h
              exact valN_none.mp hvt x hx e
            have mi2 := mi.new hop hst hnt
            have hxl2 : xs'.length + 1 ≤ manyS en ld := by
              have := states_le mi2.nd fun s hs => (mi2.re s hs).ok L1 oke
              rw [List.length_append, List.length_map] at this
              exact this
            refine i_bT rfl ?_
            walk_at "zrd"
            refine dputN tf.h (kx.mono g.sub) (hq2.mono g.sub) (by omega) ?_
            rw [putN_new hvt]
            have g := g.mut (u := dN P w fd1 (xs' ++ [(t, q2, .bl true)])) tf (.inr nfd)
            have twt := twt.off (u := dN P w fd1 (xs' ++ [(t, q2, .bl true)])) (Ne.symm nfw)
            have tf := tf.put (u := dN P w fd1 (xs' ++ [(t, q2, .bl true)]))
            revert g twt tf
            generalize upd H' fd1 (dN P w fd1 (xs' ++ [(t, q2, .bl true)])) = H6
            intro g twt tf
            have hwl : wq.length = W.length := Paired.len pw
            walk_at "zrd"
            refine ⟨tyL twt.h, ?_⟩
            walk_at "zrd"
            refine i_append twt.h (by rw [List.length_map]; omega) ?_
            walk_at "zrd"
            refine ⟨_, _, xs' ++ [(t, q2, .bl true)], wq ++ [q2], W ++ [t], rfl, g.mut twt (.inr zwt), tf.off nfw, ?_, fun x hx => ?_, Paired.snoc hq2 pw, ?_, ?_, ?_⟩
            · rw [List.map_append]
              exact twt.put
            · rcases List.mem_append.mp hx with h1 | h1
              · exact kx x h1
              · rw [List.mem_singleton.mp h1]; exact hq2
            · rw [List.map_append]
              exact mi2
            · rw [List.length_append, List.length_append, List.length_singleton, List.length_singleton]
              omega
            · rw [List.length_append, List.length_append, List.length_singleton, List.length_singleton]
              omega
      · rintro σ H' ⟨v3, v4, xs', wq, W, rfl, g, tf, twt, kx, pw, mi, hwx, hms⟩
        have em : (rs.map V.ref).length = (opts en ld s0).length := by rw [List.length_map, Paired.len prm]; unfold moves; rw [List.length_map]
        rw [em] at mi
        walk_at "zrd"
        exact ⟨_, by omega, _, _, G2, xs', wq, W, rfl, g, tf, twt, nfw, kx, pw, mi.done (Nat.le_refl _), hwx, rfl⟩
end
end Z
set_option Elab.async false
set_option linter.all false
set_option maxRecDepth 100000
set_option maxHeartbeats 4000000
namespace Z
open PySem PySem.Spec PyProof.Rows L2
local macro_rules | `(tactic| walk_at "zrd") => `(tactic| (repeat (first | ((with_reducible apply i_var); (· exact rfl)) | with_reducible refine i_c ?_ | with_reducible refine i_op ?_ | with_reducible refine i_I0 ?_ | with_reducible refine i_eqI ?_ | with_reducible refine i_neI ?_ | with_reducible refine i_test ?_ | with_reducible refine i_cons ?_ | with_reducible refine i_nil ?_ | with_reducible refine i_seq ?_ | with_reducible refine i_nx ?_ | with_reducible refine i_rt ?_ | with_reducible refine i_pass ?_ | with_reducible refine i_asg ?_ | with_reducible refine i_gname ?_ | with_reducible refine i_ret ?_ | with_reducible refine i_drop ?_ | with_reducible refine i_ifS ?_ | with_reducible refine i_if ?_ | with_reducible refine i_not ?_ | with_reducible refine i_and ?_ | with_reducible refine i_or ?_ | with_reducible refine i_lst ?_ | with_reducible refine i_tup ?_ | with_reducible refine i_cb ?_ | with_reducible refine i_call ?_ | with_reducible refine i_gsub ?_ | with_reducible refine i_B ?_ | with_reducible refine i_un ?_ | with_reducible refine i_U ?_ | with_reducible refine i_eqOI ?_ | with_reducible refine i_eqIO ?_ | with_reducible refine i_forL ?_ | with_reducible refine i_forT ?_ | with_reducible refine i_forR ?_ | with_reducible refine i_forR2 ?_ | with_reducible refine i_forR3 ?_ | with_reducible refine i_forE ?_ | with_reducible refine i_lcL ?_ | with_reducible refine i_lcT ?_ | with_reducible refine i_lcR ?_ | with_reducible refine i_yes ?_ | with_reducible refine i_lce ?_ | with_reducible refine i_lcf ?_ | with_reducible refine i_gcons ?_ | with_reducible refine i_gnil ?_ | with_reducible refine i_chain ?_ | with_reducible refine i_t ?_ | with_reducible refine i_f ?_ | with_reducible refine i_nt ?_ | with_reducible refine i_nf ?_ | with_reducible refine i_bm ?_ | with_reducible refine i_bm0 ?_ | with_reducible refine i_and2 ?_ | with_reducible refine i_or2 ?_ | with_reducible refine i_intI ?_ | with_reducible refine i_intB ?_ | with_reducible refine i_sl ?_ | with_reducible refine i_part ?_ | with_reducible refine i_nopart ?_ | with_reducible refine i_cut ?_ | with_reducible refine i_lrg ?_ | with_reducible refine i_make ?_ | with_reducible refine i_meth ?_ | with_reducible refine i_fld ?_ | with_reducible refine i_sfld ?_ | with_reducible refine i_dnew ?_ | with_reducible refine i_par3 ?_ | with_reducible refine i_par3e ?_ | with_reducible refine i_par2 ?_ | with_reducible refine i_par2e ?_ | with_reducible refine i_dput ?_ | with_reducible refine i_dget2 ?_ | with_reducible refine i_din ?_ | with_reducible refine i_dget ?_ | with_reducible refine i_isO ?_ | with_reducible refine i_isR ?_ | with_reducible refine i_isN ?_ | with_reducible refine i_isI ?_ | with_reducible refine i_noO ?_ | with_reducible refine i_noR ?_ | with_reducible refine i_noN ?_ | with_reducible refine i_noI ?_ | with_reducible refine i_dgetN ?_ | with_reducible refine i_dputN ?_ | with_reducible refine i_dnewN ?_ | with_reducible refine i_ckw ?_ | with_reducible refine (show ∃ k, V.bl _ = V.bl k ∧ _ from ⟨_, rfl, ?_⟩) | with_reducible refine (show ∃ k, V.int _ = V.int k ∧ _ from ⟨_, rfl, ?_⟩) | ((with_reducible apply i_ixL); (· assumption); (· exact rfl)) | ((with_reducible apply i_ixT); (· assumption); (· exact rfl)) | ((with_reducible apply i_lenL); (· assumption)) | ((with_reducible apply i_lenT); (· assumption)) | ((with_reducible apply i_I); (· (first | omega | (dsimp only; omega) | exact ⟨by omega, by omega⟩ | exact Or.inr ⟨by omega, by omega⟩ | exact Or.inl ⟨by omega, by omega⟩ | exact ⟨by decide, by decide, by decide⟩))) | ((with_reducible apply i_gtup); (· assumption); (· rfl)) | ((with_reducible apply i_p); (· omega)) | ((with_reducible apply i_n); (· omega)) | ((with_reducible apply i_np); (· omega)) | ((with_reducible apply i_nn); (· omega)) | ((with_reducible apply i_lcP); (· omega)) | ((with_reducible apply i_lcN); (· omega)) | ((with_reducible apply i_lcnP); (· omega)) | ((with_reducible apply i_lcnN); (· omega)))))
section
variable {P : Program} {w : World} {K : PySem.W.Frag} {mg : Str → Option Value} {base : Heap} {f : Addr} {fd : FuncData} {C CM : Addr}
abbrev sSearch___init__ : Stmt := inClass (topS 20) 0
theorem scSearch___init__ : FnScope ["self", "memory", "load", "many", "limit"] ["self", "memory", "load"] (defScope sSearch___init__) := ⟨rfl, rfl, rfl, by decide +kernel, rfl, by decide +kernel, by decide +kernel⟩
abbrev sheld : Stmt := topS 21
theorem scheld : FnScope ["memory", "load", "search", "head", "loop"] ["memory", "load"] (defScope sheld) := ⟨rfl, rfl, rfl, by decide +kernel, rfl, by decide +kernel, by decide +kernel⟩
theorem ok_sinit (T : Txt K mg) (cl : Cls K C) (nE : NoAttr K C "ends") (nL : NoAttr K C "load") (nF : NoAttr K C "first") (nS : NoAttr K C "states") (nK : NoAttr K C "known") (C_limits : Cal P w K mg base "limits" 2 ["memory"] (spLimits K CM)) (C_met : CalMt P w K mg base C "met" 3 ["self"] (spMet P w K C)) (C_rank : CalMt P w K mg base C "rank" 3 ["self"] (spRank P w K C)) (F : Fun K "__init__" "Search.__init__" sSearch___init__ f fd) : FnOk P w K mg base CX0 4 f fd ["self", "memory", "load"] (spSInit P w K CM C) := by
  refine F.ok scSearch___init__ (fun vs H Q E h => ?_) (fun cdv A outer s H0 vs Q E hr h => ?_)
  · obtain ⟨G, p, dx, m, l, ws, ld, rfl, _⟩ := h
    rfl
  · obtain ⟨G0, p, dx, m, l, ws, ld, rfl, sb, tp, M, hl, okl, hmany, k⟩ := h
    refine ⟨_, (pss_cons (ps_fld (pv 0) (pc C_limits (hr.mono (by decide)) (pa_cons (pv 1) pa_nil)) rfl)
      (pss_cons (ps_fld (pv 0) (pv 2) rfl)
      (pss_cons (ps_set (i := 3) scSearch___init__.nd rfl (Or.inl rfl) (pe_callB (r := rLen K) cl_len (by rfl) T.b_len (by decide +kernel) (pa_cons (pv 2) pa_nil)))
      (pss_cons (ps_for PassesOwn.never rfl (pi_list (pe_fld (pv 0) rfl)) (pg_name (i := 4) scSearch___init__.nd rfl (Or.inl rfl)) (pss_one (ps_if (pt_cmpR op_notNz (pv 4) pe_non (nomark _)) (pss_one (ps_set (i := 3) scSearch___init__.nd rfl (Or.inl rfl) (pe_op op_mul (pv 3) (pe_op op_add (pv 4) pe_int)))) pss_nil)))
      (pss_cons (ps_if (pt_cmpR op_gt (pv 3) (pgc T.c_MOST_STATES) (nomark _)) (pss_one ps_never) pss_nil)
      (pss_cons (ps_fld (pv 0) (pe_tup (pa_cons pe_int (pa_cons (pe_callTy (r := rTuple K) cl_tuple (by rfl) T.b_tuple (by decide +kernel) (pa_cons (pe_lc (own := [("limit", 4)]) (g := gName 4) rfl scSearch___init__.nd (pi_list (show PE _ _ (tFld K _ "ends") from (pe_fld (pv 0) rfl))) (blkOk_by (own := [("limit", 4)]) (N := ["self", "memory", "load", "many", "limit"]) (sc := defScope sSearch___init__) (by decide +kernel)) (fun _ _ _ _ _ => (pg_name (i := 4) scSearch___init__.nd rfl (Or.inl rfl))) (fun _ _ _ _ _ => pts_nil) (fun _ _ _ _ _ => pe_int)) pa_nil)) pa_nil))) rfl)
      (pss_cons (ps_fld (pv 0) (pmt C_met (hr.mono (by decide)) (pv 0)) rfl)
      (pss_cons (ps_fld (pv 0) pe_dnewN rfl)
      (pss_one (ps_expr (pmt C_rank (hr.mono (by decide)) (pv 0)))))))))))), ?_⟩
    try dsimp only [cxOf, L2.Cx.nox, L2.Cx.wish]
    refine i_start (σ' := [some (.ref p), some (.ref m), some (.ref l), none, none]) rfl ?_
    have g : Gr (· = p) G0 H0 G0 H0 := Gr.refl sb
    have okw := M.ok
    have L1 := okl.l1
    have L12 := okl.l12
    have e0 : (ld.map V.int).length = ld.length := List.length_map _
    have oke := okEn_of okw
    have l4 := oke.l4
    have emf : manyF (ws.map lim) (ld.length : Nat) = (manyS (ws.map lim) ld : Nat) := manyF_eq _ _ fun L h => (oke.nn L h).1
    walk_at "zrd"
    refine i_limits g M fun e H1 ne s g2 te => ?_
    have ze := g.fresh ne
    have nep : p ≠ e := ne_of_none tp.h ne
    have tp := (tp.monoN s).close (u := .lst ((ws.map lim).map vO)) nep
    have sE := same_close te
    have g := g2.close te ze
    have he : upd G0 e (.lst ((ws.map lim).map vO)) e = some (.lst ((ws.map lim).map vO)) := upd_same
    have hl := sE _ _ hl
    revert g tp he hl
    generalize upd G0 e (.lst ((ws.map lim).map vO)) = G1
    clear sE te g2 s M
    intro tp g he hl
    generalize (ws.map lim) = en at *
    have e1 : (en.map vO).length = en.length := List.length_map _
    walk_at "zrd"
    refine sfld tp cl nE (by show 0 < 1000; decide) ?_
    have g := g.mut (u := .ins C dx (putF "ends" (.ref e) [])) tp (.inl rfl)
    have tp := tp.put (u := .ins C dx (putF "ends" (.ref e) []))
    revert g tp
    generalize upd H1 p (.ins C dx (putF "ends" (.ref e) [])) = H2
    intro g tp
    have tp : At G1 H2 p (.ins C dx (fS1 e)) := tp
    have ln1 : (fS1 e).length ≤ 1 := fS_len
    walk_at "zrd"
    refine sfld tp cl nL (by omega) ?_
    have g := g.mut (u := .ins C dx (putF "load" (.ref l) (fS1 e))) tp (.inl rfl)
    have tp := tp.put (u := .ins C dx (putF "load" (.ref l) (fS1 e)))
    revert g tp
    generalize upd H2 p (.ins C dx (putF "load" (.ref l) (fS1 e))) = H3
    intro g tp
    have tp : At G1 H3 p (.ins C dx (fS2 e l)) := tp
    have ln2 : (fS2 e l).length ≤ (fS1 e).length + 1 := fS_len
    walk_at "zrd"
    refine i_lenL (Z.ls hl g.sub) ?_
    walk_at "zrd"
    rw [e0]
    refine fld tp.h cl nE fS2_e ?_
    refine forL (Z.ls (K := K) he g.sub) (fun i σ H' => ∃ (v4 : Option V), σ = [some (.ref p), some (.ref m), some (.ref l), some (.int (manyF (en.take i) (ld.length : Nat))), v4] ∧ H' = H3) (by exact ⟨none, rfl, rfl⟩) ?_ ?_ ?_
    · rintro i σ H' hi ⟨v4, rfl, rfl⟩
      exact Z.ls he g.sub
    · rintro i x σ H' hx ⟨v4, rfl, rfl⟩
      obtain ⟨o, ho, rfl⟩ := map_at hx
      rw [manyF_take ho]
      walk_at "zrd"
      cases o with
      | none =>
        refine i_np rfl ?_
        walk_at "zrd"
        exact ⟨_, rfl, rfl⟩
      | some L =>
        refine i_nn (by simp) ?_
        dsimp only [vO]
        have hL := oke.nn L (List.mem_of_getElem? ho)
        walk_at "zrd"
        exact ⟨_, rfl, rfl⟩
    · rintro σ H' ⟨v4, rfl, rfl⟩
      rw [e1, List.take_length, emf]
      walk_at "zrd"
      refine fld tp.h cl nE fS2_e ?_
      have gA := g
      refine lcL (Z.ls (K := K) he g.sub) (fun D i H' => Gr (· = p) G0 H0 G1 H' ∧ At G1 H' p (.ins C dx (fS2 e l)) ∧ At G1 H' D (.lst ((List.replicate i (0 : Int)).map V.int))) ?_ ?_ ?_ ?_
      · intro D nD
        exact ⟨g.new nD, tp.new nD, At.of g nD⟩
      · rintro D i H' nD ⟨g, tp, tD⟩
        exact Z.ls he g.sub
      · rintro D i x H' nD hx ⟨g, tp', tD⟩
        have npD : p ≠ D := ne_of_none tp.h nD
        have hi : i < en.length := by rw [← e1]; exact (List.getElem?_eq_some_iff.mp hx).1
        have hrl : ((List.replicate i (0 : Int)).map V.int).length = i := by rw [List.length_map, List.length_replicate]
        walk_at "zrd"
        refine i_lcw rfl ?_
        walk_at "zrd"
        refine lcp tD (by omega) ?_
        refine ⟨g.mut tD (.inr (gA.fresh nD)), tp'.off npD, ?_⟩
        rw [List.replicate_succ', List.map_append]
        exact tD.put
      · rintro D H' nD ⟨g, tp', tD⟩
        have npD : p ≠ D := ne_of_none tp.h nD
        have tp := tp'
        rw [e1] at tD
        walk_at "zrd"
        refine i_tupleL (.inl (.inl tD.h)) ?_
        have hrl : ((List.replicate en.length (0 : Int)).map V.int).length = en.length := by rw [List.length_map, List.length_replicate]
        refine newT (K := K) g (by first | omega | (simp; done) | (simp; omega)) fun t1 G2 H5 nt1 zt1 s g tt1 => ?_
        have npt1 := ne_of_none tp.h nt1
        have tp := tp.monoN s
        walk_at "zrd"
        have he := s.gg _ _ he
        have hl := s.gg _ _ hl
        refine newT (K := K) g (by first | omega | (simp; done) | (simp; omega)) fun q0 G3 H6 nq0 zq0 s g tq0 => ?_
        have npq0 := ne_of_none tp.h nq0
        have tp := tp.monoN s
        have tt1 := sqt s.gg tt1
        walk_at "zrd"
        have he := s.gg _ _ he
        have hl := s.gg _ _ hl
        have hf : StAt K G3 q0 (firstS en) := ⟨t1, tq0, tt1⟩
        refine sfld tp cl nF (by omega) ?_
        have g := g.mut (u := .ins C dx (putF "first" (.ref q0) (fS2 e l))) tp (.inl rfl)
        have tp := tp.put (u := .ins C dx (putF "first" (.ref q0) (fS2 e l)))
        revert g tp
        generalize upd H6 p (.ins C dx (putF "first" (.ref q0) (fS2 e l))) = H7
        intro g tp
        have tp : At G3 H7 p (.ins C dx (fS3 e l q0)) := tp
        have ln3 : (fS3 e l q0).length ≤ (fS2 e l).length + 1 := fS_len
        walk_at "zrd"
        refine methq tp.h (fS3_no (by decide +kernel) (by decide +kernel) (by decide +kernel)) ?_
        walk_at "zrd"
        refine ⟨G3, p, q0, en, ld, _, rfl, g.sub, ⟨dx, e, l, tp.h, fS3_e, he, fS3_l, hl⟩, oke, okl, hmany, fS3_no (by decide +kernel) (by decide +kernel) (by decide +kernel), fS3_no (by decide +kernel) (by decide +kernel) (by decide +kernel), fS3_f, hf, fun sl ST G4 H8 nsl s2 hST sto => ?_⟩
        have g := g.seqN s2
        have tp := tp.monoN s2
        have he := s2.gg _ _ he
        have hl := s2.gg _ _ hl
        have hf := hf.mono s2.gg
        walk_at "zrd"
        refine sfld tp cl nS (by omega) ?_
        have g := g.mut (u := .ins C dx (putF "states" (.ref sl) (fS3 e l q0))) tp (.inl rfl)
        have tp := tp.put (u := .ins C dx (putF "states" (.ref sl) (fS3 e l q0)))
        revert g tp
        generalize upd H8 p (.ins C dx (putF "states" (.ref sl) (fS3 e l q0))) = H9
        intro g tp
        have tp : At G4 H9 p (.ins C dx (fS4 e l q0 sl)) := tp
        have ln4 : (fS4 e l q0 sl).length ≤ (fS3 e l q0).length + 1 := fS_len
        walk_at "zrd"
        refine newN g fun kd H10 nkd zkd s g tK => ?_
        have npk : p ≠ kd := ne_of_none tp.h nkd
        have tp := tp.monoN s
        walk_at "zrd"
        refine sfld tp cl nK (by omega) ?_
        have g := g.mut (u := .ins C dx (putF "known" (.ref kd) (fS4 e l q0 sl))) tp (.inl rfl)
        have tK := tK.off (u := .ins C dx (putF "known" (.ref kd) (fS4 e l q0 sl))) (Ne.symm npk)
        have tp := tp.put (u := .ins C dx (putF "known" (.ref kd) (fS4 e l q0 sl)))
        revert g tK tp
        generalize upd H10 p (.ins C dx (putF "known" (.ref kd) (fS4 e l q0 sl))) = H11
        intro g tK tp
        have tp : At G4 H11 p (.ins C dx (fS5 e l q0 sl kd)) := tp
        walk_at "zrd"
        refine methq tp.h (fS5_no (by decide +kernel) (by decide +kernel) (by decide +kernel) (by decide +kernel) (by decide +kernel)) ?_
        walk_at "zrd"
        refine ⟨G4, p, sl, kd, en, ld, _, ST, rfl, g.sub, ⟨dx, e, l, tp.h, fS5_e, he, fS5_l, hl⟩, oke, okl, hmany, fS5_no (by decide +kernel) (by decide +kernel) (by decide +kernel) (by decide +kernel) (by decide +kernel), fS5_no (by decide +kernel) (by decide +kernel) (by decide +kernel) (by decide +kernel) (by decide +kernel), fS5_s, hST, sto, fS5_k, tK, fun ks G5 H12 s3 tK kx rk stk => ?_⟩
        have tp := tp.mono s3 npk
        have g := g.seq s3 fun c ec => .inr (by rw [ec]; exact zkd)
        have g2 := g.close tK zkd
        have tp := tp.close (u := dN P w kd ks) npk
        have sE := s3.gg.trans (same_close tK)
        walk_at "zrd"
        refine k _ e q0 sl kd ST ks _ H12 g2 tp ⟨fS5_e, sE _ _ he, fS5_l, sE _ _ hl, fS5_f, hf.mono sE, fS5_s, hST.mono sE, fS5_k, upd_same, kx.mono (same_close tK), ?_, ?_, ?_, ?_, ?_, ?_, oke, okl, hmany, ⟨sto, rk, stk⟩⟩
        all_goals exact fS5_no (by decide +kernel) (by decide +kernel) (by decide +kernel) (by decide +kernel) (by decide +kernel)
theorem ok_held (T : Txt K mg) (cl : Cls K C) (nF : NoAttr K C "first") (nK : NoAttr K C "known") (C_need_load : Cal P w K mg base "need_load" 1 ["load"] (spNeedLoad K)) (C_Search : CalMk P w K mg base "Search" C 4 ["self", "memory", "load"] (spSInit P w K CM C)) (C_endless : CalMt P w K mg base C "endless" 4 ["self"] (spEndless P w K C)) (C_longest : CalMt P w K mg base C "longest" 4 ["self"] (spLongestS P w K C)) (C_paper : CalMt P w K mg base C "paper" 1 ["self"] (spPaper P w K C)) (F : Fun K "held" "held" sheld f fd) : FnOk P w K mg base CX0 6 f fd ["memory", "load"] (spHeld K CM) := by
  refine F.ok scheld (fun vs H Q E h => ?_) (fun cdv A outer s H0 vs Q E hr h => ?_)
  · obtain ⟨G, m, l, ws, ld, rfl, _⟩ := h
    rfl
  · obtain ⟨G0, m, l, ws, ld, rfl, sb, M, hl, okl, hmany, k⟩ := h
    refine ⟨_, (pss_cons (ps_expr (pc C_need_load (hr.mono (by decide)) (pa_cons (pv 1) pa_nil)))
      (pss_cons (ps_set (i := 2) scheld.nd rfl (Or.inl rfl) (pmk C_Search (hr.mono (by decide)) (pa_cons (pv 0) (pa_cons (pv 1) pa_nil))))
      (pss_cons (ps_if (pt_cmpR (r := rNotInN P w K) (op_notInN hr.units) (pe_fld (pv 2) rfl) (pe_fld (pv 2) rfl) rfl) (pss_cons (ps_asg (pmt C_endless (hr.mono (by decide)) (pv 2)) (pg_tup rfl (pgs_cons (pg_name (i := 3) scheld.nd rfl (Or.inl rfl)) (pgs_cons (pg_name (i := 4) scheld.nd rfl (Or.inl rfl)) pgs_nil))))
      (pss_one (ps_ret (pe_tup (pa_cons pe_str (pa_cons (pv 3) (pa_cons (pv 4) pa_nil))))))) pss_nil)
      (pss_one (ps_ret (pe_tup (pa_cons pe_str (pa_cons (pe_dgetN hr.units (pe_fld (pv 2) rfl) (pe_fld (pv 2) rfl) (fun _ _ => rfl)) (pa_cons (pmt C_longest (hr.mono (by decide)) (pv 2)) (pa_cons (pmt C_paper (hr.mono (by decide)) (pv 2)) pa_nil)))))))))), ?_⟩
    try dsimp only [cxOf, L2.Cx.nox, L2.Cx.wish]
    refine i_start (σ' := [some (.ref m), some (.ref l), none, none, none]) rfl ?_
    have g : Gr No G0 H0 G0 H0 := Gr.refl sb
    walk_at "zrd"
    refine i_needLoad g hl okl fun H1 s g => ?_
    walk_at "zrd"
    refine i_search g M hl okl hmany fun p ST ks G2 H2 np s2 g sc => ?_
    obtain ⟨dx, fs, e, l2, q0, sl, kd, hp, sf⟩ := id sc
    have kn := sf.kn
    walk_at "zrd"
    refine fld (g.sub _ _ hp) cl nF sf.ff ?_
    walk_at "zrd"
    refine fld (g.sub _ _ hp) cl nK sf.fk ?_
    walk_at "zrd"
    refine notInN (g.sub _ _ sf.hk) (sf.kx.mono g.sub) (sf.hf.mono g.sub) ?_
    walk_at "zrd"
    cases hvt : valN ks (firstS (ws.map lim)) with
    | none =>
      refine i_bT rfl ?_
      have la := kn.lasts kn.sto.fi hvt
      walk_at "zrd"
      refine methq (g.sub _ _ hp) sf.nen ?_
      walk_at "zrd"
      refine ⟨G2, p, _, ld, ST, ks, rfl, g.sub, sc, la, fun r a b hd lp G3 H3 na nb nab s3 hr ta tb er => ?_⟩
      have za := g.fresh na
      have zb := g.fresh nb
      have g := g.seqN s3
      have hr1 := sqt (K := K) g.sub hr
      walk_at "zrd"
      refine newT (K := K) g (by first | omega | (simp; done) | (simp; omega)) fun z G4 H4 nz zz s g tz => ?_
      have naz := ne_of_none ta.h nz
      have nbz := ne_of_none tb.h nz
      have ta := ta.monoN s
      have tb := tb.monoN s
      walk_at "zrd"
      exact k z G4 H4 g (.inl ⟨a, b, hd, lp, za, zb, nab, tz, ta, tb, er⟩)
    | some v =>
      refine i_bF rfl ?_
      obtain ⟨n, rfl, rk⟩ := kn.rk.val _ _ hvt
      walk_at "zrd"
      refine fld (g.sub _ _ hp) cl nK sf.fk ?_
      walk_at "zrd"
      refine fld (g.sub _ _ hp) cl nF sf.ff ?_
      walk_at "zrd"
      refine dgetN (g.sub _ _ sf.hk) (sf.kx.mono g.sub) (sf.hf.mono g.sub) hvt ?_
      walk_at "zrd"
      refine methq (g.sub _ _ hp) sf.nlo ?_
      walk_at "zrd"
      refine ⟨G2, p, _, ld, ST, ks, n, rfl, g.sub, sc, rk, fun a wd G3 H3 na s3 ta lr => ?_⟩
      have za := g.fresh na
      have g := g.seqN s3
      have hp := s3.gg _ _ hp
      walk_at "zrd"
      refine methq (g.sub _ _ hp) sf.npa ?_
      walk_at "zrd"
      refine ⟨G3, p, _, ld, ST, ks, n, rfl, g.sub, sc.mono s3.gg, rk, fun b as pp G4 H4 nb s4 tb pr pa => ?_⟩
      have zb := g.fresh nb
      have nab : a ≠ b := ne_of_none ta.h nb
      have g := g.seqN s4
      have ta := ta.monoN s4
      walk_at "zrd"
      refine newT (K := K) g (by first | omega | (simp; done) | (simp; omega)) fun z G5 H5 nz zz s g tz => ?_
      have naz := ne_of_none ta.h nz
      have nbz := ne_of_none tb.h nz
      have ta := ta.monoN s
      have tb := tb.monoN s
      walk_at "zrd"
      exact k z G5 H5 g (.inr ⟨a, b, wd, as, pp, n, ST, za, zb, nab, tz, ta, lr, tb, Paired.imp (fun _ _ h => RowP.mono s.gg h) pr, pa, kn.sto⟩)
end
end Z
set_option Elab.async false
set_option linter.all false
set_option maxRecDepth 100000
set_option maxHeartbeats 4000000
namespace Z
open PySem PySem.Spec PyProof.Rows L2
local macro_rules | `(tactic| walk_at "zrd") => `(tactic| (repeat (first | ((with_reducible apply i_var); (· exact rfl)) | with_reducible refine i_c ?_ | with_reducible refine i_op ?_ | with_reducible refine i_I0 ?_ | with_reducible refine i_eqI ?_ | with_reducible refine i_neI ?_ | with_reducible refine i_test ?_ | with_reducible refine i_cons ?_ | with_reducible refine i_nil ?_ | with_reducible refine i_seq ?_ | with_reducible refine i_nx ?_ | with_reducible refine i_rt ?_ | with_reducible refine i_pass ?_ | with_reducible refine i_asg ?_ | with_reducible refine i_gname ?_ | with_reducible refine i_ret ?_ | with_reducible refine i_drop ?_ | with_reducible refine i_ifS ?_ | with_reducible refine i_if ?_ | with_reducible refine i_not ?_ | with_reducible refine i_and ?_ | with_reducible refine i_or ?_ | with_reducible refine i_lst ?_ | with_reducible refine i_tup ?_ | with_reducible refine i_cb ?_ | with_reducible refine i_call ?_ | with_reducible refine i_gsub ?_ | with_reducible refine i_B ?_ | with_reducible refine i_un ?_ | with_reducible refine i_U ?_ | with_reducible refine i_eqOI ?_ | with_reducible refine i_eqIO ?_ | with_reducible refine i_forL ?_ | with_reducible refine i_forT ?_ | with_reducible refine i_forR ?_ | with_reducible refine i_forR2 ?_ | with_reducible refine i_forR3 ?_ | with_reducible refine i_forE ?_ | with_reducible refine i_lcL ?_ | with_reducible refine i_lcT ?_ | with_reducible refine i_lcR ?_ | with_reducible refine i_yes ?_ | with_reducible refine i_lce ?_ | with_reducible refine i_lcf ?_ | with_reducible refine i_gcons ?_ | with_reducible refine i_gnil ?_ | with_reducible refine i_chain ?_ | with_reducible refine i_t ?_ | with_reducible refine i_f ?_ | with_reducible refine i_nt ?_ | with_reducible refine i_nf ?_ | with_reducible refine i_bm ?_ | with_reducible refine i_bm0 ?_ | with_reducible refine i_and2 ?_ | with_reducible refine i_or2 ?_ | with_reducible refine i_intI ?_ | with_reducible refine i_intB ?_ | with_reducible refine i_sl ?_ | with_reducible refine i_part ?_ | with_reducible refine i_nopart ?_ | with_reducible refine i_cut ?_ | with_reducible refine i_lrg ?_ | with_reducible refine i_make ?_ | with_reducible refine i_meth ?_ | with_reducible refine i_fld ?_ | with_reducible refine i_sfld ?_ | with_reducible refine i_dnew ?_ | with_reducible refine i_par3 ?_ | with_reducible refine i_par3e ?_ | with_reducible refine i_par2 ?_ | with_reducible refine i_par2e ?_ | with_reducible refine i_dput ?_ | with_reducible refine i_dget2 ?_ | with_reducible refine i_din ?_ | with_reducible refine i_dget ?_ | with_reducible refine i_isO ?_ | with_reducible refine i_isR ?_ | with_reducible refine i_isN ?_ | with_reducible refine i_isI ?_ | with_reducible refine i_noO ?_ | with_reducible refine i_noR ?_ | with_reducible refine i_noN ?_ | with_reducible refine i_noI ?_ | with_reducible refine i_dgetN ?_ | with_reducible refine i_dputN ?_ | with_reducible refine i_dnewN ?_ | with_reducible refine i_ckw ?_ | with_reducible refine (show ∃ k, V.bl _ = V.bl k ∧ _ from ⟨_, rfl, ?_⟩) | with_reducible refine (show ∃ k, V.int _ = V.int k ∧ _ from ⟨_, rfl, ?_⟩) | ((with_reducible apply i_ixL); (· assumption); (· exact rfl)) | ((with_reducible apply i_ixT); (· assumption); (· exact rfl)) | ((with_reducible apply i_lenL); (· assumption)) | ((with_reducible apply i_lenT); (· assumption)) | ((with_reducible apply i_I); (· (first | omega | (dsimp only; omega) | exact ⟨by omega, by omega⟩ | exact Or.inr ⟨by omega, by omega⟩ | exact Or.inl ⟨by omega, by omega⟩ | exact ⟨by decide, by decide, by decide⟩))) | ((with_reducible apply i_gtup); (· assumption); (· rfl)) | ((with_reducible apply i_p); (· omega)) | ((with_reducible apply i_n); (· omega)) | ((with_reducible apply i_np); (· omega)) | ((with_reducible apply i_nn); (· omega)) | ((with_reducible apply i_lcP); (· omega)) | ((with_reducible apply i_lcN); (· omega)) | ((with_reducible apply i_lcnP); (· omega)) | ((with_reducible apply i_lcnN); (· omega)))))
section
variable {P : Program} {w : World} {K : PySem.W.Frag} {mg : Str → Option Value} {base : Heap} {f : Addr} {fd : FuncData}
abbrev s_law_limits : Stmt := topS 33
theorem sc_law_limits : FnScope ["_law_words", "_law_wide", "_law_bears", "_law_gap"] ["_law_words"] (defScope s_law_limits) := ⟨rfl, rfl, rfl, by decide +kernel, rfl, by decide +kernel, by decide +kernel⟩
abbrev s_law_many : Stmt := topS 38
theorem sc_law_many : FnScope ["_law_words", "_law_load_here", "_law_many_here", "_law_limit"] ["_law_words", "_law_load_here"] (defScope s_law_many) := ⟨rfl, rfl, rfl, by decide +kernel, rfl, by decide +kernel, by decide +kernel⟩
theorem ok_limL (T : Txt K mg) (F : Fun K "_law_limits" "_law_limits" s_law_limits f fd) : FnOk P w K mg base CX0 1 f fd ["_law_words"] (spLimL K) := by
  refine F.ok sc_law_limits (fun vs H Q E h => ?_) (fun cdv A outer s H0 vs Q E hr h => ?_)
  · obtain ⟨G, m, ws, rfl, _⟩ := h
    rfl
  · obtain ⟨G0, m, ws, rfl, sb, ⟨wa, hwa, wpr⟩, okw, k⟩ := h
    refine ⟨_, (pss_one (ps_ret (pe_lc (own := [("_law_wide", 1), ("_law_bears", 2), ("_law_gap", 3)]) (g := gTup K 3 (gCons (gName 1) (gCons (gName 2) (gCons (gName 3) gNil)))) rfl sc_law_limits.nd (pi_list (pv 0)) (blkOk_by (own := [("_law_wide", 1), ("_law_bears", 2), ("_law_gap", 3)]) (N := ["_law_words", "_law_wide", "_law_bears", "_law_gap"]) (sc := defScope s_law_limits) (by decide +kernel)) (fun _ _ _ _ _ => (pg_tup rfl (pgs_cons (pg_name (i := 1) sc_law_limits.nd rfl (Or.inl rfl)) (pgs_cons (pg_name (i := 2) sc_law_limits.nd rfl (Or.inl rfl)) (pgs_cons (pg_name (i := 3) sc_law_limits.nd rfl (Or.inl rfl)) pgs_nil))))) (fun _ _ _ _ _ => pts_nil) (fun _ _ _ _ _ => (pe_ix (r := rIxL K) ix_list (pe_lst (pa_cons (pe_op op_mul (pv 2) (pv 3)) (pa_cons pe_non pa_nil))) (pe_callTy cl_int (by rfl) T.b_int (by decide +kernel) (pa_cons (pe_cmpR op_ge (pv 2) (pv 1) (nomark _)) pa_nil)) (fun _ _ => rfl)))))), ?_⟩
    try dsimp only [cxOf, L2.Cx.nox, L2.Cx.wish]
    refine i_start (σ' := [some (.ref m), none, none, none]) rfl ?_
    have g : Gr No G0 H0 G0 H0 := Gr.refl sb
    have ew : (wa.map V.ref).length = ws.length := by rw [List.length_map, Paired.len wpr, List.length_map]
    have w4 := okw.l4
    have gA := g
    walk_at "zrd"
    refine lcL (Z.ls (K := K) hwa g.sub) (fun D i H' => Gr No G0 H0 G0 H' ∧ At G0 H' D (.lst (((ws.map lim).take i).map vO))) ?_ ?_ ?_ ?_
    · intro D nD
      exact ⟨g.new nD, At.of g nD⟩
    · rintro D i H' nD ⟨g, tD⟩
      exact Z.ls hwa g.sub
    · rintro D i x H' nD hx ⟨g, tD⟩
      have hi : i < ws.length := by rw [← ew]; exact (List.getElem?_eq_some_iff.mp hx).1
      obtain ⟨ap, hap, hat⟩ := word_at wpr (List.getElem?_eq_getElem hi)
      rw [hap] at hx
      cases hx
      have hat := sqt (K := K) g.sub hat
      obtain ⟨o1, o2, o3, o4, o5, o6⟩ := okw.ok ws[i] (List.getElem_mem hi)
      have hlt : (ws.map lim)[i]? = some (lim ws[i]) := by rw [List.getElem?_map, List.getElem?_eq_getElem hi]; rfl
      have htl : (((ws.map lim).take i).map vO).length ≤ 4 := by rw [List.length_map, List.length_take, List.length_map]; omega
      rw [List.take_add_one, hlt, List.map_append]
      walk_at "zrd"
      refine i_lcw rfl ?_
      walk_at "zrd"
      refine newL g (by first | omega | (simp; done) | (simp; omega)) fun q H2 nq zq s g tq => ?_
      have nDq := ne_of_none tD.h nq
      have tD := tD.monoN s
      walk_at "zrd"
      refine i_ixL (.inl (.inl tq.h)) (v := vO (lim ws[i])) ?_ ?_
      · unfold lim
        by_cases hc : ws[i].1 ≤ ws[i].2.1
        · rw [if_pos hc, if_pos (decide_eq_true hc)]
          exact atN (k := 1) rfl rfl
        · rw [if_neg hc, if_neg (by rw [decide_eq_true_iff]; exact hc)]
          exact atN (k := 0) rfl rfl
      refine lcp tD (by omega) ?_
      refine ⟨g.mut tD (.inr (gA.fresh nD)), ?_⟩
      exact tD.put
    · rintro D H' nD ⟨g, tD⟩
      rw [ew, show ws.length = (ws.map lim).length from (List.length_map _).symm, List.take_length] at tD
      walk_at "zrd"
      exact k D H' nD g tD
theorem ok_many (T : Txt K mg) (C__law_limits : Cal P w K mg base "_law_limits" 1 ["_law_words"] (spLimL K)) (F : Fun K "_law_many" "_law_many" s_law_many f fd) : FnOk P w K mg base CX0 2 f fd ["_law_words", "_law_load_here"] (spMany K) := by
  refine F.ok sc_law_many (fun vs H Q E h => ?_) (fun cdv A outer s H0 vs Q E hr h => ?_)
  · obtain ⟨G, m, l, ws, ld, rfl, _⟩ := h
    rfl
  · obtain ⟨G0, m, l, ws, ld, rfl, sb, hw, okw, hl, k⟩ := h
    refine ⟨_, (pss_cons (ps_set (i := 2) sc_law_many.nd rfl (Or.inl rfl) (pe_callB (r := rLen K) cl_len (by rfl) T.b_len (by decide +kernel) (pa_cons (pv 1) pa_nil)))
      (pss_cons (ps_for PassesOwn.never rfl (pi_list (pc C__law_limits (hr.mono (by decide)) (pa_cons (pv 0) pa_nil))) (pg_name (i := 3) sc_law_many.nd rfl (Or.inl rfl)) (pss_one (ps_if (pt_cmpR op_notNz (pv 3) pe_non (nomark _)) (pss_one (ps_set (i := 2) sc_law_many.nd rfl (Or.inl rfl) (pe_op op_mul (pv 2) (pe_op op_add (pv 3) pe_int)))) pss_nil)))
      (pss_one (ps_ret (pv 2))))), ?_⟩
    try dsimp only [cxOf, L2.Cx.nox, L2.Cx.wish]
    refine i_start (σ' := [some (.ref m), some (.ref l), none, none]) rfl ?_
    have g : Gr No G0 H0 G0 H0 := Gr.refl sb
    have oke := okEn_of okw
    have e0 : (ld.map V.int).length = ld.length := List.length_map _
    have emf : manyF (ws.map lim) (ld.length : Nat) = (manyS (ws.map lim) ld : Nat) := manyF_eq _ _ fun L h => (oke.nn L h).1
    walk_at "zrd"
    refine i_lenL (Z.ls hl g.sub) ?_
    walk_at "zrd"
    rw [e0]
    refine i_limL g hw okw fun e H1 ne s g te => ?_
    have e1 : ((ws.map lim).map vO).length = (ws.map lim).length := List.length_map _
    refine forL (.inl (.inl te.h)) (fun i σ H' => ∃ (v4 : Option V), σ = [some (.ref m), some (.ref l), some (.int (manyF ((ws.map lim).take i) (ld.length : Nat))), v4] ∧ H' = H1) (by exact ⟨none, rfl, rfl⟩) ?_ ?_ ?_
    · rintro i σ H' hi ⟨v4, rfl, rfl⟩
      exact .inl (.inl te.h)
    · rintro i x σ H' hx ⟨v4, rfl, rfl⟩
      obtain ⟨o, ho, rfl⟩ := map_at hx
      rw [manyF_take ho]
      walk_at "zrd"
      cases o with
      | none =>
        refine i_np rfl ?_
        walk_at "zrd"
        exact ⟨_, rfl, rfl⟩
      | some L =>
        refine i_nn (by simp) ?_
        dsimp only [vO]
        have hL := oke.nn L (List.mem_of_getElem? ho)
        walk_at "zrd"
        exact ⟨_, rfl, rfl⟩
    · rintro σ H' ⟨v4, rfl, rfl⟩
      rw [e1, List.take_length, emf]
      walk_at "zrd"
      exact k _ g
end
end Z
set_option Elab.async false
set_option linter.all false
set_option maxRecDepth 100000
set_option maxHeartbeats 4000000
namespace Z
open PySem PySem.Spec PyProof.Rows L2
/-! ### what is held with freer limits, loads -/
theorem getD_snoc_lt {α : Type} {xs : List α} {y d : α} {i : Nat} (h : i < xs.length) : (xs ++ [y]).getD i d = xs.getD i d := by
  rw [List.getD_eq_getElem?_getD, List.getD_eq_getElem?_getD, List.getElem?_append_left h]
theorem getD_snoc_eq {α : Type} {xs : List α} {y d : α} {i : Nat} (h : xs.length = i) : (xs ++ [y]).getD i d = y := by
  rw [List.getD_eq_getElem?_getD, List.getElem?_append_right (by omega), h, Nat.sub_self]
  rfl
section
variable {en : List (Option Int)} {ld : List Int} {s t : S} {o : Option Int}
theorem beh_iff {ages : List Int} : ∀ {n : Nat} {xs : List Int}, beh en ages o n = some xs ↔ xs.length = n ∧ ∀ i, i < n → nx1 en ages o i = some (xs.getD i 0)
  | 0, xs => by
    constructor
    · intro h
      cases h
      exact ⟨rfl, fun i hi => absurd hi (Nat.not_lt_zero i)⟩
    · rintro ⟨h, _⟩
      rw [List.length_eq_zero_iff.mp h]
      rfl
  | n + 1, xs => by
    rw [beh]
    constructor
    · intro h
      cases h1 : beh en ages o n with
      | none => rw [h1] at h; cases h
      | some ys =>
        rw [h1] at h
        obtain ⟨e1, e2⟩ := (beh_iff (xs := ys)).mp h1
        have h : (match nx1 en ages o n with | none => none | some a => some (ys ++ [a])) = some xs := h
        cases h2 : nx1 en ages o n with
        | none => rw [h2] at h; cases h
        | some a =>
          rw [h2] at h
          cases h
          refine ⟨by rw [List.length_append, e1]; rfl, fun i hi => ?_⟩
          rcases Nat.lt_or_ge i n with h3 | h3
          · rw [getD_snoc_lt (by omega)]
            exact e2 i h3
          · obtain rfl : i = n := by omega
            rw [getD_snoc_eq e1]
            exact h2
    · rintro ⟨h1, h2⟩
      have hne : xs ≠ [] := by rintro rfl; simp at h1
      have e := (List.dropLast_concat_getLast hne).symm
      have hl : xs.dropLast.length = n := by rw [List.length_dropLast]; omega
      have h3 : beh en ages o n = some xs.dropLast := beh_iff.mpr ⟨hl, fun i hi => by
        have := h2 i (by omega)
        rw [e, getD_snoc_lt (by omega)] at this
        exact this⟩
      have h4 := h2 n (by omega)
      rw [e, getD_snoc_eq hl] at h4
      rw [h3, h4]
      show some (xs.dropLast ++ [xs.getLast hne]) = some xs
      rw [← e]
theorem step_iff : step en ld s o = some t ↔ t.1 = (s.1 + 1) % (ld.length : Nat) ∧ t.2.length = en.length ∧ ∀ i, i < en.length → nx1 en s.2 o i = some (t.2.getD i 0) := by
  unfold step
  rw [Option.map_eq_some_iff]
  constructor
  · rintro ⟨xs, h1, rfl⟩
    obtain ⟨h2, h3⟩ := beh_iff.mp h1
    exact ⟨rfl, h2, h3⟩
  · rintro ⟨h1, h2, h3⟩
    exact ⟨t.2, beh_iff.mpr ⟨h2, h3⟩, by rw [← h1]⟩
theorem mem_opts : o ∈ opts en ld s ↔ o = none ∨ ∃ i : Nat, o = some (i : Int) ∧ i < en.length ∧ (en.getD i none).isSome ∧ ld.getD s.1.toNat 1 = 0 := by
  unfold opts
  rw [List.mem_cons]
  constructor
  · rintro (h | h)
    · exact .inl h
    · split at h
      · rename_i hz
        unfold lims at h
        obtain ⟨i, hi, rfl⟩ := List.mem_map.mp h
        obtain ⟨h1, h2⟩ := List.mem_filter.mp hi
        exact .inr ⟨i, rfl, List.mem_range.mp h1, h2, hz⟩
      · cases h
  · rintro (h | ⟨i, rfl, h1, h2, h3⟩)
    · exact .inl h
    · refine .inr ?_
      rw [if_pos h3]
      unfold lims
      exact List.mem_map.mpr ⟨i, List.mem_filter.mpr ⟨List.mem_range.mpr h1, h2⟩, rfl⟩
end
/-- the words of en' are words of en, with limits no less -/
structure Emb (en en' : List (Option Int)) (f : Nat → Nat) : Prop where
  lt : ∀ j, j < en'.length → f j < en.length
  inj : ∀ i j, i < en'.length → j < en'.length → f i = f j → i = j
  le : ∀ j L', j < en'.length → en'.getD j none = some L' → ∃ L, en.getD (f j) none = some L ∧ L ≤ L'
/-- the phases of ld and ld' go together, free beats stay free -/
structure Phs (ld ld' : List Int) (φ : Int → Int → Prop) : Prop where
  z : φ 0 0
  st : ∀ a b, φ a b → φ ((a + 1) % (ld.length : Nat)) ((b + 1) % (ld'.length : Nat))
  fr : ∀ a b, φ a b → ld.getD a.toNat 1 = 0 → ld'.getD b.toNat 1 = 0
structure Sim (en en' : List (Option Int)) (f : Nat → Nat) (φ : Int → Int → Prop) (s s' : S) : Prop where
  ph : φ s.1 s'.1
  ag : ∀ j L', j < en'.length → en'.getD j none = some L' → s'.2.getD j 0 ≤ s.2.getD (f j) 0
section
variable {en en' : List (Option Int)} {ld ld' : List Int} {f : Nat → Nat} {φ : Int → Int → Prop} {s s' t : S} {o : Option Int}
open Classical in
theorem sim_step (E : Emb en en' f) (P : Phs ld ld' φ) (S : Sim en en' f φ s s') (ho : o ∈ opts en ld s) (e : step en ld s o = some t) : ∃ o' ∈ opts en' ld' s', ∃ t', step en' ld' s' o' = some t' ∧ Sim en en' f φ t t' := by
  obtain ⟨o', ho', hoo⟩ : ∃ o' ∈ opts en' ld' s', ∀ j, j < en'.length → (en'.getD j none).isSome → (o' = some ((j : Nat) : Int) ↔ o = some ((f j : Nat) : Int)) := by
    by_cases h : ∃ j, j < en'.length ∧ (en'.getD j none).isSome ∧ o = some ((f j : Nat) : Int)
    · obtain ⟨j, h1, h2, h3⟩ := h
      refine ⟨some (j : Nat), ?_, fun k hk hk2 => ?_⟩
      · refine mem_opts.mpr (.inr ⟨j, rfl, h1, h2, ?_⟩)
        rcases mem_opts.mp ho with h4 | ⟨i, _, _, _, h5⟩
        · rw [h3] at h4; cases h4
        · exact P.fr _ _ S.ph h5
      · rw [h3]
        constructor
        · intro e
          injection e with e
          have : j = k := by omega
          rw [this]
        · intro e
          injection e with e
          have := E.inj j k h1 hk (by omega)
          rw [this]
    · refine ⟨none, mem_opts.mpr (.inl rfl), fun k hk hk2 => ?_⟩
      constructor
      · intro e; cases e
      · intro e; exact absurd ⟨k, hk, hk2, e⟩ h
  obtain ⟨e1, e2, e3⟩ := step_iff.mp e
  have key : ∀ j, j < en'.length → ∃ a, nx1 en' s'.2 o' j = some a ∧ ∀ L', en'.getD j none = some L' → a ≤ t.2.getD (f j) 0 := by
    intro j hj
    cases hL : en'.getD j none with
    | none => exact ⟨0, by unfold nx1; rw [hL], fun L' h => by cases h⟩
    | some L' =>
      obtain ⟨L, h1, h2⟩ := E.le j L' hj hL
      have h3 := e3 (f j) (E.lt j hj)
      have h4 := S.ag j L' hj hL
      have h5 := hoo j hj (by rw [hL]; rfl)
      unfold nx1 at h3
      rw [h1] at h3
      have h3 : (if L < (if o = some ((f j : Nat) : Int) then (1 : Int) else s.2.getD (f j) 0 + 1) then none else some (if o = some ((f j : Nat) : Int) then (1 : Int) else s.2.getD (f j) 0 + 1)) = some (t.2.getD (f j) 0) := h3
      have h6 : (if o' = some ((j : Nat) : Int) then (1 : Int) else s'.2.getD j 0 + 1) ≤ (if o = some ((f j : Nat) : Int) then (1 : Int) else s.2.getD (f j) 0 + 1) := by
        by_cases h7 : o = some ((f j : Nat) : Int)
        · rw [if_pos h7, if_pos (h5.mpr h7)]; omega
        · rw [if_neg h7, if_neg fun z => h7 (h5.mp z)]; omega
      by_cases h8 : L < (if o = some ((f j : Nat) : Int) then (1 : Int) else s.2.getD (f j) 0 + 1)
      · rw [if_pos h8] at h3; cases h3
      · rw [if_neg h8] at h3
        injection h3 with h3
        refine ⟨if o' = some ((j : Nat) : Int) then (1 : Int) else s'.2.getD j 0 + 1, ?_, fun L'' h => ?_⟩
        · unfold nx1
          rw [hL]
          show (if L' < (if o' = some ((j : Nat) : Int) then (1 : Int) else s'.2.getD j 0 + 1) then none else some (if o' = some ((j : Nat) : Int) then (1 : Int) else s'.2.getD j 0 + 1)) = some (if o' = some ((j : Nat) : Int) then (1 : Int) else s'.2.getD j 0 + 1)
          rw [if_neg (by omega)]
        · omega
  refine ⟨o', ho', ((s'.1 + 1) % (ld'.length : Nat), (List.range en'.length).map fun j => (nx1 en' s'.2 o' j).getD 0), ?_, ?_⟩
  · have hg : ∀ i, i < en'.length → ((List.range en'.length).map fun j => (nx1 en' s'.2 o' j).getD 0).getD i 0 = (nx1 en' s'.2 o' i).getD 0 := fun i hi => by
      rw [List.getD_eq_getElem?_getD, List.getElem?_map, List.getElem?_range hi]; rfl
    refine step_iff.mpr ⟨rfl, by rw [List.length_map, List.length_range], fun i hi => ?_⟩
    rw [hg i hi]
    obtain ⟨a, h1, _⟩ := key i hi
    rw [h1]
    rfl
  · refine ⟨by rw [e1]; exact P.st _ _ S.ph, fun j L' hj hL => ?_⟩
    show ((List.range en'.length).map fun j => (nx1 en' s'.2 o' j).getD 0).getD j 0 ≤ _
    rw [List.getD_eq_getElem?_getD, List.getElem?_map, List.getElem?_range hj]
    obtain ⟨a, h1, h2⟩ := key j hj
    show (nx1 en' s'.2 o' j).getD 0 ≤ _
    rw [h1]
    exact h2 L' hL
theorem sim_hold (E : Emb en en' f) (P : Phs ld ld' φ) : ∀ {n : Nat} {s s' : Z.S}, Sim en en' f φ s s' → hold en ld n s → hold en' ld' n s'
  | 0, _, _, _, _ => True.intro
  | n + 1, s, s', S, ⟨o, ho, t, e, h⟩ => by
    obtain ⟨o', ho', t', e', S'⟩ := sim_step E P S ho e
    exact ⟨o', ho', t', e', sim_hold E P S' h⟩
theorem firstS_get {i : Nat} : (firstS en).2.getD i 0 = 0 := by
  unfold firstS
  show (List.replicate en.length (0 : Int)).getD i 0 = 0
  rw [List.getD_eq_getElem?_getD]
  rcases Nat.lt_or_ge i en.length with h | h
  · rw [List.getElem?_replicate, if_pos h]; rfl
  · rw [List.getElem?_eq_none (by rw [List.length_replicate]; exact h)]; rfl
theorem sim_first (P : Phs ld ld' φ) : Sim en en' f φ (firstS en) (firstS en') := ⟨P.z, fun j L' hj hL => by rw [firstS_get, firstS_get]; exact Int.le_refl 0⟩
theorem freer (E : Emb en en' f) (P : Phs ld ld' φ) {n : Nat} (h : hold en ld n (firstS en)) : hold en' ld' n (firstS en') := sim_hold E P (sim_first P) h
theorem freer_lasts (E : Emb en en' f) (P : Phs ld ld' φ) (h : Lasts en ld (firstS en)) : Lasts en' ld' (firstS en') := fun n => freer E P (h n)
theorem freer_rank (E : Emb en en' f) (P : Phs ld ld' φ) {n m : Nat} (h : Rank en ld (firstS en) n) (k : Rank en' ld' (firstS en') m) : n ≤ m := by
  rcases Nat.lt_or_ge m n with l | l
  · exact absurd (hold_mono l (freer E P h.1)) k.2
  · exact l
end
theorem phs_same (ld : List Int) : Phs ld ld (fun a b => a = b) := ⟨rfl, fun a b h => by rw [h], fun a b h e => by rw [← h]; exact e⟩
theorem phs_free {ld ld' : List Int} (hl : ld'.length = ld.length) (h : ∀ i, ld.getD i 1 = 0 → ld'.getD i 1 = 0) : Phs ld ld' (fun a b => a = b) := ⟨rfl, fun a b h => by rw [h, hl], fun a b e z => by rw [← e]; exact h _ z⟩
theorem emb_same (en : List (Option Int)) : Emb en en id := ⟨fun j h => h, fun i j _ _ h => h, fun j L _ h => ⟨L, h, Int.le_refl L⟩⟩
/-- one word less -/
theorem emb_less {en : List (Option Int)} (g : Nat) : Emb en (en.take g ++ en.drop (g + 1)) (fun j => if j < g then j else j + 1) := by
  rcases Nat.lt_or_ge g en.length with hg | hg
  · have hlen : (en.take g ++ en.drop (g + 1)).length = en.length - 1 := by
      rw [List.length_append, List.length_take, List.length_drop]; omega
    refine ⟨fun j hj => ?_, fun i j hi hj e => ?_, fun j L' hj e => ?_⟩
    · rw [hlen] at hj
      show (if j < g then j else j + 1) < _
      split <;> omega
    · have e : (if i < g then i else i + 1) = (if j < g then j else j + 1) := e
      split at e <;> split at e <;> omega
    · rw [hlen] at hj
      have e2 : (en.take g ++ en.drop (g + 1)).getD j none = en.getD (if j < g then j else j + 1) none := by
        rw [List.getD_eq_getElem?_getD, List.getD_eq_getElem?_getD]
        split
        · rename_i h
          rw [List.getElem?_append_left (by rw [List.length_take]; omega), List.getElem?_take_of_lt h]
        · rename_i h
          rw [List.getElem?_append_right (by rw [List.length_take]; omega), List.length_take, List.getElem?_drop]
          congr 2
          omega
      rw [e2] at e
      exact ⟨L', e, Int.le_refl L'⟩
  · have e : en.take g ++ en.drop (g + 1) = en := by
      rw [List.take_of_length_le hg, List.drop_eq_nil_of_le (by omega), List.append_nil]
    rw [e]
    refine ⟨fun j hj => ?_, fun i j hi hj e => ?_, fun j L' hj e => ?_⟩
    · show (if j < g then j else j + 1) < _
      rw [if_pos (by omega)]; exact hj
    · have e : (if i < g then i else i + 1) = (if j < g then j else j + 1) := e
      rw [if_pos (by omega), if_pos (by omega)] at e
      exact e
    · show ∃ L, en.getD (if j < g then j else j + 1) none = some L ∧ L ≤ L'
      rw [if_pos (by omega)]
      exact ⟨L', e, Int.le_refl L'⟩
/-! ### the kinds of what is held -/
def HSem (en : List (Option Int)) (ld : List Int) (x : Option (Option Nat)) : Prop := match x with
  | none => 2000 < manyS en ld
  | some none => manyS en ld ≤ 2000 ∧ Lasts en ld (firstS en)
  | some (some n) => manyS en ld ≤ 2000 ∧ Rank en ld (firstS en) n
theorem HSem.uniq {en : List (Option Int)} {ld : List Int} {x y : Option (Option Nat)} (h : HSem en ld x) (k : HSem en ld y) : x = y := by
  match x, y, h, k with
  | none, none, _, _ => rfl
  | none, some none, h, k => exact absurd k.1 (Nat.not_le_of_lt h)
  | none, some (some n), h, k => exact absurd k.1 (Nat.not_le_of_lt h)
  | some none, none, h, k => exact absurd h.1 (Nat.not_le_of_lt k)
  | some none, some none, _, _ => rfl
  | some none, some (some n), h, k => exact (k.2.not h.2).elim
  | some (some n), none, h, k => exact absurd h.1 (Nat.not_le_of_lt k)
  | some (some n), some none, h, k => exact (h.2.not k.2).elim
  | some (some n), some (some m), h, k => rw [h.2.uniq k.2]
def HV (K : PySem.W.Frag) (G : Hp) (v : V) (x : Option (Option Nat)) : Prop := match x with
  | none => v = .non
  | some none => ∃ q, v = .ref q ∧ SqT K G q [.str "endless"]
  | some (some n) => ∃ q, v = .ref q ∧ SqT K G q [.str "ends", .int (n : Nat)]
theorem HV.mono {K : PySem.W.Frag} {G G' : Hp} {v : V} {x : Option (Option Nat)} (e : Same G G') (h : HV K G v x) : HV K G' v x := by
  match x, h with
  | none, h => exact h
  | some none, ⟨q, h1, h2⟩ => exact ⟨q, h1, sqt e h2⟩
  | some (some n), ⟨q, h1, h2⟩ => exact ⟨q, h1, sqt e h2⟩
def dHV (x : Option (Option Nat)) : PyData := match x with
  | none => .none
  | some none => .tuple [.str "endless"]
  | some (some n) => .tuple [.str "ends", .int (n : Nat)]
theorem dp_HV {K : PySem.W.Frag} {G : Hp} {v : V} {x : Option (Option Nat)} (h : HV K G v x) : Dp K G v (dHV x) := by
  match x, h with
  | none, h =>
    have e : v = .non := h
    subst e
    exact .non
  | some none, ⟨q, h1, h2⟩ =>
    subst h1
    exact .tup h2 (.cons (.str _) .nil)
  | some (some n), ⟨q, h1, h2⟩ =>
    subst h1
    exact .tup h2 (.cons (.str _) (.cons (.int _) .nil))
theorem dk_sE {k : Nat} : Dk k (.str "endless") := ⟨by decide +kernel, Nat.zero_le _⟩
theorem dk_sN {k : Nat} : Dk k (.str "ends") := ⟨by decide +kernel, Nat.zero_le _⟩
theorem dk_HV1 : Dk 1 (dHV (some none)) := dk_tup fun d h => by
  rw [List.mem_singleton.mp h]
  exact dk_sE
theorem dk_HV2 (n : Nat) : Dk 1 (dHV (some (some n))) := dk_tup fun d h => by
  simp only [List.mem_cons, List.not_mem_nil, or_false] at h
  rcases h with rfl | rfl
  · exact dk_sN
  · exact dk_int
theorem dk_HV (x : Option (Option Nat)) : Dk 1 (dHV x) := by
  match x with
  | none => exact dk_non
  | some none => exact dk_HV1
  | some (some n) => exact dk_HV2 n
/-- promises -/
def spSmall (K : PySem.W.Frag) : Sp := fun vs H Q _ => ∃ (G : Hp) (d : Addr) (m : Int), vs = [.ref d, .int m] ∧ Same G H ∧ Dice K G H d ∧ 0 < m ∧ m ≤ 4 ∧
  ∀ ws p G' H', Gr (· = d) G H G' H' → Dice K G' H' d → H p = none → TupL K G' p (ws.map vW) → OkWs ws → (ws.length : Int) ≤ m → (∀ w ∈ ws, 2 ≤ w.1 ∧ w.1 ≤ 4 ∧ w.2.1 ≤ 2 ∧ w.2.2 ≤ 5) → Q (.ref p) H'
def spKind (K : PySem.W.Frag) : Sp := fun vs H Q _ => ∃ (G : Hp) (r : Addr) (en : List (Option Int)) (ld : List Int), vs = [.ref r] ∧ Same G H ∧ HeldT K G r en ld ∧
  ∀ v x G' H', Gr No G H G' H' → HV K G' v (some x) → (match x with | none => Lasts en ld (firstS en) | some n => Rank en ld (firstS en) n) → Q v H'
def spHeldL (K : PySem.W.Frag) (CM : Addr) : Sp := fun vs H Q _ => ∃ (G : Hp) (m l a : Addr) (ws : List W3) (ld : List Int), vs = [.ref m, .ref l, .ref a] ∧ Same G H ∧ MemAt K CM G m ws ∧ G l = some (.lst (ld.map V.int)) ∧ OkLd ld ∧ TupL K G a (ws.map vW) ∧
  ∀ v x G' H', Gr No G H G' H' → HV K G' v x → HSem (ws.map lim) ld x → Q v H'
section
variable {K : PySem.W.Frag} {X : Addr → Prop} {G0 H0 G H : Hp} {Q : VK} {E : XK} {m l a d r CM : Addr} {ws : List W3} {ld : List Int} {en : List (Option Int)}
theorem i_small {n : Int} (g : Gr X G0 H0 G H) (D : Dice K G H d) (hd : X d ∨ H0 d = none) (h0 : 0 < n) (h1 : n ≤ 4)
    (k : ∀ ws p G' H', H p = none → Gr (· = d) G H G' H' → Gr X G0 H0 G' H' → Dice K G' H' d → TupL K G' p (ws.map vW) → OkWs ws → (ws.length : Int) ≤ n → (∀ w ∈ ws, 2 ≤ w.1 ∧ w.1 ≤ 4 ∧ w.2.1 ≤ 2 ∧ w.2.2 ≤ 5) → Q (.ref p) H') : spSmall K ([.ref d, .int n] ++ []) H Q E :=
  ⟨G, d, n, rfl, g.sub, D, h0, h1, fun ws p G' H' s D' np => k ws p G' H' np s (g.seq s fun c e => by rw [e]; exact hd) D'⟩
theorem i_kind (g : Gr X G0 H0 G H) (h : HeldT K G r en ld) (k : ∀ v x G' H', Gr No G H G' H' → Gr X G0 H0 G' H' → HV K G' v (some x) → (match x with | none => Lasts en ld (firstS en) | some n => Rank en ld (firstS en) n) → Q v H') : spKind K ([.ref r] ++ []) H Q E :=
  ⟨G, r, en, ld, rfl, g.sub, h, fun v x G' H' s => k v x G' H' s (g.seqN s)⟩
theorem i_heldL (g : Gr X G0 H0 G H) (M : MemAt K CM G m ws) (hl : G l = some (.lst (ld.map V.int))) (okl : OkLd ld) (hw : TupL K G a (ws.map vW)) (k : ∀ v x G' H', Gr No G H G' H' → Gr X G0 H0 G' H' → HV K G' v x → HSem (ws.map lim) ld x → Q v H') : spHeldL K CM ([.ref m, .ref l, .ref a] ++ []) H Q E :=
  ⟨G, m, l, a, ws, ld, rfl, g.sub, M, hl, okl, hw, fun v x G' H' s => k v x G' H' s (g.seqN s)⟩
end
end Z
set_option Elab.async false
set_option linter.all false
set_option maxRecDepth 100000
set_option maxHeartbeats 4000000
namespace Z
open PySem PySem.Spec PyProof.Rows L2
local macro_rules | `(tactic| walk_at "zrd") => `(tactic| (repeat (first | ((with_reducible apply i_var); (· exact rfl)) | with_reducible refine i_c ?_ | with_reducible refine i_op ?_ | with_reducible refine i_I0 ?_ | with_reducible refine i_eqI ?_ | with_reducible refine i_neI ?_ | with_reducible refine i_test ?_ | with_reducible refine i_cons ?_ | with_reducible refine i_nil ?_ | with_reducible refine i_seq ?_ | with_reducible refine i_nx ?_ | with_reducible refine i_rt ?_ | with_reducible refine i_pass ?_ | with_reducible refine i_asg ?_ | with_reducible refine i_gname ?_ | with_reducible refine i_ret ?_ | with_reducible refine i_drop ?_ | with_reducible refine i_ifS ?_ | with_reducible refine i_if ?_ | with_reducible refine i_not ?_ | with_reducible refine i_and ?_ | with_reducible refine i_or ?_ | with_reducible refine i_lst ?_ | with_reducible refine i_tup ?_ | with_reducible refine i_cb ?_ | with_reducible refine i_call ?_ | with_reducible refine i_gsub ?_ | with_reducible refine i_B ?_ | with_reducible refine i_un ?_ | with_reducible refine i_U ?_ | with_reducible refine i_eqOI ?_ | with_reducible refine i_eqIO ?_ | with_reducible refine i_forL ?_ | with_reducible refine i_forT ?_ | with_reducible refine i_forR ?_ | with_reducible refine i_forR2 ?_ | with_reducible refine i_forR3 ?_ | with_reducible refine i_forE ?_ | with_reducible refine i_lcL ?_ | with_reducible refine i_lcT ?_ | with_reducible refine i_lcR ?_ | with_reducible refine i_yes ?_ | with_reducible refine i_lce ?_ | with_reducible refine i_lcf ?_ | with_reducible refine i_gcons ?_ | with_reducible refine i_gnil ?_ | with_reducible refine i_chain ?_ | with_reducible refine i_t ?_ | with_reducible refine i_f ?_ | with_reducible refine i_nt ?_ | with_reducible refine i_nf ?_ | with_reducible refine i_bm ?_ | with_reducible refine i_bm0 ?_ | with_reducible refine i_and2 ?_ | with_reducible refine i_or2 ?_ | with_reducible refine i_intI ?_ | with_reducible refine i_intB ?_ | with_reducible refine i_sl ?_ | with_reducible refine i_part ?_ | with_reducible refine i_nopart ?_ | with_reducible refine i_cut ?_ | with_reducible refine i_lrg ?_ | with_reducible refine i_make ?_ | with_reducible refine i_meth ?_ | with_reducible refine i_fld ?_ | with_reducible refine i_sfld ?_ | with_reducible refine i_dnew ?_ | with_reducible refine i_par3 ?_ | with_reducible refine i_par3e ?_ | with_reducible refine i_par2 ?_ | with_reducible refine i_par2e ?_ | with_reducible refine i_dput ?_ | with_reducible refine i_dget2 ?_ | with_reducible refine i_din ?_ | with_reducible refine i_dget ?_ | with_reducible refine i_isO ?_ | with_reducible refine i_isR ?_ | with_reducible refine i_isN ?_ | with_reducible refine i_isI ?_ | with_reducible refine i_noO ?_ | with_reducible refine i_noR ?_ | with_reducible refine i_noN ?_ | with_reducible refine i_noI ?_ | with_reducible refine i_dgetN ?_ | with_reducible refine i_dputN ?_ | with_reducible refine i_dnewN ?_ | with_reducible refine i_ckw ?_ | with_reducible refine (show ∃ k, V.bl _ = V.bl k ∧ _ from ⟨_, rfl, ?_⟩) | with_reducible refine (show ∃ k, V.int _ = V.int k ∧ _ from ⟨_, rfl, ?_⟩) | ((with_reducible apply i_ixL); (· assumption); (· exact rfl)) | ((with_reducible apply i_ixT); (· assumption); (· exact rfl)) | ((with_reducible apply i_lenL); (· assumption)) | ((with_reducible apply i_lenT); (· assumption)) | ((with_reducible apply i_I); (· (first | omega | (dsimp only; omega) | exact ⟨by omega, by omega⟩ | exact Or.inr ⟨by omega, by omega⟩ | exact Or.inl ⟨by omega, by omega⟩ | exact ⟨by decide, by decide, by decide⟩))) | ((with_reducible apply i_gtup); (· assumption); (· rfl)) | ((with_reducible apply i_p); (· omega)) | ((with_reducible apply i_n); (· omega)) | ((with_reducible apply i_np); (· omega)) | ((with_reducible apply i_nn); (· omega)) | ((with_reducible apply i_lcP); (· omega)) | ((with_reducible apply i_lcN); (· omega)) | ((with_reducible apply i_lcnP); (· omega)) | ((with_reducible apply i_lcnN); (· omega)))))
section
variable {P : Program} {w : World} {K : PySem.W.Frag} {mg : Str → Option Value} {base : Heap} {f : Addr} {fd : FuncData} {CM : Addr}
abbrev s_law_small : Stmt := topS 44
theorem sc_law_small : FnScope ["_law_d", "_law_most", "_law_many_here", "_law_words", "_law_k", "_law_bears"] ["_law_d", "_law_most"] (defScope s_law_small) := ⟨rfl, rfl, rfl, by decide +kernel, rfl, by decide +kernel, by decide +kernel⟩
theorem ok_small (T : Txt K mg) (C__law_next : Cal P w K mg base "_law_next" 1 ["_law_dice_here", "_law_many_here"] (spNext K)) (F : Fun K "_law_small" "_law_small" s_law_small f fd) : FnOk P w K mg base CX0 2 f fd ["_law_d", "_law_most"] (spSmall K) := by
  refine F.ok sc_law_small (fun vs H Q E h => ?_) (fun cdv A outer s H0 vs Q E hr h => ?_)
  · obtain ⟨G, d, m, rfl, _⟩ := h
    rfl
  · obtain ⟨G0, d, m, rfl, sb, D, hm0, hm4, k⟩ := h
    refine ⟨_, (pss_cons (ps_set (i := 2) sc_law_small.nd rfl (Or.inl rfl) (pe_op op_add pe_int (pc C__law_next (hr.mono (by decide)) (pa_cons (pv 0) (pa_cons (pv 1) pa_nil)))))
      (pss_cons (ps_set (i := 3) sc_law_small.nd rfl (Or.inl rfl) (pe_lst pa_nil))
      (pss_cons (ps_for PassesOwn.never rfl (pi_range1 (by rfl) T.b_range (pa_cons (pv 2) pa_nil)) (pg_name (i := 4) sc_law_small.nd rfl (Or.inl rfl)) (pss_cons (ps_set (i := 5) sc_law_small.nd rfl (Or.inl rfl) (pe_ix (r := rIxL K) ix_list (pe_lst (pa_cons pe_int (pa_cons pe_int (pa_cons pe_int (pa_cons pe_int pa_nil))))) (pc C__law_next (hr.mono (by decide)) (pa_cons (pv 0) (pa_cons pe_int pa_nil))) (fun _ _ => rfl)))
      (pss_one (ps_expr (pe_bm PySem.F.plainAttrs_list PySem.F.slot_list_append PySem.F.type_list_append mt_append (pv 3) (pa_cons (pe_tup (pa_cons (pe_op op_add pe_int (pc C__law_next (hr.mono (by decide)) (pa_cons (pv 0) (pa_cons pe_int pa_nil)))) (pa_cons (pv 5) (pa_cons (pe_op op_add pe_int (pc C__law_next (hr.mono (by decide)) (pa_cons (pv 0) (pa_cons (pe_ix (r := rIxL K) ix_list (pe_lst (pa_cons pe_int (pa_cons pe_int (pa_cons pe_int (pa_cons pe_int pa_nil))))) (pe_op op_sub (pv 2) pe_int) (fun _ _ => rfl)) pa_nil)))) pa_nil)))) pa_nil))))))
      (pss_one (ps_ret (pv 3)))))), ?_⟩
    try dsimp only [cxOf, L2.Cx.nox, L2.Cx.wish]
    refine i_start (σ' := [some (.ref d), some (.int m), none, none, none, none]) rfl ?_
    have g : Gr (· = d) G0 H0 G0 H0 := Gr.refl sb
    walk_at "zrd"
    refine i_next g D (by first | exact Or.inl rfl | exact Or.inr (by assumption)) (by omega) (by omega) fun n1 H3 s g D hn10 hn11 => ?_
    walk_at "zrd"
    refine newL g (by first | omega | (simp; done) | (simp; omega)) fun ol H2 nol zol s g tol => ?_
    have ndol := D.ne nol
    have D := D.monoN s
    walk_at "zrd"
    refine forR (by omega) (by omega) (fun i σ H' => ∃ (v4 v5 : Option V) (G : Hp) (as : List Addr) (ws : List W3), σ = [some (.ref d), some (.int m), some (.int (1 + n1)), some (.ref ol), v4, v5] ∧ Gr (· = d) G0 H0 G H' ∧ Dice K G H' d ∧ At G H' ol (.lst (as.map V.ref)) ∧ Paired (fun p t => SqT K G p t) as (ws.map vW) ∧ ws.length = i ∧ ∀ w ∈ ws, okW w ∧ (2 ≤ w.1 ∧ w.1 ≤ 4 ∧ w.2.1 ≤ 2 ∧ w.2.2 ≤ 5))
      (by exact ⟨none, none, G0, [], [], rfl, g, D, tol, .nil, rfl, by simp⟩) ?_ ?_
    · rintro i σ H' hi ⟨v4, v5, G, as, ws, rfl, g, D, tol, pr, el, ok⟩
      have hlen : as.length = ws.length := by rw [Paired.len pr, List.length_map]
      walk_at "zrd"
      refine newL g (by first | omega | (simp; done) | (simp; omega)) fun q H5 nq zq s g tq => ?_
      have ndq := D.ne nq
      have nolq := ne_of_none tol.h nq
      have D := D.monoN s
      have tol := tol.monoN s
      walk_at "zrd"
      refine i_next g D (by first | exact Or.inl rfl | exact Or.inr (by assumption)) (by omega) (by omega) fun c H6 s g D hc0 hc1 => ?_
      have tol := tol.mono s ndol
      have tq := tq.mono s ndq
      walk_at "zrd"
      obtain ⟨v, hv, ha⟩ := atPick (xs := [V.int 1, V.int 1, V.int 2, V.int 0]) hc0 (by simpa using hc1)
      obtain ⟨e, rfl, he0, he8⟩ : ∃ e, v = V.int e ∧ 0 ≤ e ∧ e ≤ 2 := by
        simp only [List.mem_cons, List.not_mem_nil, or_false] at hv
        rcases hv with rfl | rfl | rfl | rfl <;> exact ⟨_, rfl, by omega, by omega⟩
      refine i_ixL (.inl (.inl tq.h)) ha ?_
      walk_at "zrd"
      refine ⟨tyL tol.h, ?_⟩
      walk_at "zrd"
      refine i_next g D (by first | exact Or.inl rfl | exact Or.inr (by assumption)) (by omega) (by omega) fun a H4 s g D ha0 ha1 => ?_
      have tol := tol.mono s ndol
      walk_at "zrd"
      refine newL g (by first | omega | (simp; done) | (simp; omega)) fun q2 H5 nq2 zq2 s g tq2 => ?_
      have ndq2 := D.ne nq2
      have nolq2 := ne_of_none tol.h nq2
      have D := D.monoN s
      have tol := tol.monoN s
      walk_at "zrd"
      obtain ⟨v, hv, ha⟩ := atPick (xs := [V.int 5, V.int 5, V.int 5, V.int 2]) (n := 1 + n1 - 1) (by omega) (by simp; omega)
      obtain ⟨u, rfl, hu0, hu8⟩ : ∃ u, v = V.int u ∧ 2 ≤ u ∧ u ≤ 5 := by
        simp only [List.mem_cons, List.not_mem_nil, or_false] at hv
        rcases hv with rfl | rfl | rfl | rfl <;> exact ⟨_, rfl, by omega, by omega⟩
      refine i_ixL (.inl (.inl tq2.h)) ha ?_
      walk_at "zrd"
      refine i_next g D (by first | exact Or.inl rfl | exact Or.inr (by assumption)) (by omega) (by omega) fun z H9 s g D hz0 hz1 => ?_
      have tol := tol.mono s ndol
      walk_at "zrd"
      refine newT (K := K) g (by first | omega | (simp; done) | (simp; omega)) fun t G2 H10 nt zt s g tt => ?_
      have ndt := D.ne nt
      have nolt := ne_of_none tol.h nt
      have D := D.monoN s
      have tol := tol.monoN s
      have pr := prt s.gg pr
      walk_at "zrd"
      refine i_append tol.h (by rw [List.length_map]; omega) ?_
      walk_at "zrd"
      refine ⟨_, _, G2, as ++ [t], ws ++ [(2 + a, e, 1 + z)], rfl, g.mut tol (.inr zol), D.off ndol, ?_, ?_, by simp [el], ?_⟩
      · rw [List.map_append]
        exact tol.put
      · rw [List.map_append]
        exact Paired.snoc tt pr
      · intro w hw
        rcases List.mem_append.mp hw with h | h
        · exact ok w h
        · rw [List.mem_singleton.mp h]
          exact ⟨⟨by show 1 ≤ 2 + a; omega, by show 2 + a ≤ 8; omega, he0, by show e ≤ 8; omega, by show 1 ≤ 1 + z; omega, by show 1 + z ≤ 9; omega⟩, by show 2 ≤ 2 + a; omega, by show 2 + a ≤ 4; omega, he8, by show 1 + z ≤ 5; omega⟩
    · rintro σ H' ⟨v4, v5, G, as, ws, rfl, g, D, tol, pr, el, ok⟩
      walk_at "zrd"
      exact k ws ol _ H' (g.close tol zol) (D.close tol ndol) zol ⟨as, upd_same, prt (same_close tol) pr⟩ ⟨by omega, by omega, fun w h => (ok w h).1⟩ (by omega) fun w h => (ok w h).2
end
end Z
set_option Elab.async false
set_option linter.all false
set_option maxRecDepth 100000
set_option maxHeartbeats 4000000
namespace Z
open PySem PySem.Spec PyProof.Rows L2
local macro_rules | `(tactic| walk_at "zrd") => `(tactic| (repeat (first | ((with_reducible apply i_var); (· exact rfl)) | with_reducible refine i_c ?_ | with_reducible refine i_op ?_ | with_reducible refine i_I0 ?_ | with_reducible refine i_eqI ?_ | with_reducible refine i_neI ?_ | with_reducible refine i_test ?_ | with_reducible refine i_cons ?_ | with_reducible refine i_nil ?_ | with_reducible refine i_seq ?_ | with_reducible refine i_nx ?_ | with_reducible refine i_rt ?_ | with_reducible refine i_pass ?_ | with_reducible refine i_asg ?_ | with_reducible refine i_gname ?_ | with_reducible refine i_ret ?_ | with_reducible refine i_drop ?_ | with_reducible refine i_ifS ?_ | with_reducible refine i_if ?_ | with_reducible refine i_not ?_ | with_reducible refine i_and ?_ | with_reducible refine i_or ?_ | with_reducible refine i_lst ?_ | with_reducible refine i_tup ?_ | with_reducible refine i_cb ?_ | with_reducible refine i_call ?_ | with_reducible refine i_gsub ?_ | with_reducible refine i_B ?_ | with_reducible refine i_un ?_ | with_reducible refine i_U ?_ | with_reducible refine i_eqOI ?_ | with_reducible refine i_eqIO ?_ | with_reducible refine i_forL ?_ | with_reducible refine i_forT ?_ | with_reducible refine i_forR ?_ | with_reducible refine i_forR2 ?_ | with_reducible refine i_forR3 ?_ | with_reducible refine i_forE ?_ | with_reducible refine i_lcL ?_ | with_reducible refine i_lcT ?_ | with_reducible refine i_lcR ?_ | with_reducible refine i_yes ?_ | with_reducible refine i_lce ?_ | with_reducible refine i_lcf ?_ | with_reducible refine i_gcons ?_ | with_reducible refine i_gnil ?_ | with_reducible refine i_chain ?_ | with_reducible refine i_t ?_ | with_reducible refine i_f ?_ | with_reducible refine i_nt ?_ | with_reducible refine i_nf ?_ | with_reducible refine i_bm ?_ | with_reducible refine i_bm0 ?_ | with_reducible refine i_and2 ?_ | with_reducible refine i_or2 ?_ | with_reducible refine i_intI ?_ | with_reducible refine i_intB ?_ | with_reducible refine i_sl ?_ | with_reducible refine i_part ?_ | with_reducible refine i_nopart ?_ | with_reducible refine i_cut ?_ | with_reducible refine i_lrg ?_ | with_reducible refine i_make ?_ | with_reducible refine i_meth ?_ | with_reducible refine i_fld ?_ | with_reducible refine i_sfld ?_ | with_reducible refine i_dnew ?_ | with_reducible refine i_par3 ?_ | with_reducible refine i_par3e ?_ | with_reducible refine i_par2 ?_ | with_reducible refine i_par2e ?_ | with_reducible refine i_dput ?_ | with_reducible refine i_dget2 ?_ | with_reducible refine i_din ?_ | with_reducible refine i_dget ?_ | with_reducible refine i_isO ?_ | with_reducible refine i_isR ?_ | with_reducible refine i_isN ?_ | with_reducible refine i_isI ?_ | with_reducible refine i_noO ?_ | with_reducible refine i_noR ?_ | with_reducible refine i_noN ?_ | with_reducible refine i_noI ?_ | with_reducible refine i_dgetN ?_ | with_reducible refine i_dputN ?_ | with_reducible refine i_dnewN ?_ | with_reducible refine i_ckw ?_ | with_reducible refine (show ∃ k, V.bl _ = V.bl k ∧ _ from ⟨_, rfl, ?_⟩) | with_reducible refine (show ∃ k, V.int _ = V.int k ∧ _ from ⟨_, rfl, ?_⟩) | ((with_reducible apply i_ixL); (· assumption); (· exact rfl)) | ((with_reducible apply i_ixT); (· assumption); (· exact rfl)) | ((with_reducible apply i_lenL); (· assumption)) | ((with_reducible apply i_lenT); (· assumption)) | ((with_reducible apply i_I); (· (first | omega | (dsimp only; omega) | exact ⟨by omega, by omega⟩ | exact Or.inr ⟨by omega, by omega⟩ | exact Or.inl ⟨by omega, by omega⟩ | exact ⟨by decide, by decide, by decide⟩))) | ((with_reducible apply i_gtup); (· assumption); (· rfl)) | ((with_reducible apply i_p); (· omega)) | ((with_reducible apply i_n); (· omega)) | ((with_reducible apply i_np); (· omega)) | ((with_reducible apply i_nn); (· omega)) | ((with_reducible apply i_lcP); (· omega)) | ((with_reducible apply i_lcN); (· omega)) | ((with_reducible apply i_lcnP); (· omega)) | ((with_reducible apply i_lcnN); (· omega)))))
section
variable {P : Program} {w : World} {K : PySem.W.Frag} {mg : Str → Option Value} {base : Heap} {f : Addr} {fd : FuncData}
abbrev s_law_like : Stmt := topS 30
theorem sc_law_like : FnScope ["_law_found", "_law_due", "_law_k", "_law_key"] ["_law_found", "_law_due"] (defScope s_law_like) := ⟨rfl, rfl, rfl, by decide +kernel, rfl, by decide +kernel, by decide +kernel⟩
theorem like_no (F : Fun K "_law_like" "_law_like" s_law_like f fd) : FnOk P w K mg base CX0 1 f fd ["_law_found", "_law_due"] spNo :=
  F.ok sc_law_like (fun vs H Q E h => False.elim h) (fun cdv A outer s H0 vs Q E hr h => False.elim h)
theorem ok_like {m : Nat} {sp : Sp} (n : Nat) (hsp : ∀ j, n = j + 1 → sp = spLike j K) (T : Txt K mg) (C__law_like : Cal P w K mg base "_law_like" m ["_law_found", "_law_due"] sp) (F : Fun K "_law_like" "_law_like" s_law_like f fd) : FnOk P w K mg base CX0 (m + 1) f fd ["_law_found", "_law_due"] (spLike n K) := by
  refine F.ok sc_law_like (fun vs H Q E h => ?_) (fun cdv A outer s H0 vs Q E hr h => ?_)
  · obtain ⟨x, y, d, rfl, _⟩ := h
    rfl
  · obtain ⟨x, y, d, rfl, hx, hy, lk, k⟩ := h
    refine ⟨_, (pss_cons (ps_if (pt_val (pe_callB (r := rIsi K) call_isi (by rfl) T.b_isinstance (by decide +kernel) (pa_cons (pv 1) (pa_cons (pe_bltn (v := .ty "bool") (u := .type "bool") (by rfl) T.b_bool (by decide +kernel) rfl) pa_nil)))) (pss_one (ps_ret (pe_and (pe_callB (r := rIsi K) call_isi (by rfl) T.b_isinstance (by decide +kernel) (pa_cons (pv 0) (pa_cons (pe_bltn (v := .ty "bool") (u := .type "bool") (by rfl) T.b_bool (by decide +kernel) rfl) pa_nil))) (pe_one (pe_cmpR op_eq (pv 0) (pv 1) (nomark _)))))) pss_nil)
      (pss_cons (ps_if (pt_val (pe_callB (r := rIsi K) call_isi (by rfl) T.b_isinstance (by decide +kernel) (pa_cons (pv 1) (pa_cons (pe_bltn (v := .ty "str") (u := .type "str") (by rfl) T.b_str (by decide +kernel) rfl) pa_nil)))) (pss_one (ps_ret (pe_and (pe_callB (r := rIsi K) call_isi (by rfl) T.b_isinstance (by decide +kernel) (pa_cons (pv 0) (pa_cons (pe_bltn (v := .ty "str") (u := .type "str") (by rfl) T.b_str (by decide +kernel) rfl) pa_nil))) (pe_one (pe_cmpR op_eq (pv 0) (pv 1) (nomark _)))))) pss_nil)
      (pss_cons (ps_if (pt_val (pe_callB (r := rIsi K) call_isi (by rfl) T.b_isinstance (by decide +kernel) (pa_cons (pv 1) (pa_cons (pe_bltn (v := .ty "int") (u := .type "int") (by rfl) T.b_int (by decide +kernel) rfl) pa_nil)))) (pss_one (ps_ret (pe_and (pe_callB (r := rIsi K) call_isi (by rfl) T.b_isinstance (by decide +kernel) (pa_cons (pv 0) (pa_cons (pe_bltn (v := .ty "int") (u := .type "int") (by rfl) T.b_int (by decide +kernel) rfl) pa_nil))) (pe_and (pe_not (pe_callB (r := rIsi K) call_isi (by rfl) T.b_isinstance (by decide +kernel) (pa_cons (pv 0) (pa_cons (pe_bltn (v := .ty "bool") (u := .type "bool") (by rfl) T.b_bool (by decide +kernel) rfl) pa_nil)))) (pe_one (pe_cmpR op_eq (pv 0) (pv 1) (nomark _))))))) pss_nil)
      (pss_cons (ps_if (pt_cmpR op_isNz (pv 1) pe_non (nomark _)) (pss_one (ps_ret (pe_cmpR op_isNz (pv 0) pe_non (nomark _)))) pss_nil)
      (pss_cons (ps_if (pt_val (pe_callB (r := rIsi K) call_isi (by rfl) T.b_isinstance (by decide +kernel) (pa_cons (pv 1) (pa_cons (pe_bltn (v := .ty "dict") (u := .type "dict") (by rfl) T.b_dict (by decide +kernel) rfl) pa_nil)))) (pss_cons (ps_if (PW.pt (pw_or (pt_not (pt_val (pe_callB (r := rIsi K) call_isi (by rfl) T.b_isinstance (by decide +kernel) (pa_cons (pv 0) (pa_cons (pe_bltn (v := .ty "dict") (u := .type "dict") (by rfl) T.b_dict (by decide +kernel) rfl) pa_nil))))) (pw_or1 (pt_cmpR op_ne (pe_callB (r := rLen K) cl_len (by rfl) T.b_len (by decide +kernel) (pa_cons (pv 0) pa_nil)) (pe_callB (r := rLen K) cl_len (by rfl) T.b_len (by decide +kernel) (pa_cons (pv 1) pa_nil)) (nomark _))))) (pss_one (ps_ret pe_bl)) pss_nil)
      (pss_one (ps_ret (pe_cmpR (r := rEqD K) (op_eqD hr.units) (pe_lc (own := [("_law_key", 3)]) (g := gName 3) rfl sc_law_like.nd (pi_list (pv 1)) (blkOk_by (own := [("_law_key", 3)]) (N := ["_law_found", "_law_due", "_law_k", "_law_key"]) (sc := defScope s_law_like) (by decide +kernel)) (fun _ _ _ _ _ => (pg_name (i := 3) sc_law_like.nd rfl (Or.inl rfl))) (fun _ _ _ _ _ => (pts_one (PW.pt (pw_or (pt_cmpR (r := rIn K true) op_notIn_seq (pv 3) (pv 0) rfl) (pw_or1 (pt_not (pt_val (pc C__law_like (hr.mono (by omega)) (pa_cons (pe_ix (r := rIxL K) ix_list (pv 0) (pv 3) (fun _ _ => rfl)) (pa_cons (pe_ix (r := rIxL K) ix_list (pv 1) (pv 3) (fun _ _ => rfl)) pa_nil)))))))))) (fun _ _ _ _ _ => (pv 3))) (pe_lst pa_nil) (nomark _))))) pss_nil)
      (pss_cons (ps_if (PW.pt (pw_or (pt_cmpR op_ne (pe_callB (r := rIsi K) call_isi (by rfl) T.b_isinstance (by decide +kernel) (pa_cons (pv 1) (pa_cons (pe_bltn (v := .ty "tuple") (u := .type "tuple") (by rfl) T.b_tuple (by decide +kernel) rfl) pa_nil))) (pe_callB (r := rIsi K) call_isi (by rfl) T.b_isinstance (by decide +kernel) (pa_cons (pv 0) (pa_cons (pe_bltn (v := .ty "tuple") (u := .type "tuple") (by rfl) T.b_tuple (by decide +kernel) rfl) pa_nil))) (nomark _)) (pw_or1 (pt_cmpR op_ne (pe_callB (r := rIsi K) call_isi (by rfl) T.b_isinstance (by decide +kernel) (pa_cons (pv 1) (pa_cons (pe_bltn (v := .ty "list") (u := .type "list") (by rfl) T.b_list (by decide +kernel) rfl) pa_nil))) (pe_callB (r := rIsi K) call_isi (by rfl) T.b_isinstance (by decide +kernel) (pa_cons (pv 0) (pa_cons (pe_bltn (v := .ty "list") (u := .type "list") (by rfl) T.b_list (by decide +kernel) rfl) pa_nil))) (nomark _))))) (pss_one (ps_ret pe_bl)) pss_nil)
      (pss_cons (ps_if (pt_cmpR op_ne (pe_callB (r := rLen K) cl_len (by rfl) T.b_len (by decide +kernel) (pa_cons (pv 0) pa_nil)) (pe_callB (r := rLen K) cl_len (by rfl) T.b_len (by decide +kernel) (pa_cons (pv 1) pa_nil)) (nomark _)) (pss_one (ps_ret pe_bl)) pss_nil)
      (pss_cons (ps_for PassesOwn.never rfl (pi_range1 (by rfl) T.b_range (pa_cons (pe_callB (r := rLen K) cl_len (by rfl) T.b_len (by decide +kernel) (pa_cons (pv 1) pa_nil)) pa_nil)) (pg_name (i := 2) sc_law_like.nd rfl (Or.inl rfl)) (pss_one (ps_if (pt_not (pt_val (pc C__law_like (hr.mono (by omega)) (pa_cons (pe_ix (r := rIx K) ix_seq (pv 0) (pv 2) (fun _ _ => rfl)) (pa_cons (pe_ix (r := rIx K) ix_seq (pv 1) (pv 2) (fun _ _ => rfl)) pa_nil))))) (pss_one (ps_ret pe_bl)) pss_nil)))
      (pss_one (ps_ret pe_bl)))))))))), ?_⟩
    have scal : (d = .none ∨ (∃ i, d = .int i) ∨ ∃ x, d = .str x) ∨ ∃ j ds, n = j + 1 ∧ (d = .list ds ∨ d = .tuple ds) ∧ ds.length ≤ 100000 ∧ ∀ e ∈ ds, Lk j e := by
      cases n with
      | zero => exact .inl lk
      | succ j => exact lk.imp id fun ⟨ds, h1, h2⟩ => ⟨j, ds, rfl, h1, h2⟩
    rcases scal with (rfl | ⟨i, rfl⟩ | ⟨sx, rfl⟩) | ⟨j, ds, ej, rfl | rfl, hl5, hall⟩
    · cases hx
      cases hy
      try dsimp only [cxOf, L2.Cx.nox, L2.Cx.wish]
      refine i_start (σ' := [some (.non), some (.non), none, none]) rfl ?_
      walk_at "zrd"
      refine isi_N (b := false) (by decide) rfl ?_
      walk_at "zrd"
      refine isi_N (b := false) (by decide) rfl ?_
      walk_at "zrd"
      refine isi_N (b := false) (by decide) rfl ?_
      walk_at "zrd"
      exact k
    · cases hx
      cases hy
      try dsimp only [cxOf, L2.Cx.nox, L2.Cx.wish]
      refine i_start (σ' := [some (.int i), some (.int i), none, none]) rfl ?_
      walk_at "zrd"
      refine isi_I (b := false) (by decide) rfl ?_
      walk_at "zrd"
      refine isi_I (b := false) (by decide) rfl ?_
      walk_at "zrd"
      refine isi_I (b := true) (by decide) rfl ?_
      walk_at "zrd"
      refine isi_I (b := true) (by decide) rfl ?_
      walk_at "zrd"
      refine i_notV ?_
      walk_at "zrd"
      refine isi_I (b := false) (by decide) rfl ?_
      walk_at "zrd"
      rw [decide_eq_true rfl]
      exact k
    · cases hx
      cases hy
      try dsimp only [cxOf, L2.Cx.nox, L2.Cx.wish]
      refine i_start (σ' := [some (.str sx), some (.str sx), none, none]) rfl ?_
      walk_at "zrd"
      refine isi_S (b := false) (by decide) rfl ?_
      walk_at "zrd"
      refine isi_S (b := true) (by decide) rfl ?_
      walk_at "zrd"
      refine isi_S (b := true) (by decide) rfl ?_
      walk_at "zrd"
      refine i_eqS1 ?_
      walk_at "zrd"
      exact k
    · have hs := hsp j ej
      subst hs
      cases hx with
      | @lst xa xs _ hsx hax =>
      cases hy with
      | @lst ya ys _ hsy hay =>
      try dsimp only [cxOf, L2.Cx.nox, L2.Cx.wish]
      refine i_start (σ' := [some (.ref xa), some (.ref ya), none, none]) rfl ?_
      walk_at "zrd"
      obtain ⟨ex, ax⟩ := dpAll_at hax
      obtain ⟨ey, ay⟩ := dpAll_at hay
      refine isi_L (b := false) hsy (by decide) rfl ?_
      walk_at "zrd"
      refine isi_L (b := false) hsy (by decide) rfl ?_
      walk_at "zrd"
      refine isi_L (b := false) hsy (by decide) rfl ?_
      walk_at "zrd"
      refine isi_L (b := false) hsy (by decide) rfl ?_
      walk_at "zrd"
      refine isi_L (b := false) hsy (by decide) rfl ?_
      walk_at "zrd"
      refine isi_L (b := false) hsx (by decide) rfl ?_
      walk_at "zrd"
      refine i_neB ?_
      walk_at "zrd"
      refine i_np rfl ?_
      walk_at "zrd"
      refine isi_L (b := true) hsy (by decide) rfl ?_
      walk_at "zrd"
      refine isi_L (b := true) hsx (by decide) rfl ?_
      walk_at "zrd"
      refine i_neB ?_
      walk_at "zrd"
      refine i_np rfl ?_
      walk_at "zrd"
      refine forR (by omega) (by omega) (fun i σ H' => ∃ (v2 : Option V), σ = [some (.ref xa), some (.ref ya), v2, none] ∧ H' = H0) ⟨none, rfl, rfl⟩ ?_ ?_
      · rintro i σ H' hi ⟨v2, rfl, rfl⟩
        rw [Int.toNat_natCast] at hi
        obtain ⟨u, hu⟩ : ∃ u, xs[i]? = some u := ⟨_, List.getElem?_eq_getElem (by omega)⟩
        obtain ⟨v, hv⟩ : ∃ v, ys[i]? = some v := ⟨_, List.getElem?_eq_getElem (by omega)⟩
        obtain ⟨d1, hd1, hu1⟩ := ax i u hu
        obtain ⟨d2, hd2, hv1⟩ := ay i v hv
        rw [hd1] at hd2
        cases hd2
        have hlk := hall d1 (List.mem_of_getElem? hd1)
        walk_at "zrd"
        refine i_ixSL hsx (atN (k := i) rfl hu) ?_
        walk_at "zrd"
        refine i_ixSL hsy (atN (k := i) rfl hv) ?_
        walk_at "zrd"
        refine i_like hu1 hv1 hlk ?_
        walk_at "zrd"
        exact ⟨_, rfl, rfl⟩
      · rintro σ H' ⟨v2, rfl, rfl⟩
        walk_at "zrd"
        exact k
    · have hs := hsp j ej
      subst hs
      cases hx with
      | @tup xa xs _ hsx hax =>
      cases hy with
      | @tup ya ys _ hsy hay =>
      try dsimp only [cxOf, L2.Cx.nox, L2.Cx.wish]
      refine i_start (σ' := [some (.ref xa), some (.ref ya), none, none]) rfl ?_
      walk_at "zrd"
      obtain ⟨ex, ax⟩ := dpAll_at hax
      obtain ⟨ey, ay⟩ := dpAll_at hay
      refine isi_T (b := false) hsy (by decide) rfl ?_
      walk_at "zrd"
      refine isi_T (b := false) hsy (by decide) rfl ?_
      walk_at "zrd"
      refine isi_T (b := false) hsy (by decide) rfl ?_
      walk_at "zrd"
      refine isi_T (b := false) hsy (by decide) rfl ?_
      walk_at "zrd"
      refine isi_T (b := true) hsy (by decide) rfl ?_
      walk_at "zrd"
      refine isi_T (b := true) hsx (by decide) rfl ?_
      walk_at "zrd"
      refine i_neB ?_
      walk_at "zrd"
      refine i_np rfl ?_
      walk_at "zrd"
      refine isi_T (b := false) hsy (by decide) rfl ?_
      walk_at "zrd"
      refine isi_T (b := false) hsx (by decide) rfl ?_
      walk_at "zrd"
      refine i_neB ?_
      walk_at "zrd"
      refine i_np rfl ?_
      walk_at "zrd"
      refine forR (by omega) (by omega) (fun i σ H' => ∃ (v2 : Option V), σ = [some (.ref xa), some (.ref ya), v2, none] ∧ H' = H0) ⟨none, rfl, rfl⟩ ?_ ?_
      · rintro i σ H' hi ⟨v2, rfl, rfl⟩
        rw [Int.toNat_natCast] at hi
        obtain ⟨u, hu⟩ : ∃ u, xs[i]? = some u := ⟨_, List.getElem?_eq_getElem (by omega)⟩
        obtain ⟨v, hv⟩ : ∃ v, ys[i]? = some v := ⟨_, List.getElem?_eq_getElem (by omega)⟩
        obtain ⟨d1, hd1, hu1⟩ := ax i u hu
        obtain ⟨d2, hd2, hv1⟩ := ay i v hv
        rw [hd1] at hd2
        cases hd2
        have hlk := hall d1 (List.mem_of_getElem? hd1)
        walk_at "zrd"
        refine i_ixST hsx (atN (k := i) rfl hu) ?_
        walk_at "zrd"
        refine i_ixST hsy (atN (k := i) rfl hv) ?_
        walk_at "zrd"
        refine i_like hu1 hv1 hlk ?_
        walk_at "zrd"
        exact ⟨_, rfl, rfl⟩
      · rintro σ H' ⟨v2, rfl, rfl⟩
        walk_at "zrd"
        exact k
end
end Z
set_option Elab.async false
set_option linter.all false
set_option maxRecDepth 100000
set_option maxHeartbeats 4000000
namespace Z
open PySem PySem.Spec PyProof.Rows L2
/-! ### what is told by the best moves is one thing only -/
section
variable {en : List (Option Int)} {ld : List Int} {s t : S}
theorem snoc_len {α : Type} {xs ys : List α} {x y : α} (h : (xs ++ [x]).length = (ys ++ [y]).length) : xs.length = ys.length := by
  rw [List.length_append, List.length_append] at h
  simp at h
  exact h
theorem Pth.uniq : ∀ {xs ys : List (S × Option Int)} {s t : S}, Pth en ld xs s → Pth en ld ys t → xs.length = ys.length → xs = ys ∧ s = t := by
  intro xs ys s t h
  induction h generalizing ys t with
  | zero =>
    intro k e
    cases k with
    | zero => exact ⟨rfl, rfl⟩
    | step _ _ => simp at e
  | @step xs s u o _ b ih =>
    intro k e
    cases k with
    | zero => simp at e
    | @step ys s2 _ o2 k b2 =>
      obtain ⟨e1, e2⟩ := ih k (snoc_len e)
      subst e1 e2
      have e3 := b.uniq b2
      cases e3
      exact ⟨rfl, rfl⟩
/-- the way up to there -/
theorem Pth.pre : ∀ {ys : List (S × Option Int)} {t : S}, Pth en ld ys t → ∀ n, n < ys.length → ∃ s o, Pth en ld (ys.take n) s ∧ ys[n]? = some (s, o) := by
  intro ys t h
  induction h with
  | zero => intro n hn; simp at hn
  | @step ys s u o p b ih =>
    intro n hn
    rw [List.length_append, List.length_singleton] at hn
    rcases Nat.lt_or_ge n ys.length with l | l
    · obtain ⟨z, q, h1, h2⟩ := ih n l
      refine ⟨z, q, ?_, by rw [List.getElem?_append_left l]; exact h2⟩
      rw [List.take_append_of_le_length (by omega)]
      exact h1
    · obtain rfl : n = ys.length := by omega
      refine ⟨s, o, ?_, by rw [List.getElem?_append_right (Nat.le_refl _), Nat.sub_self]; rfl⟩
      rw [List.take_left]
      exact p
theorem nodup_at {α : Type} {l : List α} (h : l.Nodup) {i j : Nat} {x : α} (h1 : l[i]? = some x) (h2 : l[j]? = some x) : i = j := by
  obtain ⟨a1, b1⟩ := List.getElem?_eq_some_iff.mp h1
  obtain ⟨a2, b2⟩ := List.getElem?_eq_some_iff.mp h2
  have hp := List.pairwise_iff_getElem.mp h
  rcases Nat.lt_trichotomy i j with l | l | l
  · exact absurd (b1.trans b2.symm) (hp i j a1 a2 l)
  · exact l
  · exact absurd (b2.trans b1.symm) (hp j i a2 a1 l)
theorem end_short {xs ys : List (S × Option Int)} {s t : S} {i : Nat} {o : Option Int} (hx : Pth en ld xs s) (hy : Pth en ld ys t) (ny : (ys.map (·.1)).Nodup) (hi : xs[i]? = some (s, o)) : ¬ xs.length < ys.length := by
  intro hl
  obtain ⟨z, q, h1, h2⟩ := hy.pre xs.length hl
  obtain ⟨e1, e2⟩ := hx.uniq h1 (by rw [List.length_take]; omega)
  subst e2
  have hil : i < xs.length := (List.getElem?_eq_some_iff.mp hi).1
  have h3 : ys[i]? = some (s, o) := by
    rw [e1, List.getElem?_take_of_lt hil] at hi
    exact hi
  have := nodup_at ny (i := i) (j := xs.length) (x := s) (by rw [List.getElem?_map, h3]; rfl) (by rw [List.getElem?_map, h2]; rfl)
  omega
theorem EndRes.uniq {hd lp hd' lp' : List (Option Int)} (h : EndRes en ld hd lp) (k : EndRes en ld hd' lp') : hd = hd' ∧ lp = lp' := by
  obtain ⟨⟨xs, s, i, o, h1, h2, h3, rfl, rfl⟩, _⟩ := h
  obtain ⟨⟨ys, t, j, q, k1, k2, k3, rfl, rfl⟩, _⟩ := k
  have l1 := end_short h1 k1 k2 h3
  have l2 := end_short k1 h1 h2 k3
  obtain ⟨e1, e2⟩ := h1.uniq k1 (by omega)
  subst e1 e2
  have := nodup_at h2 (i := i) (j := j) (x := s) (by rw [List.getElem?_map, h3]; rfl) (by rw [List.getElem?_map, k3]; rfl)
  subst this
  exact ⟨rfl, rfl⟩
theorem LongRes.uniq {n : Nat} {wd wd' : List (Option Int)} (h : LongRes en ld n wd) (k : LongRes en ld n wd') : wd = wd' := by
  obtain ⟨⟨xs, s, h1, h2, rfl⟩, _⟩ := h
  obtain ⟨⟨ys, t, k1, k2, rfl⟩, _⟩ := k
  obtain ⟨e1, _⟩ := h1.uniq k1 (by omega)
  rw [e1]
theorem PapRes.uniq {ST : List S} {pp qq : List (S × Nat)} (h : PapRes en ld ST pp) (k : PapRes en ld ST qq) : pp = qq := by
  have key : ∀ (pp qq : List (S × Nat)), pp.map (·.1) = qq.map (·.1) → (∀ x ∈ pp, Rank en ld x.1 x.2) → (∀ x ∈ qq, Rank en ld x.1 x.2) → pp = qq := by
    intro pp
    induction pp with
    | nil =>
      intro qq e _ _
      cases qq with
      | nil => rfl
      | cons y qq => cases e
    | cons x pp ih =>
      intro qq e h1 h2
      cases qq with
      | nil => cases e
      | cons y qq =>
        rw [List.map_cons, List.map_cons] at e
        injection e with e1 e2
        have r1 := h1 x List.mem_cons_self
        have r2 := h2 y List.mem_cons_self
        rw [← e1] at r2
        rw [ih qq e2 (fun z hz => h1 z (List.mem_cons_of_mem _ hz)) fun z hz => h2 z (List.mem_cons_of_mem _ hz)]
        congr 1
        exact Prod.ext e1 (r1.uniq r2)
  exact key pp qq (h.ks.trans k.ks.symm) h.rk k.rk
theorem StOk.mem {ST : List S} (h : StOk en ld ST) (x : S) : x ∈ ST ↔ Reach en ld x := by
  refine ⟨h.re x, fun r => ?_⟩
  induction r with
  | first => exact h.fi
  | step _ ho e ih => exact h.cl _ ih _ ho _ e
end
end Z
set_option Elab.async false
set_option linter.all false
set_option maxRecDepth 100000
set_option maxHeartbeats 4000000
namespace Z
open PySem PySem.Spec PyProof.Rows L2
/-! ### plans by the best moves: no word is lost with what is endless; the longest is lost just behind what is held -/
section
variable {en : List (Option Int)} {ld : List Int} {st : Nat → S} {op m : Nat → Option Int} {N : Nat}
theorem seq_ages (h0 : st 0 = firstS en) (hs : ∀ b, b < N → step en ld (st b) (op b) = some (st (b + 1))) (hm : ∀ b, b < N → m b = op b) {i : Nat} {L : Int} (hi : i < en.length) (he : en.getD i none = some L) (hL : 0 ≤ L) :
    ∀ b, b ≤ N → (st b).2.getD i 0 = ((gl m (i : Nat) b : Nat) : Int) ∧ ((gl m (i : Nat) b : Nat) : Int) ≤ L
  | 0, _ => by
    rw [h0]
    exact ⟨firstS_get, hL⟩
  | b + 1, hb => by
    obtain ⟨h1, h2⟩ := seq_ages h0 hs hm hi he hL b (by omega)
    obtain ⟨e1, e2, e3⟩ := step_iff.mp (hs b (by omega))
    have h3 := e3 i hi
    have e4 : (if op b = some ((i : Nat) : Int) then (1 : Int) else (st b).2.getD i 0 + 1) = ((gl m (i : Nat) (b + 1) : Nat) : Int) := by
      rw [gl, hm b (by omega), h1]
      split
      · rfl
      · simp
    unfold nx1 at h3
    rw [he] at h3
    have h3 : (if L < (if op b = some ((i : Nat) : Int) then (1 : Int) else (st b).2.getD i 0 + 1) then none else some (if op b = some ((i : Nat) : Int) then (1 : Int) else (st b).2.getD i 0 + 1)) = some ((st (b + 1)).2.getD i 0) := h3
    rw [e4] at h3
    split at h3
    · cases h3
    · exact ⟨(Option.some.inj h3).symm, by omega⟩
theorem seq_phase (l1 : 1 ≤ ld.length) (h0 : st 0 = firstS en) (hs : ∀ b, b < N → step en ld (st b) (op b) = some (st (b + 1))) : ∀ b, b ≤ N → (st b).1 = ((b % ld.length : Nat) : Int)
  | 0, _ => by rw [h0, Nat.zero_mod]; rfl
  | b + 1, hb => by
    obtain ⟨e1, _, _⟩ := step_iff.mp (hs b (by omega))
    rw [e1, seq_phase l1 h0 hs b (by omega), ← Nat.mod_add_mod]
    exact (Int.natCast_emod (b % ld.length + 1) ld.length).symm
theorem seq_lose {ws : List W3} (okw : OkWs ws) (h0 : st 0 = firstS (ws.map lim)) (hs : ∀ b, b < N → step (ws.map lim) ld (st b) (op b) = some (st (b + 1))) (hm : ∀ b, b < N → m b = op b) (v t : Nat) (ht : t < N) : ¬ Lose ws m v t := by
  rintro ⟨hv, L, e1, e2⟩
  have hL := (lim_nat (okw.ok _ (getD_mem (d := d3) hv)) e1).1
  have := (seq_ages h0 hs hm (i := v) (L := L) (by rw [List.length_map]; exact hv) (by rw [lim_getD hv]; exact e1) hL (t + 1) (by omega)).2
  omega
end
/-! ### the states and moves of a path -/
def pst (xs : List (S × Option Int)) (s : S) (j : Nat) : S := match xs[j]? with
  | some x => x.1
  | none => s
def pop (xs : List (S × Option Int)) (j : Nat) : Option Int := match xs[j]? with
  | some x => x.2
  | none => none
section
variable {en : List (Option Int)} {ld : List Int} {xs : List (S × Option Int)} {s t : S} {o : Option Int} {j : Nat}
theorem pst_lt (h : j < xs.length) : pst xs s j = xs[j].1 := by unfold pst; rw [List.getElem?_eq_getElem h]
theorem pop_lt (h : j < xs.length) : pop xs j = xs[j].2 := by unfold pop; rw [List.getElem?_eq_getElem h]
theorem pst_end (h : xs.length ≤ j) : pst xs s j = s := by unfold pst; rw [List.getElem?_eq_none h]
theorem pst_snoc (h : j ≤ xs.length) : pst (xs ++ [(s, o)]) t j = pst xs s j := by
  rcases Nat.lt_or_ge j xs.length with h1 | h1
  · rw [pst_lt (by rw [List.length_append]; omega), pst_lt h1, List.getElem_append_left h1]
  · obtain rfl : j = xs.length := by omega
    rw [pst_end (Nat.le_refl _), pst_lt (by rw [List.length_append]; exact Nat.lt_succ_self _), List.getElem_append_right (Nat.le_refl _)]
    simp
theorem pop_snoc (h : j < xs.length) : pop (xs ++ [(s, o)]) j = pop xs j := by
  rw [pop_lt (by rw [List.length_append]; omega), pop_lt h, List.getElem_append_left h]
theorem Pth.zeroth (h : Pth en ld xs s) : pst xs s 0 = firstS en := by
  induction h with
  | zero => rfl
  | @step xs s t o p b ih => rw [pst_snoc (Nat.zero_le _)]; exact ih
theorem Pth.at_ (h : Pth en ld xs s) : ∀ j, j < xs.length → pop xs j ∈ opts en ld (pst xs s j) ∧ Z.step en ld (pst xs s j) (pop xs j) = some (pst xs s (j + 1)) := by
  induction h with
  | zero => intro j hj; exact absurd hj (Nat.not_lt_zero j)
  | @step xs s t o p b ih =>
    intro j hj
    rw [List.length_append, List.length_singleton] at hj
    rcases Nat.lt_or_ge j xs.length with h1 | h1
    · rw [pop_snoc h1, pst_snoc (by omega), pst_snoc (by omega)]
      exact ih j h1
    · obtain rfl : j = xs.length := by omega
      have e1 : pop (xs ++ [(s, o)]) xs.length = o := by
        rw [pop_lt (by rw [List.length_append]; exact Nat.lt_succ_self _), List.getElem_append_right (Nat.le_refl _)]
        simp
      rw [e1, pst_snoc (Nat.le_refl _), pst_end (Nat.le_refl _), pst_end (by rw [List.length_append]; exact Nat.le_refl _)]
      exact b.step
theorem Pth.phase (l1 : 1 ≤ ld.length) (h : Pth en ld xs s) : ∀ j, j ≤ xs.length → (pst xs s j).1 = ((j % ld.length : Nat) : Int) := seq_phase l1 h.zeroth fun b hb => (h.at_ b hb).2
theorem Pth.free (l1 : 1 ≤ ld.length) (h : Pth en ld xs s) (hj : j < xs.length) : ld.getD xs[j].1.1.toNat 1 = ld.getD (j % ld.length) 1 := by
  have := h.phase l1 j (by omega)
  rw [pst_lt hj] at this
  rw [this, Int.toNat_natCast]
theorem fr_free {b : Nat} (h : ld.getD (b % ld.length) 1 = 0) : fr ld (b + 1) = fr ld b + 1 := by rw [fr, if_pos h]
theorem fr_perd (l1 : 1 ≤ ld.length) : ∀ b, fr ld (b + ld.length) = fr ld b + fr ld ld.length
  | 0 => by rw [Nat.zero_add]; show _ = 0 + _; rw [Nat.zero_add]
  | b + 1 => by
    rw [show b + 1 + ld.length = (b + ld.length) + 1 by omega, fr, fr_perd l1 b, fr, Nat.add_mod_right]
    omega
theorem fr_pers (l1 : 1 ≤ ld.length) (b : Nat) : ∀ k, fr ld (b + k * ld.length) = fr ld b + k * fr ld ld.length
  | 0 => by rw [Nat.zero_mul, Nat.zero_mul]; rfl
  | k + 1 => by rw [Nat.succ_mul, ← Nat.add_assoc, fr_perd l1, fr_pers l1 b k, Nat.succ_mul]; omega
theorem fr_some (okl : OkLd ld) : 1 ≤ fr ld ld.length := by
  obtain ⟨j, hj, e⟩ := List.mem_iff_getElem.mp okl.free
  have h1 : ld.getD (j % ld.length) 1 = 0 := by rw [Nat.mod_eq_of_lt hj, List.getD_eq_getElem?_getD, List.getElem?_eq_getElem hj]; exact e
  have h2 := fr_free h1
  have h3 := fr_mono ld (show j + 1 ≤ ld.length from hj)
  omega
theorem Pth.wr_len (l1 : 1 ≤ ld.length) (h : Pth en ld xs s) : ∀ j, j ≤ xs.length → (wrds ld (xs.take j)).length = fr ld j
  | 0, _ => by rw [List.take_zero]; rfl
  | j + 1, hj => by
    have hlt : j < xs.length := by omega
    rw [List.take_add_one, List.getElem?_eq_getElem hlt]
    show (wrds ld (xs.take j ++ [(xs[j].1, xs[j].2)])).length = _
    rw [wrds_snoc, List.length_append, Pth.wr_len l1 h j (by omega), fr, h.free l1 hlt]
    split <;> rfl
theorem Pth.wr_get (l1 : 1 ≤ ld.length) (h : Pth en ld xs s) (hj : j < xs.length) (hf : ld.getD (j % ld.length) 1 = 0) : (wrds ld xs)[fr ld j]? = some (pop xs j) := by
  have e : xs = xs.take j ++ ((xs[j].1, xs[j].2) :: xs.drop (j + 1)) := by
    rw [List.getElem_cons_drop hj, List.take_append_drop]
  have e2 : wrds ld xs = wrds ld (xs.take j) ++ (xs[j].2 :: wrds ld (xs.drop (j + 1))) := by
    conv => lhs; rw [e]
    rw [wrds_app]
    congr 1
    unfold wrds
    rw [List.filter_cons_of_pos (by exact decide_eq_true (by rw [h.free l1 hj]; exact hf))]
    rfl
  rw [e2, List.getElem?_append_right (by rw [h.wr_len l1 j (by omega)]; exact Nat.le_refl _), h.wr_len l1 j (by omega), Nat.sub_self, pop_lt hj]
  rfl
theorem Pth.busy (l1 : 1 ≤ ld.length) (h : Pth en ld xs s) (hj : j < xs.length) (hf : ¬ ld.getD (j % ld.length) 1 = 0) : pop xs j = none := by
  have h1 := (h.at_ j hj).1
  unfold opts at h1
  rw [pst_lt hj, h.free l1 hj, if_neg hf] at h1
  exact List.mem_singleton.mp h1
theorem Pth.wr_all (l1 : 1 ≤ ld.length) (h : Pth en ld xs s) : (wrds ld xs).length = fr ld xs.length := by
  have := h.wr_len l1 xs.length (Nat.le_refl _)
  rw [List.take_length] at this
  exact this
theorem Pth.wr_ok (h : Pth en ld xs s) : ∀ o ∈ wrds ld xs, okT en.length o := by
  intro o ho
  unfold wrds at ho
  obtain ⟨x, hx, rfl⟩ := List.mem_map.mp ho
  obtain ⟨j, hj, rfl⟩ := List.mem_iff_getElem.mp (List.mem_filter.mp hx).1
  have h1 := (h.at_ j hj).1
  rw [pop_lt hj] at h1
  intro i e
  rcases mem_opts.mp h1 with h2 | ⟨k, h2, h3, _, _⟩
  · rw [h2] at e; cases e
  · rw [h2] at e
    cases e
    omega
end
/-! ### the longest -/
section
variable {ws : List W3} {ld : List Int} {wd : List (Option Int)} {n : Nat}
theorem LongRes.mend_at {en : List (Option Int)} {xs : List (S × Option Int)} {s : S} (l1 : 1 ≤ ld.length) (h : Pth en ld xs s) {b : Nat} (hb : b < xs.length) : mend ld (wrds ld xs) [none] b = pop xs b := by
  unfold mend
  split
  · rename_i hf
    have h1 := h.wr_get l1 hb hf
    have h2 := (List.getElem?_eq_some_iff.mp h1).1
    unfold thing
    rw [if_pos h2, List.getD_eq_getElem?_getD, h1]
    rfl
  · rename_i hf
    exact (h.busy l1 hb hf).symm
theorem LongRes.len (okl : OkLd ld) {en : List (Option Int)} (h : LongRes en ld n wd) : wd.length = fr ld n := by
  obtain ⟨xs, s, p, e1, e2⟩ := h.ex
  rw [e2, p.wr_all okl.l1, e1]
theorem LongRes.okPl (h : LongRes (ws.map lim) ld n wd) (hn : n ≤ 2000) : OkPl ws.length wd [none] := by
  obtain ⟨xs, s, p, e1, e2⟩ := h.ex
  refine ⟨by have := wrds_len (ld := ld) (xs := xs); rw [e2]; omega, Nat.le_refl _, by show 1 ≤ 2000; decide, fun o ho => ?_, fun o ho i e => ?_⟩
  · rw [e2] at ho
    have := p.wr_ok o ho
    rw [List.length_map] at this
    exact this
  · rw [List.mem_singleton.mp ho] at e
    cases e
theorem LongRes.lose (okw : OkWs ws) (okl : OkLd ld) (h : LongRes (ws.map lim) ld n wd) (hn : n ≤ 2000) : (∀ v t, t < n → ¬ Lose ws (mend ld wd [none]) v t) ∧ ∃ v, Lose ws (mend ld wd [none]) v n := by
  have okp := h.okPl hn
  obtain ⟨xs, s, p, e1, e2⟩ := id h.ex
  have no : ∀ v t, t < n → ¬ Lose ws (mend ld wd [none]) v t := fun v t ht => by
    rw [e2]
    rw [← e1] at ht
    exact seq_lose (st := pst xs s) (op := pop xs) (N := xs.length) okw p.zeroth (fun b hb => (p.at_ b hb).2) (fun b hb => LongRes.mend_at okl.l1 p hb) v t ht
  refine ⟨no, Classical.byContradiction fun hx => ?_⟩
  refine h.rk.2 (brk_hold okw okl okp fun v t ht hl => ?_)
  rcases Nat.lt_or_ge t n with h1 | h1
  · exact no v t h1 hl
  · obtain rfl : t = n := by omega
    exact hx ⟨v, hl⟩
/-- breaking's answer -/
theorem LongRes.brk (okw : OkWs ws) (okl : OkLd ld) (h : LongRes (ws.map lim) ld n wd) (hn : n ≤ 2000) {o : Option (Nat × Nat)} (b : BrkSem ws (mend ld wd [none]) o) : ∃ v, o = some (n, v) := by
  obtain ⟨h1, v, h2⟩ := h.lose okw okl hn
  match o, b with
  | none, b => exact absurd h2 (b v n)
  | some (t, w), b =>
    have h3 := b.2 v n h2
    have h4 : ¬ t < n := fun z => h1 w t z b.1
    exact ⟨w, by congr 2; omega⟩
end
/-! ### what is endless -/
def jj (n i : Nat) : Nat → Nat
  | 0 => 0
  | b + 1 => if jj n i b + 1 < n then jj n i b + 1 else i
theorem jj_ok {n i : Nat} (hi : i < n) : ∀ b, jj n i b < n ∧ ((jj n i b < i ∧ b = jj n i b) ∨ (i ≤ jj n i b ∧ ∃ q, b = jj n i b + q * (n - i)))
  | 0 => by
    refine ⟨by show 0 < n; omega, ?_⟩
    show (0 < i ∧ 0 = 0) ∨ (i ≤ 0 ∧ ∃ q, 0 = 0 + q * (n - i))
    rcases Nat.eq_zero_or_pos i with h | h
    · exact .inr ⟨by omega, 0, by omega⟩
    · exact .inl ⟨h, rfl⟩
  | b + 1 => by
    obtain ⟨h1, h2⟩ := jj_ok hi b
    rw [jj]
    split
    · rename_i h
      refine ⟨h, ?_⟩
      rcases h2 with ⟨h2, h3⟩ | ⟨h2, q, h3⟩
      · rcases Nat.lt_or_ge (jj n i b + 1) i with h4 | h4
        · exact .inl ⟨h4, by omega⟩
        · exact .inr ⟨h4, 0, by omega⟩
      · exact .inr ⟨by omega, q, by omega⟩
    · rename_i h
      refine ⟨hi, .inr ⟨Nat.le_refl _, ?_⟩⟩
      have h4 : jj n i b + 1 = n := by omega
      rcases h2 with ⟨h2, h3⟩ | ⟨h2, q, h3⟩
      · omega
      · exact ⟨q + 1, by rw [Nat.succ_mul]; omega⟩
section
variable {ws : List W3} {ld : List Int} {hd lp : List (Option Int)}
theorem EndRes.few {en : List (Option Int)} (l1 : 1 ≤ ld.length) (oke : OkEn en) {xs : List (S × Option Int)} {s : S} (p : Pth en ld xs s) (nd : (xs.map (·.1)).Nodup) : xs.length ≤ manyS en ld := by
  have := states_le (en := en) (ld := ld) nd fun z hz => by
    obtain ⟨x, hx, rfl⟩ := List.mem_map.mp hz
    exact (p.mem_reach x hx).ok l1 oke
  rw [List.length_map] at this
  exact this
theorem EndRes.all (okw : OkWs ws) (okl : OkLd ld) (h : EndRes (ws.map lim) ld hd lp) (hm : manyS (ws.map lim) ld ≤ 2000) : OkPl ws.length hd lp ∧ ∀ v t, ¬ Lose ws (mend ld hd lp) v t := by
  obtain ⟨xs, s, i, o, p, nd, hi, e1, e2⟩ := h.ex
  have l1 := okl.l1
  have few := EndRes.few l1 (okEn_of okw) p nd
  have hlt : i < xs.length := (List.getElem?_eq_some_iff.mp hi).1
  have exi : xs[i] = (s, o) := (List.getElem?_eq_some_iff.mp hi).2
  have app : wrds ld xs = hd ++ lp := by rw [e1, e2, ← wrds_app, List.take_append_drop]
  have lh : hd.length = fr ld i := by rw [e1]; exact p.wr_len l1 i (by omega)
  have la : hd.length + lp.length = fr ld xs.length := by rw [← List.length_append, ← app]; exact p.wr_all l1
  -- the loop's length is a multiple of the load's
  have ph1 : i % ld.length = xs.length % ld.length := by
    have h1 := p.phase l1 i (by omega)
    have h2 := p.phase l1 xs.length (Nat.le_refl _)
    rw [pst_lt hlt, exi] at h1
    rw [pst_end (Nat.le_refl _)] at h2
    rw [h1] at h2
    exact_mod_cast h2
  obtain ⟨k0, hk0⟩ : ∃ k0, xs.length - i = k0 * ld.length := by
    have : ld.length ∣ xs.length - i := Nat.dvd_of_mod_eq_zero (Nat.sub_mod_eq_zero_of_mod_eq ph1.symm)
    obtain ⟨k, hk⟩ := this
    exact ⟨k, by rw [hk, Nat.mul_comm]⟩
  have k1 : 1 ≤ k0 := by
    rcases Nat.eq_zero_or_pos k0 with h | h
    · rw [h, Nat.zero_mul] at hk0; omega
    · exact h
  have hfr : fr ld xs.length = fr ld i + k0 * fr ld ld.length := by
    rw [← fr_pers l1 i k0, ← hk0]
    congr 1
    omega
  have lpl : lp.length = k0 * fr ld ld.length := by omega
  have lp1 : 1 ≤ lp.length := by
    rw [lpl]
    exact Nat.mul_le_mul k1 (fr_some okl)
  have okall : ∀ o ∈ hd ++ lp, okT ws.length o := fun o ho => by
    rw [← app] at ho
    have := p.wr_ok o ho
    rw [List.length_map] at this
    exact this
  have lall : hd.length + lp.length ≤ xs.length := by
    rw [← List.length_append, ← app]
    exact wrds_len
  refine ⟨⟨by omega, lp1, by omega, fun o ho => okall o (List.mem_append.mpr (.inl ho)), fun o ho => okall o (List.mem_append.mpr (.inr ho))⟩, fun v t => ?_⟩
  -- the endless walk
  have stp : ∀ b, step (ws.map lim) ld (pst xs s (jj xs.length i b)) (pop xs (jj xs.length i b)) = some (pst xs s (jj xs.length i (b + 1))) := fun b => by
    obtain ⟨j1, _⟩ := jj_ok hlt b
    have h1 := (p.at_ _ j1).2
    rw [h1, jj]
    split
    · rfl
    · rename_i hx
      rw [pst_end (by omega), pst_lt hlt, exi]
  have md : ∀ b, mend ld hd lp b = pop xs (jj xs.length i b) := fun b => by
    obtain ⟨j1, j2⟩ := jj_ok hlt b
    generalize jj xs.length i b = j at j1 j2
    have bm : b % ld.length = j % ld.length ∧ ((j < i ∧ b = j) ∨ (i ≤ j ∧ ∃ q, fr ld b = fr ld j + q * lp.length)) := by
      rcases j2 with ⟨h1, h2⟩ | ⟨h1, q, h2⟩
      · exact ⟨by rw [h2], .inl ⟨h1, h2⟩⟩
      · have h3 : b = j + (q * k0) * ld.length := by rw [h2, hk0, Nat.mul_assoc]
        refine ⟨by rw [h3, Nat.add_mul_mod_self_right], .inr ⟨h1, q, ?_⟩⟩
        rw [h3, fr_pers l1, lpl, Nat.mul_assoc]
    unfold mend
    rw [bm.1]
    split
    · rename_i hf
      have g1 := p.wr_get l1 j1 hf
      have f1 := fr_free hf
      have f2 := fr_mono ld (show j + 1 ≤ xs.length from j1)
      rw [app] at g1
      unfold thing
      rcases bm.2 with ⟨h1, h2⟩ | ⟨h1, q, h2⟩
      · have f3 := fr_mono ld (show j + 1 ≤ i from h1)
        rw [List.getElem?_append_left (by omega)] at g1
        rw [h2, if_pos (by omega), List.getD_eq_getElem?_getD, g1]
        rfl
      · have f3 := fr_mono ld h1
        have hmod : (fr ld b - hd.length) % lp.length = fr ld j - hd.length := by
          rw [h2, show fr ld j + q * lp.length - hd.length = (fr ld j - hd.length) + q * lp.length by omega, Nat.add_mul_mod_self_right, Nat.mod_eq_of_lt (by omega)]
        rw [List.getElem?_append_right (by omega)] at g1
        rw [if_neg (by rw [h2]; omega), hmod, List.getD_eq_getElem?_getD, g1]
        rfl
    · rename_i hf
      exact (p.busy l1 j1 hf).symm
  exact seq_lose (st := fun b => pst xs s (jj xs.length i b)) (op := fun b => pop xs (jj xs.length i b)) (N := t + 1) okw p.zeroth (fun b _ => stp b) (fun b _ => md b) v t (Nat.lt_succ_self t)
theorem EndRes.brk (okw : OkWs ws) (okl : OkLd ld) (h : EndRes (ws.map lim) ld hd lp) (hm : manyS (ws.map lim) ld ≤ 2000) {o : Option (Nat × Nat)} (b : BrkSem ws (mend ld hd lp) o) : o = none := by
  match o, b with
  | none, _ => rfl
  | some (t, w), b => exact absurd b.1 ((h.all okw okl hm).2 w t)
end
end Z
set_option Elab.async false
set_option linter.all false
set_option maxRecDepth 100000
set_option maxHeartbeats 4000000
namespace Z
open PySem PySem.Spec PyProof.Rows L2
/-! ### sorted(a), a a list of triples of ints -/
def r3 (s : W3) : List Int := [s.1, s.2.1, s.2.2]
def dT3 (x : Addr × W3) : PyData := .tuple [.int x.2.1, .int x.2.2.1, .int x.2.2.2]
def le3 (s t : W3) : Prop := s.1 < t.1 ∨ (s.1 = t.1 ∧ s.2.1 ≤ t.2.1)
theorem dataLe_3 : PySem.W.dataLe false dT3 = fun p q => decide (r3 p.2 ≤ r3 q.2) := by
  funext p q
  show (!PySem.W.dataLt (.tuple ((r3 q.2).map .int)) (.tuple ((r3 p.2).map .int))) = _
  rw [PySem.W.dataLt_tuple]
  show (!PySem.W.rowLt ((r3 q.2).map .int) ((r3 p.2).map .int)) = _
  rw [PySem.W.dataLt_ints]
  by_cases h : r3 q.2 < r3 p.2
  · have h' : ¬ r3 p.2 ≤ r3 q.2 := fun r => List.not_lt.mpr r h
    simp [h, h']
  · have h' : r3 p.2 ≤ r3 q.2 := List.not_lt.mp h
    simp [h, h']
theorem le3_of {s t : W3} (h : r3 s ≤ r3 t) : le3 s t := by
  unfold r3 at h
  rw [List.cons_le_cons_iff, List.cons_le_cons_iff] at h
  unfold le3
  omega
def rSorted3 (K : PySem.W.Frag) : List V → Hp → VK → Prop := fun vs H Q => ∃ (G : Hp) (a : Addr) (fa : List Addr) (ss : List W3), vs = [.ref a] ∧ Same G H ∧ SqL K H a (fa.map V.ref) ∧ Paired (fun p t => SqT K G p t) fa (ss.map vW) ∧
  ∀ (fa' : List Addr) (ss' : List W3) (p : Addr), ss'.Perm ss → ss'.Pairwise le3 → Paired (fun p t => SqT K G p t) fa' (ss'.map vW) → H p = none → Q (.ref p) (upd H p (.lst (fa'.map V.ref)))
theorem paired_zip {R : Addr → List V → Prop} : ∀ {fa : List Addr} {ss : List W3}, Paired R fa (ss.map vW) → (∀ x ∈ fa.zip ss, R x.1 (vW x.2)) ∧ (fa.zip ss).map (·.1) = fa ∧ (fa.zip ss).map (·.2) = ss
  | _, [], h => by
    cases h
    exact ⟨fun x hx => (by cases hx), rfl, rfl⟩
  | _, s :: ss, h => by
    rw [List.map_cons] at h
    cases h with
    | cons h t =>
      obtain ⟨h1, h2, h3⟩ := paired_zip t
      refine ⟨fun x hx => ?_, by rw [List.zip_cons_cons, List.map_cons, h2], by rw [List.zip_cons_cons, List.map_cons, h3]⟩
      rcases List.mem_cons.mp hx with e | e
      · rw [e]; exact h
      · exact h1 x e
theorem paired_of_zip {R : Addr → List V → Prop} : ∀ {xs : List (Addr × W3)}, (∀ x ∈ xs, R x.1 (vW x.2)) → Paired R (xs.map (·.1)) ((xs.map (·.2)).map vW)
  | [], _ => .nil
  | x :: xs, h => .cons (h x List.mem_cons_self) (paired_of_zip fun y hy => h y (List.mem_cons_of_mem _ hy))
theorem reads_3 {X : Cx} {pins : List (Addr × Obj)} {σ : L2.St} {H : Hp} {s : Shared} (I : Inv X pins σ H s) {q : Addr} {st : W3} (h : SqT X.K H q (vW st)) : Reads s.heap (.ref q) (.tuple ((r3 st).map PyData.int)) [] := by
  obtain ⟨its, r1, ⟨o, a1, a2, n, a3⟩, _⟩ := I.tuple h
  refine .tuple a1 a2 a3 ?_
  rw [List.toList_toArray]
  exact reads_ints (ns := r3 st) r1
theorem cr_sorted3 {X : Cx} (hu : X.A.units + 64 < cLine) : CallR X (.builtin "sorted") (rSorted3 X.K) := by
  intro pins s σ H vs us Q I r h
  obtain ⟨G, a, fa, ss, rfl, sb, hs, pr, q⟩ := h
  rw [Vals.ref1 r]
  obtain ⟨its, rv, hl, hz⟩ := I.list hs
  obtain ⟨z1, z2, z3⟩ := paired_zip pr
  have hal : its = (fa.zip ss).map fun x => Value.ref x.1 := by
    have : ∀ {xs : List (Addr × W3)} {us : List Value}, Vals (xs.map fun x => V.ref x.1) us → us = xs.map fun x => Value.ref x.1 := by
      intro xs
      induction xs with
      | nil => intro us h; cases h; rfl
      | cons x xs ih =>
        intro us h
        rw [List.map_cons] at h
        cases h with
        | cons h1 h2 =>
          rw [List.map_cons, ← ih h2]
          have : _ = Value.ref x.1 := h1
          rw [this]
    refine this ?_
    have e : ((fa.zip ss).map fun x => V.ref x.1) = fa.map V.ref := by
      conv => rhs; rw [← z2]
      rw [List.map_map]
      rfl
    rw [e]
    exact rv
  have hE : ∀ R : Value → Addr × W3 → Prop, (∀ x ∈ fa.zip ss, R (Value.ref x.1) x) → PySem.W.EachIs R its (fa.zip ss) := fun R h => by
    rw [hal]
    exact each_of_map (fun x : Addr × W3 => Value.ref x.1) _ h
  have zl : (fa.zip ss).length ≤ sizeLine := by
    have e : (fa.map V.ref).length = (fa.zip ss).length := by
      rw [List.length_map]
      conv => lhs; rw [← z2]
      rw [List.length_map]
    rw [← e]
    exact hz
  refine PySem.W.sorted_data (bs := fa.zip ss) (enc := dT3) (R := fun v x => v = Value.ref x.1) hl.isList
    (hE _ fun _ _ => rfl) (hE _ fun x hx => ⟨[], reads_3 I (sqt sb (z1 x hx))⟩)
    (PySem.W.AllAlike.of fun b b' => by unfold dT3; simp [PySem.W.alike, PySem.W.alikeAll]) (PySem.W.Sortable.tuples fun b => ⟨_, _, rfl⟩) zl (fun b _ => by
      have : (dT3 b).depth ≤ 2 := by unfold dT3; simp [PyData.depth, PyData.depthAll]
      omega) fun out hol hout => ?_
  generalize hxs : (fa.zip ss).mergeSort (PySem.W.dataLe false dT3) = xs at hout
  have hp : xs.Perm (fa.zip ss) := by rw [← hxs]; exact List.mergeSort_perm _ _
  have hw : (xs.map (·.2)).Pairwise le3 := by
    rw [← hxs, dataLe_3, List.pairwise_map]
    refine (List.pairwise_mergeSort (le := fun p q : Addr × W3 => decide (r3 p.2 ≤ r3 q.2)) (fun x y z h1 h2 => ?_) (fun x y => ?_) _).imp fun {x y} h => le3_of (of_decide_eq_true h)
    · exact decide_eq_true (List.le_trans (of_decide_eq_true h1) (of_decide_eq_true h2))
    · rcases List.le_total (r3 x.2) (r3 y.2) with h | h <;> simp [h]
  have ho : out = xs.map fun x => Value.ref x.1 := each_out (fun x : Addr × W3 => Value.ref x.1) hout
  obtain ⟨ep, he'⟩ := PyProof.Rows.sortedAll_at s.heap its out.toArray
  have hlen : ((xs.map (·.1)).map V.ref).length ≤ sizeLine := by rw [List.length_map, List.length_map, hp.length_eq]; exact zl
  refine ⟨.ref _, upd H (s.heap.objs.size + 1) (.lst ((xs.map (·.1)).map V.ref)), I.laid (t' := s.toks) (fun _ _ => PyProof.Rows.sortedAll_old) (Nat.le_succ _) ⟨hlen, out, ep, ?_, he'⟩, rfl, q _ (xs.map (·.2)) _ ?_ hw (paired_of_zip fun x hx => z1 x (hp.mem_iff.mp hx)) (I.hok.fresh (Nat.le_succ _))⟩
  · rw [ho, List.map_map]
    exact vals_refs (fun x : Addr × W3 => x.1) xs
  · have := hp.map (·.2)
    rw [z3] at this
    exact this
/-! ### strokes on all words -/
structure HardS (ws : List W3) (i : Nat) (xs : List W3) : Prop where
  len : xs.length = 12 * i
  rng : ∀ s ∈ xs, 0 ≤ s.1 ∧ s.1 ≤ 999 ∧ 0 ≤ s.2.1 ∧ s.2.1 < i ∧ 0 ≤ s.2.2 ∧ s.2.2 < (ws.getD s.2.1.toNat d3).1
  far : xs.Pairwise fun s t => s.2.1 = t.2.1 → (ws.getD t.2.1.toNat d3).2.2 ≤ t.1 - s.1 ∨ (ws.getD t.2.1.toNat d3).2.2 ≤ s.1 - t.1
def hardW (ws : List W3) (w : Nat) (b : Int) (n : Nat) : List W3 := (List.range n).map fun (k : Nat) => (b + (k : Int) * (ws.getD w d3).2.2, ((w : Nat) : Int), (k : Int) % (ws.getD w d3).1)
theorem HardS.add {ws xs : List W3} {i : Nat} {b : Int} (okw : OkWs ws) (h : HardS ws i xs) (hi : i < ws.length) (b0 : 0 ≤ b) (b1 : b < 30) : HardS ws (i + 1) (xs ++ hardW ws i b 12) := by
  obtain ⟨o1, o2, o3, o4, o5, o6⟩ := okw.ok _ (getD_mem (d := d3) hi)
  refine ⟨by unfold hardW; rw [List.length_append, h.len, List.length_map, List.length_range]; omega, fun s hs => ?_, List.pairwise_append.mpr ⟨h.far, ?_, fun s hs t ht => ?_⟩⟩
  · rcases List.mem_append.mp hs with hs | hs
    · obtain ⟨a1, a2, a3, a4, a5, a6⟩ := h.rng s hs
      exact ⟨a1, a2, a3, by omega, a5, a6⟩
    · unfold hardW at hs
      obtain ⟨k, hk, rfl⟩ := List.mem_map.mp hs
      have hk := List.mem_range.mp hk
      have h1 : (k : Int) * (ws.getD i d3).2.2 ≤ 12 * 9 := Int.mul_le_mul (by omega) o6 (by omega) (by omega)
      have h2 : 0 ≤ (k : Int) * (ws.getD i d3).2.2 := Int.mul_nonneg (by omega) (by omega)
      refine ⟨by show 0 ≤ b + _; omega, by show b + _ ≤ 999; omega, by show (0 : Int) ≤ (i : Nat); omega, by show ((i : Nat) : Int) < ((i + 1 : Nat) : Int); omega, Int.emod_nonneg _ (by omega), ?_⟩
      show _ < (ws.getD ((i : Nat) : Int).toNat d3).1
      rw [Int.toNat_natCast]
      exact Int.emod_lt_of_pos _ (by omega)
  · unfold hardW
    rw [List.pairwise_map]
    refine List.pairwise_lt_range.imp fun {k j} hij _ => .inl ?_
    have h6 : ((k : Int) + 1) * (ws.getD i d3).2.2 ≤ (j : Int) * (ws.getD i d3).2.2 := Int.mul_le_mul_of_nonneg_right (by omega) (by omega)
    rw [Int.add_mul, Int.one_mul] at h6
    show (ws.getD ((i : Nat) : Int).toNat d3).2.2 ≤ b + (j : Int) * _ - (b + (k : Int) * _)
    rw [Int.toNat_natCast]
    omega
  · intro e
    unfold hardW at ht
    obtain ⟨k, hk, rfl⟩ := List.mem_map.mp ht
    have := (h.rng s hs).2.2.2.1
    have e : s.2.1 = ((i : Nat) : Int) := e
    omega
theorem HardS.ok {ws xs ys : List W3} (okw : OkWs ws) (h : HardS ws ws.length xs) (hp : ys.Perm xs) (hs : ys.Pairwise le3) : OkSt ws ys := by
  have l4 := okw.l4
  have h1 : ys.Pairwise fun s t => s.2.1 = t.2.1 → (ws.getD t.2.1.toNat d3).2.2 ≤ t.1 - s.1 ∨ (ws.getD t.2.1.toNat d3).2.2 ≤ s.1 - t.1 := (hp.symm.pairwise_iff fun {s t} z e => by
    have z := z e.symm
    rw [← e]
    omega).mp h.far
  refine ⟨by rw [hp.length_eq, h.len]; omega, fun s hs => ?_, ?_⟩
  · exact h.rng s (hp.mem_iff.mp hs)
  · have h2 := hs.and h1
    refine List.Pairwise.imp_of_mem (fun {s t} ms mt z => ?_) h2
    obtain ⟨z1, z2⟩ := z
    obtain ⟨_, _, a3, a4, _, _⟩ := h.rng t (hp.mem_iff.mp mt)
    obtain ⟨o1, o2, o3, o4, o5, o6⟩ := okw.ok _ (getD_mem (d := d3) (show t.2.1.toNat < ws.length by omega))
    unfold le3 at z1
    refine ⟨?_, fun e => ?_⟩
    · show s.1 < t.1 ∨ (s.1 = t.1 ∧ s.2.1 < t.2.1)
      by_cases e : s.2.1 = t.2.1
      · have := z2 e
        omega
      · omega
    · have := z2 e
      omega
def spHard (K : PySem.W.Frag) : Sp := fun vs H Q _ => ∃ (G : Hp) (d a : Addr) (ws : List W3), vs = [.ref d, .ref a] ∧ Same G H ∧ Dice K G H d ∧ TupL K G a (ws.map vW) ∧ OkWs ws ∧
  ∀ ss p G' H', Gr (· = d) G H G' H' → Dice K G' H' d → TupL K G' p (ss.map vW) → OkSt ws ss → Q (.ref p) H'
theorem i_hard {K : PySem.W.Frag} {X : Addr → Prop} {G0 H0 G H : Hp} {Q : VK} {E : XK} {d a : Addr} {ws : List W3} (g : Gr X G0 H0 G H) (D : Dice K G H d) (hd : X d ∨ H0 d = none) (hw : TupL K G a (ws.map vW)) (okw : OkWs ws)
    (k : ∀ ss p G' H', Gr (· = d) G H G' H' → Gr X G0 H0 G' H' → Dice K G' H' d → TupL K G' p (ss.map vW) → OkSt ws ss → Q (.ref p) H') : spHard K ([.ref d, .ref a] ++ []) H Q E :=
  ⟨G, d, a, ws, rfl, g.sub, D, hw, okw, fun ss p G' H' s => k ss p G' H' s (g.seq s fun c e => by rw [e]; exact hd)⟩
end Z
set_option Elab.async false
set_option linter.all false
set_option maxRecDepth 100000
set_option maxHeartbeats 4000000
namespace Z
open PySem PySem.Spec PyProof.Rows L2
theorem StOk.rank_few {en : List (Option Int)} {ld : List Int} {F : List S} {s : S} {n : Nat} (h : StOk en ld F) (hr : Rank en ld s n) (hs : s ∈ F) : n + 1 ≤ F.length := by
  have key : ∀ n s, Rank en ld s n → s ∈ F → ∃ l : List S, l.Nodup ∧ l.length = n + 1 ∧ ∀ x ∈ l, x ∈ F ∧ ∃ k, k ≤ n ∧ Rank en ld x k := by
    intro n
    induction n with
    | zero => exact fun s hr hs => ⟨[s], by simp, rfl, fun x hx => by rw [List.mem_singleton.mp hx]; exact ⟨hs, 0, Nat.le_refl _, hr⟩⟩
    | succ n ih =>
      intro s hr hs
      obtain ⟨o, ho, t, e, ht⟩ := rank_path hr
      obtain ⟨l, h1, h2, h3⟩ := ih t ht (h.cl s hs o ho t e)
      refine ⟨s :: l, List.nodup_cons.mpr ⟨fun hm => ?_, h1⟩, by rw [List.length_cons, h2], fun x hx => ?_⟩
      · obtain ⟨_, k, hk, hk2⟩ := h3 s hm
        have := hr.uniq hk2
        omega
      · rcases List.mem_cons.mp hx with rfl | hx
        · exact ⟨hs, n + 1, Nat.le_refl _, hr⟩
        · obtain ⟨a, k, hk, hk2⟩ := h3 x hx
          exact ⟨a, k, by omega, hk2⟩
  obtain ⟨l, h1, h2, h3⟩ := key n s hr hs
  have := nodup_le h1 (ys := F) fun x hx => (h3 x hx).1
  omega
theorem StOk.few {en : List (Option Int)} {ld : List Int} {ST : List S} (oke : OkEn en) (okl : OkLd ld) (h : StOk en ld ST) : ST.length ≤ manyS en ld := states_le h.nd fun s hs => (h.re s hs).ok okl.l1 oke
/-- what is held is less than what is met -/
theorem LongRes.few {en : List (Option Int)} {ld : List Int} {ST : List S} {n : Nat} {wd : List (Option Int)} (oke : OkEn en) (okl : OkLd ld) (h : LongRes en ld n wd) (hs : StOk en ld ST) (hm : manyS en ld ≤ 2000) : n ≤ 1999 := by
  have := hs.rank_few h.rk hs.fi
  have := hs.few oke okl
  omega
/-! ### the paper as data -/
def dP (x : S × Nat) : PyData := .tuple [.int x.1.1, .tuple (x.1.2.map PyData.int), .int (x.2 : Nat)]
theorem dp_paper {K : PySem.W.Frag} {H : Hp} {as : List Addr} {pp : List (S × Nat)} (h : Paired (fun a x => RowP K H a x) as pp) : DpAll K H (as.map V.ref) (pp.map dP) := by
  induction h with
  | nil => exact .nil
  | @cons q s _ _ r t ih =>
    obtain ⟨r2, h1, h2⟩ := r
    exact .cons (.tup h1 (.cons (.int _) (.cons (.tup h2 (dpAll_ints _)) (.cons (.int _) .nil)))) ih
theorem dk_P (x : S × Nat) : Dk 2 (dP x) := dk_tup fun d h => by
  simp only [List.mem_cons, List.not_mem_nil, or_false] at h
  rcases h with rfl | rfl | rfl
  · exact dk_int
  · exact dk_tup fun d h => by
      obtain ⟨i, _, rfl⟩ := List.mem_map.mp h
      exact dk_int
  · exact dk_int
theorem dk_Pp (pp : List (S × Nat)) : Dk 3 (.list (pp.map dP)) := dk_list fun d h => by
  obtain ⟨x, _, rfl⟩ := List.mem_map.mp h
  exact dk_P x
/-! ### no loss: no stretch is too long -/
section
variable {ws : List W3} {ld : List Int} {hd lp : List (Option Int)}
theorem noLose_gl {m : Nat → Option Int} (okw : OkWs ws) {v : Nat} (hv : v < ws.length) {L : Int} (hL : lim (ws.getD v d3) = some L) (h : ∀ t, ¬ Lose ws m v t) : ∀ t, ((gl m (v : Nat) t : Nat) : Int) ≤ L
  | 0 => (lim_nat (okw.ok _ (getD_mem (d := d3) hv)) hL).1
  | t + 1 => by
    have ih := noLose_gl okw hv hL h t
    have h1 : ¬ ((gl m (v : Nat) (t + 1) : Nat) : Int) = L + 1 := fun e => h t ⟨hv, L, hL, e⟩
    have h2 : gl m (v : Nat) (t + 1) ≤ gl m (v : Nat) t + 1 ∨ gl m (v : Nat) (t + 1) = 1 := by
      rw [gl]
      split
      · exact .inr rfl
      · exact .inl (Nat.le_refl _)
    have h3 := (lim_nat (okw.ok _ (getD_mem (d := d3) hv)) hL).1
    omega
theorem gap_ok (okw : OkWs ws) (okl : OkLd ld) (okp : OkPl ws.length hd lp) (h : ∀ v t, ¬ Lose ws (mend ld hd lp) v t) {gs : List (Option Int)} (hg : GapsSem (mend ld hd lp) lp ws.length gs) {v : Nat} (hv : v < ws.length) {L : Int} (hL : lim (ws.getD v d3) = some L) : ∃ x, gs.getD v none = some x ∧ x ≤ L := by
  have key := noLose_gl okw hv hL fun t => h v t
  have h1 := hg.2 v hv
  generalize gs.getD v none = o at h1
  match o, h1 with
  | none, h1 =>
    have h2 := gl_to (m := mend ld hd lp) (w := (v : Nat)) (s := n0 ld hd) (i := L.toNat + 1) fun j _ => mend_not okl okp.l1 h1 (by omega)
    have := key (n0 ld hd + (L.toNat + 1))
    omega
  | some x, ⟨_, M, e1, ⟨e, e2, e3⟩, _⟩ =>
    have := key e
    exact ⟨x, rfl, by omega⟩
end
def rMn2 : List V → Hp → VK → Prop := fun xs H Q => ∃ i j, xs = [.int i, .int j] ∧ Q (.int (if j < i then j else i)) H
theorem cl_min2 {X : Cx} (hc : X.calm = true) : CallR X (.builtin "min") rMn2 := call_min2 hc
theorem i_min2 {H : Hp} {Q : VK} {i j : Int} (q : Q (.int (min i j)) H) : rMn2 [.int i, .int j] H Q := ⟨i, j, rfl, by
  have e : (if j < i then j else i) = min i j := by split <;> omega
  rw [e]; exact q⟩
theorem fr_leI (ld : List Int) : ∀ j, fr ld j ≤ j
  | 0 => Nat.le_refl _
  | j + 1 => by
    have := fr_leI ld j
    rw [fr]
    split <;> omega
/-! ### held's answer, closed -/
def HeldC (K : PySem.W.Frag) (G : Hp) (xs : List V) (en : List (Option Int)) (ld : List Int) : Prop :=
  (∃ a b hd lp, xs = [.str "endless", .ref a, .ref b] ∧ G a = some (.lst (hd.map vO)) ∧ G b = some (.lst (lp.map vO)) ∧ EndRes en ld hd lp) ∨
  (∃ a b wd as pp n ST, xs = [.str "ends", .int (n : Nat), .ref a, .ref b] ∧ G a = some (.lst (wd.map vO)) ∧ LongRes en ld n wd ∧ G b = some (.lst (as.map V.ref)) ∧ Paired (fun a x => RowP K G a x) as pp ∧ PapRes en ld ST pp ∧ StOk en ld ST)
theorem HeldC.mono {K : PySem.W.Frag} {G G' : Hp} {xs : List V} {en : List (Option Int)} {ld : List Int} (e : Same G G') (h : HeldC K G xs en ld) : HeldC K G' xs en ld := by
  rcases h with ⟨a, b, hd, lp, h1, h2, h3, h4⟩ | ⟨a, b, wd, as, pp, n, ST, h1, h2, h3, h4, h5, h6, h7⟩
  · exact .inl ⟨a, b, hd, lp, h1, e _ _ h2, e _ _ h3, h4⟩
  · exact .inr ⟨a, b, wd, as, pp, n, ST, h1, e _ _ h2, h3, e _ _ h4, Paired.imp (fun _ _ h => RowP.mono e h) h5, h6, h7⟩
theorem HeldC.len {K : PySem.W.Frag} {G : Hp} {xs : List V} {en : List (Option Int)} {ld : List Int} (h : HeldC K G xs en ld) : 3 ≤ xs.length ∧ xs.length ≤ 4 := by
  rcases h with ⟨a, b, hd, lp, rfl, _⟩ | ⟨a, b, wd, as, pp, n, ST, rfl, _⟩ <;> exact ⟨by simp, by simp⟩
theorem held_close {K : PySem.W.Frag} {X : Addr → Prop} {G0 H0 G H Hb : Hp} {r d : Addr} {en : List (Option Int)} {ld : List Int} (g : Gr X G0 H0 G H) (D : Dice K G H d) (nd : ∀ l, Hb l = none → ¬ l = d) (hb : ∀ l, Hb l = none → H0 l = none) (h : HeldV K G H Hb r en ld) : ∃ G' xs, Gr X G0 H0 G' H ∧ Dice K G' H d ∧ Same G G' ∧ SqT K G' r xs ∧ HeldC K G' xs en ld := by
  rcases h with ⟨a, b, hd, lp, na, nb, nab, hT, ta, tb, er⟩ | ⟨a, b, wd, as, pp, n, ST, na, nb, nab, hT, ta, lr, tb, pr, pa, so⟩
  · have g1 := g.close ta (hb _ na)
    have s1 := same_close ta
    have tb1 := tb.close (u := .lst (hd.map vO)) nab.symm
    have s2 := same_close tb1
    refine ⟨_, _, g1.close tb1 (hb _ nb), (D.close ta (nd _ na)).close tb1 (nd _ nb), s1.trans s2, sqt (s1.trans s2) hT, .inl ⟨a, b, hd, lp, rfl, s2 _ _ upd_same, upd_same, er⟩⟩
  · have g1 := g.close ta (hb _ na)
    have s1 := same_close ta
    have tb1 := tb.close (u := .lst (wd.map vO)) nab.symm
    have s2 := same_close tb1
    refine ⟨_, _, g1.close tb1 (hb _ nb), (D.close ta (nd _ na)).close tb1 (nd _ nb), s1.trans s2, sqt (s1.trans s2) hT, .inr ⟨a, b, wd, as, pp, n, ST, rfl, s2 _ _ upd_same, lr, upd_same, Paired.imp (fun _ _ h => RowP.mono (s1.trans s2) h) pr, pa, so⟩⟩
theorem i_tupleT {K : PySem.W.Frag} {H : Hp} {Q : VK} {p : Addr} {ys : List V} (h : SqT K H p ys) (q : Q (.ref p) H) : rTuple K [.ref p] H Q := ⟨p, ys, rfl, .inr ⟨h, q⟩⟩
theorem sIx_1 {n : Nat} (h : 1 ≤ n) : ¬ (HT.sIx n 0 (some 1) = 0 ∧ HT.sIx n n none = n) := by
  intro ⟨h1, _⟩
  have : HT.sIx n 0 (some 1) = 1 := by
    simp [HT.sIx]
    omega
  omega
end Z
set_option Elab.async false
set_option linter.all false
set_option maxRecDepth 100000
set_option maxHeartbeats 4000000
namespace Z
open PySem PySem.Spec PyProof.Rows L2
/-! ### every how many beats -/
def slL (k : Nat) : List Int := 0 :: List.replicate (k - 1) 1
theorem slL_len {k : Nat} (h : 1 ≤ k) : (slL k).length = k := by unfold slL; rw [List.length_cons, List.length_replicate]; omega
theorem slL_ok {k : Nat} (h : 1 ≤ k) (h2 : k ≤ 12) : OkLd (slL k) := by
  refine ⟨by rw [slL_len h]; exact h, by rw [slL_len h]; exact h2, fun x hx => ?_, List.mem_cons_self⟩
  rcases List.mem_cons.mp hx with h | h
  · exact .inl h
  · exact .inr (List.eq_of_mem_replicate h)
theorem slL_many {en : List (Option Int)} {k : Nat} (h : 1 ≤ k) (h2 : k ≤ 12) (hm : manyS en (slL 12) ≤ 2000) : manyS en (slL k) ≤ 2000 := by
  unfold manyS at hm ⊢
  rw [slL_len h]
  rw [slL_len (by decide)] at hm
  exact Nat.le_trans (Nat.mul_le_mul_right _ h2) hm
def SlowRes (en : List (Option Int)) (o : Option Nat) : Prop := match o with
  | none => ∃ n, Rank en (slL 1) (firstS en) n
  | some k => 1 ≤ k ∧ k ≤ 12 ∧ (∀ j, 1 ≤ j → j ≤ k → Lasts en (slL j) (firstS en)) ∧ (k = 12 ∨ ∃ n, Rank en (slL (k + 1)) (firstS en) n)
def SlowV (K : PySem.W.Frag) (G' H' H : Hp) (v : V) (en : List (Option Int)) (o : Option Nat) : Prop := match o with
  | none => v = .non
  | some k => ∃ r a b hd lp, v = .ref r ∧ H a = none ∧ H b = none ∧ a ≠ b ∧ SqT K G' r [.int (k : Nat), .ref a, .ref b] ∧ At G' H' a (.lst (hd.map vO)) ∧ At G' H' b (.lst (lp.map vO)) ∧ EndRes en (slL k) hd lp
theorem SlowV.mono {K : PySem.W.Frag} {G H G' H' H0 : Hp} {v : V} {en : List (Option Int)} {o : Option Nat} (s : Gr No G H G' H') (h : SlowV K G H H0 v en o) : SlowV K G' H' H0 v en o := by
  match o, h with
  | none, h => exact h
  | some k, ⟨r, a, b, hd, lp, h1, h2, h3, h4, h5, h6, h7, h8⟩ => exact ⟨r, a, b, hd, lp, h1, h2, h3, h4, sqt s.gg h5, h6.monoN s, h7.monoN s, h8⟩
def spSlowest (K : PySem.W.Frag) (CM : Addr) : Sp := fun vs H Q _ => ∃ (G : Hp) (m : Addr) (ws : List W3), vs = [.ref m] ∧ Same G H ∧ MemAt K CM G m ws ∧ manyS (ws.map lim) (slL 12) ≤ 2000 ∧
  ∀ v o G' H', Gr No G H G' H' → SlowV K G' H' H v (ws.map lim) o → SlowRes (ws.map lim) o → Q v H'
theorem i_slowest {K : PySem.W.Frag} {X : Addr → Prop} {G0 H0 G H : Hp} {Q : VK} {CM : Addr} {E : XK} {m : Addr} {ws : List W3} (g : Gr X G0 H0 G H) (M : MemAt K CM G m ws) (hm : manyS (ws.map lim) (slL 12) ≤ 2000)
    (k : ∀ v o G' H', Gr No G H G' H' → Gr X G0 H0 G' H' → SlowV K G' H' H v (ws.map lim) o → SlowRes (ws.map lim) o → Q v H') : spSlowest K CM ([.ref m] ++ []) H Q E :=
  ⟨G, m, ws, rfl, g.sub, M, hm, fun v o G' H' s => k v o G' H' s (g.seqN s)⟩
theorem flat_one (x : V) : ∀ j : Nat, (List.replicate j [x]).flatten = List.replicate j x
  | 0 => rfl
  | j + 1 => by rw [List.replicate_succ, List.flatten_cons, flat_one x j, List.replicate_succ]; rfl
theorem slL_map (j : Nat) : [V.int 0] ++ (List.replicate j [V.int 1]).flatten = (slL (j + 1)).map V.int := by
  unfold slL
  rw [Nat.add_sub_cancel, List.map_cons, List.map_replicate, flat_one]
  rfl
end Z
set_option Elab.async false
set_option linter.all false
set_option maxRecDepth 100000
set_option maxHeartbeats 4000000
namespace Z
open PySem PySem.Spec PyProof.Rows L2
/-! ### a def that answers or raises -/
theorem fnX0 {P : Program} {w : World} {K : PySem.W.Frag} {mg : Str → Option Value} {base : Heap} {k : Nat} {f : Addr} {fd : FuncData} {ps : List Str} {sp : Sp} (F : FnOk P w K mg base CX0 k f fd ps sp) : FnOk P w K mg base (L2N.CX P w) k f fd ps sp :=
  ⟨F.len, fun A outer s H args us vs Q E hr he hb hv hs => codeAny_mono (F.run A outer s H args us vs Q E hr he hb hv hs) fun r s' h => by
    match r, h with
    | .ok (.ret u), h => exact h
    | .error e, h => exact h.elim⟩
def spOr (s1 s2 : Sp) : Sp := fun vs H Q E => s1 vs H Q E ∨ s2 vs H Q E
theorem fnOr {P : Program} {w : World} {K : PySem.W.Frag} {mg : Str → Option Value} {base : Heap} {C : CXT} {k : Nat} {f : Addr} {fd : FuncData} {ps : List Str} {s1 s2 : Sp} (F1 : FnOk P w K mg base C k f fd ps s1) (F2 : FnOk P w K mg base C k f fd ps s2) : FnOk P w K mg base C k f fd ps (spOr s1 s2) :=
  ⟨fun vs H Q E h => h.elim (F1.len vs H Q E) (F2.len vs H Q E), fun A outer s H args us vs Q E hr he hb hv hs => hs.elim (F1.run A outer s H args us vs Q E hr he hb hv) (F2.run A outer s H args us vs Q E hr he hb hv)⟩
/-! ### slowest, as far as it goes -/
section
variable {K : PySem.W.Frag} {CM cY : Addr} {X : Addr → Prop} {G0 H0 G H : Hp} {Q : VK} {E : XK} {m : Addr} {ws : List W3}
def spSlowG (K : PySem.W.Frag) (CM : Addr) : Sp := fun vs H Q _ => ∃ (G : Hp) (m : Addr) (ws : List W3), vs = [.ref m] ∧ Same G H ∧ MemAt K CM G m ws ∧ (∀ j, 1 ≤ j → j ≤ 12 → (∀ i, 1 ≤ i → i < j → Lasts (ws.map lim) (slL i) (firstS (ws.map lim))) → manyS (ws.map lim) (slL j) ≤ 2000) ∧
  ∀ v o G' H', Gr No G H G' H' → SlowV K G' H' H v (ws.map lim) o → SlowRes (ws.map lim) o → Q v H'
theorem i_slowG (g : Gr X G0 H0 G H) (M : MemAt K CM G m ws) (hm : ∀ j, 1 ≤ j → j ≤ 12 → (∀ i, 1 ≤ i → i < j → Lasts (ws.map lim) (slL i) (firstS (ws.map lim))) → manyS (ws.map lim) (slL j) ≤ 2000)
    (k : ∀ v o G' H', Gr No G H G' H' → Gr X G0 H0 G' H' → SlowV K G' H' H v (ws.map lim) o → SlowRes (ws.map lim) o → Q v H') : spSlowG K CM ([.ref m] ++ []) H Q E :=
  ⟨G, m, ws, rfl, g.sub, M, hm, fun v o G' H' s => k v o G' H' s (g.seqN s)⟩
def spSlowMany (K : PySem.W.Frag) (CM cY : Addr) : Sp := fun vs H Q E => ∃ (G : Hp) (m : Addr) (ws : List W3) (N : Nat), vs = [.ref m] ∧ Same G H ∧ MemAt K CM G m ws ∧ 1 ≤ N ∧ N ≤ 12 ∧ 2000 < manyS (ws.map lim) (slL N) ∧ (∀ i, 1 ≤ i → i < N → Lasts (ws.map lim) (slL i) (firstS (ws.map lim)) ∧ manyS (ws.map lim) (slL i) ≤ 2000) ∧
  ∀ H', Same H H' → E (.ref cY) none H'
theorem i_slowMany (g : Gr X G0 H0 G H) (M : MemAt K CM G m ws) {N : Nat} (n1 : 1 ≤ N) (n2 : N ≤ 12) (hm : 2000 < manyS (ws.map lim) (slL N)) (hl : ∀ i, 1 ≤ i → i < N → Lasts (ws.map lim) (slL i) (firstS (ws.map lim)) ∧ manyS (ws.map lim) (slL i) ≤ 2000)
    (k : ∀ H', Same H H' → E (.ref cY) none H') : spSlowMany K CM cY ([.ref m] ++ []) H Q E := ⟨G, m, ws, N, rfl, g.sub, M, n1, n2, hm, hl, k⟩
end
/-! ### the same plan, fewer beats apart -/
section
variable {ws : List W3} {hd lp : List (Option Int)}
theorem slL_free {j : Nat} (h : 1 ≤ j) (b : Nat) : (slL j).getD (b % (slL j).length) 1 = 0 ↔ b % j = 0 := by
  rw [slL_len h]
  unfold slL
  have h1 := Nat.mod_lt b h
  match e : b % j with
  | 0 => simp
  | n + 1 =>
    rw [List.getD_cons_succ, List.getD_eq_getElem?_getD, List.getElem?_replicate, if_pos (by omega)]
    simp
theorem slL_one {j : Nat} (h : 1 ≤ j) : ∀ i, 1 ≤ i → i ≤ j → fr (slL j) i = 1
  | 0, h1, _ => absurd h1 (by omega)
  | 1, _, _ => by
    rw [fr, if_pos ((slL_free h 0).mpr (Nat.zero_mod j))]
    rfl
  | i + 2, _, h2 => by
    rw [fr, slL_one h (i + 1) (by omega) (by omega), if_neg]
    intro e
    have := (slL_free h (i + 1)).mp e
    rw [Nat.mod_eq_of_lt (by omega)] at this
    omega
theorem slL_fr {j : Nat} (h : 1 ≤ j) (a : Nat) : fr (slL j) (a * j) = a := by
  have := fr_mul (slL j) a
  rw [slL_len h, Nat.mul_comm] at this
  rw [this]
  unfold free
  rw [slL_len h, slL_one h j h (Nat.le_refl j), Nat.mul_one]
theorem slL_mend {j : Nat} (h : 1 ≤ j) (a : Nat) : mend (slL j) hd lp (a * j) = thing hd lp a := by
  unfold mend
  rw [if_pos ((slL_free h (a * j)).mpr (Nat.mul_mod_left a j)), slL_fr h]
theorem slL_none {j : Nat} (h : 1 ≤ j) {a b : Nat} (h1 : 1 ≤ b) (h2 : b < j) : mend (slL j) hd lp (a * j + b) = none := by
  unfold mend
  rw [if_neg]
  intro e
  have := (slL_free h _).mp e
  rw [Nat.mul_comm, Nat.mul_add_mod, Nat.mod_eq_of_lt h2] at this
  omega
theorem slL_gl {j k : Nat} (h : 1 ≤ j) (hk : j ≤ k) (w : Int) : ∀ a b, b ≤ j → gl (mend (slL j) hd lp) w (a * j + b) ≤ gl (mend (slL k) hd lp) w (a * k + b)
  | 0, 0, _ => by rw [Nat.zero_mul, Nat.zero_mul]; exact Nat.le_refl _
  | a + 1, 0, _ => by
    have ih := slL_gl h hk w a j (Nat.le_refl j)
    have e := gl_to (m := mend (slL k) hd lp) (w := w) (s := a * k + j) (i := k - j) fun i hi => by
      rw [Nat.add_assoc, slL_none (by omega) (by omega) (by omega)]
      intro z
      cases z
    rw [show a * k + j + (k - j) = (a + 1) * k + 0 by rw [Nat.succ_mul]; omega] at e
    rw [show (a + 1) * j + 0 = a * j + j by rw [Nat.succ_mul]; rfl]
    omega
  | a, b + 1, hb => by
    have ih := slL_gl h hk w a b (by omega)
    have e : mend (slL j) hd lp (a * j + b) = mend (slL k) hd lp (a * k + b) := by
      rcases Nat.eq_zero_or_pos b with h0 | h0
      · rw [h0, Nat.add_zero, Nat.add_zero, slL_mend h, slL_mend (by omega)]
      · rw [slL_none h h0 (by omega), slL_none (by omega) h0 (by omega)]
    rw [← Nat.add_assoc, ← Nat.add_assoc, gl, gl, e]
    split
    · exact Nat.le_refl _
    · omega
theorem fewer_ok (okw : OkWs ws) {j k : Nat} (h : 1 ≤ j) (hk : j ≤ k) (hno : ∀ v t, ¬ Lose ws (mend (slL k) hd lp) v t) : ∀ v t, ¬ Lose ws (mend (slL j) hd lp) v t := by
  rintro v t ⟨hv, L, e1, e2⟩
  have h1 := slL_gl (hd := hd) (lp := lp) h hk (v : Nat) ((t + 1) / j) ((t + 1) % j) (Nat.le_of_lt (Nat.mod_lt _ h))
  have h2 := noLose_gl okw hv e1 (fun s => hno v s) ((t + 1) / j * k + (t + 1) % j)
  rw [show (t + 1) / j * j + (t + 1) % j = t + 1 by rw [Nat.mul_comm]; exact Nat.div_add_mod _ _] at h1
  omega
end
/-- the greatest number found by two ways -/
theorem slow_same {en : List (Option Int)} {o : Option Nat} (h : SlowRes en o) : (∀ e, 1 ≤ e → e ≤ 12 → (∃ n, Rank en (slL e) (firstS en) n) → (∀ i, 1 ≤ i → i < e → Lasts en (slL i) (firstS en)) → (e = 1 ∧ o = none) ∨ (2 ≤ e ∧ o = some (e - 1))) ∧ ((∀ i, 1 ≤ i → i ≤ 12 → Lasts en (slL i) (firstS en)) → o = some 12) := by
  refine ⟨fun e e1 e2 ⟨n, r⟩ la => ?_, fun la => ?_⟩
  · match o, h with
    | none, ⟨n2, r2⟩ =>
      rcases Nat.lt_or_ge 1 e with h1 | h1
      · exact (r2.not (la 1 (by omega) h1)).elim
      · exact .inl ⟨by omega, rfl⟩
    | some k, ⟨h1, h2, h3, h4⟩ =>
      have h5 : ¬ e ≤ k := fun z => r.not (h3 e e1 z)
      refine .inr ⟨by omega, ?_⟩
      rcases h4 with h4 | ⟨n2, r2⟩
      · omega
      · have h6 : ¬ k + 1 < e := fun z => r2.not (la (k + 1) (by omega) z)
        congr 1
        omega
  · match o, h with
    | none, ⟨n2, r2⟩ => exact (r2.not (la 1 (by omega) (by omega))).elim
    | some k, ⟨h1, h2, h3, h4⟩ =>
      rcases h4 with h4 | ⟨n2, r2⟩
      · rw [h4]
      · rcases Nat.lt_or_ge k 12 with h5 | h5
        · exact (r2.not (la (k + 1) (by omega) (by omega))).elim
        · congr 1
          omega
end Z
set_option Elab.async false
set_option linter.all false
set_option maxRecDepth 100000
set_option maxHeartbeats 4000000
namespace Z
open PySem PySem.Spec PyProof.Rows L2
/-! ### d.get(q, x), keys being states -/
def tDGet2N (P : Program) (w : World) (K : PySem.W.Frag) (td ty tx : TE) : TE := fun σ H Q => td σ H fun x H1 => ∃ (a : Addr) (xs : List (S × Addr × V)), x = .ref a ∧ H1 a = some (dN P w a xs) ∧ KeysAt K H1 xs ∧ ty σ H1 fun y H2 => tx σ H2 fun z H3 => ∃ (q : Addr) (s : S) (ys : List (S × Addr × V)), y = .ref q ∧ H3 a = some (dN P w a ys) ∧ KeysAt K H3 ys ∧ StAt K H3 q s ∧ Q ((valN ys s).getD z) H3
theorem RelO.getD' {o : Option V} {u : Option Value} {z : V} {r : Value} (h : RelO o u) (hz : RelV z r) : RelV (o.getD z) (u.getD r) := h.getD hz
theorem pe_dget2N {X : Cx} {o e f : Expr} {apos cpos : Pos} {td ty tx : TE} (hu : X.A.units + 64 < cLine) (ho : PE X o td) (he : PE X e ty) (hf : PE X f tx) (m : M2 X o "get" apos e f cpos) : PE X (.Call (.Attribute o "get" apos) [e, f] [] cpos) (tDGet2N X.prog X.w X.K td ty tx) := by
  refine ⟨fun pins s σ H Q I h => ?_⟩
  refine wpAny_Call_method m.base m.few m.line PySem.F.plainAttrs_dict PySem.F.slot_dict_get PySem.F.type_dict_get (thn (ho.run pins s σ H _ I h) fun u s1 ⟨x, H1, I1, rx, a, xs, ex, e1, k1, q1⟩ => ?_)
  subst ex
  obtain rfl : u = Value.ref a := rx
  obtain ⟨z1, hd1, us1, r1, dd1⟩ := dn_of I1 e1 k1
  refine ⟨dd1.typeIs, fun b q => ?_, ?_⟩
  · cases q
    obtain ⟨ob, _, _, h1, h2, _⟩ := dd1
    exact ⟨ob, h1, h2.2.1⟩
  rw [m.trees]
  refine Calls.callWith_builtin rfl (Calls.evalArgs_plain (Calls.spliced_cons (thn (he.run pins s1 σ H1 _ I1 q1) fun iv s2 ⟨y, H2, I2, ry, q2⟩ =>
    Calls.spliced_cons (thn (hf.run pins s2 σ H2 _ I2 q2) fun fv s3 ⟨z, H3, I3, rz, q, st, ys, ey, e3, k3, hq, q3⟩ => Calls.spliced_nil ?_))))
  subst ey
  obtain rfl : iv = Value.ref q := ry
  obtain ⟨zz, hd, us, r, dd⟩ := dn_of I3 e3 k3
  have hb : X.A.units + 1 + 8 < cLine := by omega
  refine call_meetsIn PySem.F.slot_dict_get dd.typeIs PySem.F.entry_dict_get (PySem.F.args_dict_get_3 _ _ _) (meetsH_dict_get_default (nestedKind X.prog X.w) a q hd fv) ⟨hb, nk st, rawU us, nested_at I3 hq, dd, ?_⟩
  exact ⟨_, H3, I3.tok _, (NV.val r st).getD rz, q3⟩
section
variable {P : Program} {w : World} {K : PySem.W.Frag} {σ : L2.St} {H : Hp} {Q : VK} {td ty tx : TE}
def DGet2NQ (P : Program) (w : World) (K : PySem.W.Frag) (ty tx : TE) (σ : L2.St) (x : V) (H1 : Hp) (Q : VK) : Prop := ∃ (a : Addr) (xs : List (S × Addr × V)), x = .ref a ∧ H1 a = some (dN P w a xs) ∧ KeysAt K H1 xs ∧ ty σ H1 fun y H2 => tx σ H2 fun z H3 => ∃ (q : Addr) (s : S) (ys : List (S × Addr × V)), y = .ref q ∧ H3 a = some (dN P w a ys) ∧ KeysAt K H3 ys ∧ StAt K H3 q s ∧ Q ((valN ys s).getD z) H3
theorem i_dget2N (q : td σ H fun x H1 => DGet2NQ P w K ty tx σ x H1 Q) : tDGet2N P w K td ty tx σ H Q := q
def DG2N (P : Program) (w : World) (K : PySem.W.Frag) (a : Addr) (y z : V) (H3 : Hp) (Q : VK) : Prop := ∃ (q : Addr) (s : S) (ys : List (S × Addr × V)), y = .ref q ∧ H3 a = some (dN P w a ys) ∧ KeysAt K H3 ys ∧ StAt K H3 q s ∧ Q ((valN ys s).getD z) H3
theorem dget2N {a : Addr} {xs : List (S × Addr × V)} (h : H a = some (dN P w a xs)) (k : KeysAt K H xs) (q : ty σ H fun y H2 => tx σ H2 fun z H3 => DG2N P w K a y z H3 Q) : DGet2NQ P w K ty tx σ (.ref a) H Q := ⟨a, xs, rfl, h, k, q⟩
theorem dg2N {a q : Addr} {s : S} {z : V} {xs : List (S × Addr × V)} (h : H a = some (dN P w a xs)) (k : KeysAt K H xs) (hq : StAt K H q s) (qq : Q ((valN xs s).getD z) H) : DG2N P w K a (.ref q) z H Q := ⟨q, s, xs, rfl, h, k, hq, qq⟩
end
/-! ### the states met, in their one order -/
def leS (s t : S) : Prop := s.1 < t.1 ∨ (s.1 = t.1 ∧ s.2 ≤ t.2)
instance (s t : S) : Decidable (leS s t) := by unfold leS; exact inferInstance
theorem eqvAll_ints : ∀ xs ys : List Int, PyData.eqvAll (xs.map PyData.int) (ys.map PyData.int) = decide (xs = ys)
  | [], [] => by simp [PyData.eqvAll]
  | [], y :: ys => by simp [PyData.eqvAll]
  | x :: xs, [] => by simp [PyData.eqvAll]
  | x :: xs, y :: ys => by
    have ih := eqvAll_ints xs ys
    simp only [List.map_cons, PyData.eqvAll, PyData.eqv, ih, List.cons.injEq]
    by_cases h1 : x = y <;> by_cases h2 : xs = ys <;> simp [h1, h2]
theorem dataLt_S (s t : S) : PySem.W.dataLt (dS t) (dS s) = decide (t.1 < s.1 ∨ (t.1 = s.1 ∧ t.2 < s.2)) := by
  unfold dS
  rw [PySem.W.dataLt_pair (by simp [PySem.W.alike]) (by simp only [PySem.W.alike]; exact PySem.W.alike_ints _ _), PySem.W.dataLt_int, PySem.W.dataLt_tuple]
  show (if PyData.eqv (.int t.1) (.int s.1) = true then (if PyData.eqv (.tuple (t.2.map PyData.int)) (.tuple (s.2.map PyData.int)) = true then false else PySem.W.rowLt (t.2.map PyData.int) (s.2.map PyData.int)) else decide (t.1 < s.1)) = _
  rw [PySem.W.dataLt_ints]
  simp only [PyData.eqv, eqvAll_ints, beq_iff_eq, decide_eq_true_eq]
  by_cases h1 : t.1 = s.1
  · by_cases h2 : t.2 = s.2
    · have h3 : ¬ s.2 < s.2 := List.lt_irrefl _
      simp [h1, h2, h3]
    · simp [h1, h2]
  · simp [h1]
theorem dataLe_S : PySem.W.dataLe false dS = fun s t => decide (leS s t) := by
  funext s t
  show (!PySem.W.dataLt (dS t) (dS s)) = _
  rw [dataLt_S]
  unfold leS
  by_cases h : t.2 < s.2
  · have h2 : ¬ s.2 ≤ t.2 := fun r => List.not_lt.mpr r h
    by_cases h3 : t.1 < s.1 ∨ t.1 = s.1
    · have h4 : ¬ (s.1 < t.1) := by omega
      have h5 : t.1 < s.1 ∨ (t.1 = s.1 ∧ t.2 < s.2) := h3.imp id fun e => ⟨e, h⟩
      simp [h2, h4, h5]
    · have h4 : s.1 < t.1 := by omega
      have h5 : ¬ (t.1 < s.1) := by omega
      have h6 : ¬ (t.1 = s.1) := by omega
      simp [h4, h5, h6]
  · have h2 : s.2 ≤ t.2 := List.not_lt.mp h
    by_cases h3 : t.1 < s.1
    · have h4 : ¬ (s.1 < t.1) := by omega
      have h5 : ¬ (s.1 = t.1) := by omega
      simp [h3, h4, h5]
    · have h4 : s.1 < t.1 ∨ s.1 = t.1 := by omega
      have h5 : s.1 < t.1 ∨ (s.1 = t.1 ∧ s.2 ≤ t.2) := h4.imp id fun e => ⟨e, h2⟩
      simp [h, h3, h5]
theorem leS_trans {a b c : S} (h1 : leS a b) (h2 : leS b c) : leS a c := by
  unfold leS at *
  rcases h1 with h1 | ⟨h1, h3⟩ <;> rcases h2 with h2 | ⟨h2, h4⟩
  · exact .inl (by omega)
  · exact .inl (by omega)
  · exact .inl (by omega)
  · exact .inr ⟨by omega, List.le_trans h3 h4⟩
theorem leS_total (a b : S) : leS a b ∨ leS b a := by
  unfold leS
  rcases Int.lt_trichotomy a.1 b.1 with h | h | h
  · exact .inl (.inl h)
  · rcases List.le_total a.2 b.2 with h2 | h2
    · exact .inl (.inr ⟨h, h2⟩)
    · exact .inr (.inr ⟨h.symm, h2⟩)
  · exact .inr (.inl h)
theorem leS_anti {a b : S} (h1 : leS a b) (h2 : leS b a) : a = b := by
  unfold leS at *
  have h3 : a.1 = b.1 := by omega
  refine Prod.ext h3 ?_
  rcases h1 with h1 | ⟨_, h1⟩
  · omega
  · rcases h2 with h2 | ⟨_, h2⟩
    · omega
    · exact List.le_antisymm h1 h2
theorem StOk.sorted {en : List (Option Int)} {ld : List Int} {ST : List S} (h : StOk en ld ST) : ST.Pairwise leS := by
  obtain ⟨xs, rfl⟩ := h.so
  rw [dataLe_S]
  exact (List.pairwise_mergeSort (le := fun s t : S => decide (leS s t)) (fun x y z h1 h2 => decide_eq_true (leS_trans (of_decide_eq_true h1) (of_decide_eq_true h2))) (fun x y => by rcases leS_total x y with h | h <;> simp [h]) _).imp fun h => of_decide_eq_true h
theorem StOk.mem_iff {en : List (Option Int)} {ld : List Int} {ST : List S} (h : StOk en ld ST) (s : S) : s ∈ ST ↔ Reach en ld s := by
  refine ⟨h.re s, fun r => ?_⟩
  induction r with
  | first => exact h.fi
  | step _ ho e ih => exact h.cl _ ih _ ho _ e
theorem StOk.uniq {en : List (Option Int)} {ld : List Int} {ST ST' : List S} (h : StOk en ld ST) (k : StOk en ld ST') : ST = ST' := by
  have hp : ST.Perm ST' := (List.perm_ext_iff_of_nodup h.nd k.nd).mpr fun s => by rw [h.mem_iff, k.mem_iff]
  exact hp.eq_of_pairwise (fun a b _ _ h1 h2 => leS_anti h1 h2) h.sorted k.sorted
/-! ### the paper, looked over -/
section
variable {en : List (Option Int)} {ld : List Int} {ST : List S} {pp : List (S × Nat)}
/-- the paper as a dict's reading: the number of a state -/
def papN (pp : List (S × Nat)) (s : S) : Option Nat := (pp.find? fun x => x.1 == s).map (·.2)
theorem PapRes.less (so : StOk en ld ST) (pa : PapRes en ld ST pp) {s t : S} {n : Nat} {o : Option Int} (h : (s, n) ∈ pp) (ho : o ∈ opts en ld s) (e : step en ld s o = some t) : ∃ m, (t, m) ∈ pp ∧ m < n := by
  have hs : s ∈ ST := by rw [← pa.ks]; exact List.mem_map.mpr ⟨_, h, rfl⟩
  have ht := so.cl s hs o ho t e
  rw [← pa.ks] at ht
  obtain ⟨⟨t2, m⟩, hm, e2⟩ := List.mem_map.mp ht
  cases (show t2 = t from e2)
  refine ⟨m, hm, ?_⟩
  have r1 := pa.rk _ h
  have r2 := pa.rk _ hm
  have h3 : ¬ hold en ld n t := fun z => r1.2 ⟨o, ho, t, e, z⟩
  rcases Nat.lt_or_ge m n with h4 | h4
  · exact h4
  · exact absurd (hold_mono h4 r2.1) h3
theorem PapRes.first (so : StOk en ld ST) (pa : PapRes en ld ST pp) {n : Nat} (r : Rank en ld (firstS en) n) : (firstS en, n) ∈ pp := by
  have hs := so.fi
  rw [← pa.ks] at hs
  obtain ⟨⟨t2, m⟩, hm, e2⟩ := List.mem_map.mp hs
  cases (show t2 = firstS en from e2)
  have e3 : m = n := (pa.rk _ hm).uniq r
  rw [e3] at hm
  exact hm
theorem PapRes.nd (so : StOk en ld ST) (pa : PapRes en ld ST pp) : (pp.map (·.1)).Nodup := by rw [pa.ks]; exact so.nd
end
/-! ### promises of k06 -/
def BehV (K : PySem.W.Frag) (G : Hp) (v : V) (r : Option (List Int)) : Prop := match r with
  | none => v = .non
  | some xs => ∃ p, v = .ref p ∧ SqT K G p (xs.map V.int)
def spBehL (K : PySem.W.Frag) : Sp := fun vs H Q _ => ∃ (G : Hp) (m ag : Addr) (ws : List W3) (ags : List Int) (o : Option Int), vs = [.ref m, .ref ag, vO o] ∧ Same G H ∧ TupL K G m (ws.map vW) ∧ OkWs ws ∧ SqT K G ag (ags.map V.int) ∧ ags.length = ws.length ∧
  ∀ v G' H', Gr No G H G' H' → BehV K G' v (beh (ws.map lim) ags o ws.length) → Q v H'
theorem i_behL {K : PySem.W.Frag} {X : Addr → Prop} {G0 H0 G H : Hp} {Q : VK} {E : XK} {m ag : Addr} {ws : List W3} {ags : List Int} {o : Option Int} (g : Gr X G0 H0 G H) (hw : TupL K G m (ws.map vW)) (okw : OkWs ws) (ha : SqT K G ag (ags.map V.int)) (hl : ags.length = ws.length)
    (k : ∀ v G' H', Gr No G H G' H' → Gr X G0 H0 G' H' → BehV K G' v (beh (ws.map lim) ags o ws.length) → Q v H') : spBehL K ([.ref m, .ref ag, vO o] ++ []) H Q E :=
  ⟨G, m, ag, ws, ags, o, rfl, g.sub, hw, okw, ha, hl, fun v G' H' s => k v G' H' s (g.seqN s)⟩
theorem beh_noneL {en : List (Option Int)} {ags : List Int} {o : Option Int} {i : Nat} (h : beh en ags o i = none) : ∀ n, i ≤ n → beh en ags o n = none
  | 0, h1 => by rw [show i = 0 by omega] at h; exact h
  | n + 1, h1 => by
    rcases Nat.lt_or_ge n i with h2 | h2
    · rw [show n + 1 = i by omega]; exact h
    · rw [beh, beh_noneL h n h2]
def spAreW (K : PySem.W.Frag) : Sp := fun vs H Q _ => ∃ (a : Addr) (n : Nat) (os : List (Option Int)), vs = [.ref a, .int (n : Nat)] ∧ SqL K H a (os.map vO) ∧ os.length ≤ 2000 ∧ (∀ o ∈ os, okT n o) ∧ ∀ H', Same H H' → Q (.bl true) H'
theorem i_areW {K : PySem.W.Frag} {H : Hp} {Q : VK} {E : XK} {a : Addr} {n : Nat} {os : List (Option Int)} (h : SqL K H a (os.map vO)) (hl : os.length ≤ 2000) (ok : ∀ o ∈ os, okT n o) (k : ∀ H', Same H H' → Q (.bl true) H') : spAreW K ([.ref a, .int (n : Nat)] ++ []) H Q E := ⟨a, n, os, rfl, h, hl, ok, k⟩
theorem valN_pap {ks : List (S × Addr × V)} {pp : List (S × Nat)} (h : Paired (fun (e : S × Addr × V) (x : S × Nat) => e.1 = x.1 ∧ e.2.2 = .int (x.2 : Nat)) ks pp) (nd : (pp.map (·.1)).Nodup) {t : S} {m : Nat} (hm : (t, m) ∈ pp) : valN ks t = some (.int (m : Nat)) := by
  induction h with
  | nil => cases hm
  | @cons e x ks pp h1 h2 ih =>
    rw [List.map_cons, List.nodup_cons] at nd
    unfold valN
    by_cases he : e.1 = t
    · rw [List.find?_cons_of_pos (by exact decide_eq_true he)]
      show some e.2.2 = _
      rw [h1.2]
      rcases List.mem_cons.mp hm with e2 | e2
      · rw [← e2]
      · refine absurd (List.mem_map.mpr ⟨_, e2, ?_⟩) nd.1
        show t = x.1
        rw [← h1.1, he]
    · rw [List.find?_cons_of_neg (by rw [decide_eq_true_iff]; exact he)]
      rcases List.mem_cons.mp hm with e2 | e2
      · refine absurd ?_ he
        rw [h1.1, ← e2]
      · exact ih nd.2 e2
theorem valN_fresh {ks : List (S × Addr × V)} {pp : List (S × Nat)} (h : Paired (fun (e : S × Addr × V) (x : S × Nat) => e.1 = x.1 ∧ e.2.2 = .int (x.2 : Nat)) ks pp) {t : S} (hm : ¬ t ∈ pp.map (·.1)) : valN ks t = none := by
  induction h with
  | nil => rfl
  | @cons e x ks pp h1 h2 ih =>
    rw [List.map_cons, List.mem_cons] at hm
    unfold valN
    rw [List.find?_cons_of_neg (by rw [decide_eq_true_iff, h1.1]; exact fun z => hm (.inl z.symm))]
    exact ih fun z => hm (.inr z)
theorem take_fresh {α : Type} {xs : List α} {i : Nat} {x : α} (nd : xs.Nodup) (h : xs[i]? = some x) : ¬ x ∈ xs.take i := fun hm => by
  obtain ⟨j, hj, e⟩ := List.mem_iff_getElem.mp hm
  rw [List.length_take] at hj
  have e2 : xs[j]? = some x := by
    rw [List.getElem_take] at e
    rw [List.getElem?_eq_getElem (by omega), e]
  have := nodup_at nd e2 h
  omega
def spPaperL (K : PySem.W.Frag) : Sp := fun vs H Q _ => ∃ (G : Hp) (m l b : Addr) (n : Nat) (ws : List W3) (ld : List Int) (as : List Addr) (pp : List (S × Nat)) (ST : List S), vs = [.ref m, .ref l, .int (n : Nat), .ref b] ∧ Same G H ∧ TupL K G m (ws.map vW) ∧ OkWs ws ∧ G l = some (.lst (ld.map V.int)) ∧ OkLd ld ∧ G b = some (.lst (as.map V.ref)) ∧ Paired (fun a x => RowP K G a x) as pp ∧ PapRes (ws.map lim) ld ST pp ∧ StOk (ws.map lim) ld ST ∧ Rank (ws.map lim) ld (firstS (ws.map lim)) n ∧ manyS (ws.map lim) ld ≤ 2000 ∧
  ∀ H', Same H H' → Q (.bl true) H'
theorem i_paperL {K : PySem.W.Frag} {G H : Hp} {Q : VK} {E : XK} {m l b : Addr} {n : Nat} {ws : List W3} {ld : List Int} {as : List Addr} {pp : List (S × Nat)} {ST : List S} (sb : Same G H) (hw : TupL K G m (ws.map vW)) (okw : OkWs ws) (hl : G l = some (.lst (ld.map V.int))) (okl : OkLd ld) (hb : G b = some (.lst (as.map V.ref))) (pr : Paired (fun a x => RowP K G a x) as pp) (pa : PapRes (ws.map lim) ld ST pp) (so : StOk (ws.map lim) ld ST) (rk : Rank (ws.map lim) ld (firstS (ws.map lim)) n) (hm : manyS (ws.map lim) ld ≤ 2000)
    (k : ∀ H', Same H H' → Q (.bl true) H') : spPaperL K ([.ref m, .ref l, .int (n : Nat), .ref b] ++ []) H Q E := ⟨G, m, l, b, n, ws, ld, as, pp, ST, rfl, sb, hw, okw, hl, okl, hb, pr, pa, so, rk, hm, k⟩
/-- tells the same data anew -/
def spCopied (n : Nat) (K : PySem.W.Frag) : Sp := fun vs H Q _ => ∃ (G : Hp) (x : V) (d : PyData), vs = [x] ∧ Same G H ∧ Dp K H x d ∧ Lk n d ∧ ∀ v G' H', Gr No G H G' H' → Dp K G' v d → Q v H'
theorem i_copied {n : Nat} {K : PySem.W.Frag} {X : Addr → Prop} {G0 H0 G H : Hp} {Q : VK} {E : XK} {x : V} {d : PyData} (g : Gr X G0 H0 G H) (h : Dp K H x d) (l : Lk n d) (k : ∀ v G' H', Gr No G H G' H' → Gr X G0 H0 G' H' → Dp K G' v d → Q v H') : spCopied n K ([x] ++ []) H Q E :=
  ⟨G, x, d, rfl, g.sub, h, l, fun v G' H' s => k v G' H' s (g.seqN s)⟩
theorem dpAll_mono {K : PySem.W.Frag} {G G' : Hp} (e : Same G G') {vs : List V} {ds : List PyData} (h : DpAll K G vs ds) : DpAll K G' vs ds := DpAll.mono e _ _ h
theorem dpAll_takes {K : PySem.W.Frag} {G : Hp} {vs : List V} {ds : List PyData} {i : Nat} {d : PyData} {v : V} (h : DpAll K G vs (ds.take i)) (hd : ds[i]? = some d) (hv : Dp K G v d) : DpAll K G (vs ++ [v]) (ds.take (i + 1)) := by
  rw [List.take_add_one, hd]
  exact dpAll_append h (.cons hv .nil)
/-- the ints among words and None -/
def wInts (os : List (Option Int)) : List Int := os.filterMap id
theorem wInts_snoc (os : List (Option Int)) (o : Option Int) : wInts (os ++ [o]) = wInts os ++ (match o with | none => [] | some i => [i]) := by
  unfold wInts
  rw [List.filterMap_append]
  cases o <;> rfl
theorem wInts_len (os : List (Option Int)) : (wInts os).length ≤ os.length := List.length_filterMap_le _ _
theorem wInts_mem {os : List (Option Int)} {i : Int} : i ∈ wInts os ↔ some i ∈ os := by
  unfold wInts
  rw [List.mem_filterMap]
  exact ⟨fun ⟨o, h1, h2⟩ => by cases h2; exact h1, fun h => ⟨_, h, rfl⟩⟩
end Z
set_option Elab.async false
set_option linter.all false
set_option maxRecDepth 100000
set_option maxHeartbeats 4000000
namespace Z
open PySem PySem.Spec PyProof.Rows L2
local macro_rules | `(tactic| walk_at "zrd") => `(tactic| (repeat (first | ((with_reducible apply i_var); (· exact rfl)) | with_reducible refine i_c ?_ | with_reducible refine i_op ?_ | with_reducible refine i_I0 ?_ | with_reducible refine i_eqI ?_ | with_reducible refine i_neI ?_ | with_reducible refine i_test ?_ | with_reducible refine i_cons ?_ | with_reducible refine i_nil ?_ | with_reducible refine i_seq ?_ | with_reducible refine i_nx ?_ | with_reducible refine i_rt ?_ | with_reducible refine i_pass ?_ | with_reducible refine i_asg ?_ | with_reducible refine i_gname ?_ | with_reducible refine i_ret ?_ | with_reducible refine i_drop ?_ | with_reducible refine i_ifS ?_ | with_reducible refine i_if ?_ | with_reducible refine i_not ?_ | with_reducible refine i_and ?_ | with_reducible refine i_or ?_ | with_reducible refine i_lst ?_ | with_reducible refine i_tup ?_ | with_reducible refine i_cb ?_ | with_reducible refine i_call ?_ | with_reducible refine i_gsub ?_ | with_reducible refine i_B ?_ | with_reducible refine i_un ?_ | with_reducible refine i_U ?_ | with_reducible refine i_eqOI ?_ | with_reducible refine i_eqIO ?_ | with_reducible refine i_forL ?_ | with_reducible refine i_forT ?_ | with_reducible refine i_forR ?_ | with_reducible refine i_forR2 ?_ | with_reducible refine i_forR3 ?_ | with_reducible refine i_forE ?_ | with_reducible refine i_lcL ?_ | with_reducible refine i_lcT ?_ | with_reducible refine i_lcR ?_ | with_reducible refine i_yes ?_ | with_reducible refine i_lce ?_ | with_reducible refine i_lcf ?_ | with_reducible refine i_gcons ?_ | with_reducible refine i_gnil ?_ | with_reducible refine i_chain ?_ | with_reducible refine i_t ?_ | with_reducible refine i_f ?_ | with_reducible refine i_nt ?_ | with_reducible refine i_nf ?_ | with_reducible refine i_bm ?_ | with_reducible refine i_bm0 ?_ | with_reducible refine i_and2 ?_ | with_reducible refine i_or2 ?_ | with_reducible refine i_intI ?_ | with_reducible refine i_intB ?_ | with_reducible refine i_sl ?_ | with_reducible refine i_part ?_ | with_reducible refine i_nopart ?_ | with_reducible refine i_cut ?_ | with_reducible refine i_lrg ?_ | with_reducible refine i_make ?_ | with_reducible refine i_meth ?_ | with_reducible refine i_fld ?_ | with_reducible refine i_sfld ?_ | with_reducible refine i_dnew ?_ | with_reducible refine i_par3 ?_ | with_reducible refine i_par3e ?_ | with_reducible refine i_par2 ?_ | with_reducible refine i_par2e ?_ | with_reducible refine i_dput ?_ | with_reducible refine i_dget2 ?_ | with_reducible refine i_din ?_ | with_reducible refine i_dget ?_ | with_reducible refine i_isO ?_ | with_reducible refine i_isR ?_ | with_reducible refine i_isN ?_ | with_reducible refine i_isI ?_ | with_reducible refine i_noO ?_ | with_reducible refine i_noR ?_ | with_reducible refine i_noN ?_ | with_reducible refine i_noI ?_ | with_reducible refine i_dgetN ?_ | with_reducible refine i_dputN ?_ | with_reducible refine i_dnewN ?_ | with_reducible refine i_ckw ?_ | with_reducible refine (show ∃ k, V.bl _ = V.bl k ∧ _ from ⟨_, rfl, ?_⟩) | with_reducible refine (show ∃ k, V.int _ = V.int k ∧ _ from ⟨_, rfl, ?_⟩) | ((with_reducible apply i_ixL); (· assumption); (· exact rfl)) | ((with_reducible apply i_ixT); (· assumption); (· exact rfl)) | ((with_reducible apply i_lenL); (· assumption)) | ((with_reducible apply i_lenT); (· assumption)) | ((with_reducible apply i_I); (· (first | omega | (dsimp only; omega) | exact ⟨by omega, by omega⟩ | exact Or.inr ⟨by omega, by omega⟩ | exact Or.inl ⟨by omega, by omega⟩ | exact ⟨by decide, by decide, by decide⟩))) | ((with_reducible apply i_gtup); (· assumption); (· rfl)) | ((with_reducible apply i_p); (· omega)) | ((with_reducible apply i_n); (· omega)) | ((with_reducible apply i_np); (· omega)) | ((with_reducible apply i_nn); (· omega)) | ((with_reducible apply i_lcP); (· omega)) | ((with_reducible apply i_lcN); (· omega)) | ((with_reducible apply i_lcnP); (· omega)) | ((with_reducible apply i_lcnN); (· omega)))))
section
variable {P : Program} {w : World} {K : PySem.W.Frag} {mg : Str → Option Value} {base : Heap} {f : Addr} {fd : FuncData} {CM : Addr}
abbrev s_law_behind : Stmt := topS 39
theorem sc_law_behind : FnScope ["_law_words", "_law_ages", "_law_mended", "_law_found", "_law_ends", "_law_word", "_law_age"] ["_law_words", "_law_ages", "_law_mended"] (defScope s_law_behind) := ⟨rfl, rfl, rfl, by decide +kernel, rfl, by decide +kernel, by decide +kernel⟩
abbrev s_law_are_words : Stmt := topS 45
theorem sc_law_are_words : FnScope ["_law_found", "_law_many_here", "_law_one"] ["_law_found", "_law_many_here"] (defScope s_law_are_words) := ⟨rfl, rfl, rfl, by decide +kernel, rfl, by decide +kernel, by decide +kernel⟩
theorem ok_behL (T : Txt K mg) (C__law_limits : Cal P w K mg base "_law_limits" 1 ["_law_words"] (spLimL K)) (F : Fun K "_law_behind" "_law_behind" s_law_behind f fd) : FnOk P w K mg base CX0 2 f fd ["_law_words", "_law_ages", "_law_mended"] (spBehL K) := by
  refine F.ok sc_law_behind (fun vs H Q E h => ?_) (fun cdv A outer s H0 vs Q E hr h => ?_)
  · obtain ⟨G, m, ag, ws, ags, o, rfl, _⟩ := h
    rfl
  · obtain ⟨G0, m, ag, ws, ags, o, rfl, sb, hw, okw, ha, hal, k⟩ := h
    refine ⟨_, (pss_cons (ps_set (i := 3) sc_law_behind.nd rfl (Or.inl rfl) (pe_lst pa_nil))
      (pss_cons (ps_set (i := 4) sc_law_behind.nd rfl (Or.inl rfl) (pc C__law_limits (hr.mono (by decide)) (pa_cons (pv 0) pa_nil)))
      (pss_cons (ps_for PassesOwn.never rfl (pi_range1 (by rfl) T.b_range (pa_cons (pe_callB (r := rLen K) cl_len (by rfl) T.b_len (by decide +kernel) (pa_cons (pv 0) pa_nil)) pa_nil)) (pg_name (i := 5) sc_law_behind.nd rfl (Or.inl rfl)) (pss_cons (ps_set (i := 6) sc_law_behind.nd rfl (Or.inl rfl) (pe_op op_mul (pe_ix (r := rIxL K) ix_list (pe_lst (pa_cons (pe_op op_add (pe_ix (r := rIxT K) ix_tup (pv 1) (pv 5) (fun _ _ => rfl)) pe_int) (pa_cons pe_int pa_nil))) (pe_callTy cl_int (by rfl) T.b_int (by decide +kernel) (pa_cons (pe_cmpR op_eq (pv 5) (pv 2) (nomark _)) pa_nil)) (fun _ _ => rfl)) (pe_callTy cl_int (by rfl) T.b_int (by decide +kernel) (pa_cons (pe_cmpR op_notNz (pe_ix (r := rIxL K) ix_list (pv 4) (pv 5) (fun _ _ => rfl)) pe_non (nomark _)) pa_nil))))
      (pss_cons (ps_if (PW.pt (pw_and (pt_cmpR op_notNz (pe_ix (r := rIxL K) ix_list (pv 4) (pv 5) (fun _ _ => rfl)) pe_non (nomark _)) (pw_and1 (pt_cmpR op_gt (pv 6) (pe_ix (r := rIxL K) ix_list (pv 4) (pv 5) (fun _ _ => rfl)) (nomark _))))) (pss_one (ps_ret pe_non)) pss_nil)
      (pss_one (ps_expr (pe_bm PySem.F.plainAttrs_list PySem.F.slot_list_append PySem.F.type_list_append mt_append (pv 3) (pa_cons (pv 6) pa_nil)))))))
      (pss_one (ps_ret (pe_callTy (r := rTuple K) cl_tuple (by rfl) T.b_tuple (by decide +kernel) (pa_cons (pv 3) pa_nil))))))), ?_⟩
    try dsimp only [cxOf, L2.Cx.nox, L2.Cx.wish]
    refine i_start (σ' := [some (.ref m), some (.ref ag), some (vO o), none, none, none, none]) rfl ?_
    have g : Gr No G0 H0 G0 H0 := Gr.refl sb
    obtain ⟨wa, hwa, wpr⟩ := id hw
    have ew : (wa.map V.ref).length = ws.length := by rw [List.length_map, Paired.len wpr, List.length_map]
    have w4 := okw.l4
    walk_at "zrd"
    refine newL g (by first | omega | (simp; done) | (simp; omega)) fun ol H1 nol zol s g tol => ?_
    walk_at "zrd"
    refine i_limL g hw okw fun e H2 ne s g te => ?_
    have noe := ne_of_none tol.h ne
    have tol := tol.monoN s
    have zol := zol
    have ze := Gr.fresh (by assumption) ne
    clear s
    have gA := g
    have ha1 := sqt (K := K) g.sub ha
    have hm1 : SqL K H2 m (wa.map V.ref) := Z.ls hwa g.sub
    walk_at "zrd"
    rw [ew]
    refine forR (by omega) (by omega) (fun i σ H' => ∃ (v5 v6 : Option V) (xs : List Int), σ = [some (.ref m), some (.ref ag), some (vO o), some (.ref ol), some (.ref e), v5, v6] ∧ Gr No G0 H0 G0 H' ∧ At G0 H' ol (.lst (xs.map V.int)) ∧ At G0 H' e (.lst ((ws.map lim).map vO)) ∧ beh (ws.map lim) ags o i = some xs ∧ xs.length = i) ⟨none, none, [], rfl, g, tol, te, rfl, rfl⟩ ?_ ?_
    · clear g tol te
      rintro i σ H' hi ⟨v5, v6, xs, rfl, g, tol, te, hb, hxl⟩
      have hi2 : i < ws.length := by omega
      have elim : ((ws.map lim).map vO)[i]? = some (vO ((ws.map lim).getD i none)) := map_getD (d := none) (by rw [List.length_map]; exact hi2)
      have hai : (ags.map V.int)[i]? = some (.int (ags.getD i 0)) := map_getD (d := 0) (by omega)
      have hbs : beh (ws.map lim) ags o (i + 1) = match nx1 (ws.map lim) ags o i with | none => none | some a => some (xs ++ [a]) := by
        rw [beh, hb]
        try rfl
      have ha1 := sqt (K := K) g.sub ha
      walk_at "zrd"
      refine i_ixT ha1 (atN (k := i) rfl hai) ?_
      walk_at "zrd"
      refine newL g (by first | omega | (simp; done) | (simp; omega)) fun q H3 nq zq s g tq => ?_
      have nolq := ne_of_none tol.h nq
      have neq := ne_of_none te.h nq
      have tol := tol.monoN s
      have te := te.monoN s
      walk_at "zrd"
      have hq2 : atI [V.int (ags.getD i 0 + 1), V.int 1] (if decide (o = some ((i : Nat) : Int)) = true then 1 else 0) = some (.int (if o = some ((i : Nat) : Int) then 1 else ags.getD i 0 + 1)) := by
        by_cases ho : o = some ((i : Nat) : Int)
        · rw [decide_eq_true ho, if_pos ho]
          exact atN (k := 1) rfl rfl
        · rw [decide_eq_false ho, if_neg ho]
          exact atN (k := 0) rfl rfl
      refine i_ixL (.inl (.inl tq.h)) hq2 ?_
      unfold nx1 at hbs
      generalize (if o = some ((i : Nat) : Int) then (1 : Int) else ags.getD i 0 + 1) = A at hbs
      clear hq2 tq
      walk_at "zrd"
      rcases hL : (ws.map lim).getD i none with _ | L
      · rw [hL] at elim hbs
        have elim : ((ws.map lim).map vO)[i]? = some V.non := elim
        have hbs : beh (ws.map lim) ags o (i + 1) = some (xs ++ [0]) := hbs
        refine i_ixL (.inl (.inl te.h)) (atN (k := i) rfl elim) ?_
        walk_at "zrd"
        rw [show A * (if false = true then (1 : Int) else 0) = 0 by simp]
        refine i_ixL (.inl (.inl te.h)) (atN (k := i) rfl elim) ?_
        walk_at "zrd"
        refine ⟨tyL tol.h, ?_⟩
        walk_at "zrd"
        refine i_append tol.h (by rw [List.length_map]; omega) ?_
        walk_at "zrd"
        refine ⟨_, _, xs ++ [0], rfl, g.mut tol (.inr zol), ?_, te.off noe.symm, hbs, by rw [List.length_append, hxl]; rfl⟩
        rw [List.map_append]
        exact tol.put
      · rw [hL] at elim hbs
        have elim : ((ws.map lim).map vO)[i]? = some (V.int L) := elim
        have hbs : beh (ws.map lim) ags o (i + 1) = match (if L < A then none else some A) with | none => none | some a => some (xs ++ [a]) := hbs
        refine i_ixL (.inl (.inl te.h)) (atN (k := i) rfl elim) ?_
        walk_at "zrd"
        rw [show A * (if true = true then (1 : Int) else 0) = A by simp]
        refine i_ixL (.inl (.inl te.h)) (atN (k := i) rfl elim) ?_
        walk_at "zrd"
        refine i_ixL (.inl (.inl te.h)) (atN (k := i) rfl elim) ?_
        by_cases hc : L < A
        · rw [if_pos hc] at hbs
          walk_at "zrd"
          refine k .non G0 _ g ?_
          rw [beh_none (show i + 1 ≤ ws.length by omega) hbs]
          exact rfl
        · rw [if_neg hc] at hbs
          walk_at "zrd"
          refine ⟨tyL tol.h, ?_⟩
          walk_at "zrd"
          refine i_append tol.h (by rw [List.length_map]; omega) ?_
          walk_at "zrd"
          refine ⟨_, _, xs ++ [A], rfl, g.mut tol (.inr zol), ?_, te.off noe.symm, hbs, by rw [List.length_append, hxl]; rfl⟩
          rw [List.map_append]
          exact tol.put
    · rintro σ H' ⟨v5, v6, xs, rfl, g, tol, te, hb, hxl⟩
      rw [Int.toNat_natCast] at hb hxl
      walk_at "zrd"
      refine i_tupleL (.inl (.inl tol.h)) ?_
      have exl : (xs.map V.int).length ≤ 4 := by rw [List.length_map]; omega
      refine newT (K := K) g (by first | omega | (simp; done) | (simp; omega)) fun p G3 H3 np zp s g tp => ?_
      walk_at "zrd"
      refine k _ G3 H3 g ?_
      rw [hb]
      exact ⟨p, rfl, tp⟩
theorem ok_areW (T : Txt K mg) (F : Fun K "_law_are_words" "_law_are_words" s_law_are_words f fd) : FnOk P w K mg base CX0 1 f fd ["_law_found", "_law_many_here"] (spAreW K) := by
  refine F.ok sc_law_are_words (fun vs H Q E h => ?_) (fun cdv A outer s H0 vs Q E hr h => ?_)
  · obtain ⟨a, n, os, rfl, _⟩ := h
    rfl
  · obtain ⟨a, n, os, rfl, hl, hln, ok, k⟩ := h
    refine ⟨_, (pss_cons (ps_if (pt_not (pt_val (pe_callB (r := rIsi K) call_isi (by rfl) T.b_isinstance (by decide +kernel) (pa_cons (pv 0) (pa_cons (pe_bltn (v := .ty "list") (u := .type "list") (by rfl) T.b_list (by decide +kernel) rfl) pa_nil))))) (pss_one (ps_ret pe_bl)) pss_nil)
      (pss_cons (ps_for PassesOwn.never rfl (pi_list (pe_lc (own := [("_law_one", 2)]) (g := gName 2) rfl sc_law_are_words.nd (pi_list (pv 0)) (blkOk_by (own := [("_law_one", 2)]) (N := ["_law_found", "_law_many_here", "_law_one"]) (sc := defScope s_law_are_words) (by decide +kernel)) (fun _ _ _ _ _ => (pg_name (i := 2) sc_law_are_words.nd rfl (Or.inl rfl))) (fun _ _ _ _ _ => (pts_one (pt_cmpR op_notNz (pv 2) pe_non (nomark _)))) (fun _ _ _ _ _ => (pv 2)))) (pg_name (i := 2) sc_law_are_words.nd rfl (Or.inl rfl)) (pss_cons (ps_if (PW.pt (pw_or (pt_not (pt_val (pe_callB (r := rIsi K) call_isi (by rfl) T.b_isinstance (by decide +kernel) (pa_cons (pv 2) (pa_cons (pe_bltn (v := .ty "int") (u := .type "int") (by rfl) T.b_int (by decide +kernel) rfl) pa_nil))))) (pw_or1 (pt_val (pe_callB (r := rIsi K) call_isi (by rfl) T.b_isinstance (by decide +kernel) (pa_cons (pv 2) (pa_cons (pe_bltn (v := .ty "bool") (u := .type "bool") (by rfl) T.b_bool (by decide +kernel) rfl) pa_nil))))))) (pss_one (ps_ret pe_bl)) pss_nil)
      (pss_one (ps_if (pt_not (pt_chain op_le op_lt pe_int (pv 2) (pv 1))) (pss_one (ps_ret pe_bl)) pss_nil))))
      (pss_one (ps_ret pe_bl)))), ?_⟩
    try dsimp only [cxOf, L2.Cx.nox, L2.Cx.wish]
    refine i_start (σ' := [some (.ref a), some (.int (n : Nat)), none]) rfl ?_
    walk_at "zrd"
    refine isi_L (c := "list") (b := true) hl (by decide) rfl ?_
    walk_at "zrd"
    have g : Gr No H0 H0 H0 H0 := Gr.refl (Same.refl H0)
    have hlen : (os.map vO).length = os.length := List.length_map _
    refine lcL hl (fun D i H' => Gr No H0 H0 H0 H' ∧ At H0 H' D (.lst ((wInts (os.take i)).map V.int))) ?_ ?_ ?_ ?_
    · intro D nD
      exact ⟨g.new nD, At.of g nD⟩
    · rintro D i H' nD ⟨g, tD⟩
      exact sql g.sub hl
    · rintro D i x H' nD hx ⟨g, tD⟩
      obtain ⟨o, ho, rfl⟩ := map_at hx
      have hwl := wInts_len (os.take i)
      rw [List.length_take] at hwl
      have hi : i < os.length := (List.getElem?_eq_some_iff.mp ho).1
      have hto : os.take (i + 1) = os.take i ++ [o] := by rw [List.take_add_one, ho]; rfl
      walk_at "zrd"
      refine i_lcw rfl ?_
      cases o with
      | none =>
        walk_at "zrd"
        refine ⟨g, ?_⟩
        rw [hto, wInts_snoc, List.append_nil]
        exact tD
      | some j =>
        walk_at "zrd"
        rw [show (!decide ((some j : Option Int) = none)) = true by simp]
        walk_at "zrd"
        refine lcp tD (by rw [List.length_map]; omega) ?_
        refine ⟨g.mut tD (.inr nD), ?_⟩
        rw [hto, wInts_snoc, List.map_append]
        exact tD.put
    · rintro D H' nD ⟨g, tD⟩
      rw [hlen, List.take_length] at tD
      walk_at "zrd"
      refine forL (.inl (.inl tD.h)) (fun i σ H' => ∃ (v2 : Option V), σ = [some (.ref a), some (.int (n : Nat)), v2] ∧ Gr No H0 H0 H0 H' ∧ At H0 H' D (.lst ((wInts os).map V.int))) ⟨_, rfl, g, tD⟩ ?_ ?_ ?_
      · rintro i σ H' hi ⟨v2, rfl, g, tD⟩
        exact .inl (.inl tD.h)
      · rintro i x σ H' hx ⟨v2, rfl, g, tD⟩
        obtain ⟨j, hj, rfl⟩ := map_at hx
        have hj2 := ok _ (wInts_mem.mp (List.mem_of_getElem? hj)) j rfl
        walk_at "zrd"
        refine isi_I (c := "int") (b := true) (by decide) rfl ?_
        walk_at "zrd"
        refine isi_I (c := "bool") (b := false) (by decide) rfl ?_
        walk_at "zrd"
        exact ⟨_, rfl, g, tD⟩
      · rintro σ H' ⟨v2, rfl, g, tD⟩
        walk_at "zrd"
        exact k _ g.sub
end
end Z
set_option Elab.async false
set_option linter.all false
set_option maxRecDepth 100000
set_option maxHeartbeats 4000000
namespace Z
open PySem PySem.Spec PyProof.Rows L2
local macro_rules | `(tactic| walk_at "zrd") => `(tactic| (repeat (first | ((with_reducible apply i_var); (· exact rfl)) | with_reducible refine i_c ?_ | with_reducible refine i_op ?_ | with_reducible refine i_I0 ?_ | with_reducible refine i_eqI ?_ | with_reducible refine i_neI ?_ | with_reducible refine i_test ?_ | with_reducible refine i_cons ?_ | with_reducible refine i_nil ?_ | with_reducible refine i_seq ?_ | with_reducible refine i_nx ?_ | with_reducible refine i_rt ?_ | with_reducible refine i_pass ?_ | with_reducible refine i_asg ?_ | with_reducible refine i_gname ?_ | with_reducible refine i_ret ?_ | with_reducible refine i_drop ?_ | with_reducible refine i_ifS ?_ | with_reducible refine i_if ?_ | with_reducible refine i_not ?_ | with_reducible refine i_and ?_ | with_reducible refine i_or ?_ | with_reducible refine i_lst ?_ | with_reducible refine i_tup ?_ | with_reducible refine i_cb ?_ | with_reducible refine i_call ?_ | with_reducible refine i_gsub ?_ | with_reducible refine i_B ?_ | with_reducible refine i_un ?_ | with_reducible refine i_U ?_ | with_reducible refine i_eqOI ?_ | with_reducible refine i_eqIO ?_ | with_reducible refine i_forL ?_ | with_reducible refine i_forT ?_ | with_reducible refine i_forR ?_ | with_reducible refine i_forR2 ?_ | with_reducible refine i_forR3 ?_ | with_reducible refine i_forE ?_ | with_reducible refine i_lcL ?_ | with_reducible refine i_lcT ?_ | with_reducible refine i_lcR ?_ | with_reducible refine i_yes ?_ | with_reducible refine i_lce ?_ | with_reducible refine i_lcf ?_ | with_reducible refine i_gcons ?_ | with_reducible refine i_gnil ?_ | with_reducible refine i_chain ?_ | with_reducible refine i_t ?_ | with_reducible refine i_f ?_ | with_reducible refine i_nt ?_ | with_reducible refine i_nf ?_ | with_reducible refine i_bm ?_ | with_reducible refine i_bm0 ?_ | with_reducible refine i_and2 ?_ | with_reducible refine i_or2 ?_ | with_reducible refine i_intI ?_ | with_reducible refine i_intB ?_ | with_reducible refine i_sl ?_ | with_reducible refine i_part ?_ | with_reducible refine i_nopart ?_ | with_reducible refine i_cut ?_ | with_reducible refine i_lrg ?_ | with_reducible refine i_make ?_ | with_reducible refine i_meth ?_ | with_reducible refine i_fld ?_ | with_reducible refine i_sfld ?_ | with_reducible refine i_dnew ?_ | with_reducible refine i_par3 ?_ | with_reducible refine i_par3e ?_ | with_reducible refine i_par2 ?_ | with_reducible refine i_par2e ?_ | with_reducible refine i_dput ?_ | with_reducible refine i_dget2 ?_ | with_reducible refine i_din ?_ | with_reducible refine i_dget ?_ | with_reducible refine i_isO ?_ | with_reducible refine i_isR ?_ | with_reducible refine i_isN ?_ | with_reducible refine i_isI ?_ | with_reducible refine i_noO ?_ | with_reducible refine i_noR ?_ | with_reducible refine i_noN ?_ | with_reducible refine i_noI ?_ | with_reducible refine i_dgetN ?_ | with_reducible refine i_dputN ?_ | with_reducible refine i_dnewN ?_ | with_reducible refine i_ckw ?_ | with_reducible refine (show ∃ k, V.bl _ = V.bl k ∧ _ from ⟨_, rfl, ?_⟩) | with_reducible refine (show ∃ k, V.int _ = V.int k ∧ _ from ⟨_, rfl, ?_⟩) | ((with_reducible apply i_ixL); (· assumption); (· exact rfl)) | ((with_reducible apply i_ixT); (· assumption); (· exact rfl)) | ((with_reducible apply i_lenL); (· assumption)) | ((with_reducible apply i_lenT); (· assumption)) | ((with_reducible apply i_I); (· (first | omega | (dsimp only; omega) | exact ⟨by omega, by omega⟩ | exact Or.inr ⟨by omega, by omega⟩ | exact Or.inl ⟨by omega, by omega⟩ | exact ⟨by decide, by decide, by decide⟩))) | ((with_reducible apply i_gtup); (· assumption); (· rfl)) | ((with_reducible apply i_p); (· omega)) | ((with_reducible apply i_n); (· omega)) | ((with_reducible apply i_np); (· omega)) | ((with_reducible apply i_nn); (· omega)) | ((with_reducible apply i_lcP); (· omega)) | ((with_reducible apply i_lcN); (· omega)) | ((with_reducible apply i_lcnP); (· omega)) | ((with_reducible apply i_lcnN); (· omega)))))
section
variable {P : Program} {w : World} {K : PySem.W.Frag} {mg : Str → Option Value} {base : Heap} {f : Addr} {fd : FuncData}
abbrev s_law_copied : Stmt := topS 43
theorem sc_law_copied : FnScope ["_law_found", "_law_one"] ["_law_found"] (defScope s_law_copied) := ⟨rfl, rfl, rfl, by decide +kernel, rfl, by decide +kernel, by decide +kernel⟩
theorem copied_no (T : Txt K mg) (F : Fun K "_law_copied" "_law_copied" s_law_copied f fd) : FnOk P w K mg base CX0 1 f fd ["_law_found"] spNo :=
  F.ok sc_law_copied (fun vs H Q E h => False.elim h) (fun cdv A outer s H0 vs Q E hr h => False.elim h)
theorem ok_copied {m : Nat} {sp : Sp} (n : Nat) (hsp : ∀ j, n = j + 1 → sp = spCopied j K) (T : Txt K mg) (C__law_copied : Cal P w K mg base "_law_copied" m ["_law_found"] sp) (F : Fun K "_law_copied" "_law_copied" s_law_copied f fd) : FnOk P w K mg base CX0 (m + 1) f fd ["_law_found"] (spCopied n K) := by
  refine F.ok sc_law_copied (fun vs H Q E h => ?_) (fun cdv A outer s H0 vs Q E hr h => ?_)
  · obtain ⟨G, x, d, rfl, _⟩ := h
    rfl
  · obtain ⟨G0, x, d, rfl, sb, hx, lk, k⟩ := h
    refine ⟨_, (pss_cons (ps_if (pt_val (pe_callB (r := rIsi K) call_isi (by rfl) T.b_isinstance (by decide +kernel) (pa_cons (pv 0) (pa_cons (pe_bltn (v := .ty "list") (u := .type "list") (by rfl) T.b_list (by decide +kernel) rfl) pa_nil)))) (pss_one (ps_ret (pe_lc (own := [("_law_one", 1)]) (g := gName 1) rfl sc_law_copied.nd (pi_list (pv 0)) (blkOk_by (own := [("_law_one", 1)]) (N := ["_law_found", "_law_one"]) (sc := defScope s_law_copied) (by decide +kernel)) (fun _ _ _ _ _ => (pg_name (i := 1) sc_law_copied.nd rfl (Or.inl rfl))) (fun _ _ _ _ _ => pts_nil) (fun _ _ _ _ _ => (pc C__law_copied (hr.mono (by omega)) (pa_cons (pv 1) pa_nil)))))) pss_nil)
      (pss_cons (ps_if (pt_val (pe_callB (r := rIsi K) call_isi (by rfl) T.b_isinstance (by decide +kernel) (pa_cons (pv 0) (pa_cons (pe_bltn (v := .ty "dict") (u := .type "dict") (by rfl) T.b_dict (by decide +kernel) rfl) pa_nil)))) pss_never pss_nil)
      (pss_cons (ps_if (pt_val (pe_callB (r := rIsi K) call_isi (by rfl) T.b_isinstance (by decide +kernel) (pa_cons (pv 0) (pa_cons (pe_bltn (v := .ty "tuple") (u := .type "tuple") (by rfl) T.b_tuple (by decide +kernel) rfl) pa_nil)))) (pss_one (ps_ret (pe_callTy (r := rTuple K) cl_tuple (by rfl) T.b_tuple (by decide +kernel) (pa_cons (pe_lc (own := [("_law_one", 1)]) (g := gName 1) rfl sc_law_copied.nd (pi_tup (pv 0)) (blkOk_by (own := [("_law_one", 1)]) (N := ["_law_found", "_law_one"]) (sc := defScope s_law_copied) (by decide +kernel)) (fun _ _ _ _ _ => (pg_name (i := 1) sc_law_copied.nd rfl (Or.inl rfl))) (fun _ _ _ _ _ => pts_nil) (fun _ _ _ _ _ => (pc C__law_copied (hr.mono (by omega)) (pa_cons (pv 1) pa_nil)))) pa_nil)))) pss_nil)
      (pss_one (ps_ret (pv 0)))))), ?_⟩
    have g : Gr No G0 H0 G0 H0 := Gr.refl sb
    have scal : (d = .none ∨ (∃ i, d = .int i) ∨ ∃ x, d = .str x) ∨ ∃ j ds, n = j + 1 ∧ (d = .list ds ∨ d = .tuple ds) ∧ ds.length ≤ 100000 ∧ ∀ e ∈ ds, Lk j e := by
      cases n with
      | zero => exact .inl lk
      | succ j => exact lk.imp id fun ⟨ds, h1, h2⟩ => ⟨j, ds, rfl, h1, h2⟩
    rcases scal with (rfl | ⟨i, rfl⟩ | ⟨sx, rfl⟩) | ⟨j, ds, ej, rfl | rfl, hl5, hall⟩
    · cases hx
      try dsimp only [cxOf, L2.Cx.nox, L2.Cx.wish]
      refine i_start (σ' := [some (.non), none]) rfl ?_
      walk_at "zrd"
      refine isi_N (c := "list") (b := false) (by decide) rfl ?_
      walk_at "zrd"
      refine isi_N (c := "dict") (b := false) (by decide) rfl ?_
      walk_at "zrd"
      refine isi_N (c := "tuple") (b := false) (by decide) rfl ?_
      walk_at "zrd"
      exact k _ G0 H0 g .non
    · cases hx
      try dsimp only [cxOf, L2.Cx.nox, L2.Cx.wish]
      refine i_start (σ' := [some (.int i), none]) rfl ?_
      walk_at "zrd"
      refine isi_I (c := "list") (b := false) (by decide) rfl ?_
      walk_at "zrd"
      refine isi_I (c := "dict") (b := false) (by decide) rfl ?_
      walk_at "zrd"
      refine isi_I (c := "tuple") (b := false) (by decide) rfl ?_
      walk_at "zrd"
      exact k _ G0 H0 g (.int _)
    · cases hx
      try dsimp only [cxOf, L2.Cx.nox, L2.Cx.wish]
      refine i_start (σ' := [some (.str sx), none]) rfl ?_
      walk_at "zrd"
      refine isi_S (c := "list") (b := false) (by decide) rfl ?_
      walk_at "zrd"
      refine isi_S (c := "dict") (b := false) (by decide) rfl ?_
      walk_at "zrd"
      refine isi_S (c := "tuple") (b := false) (by decide) rfl ?_
      walk_at "zrd"
      exact k _ G0 H0 g (.str _)
    · have hs := hsp j ej
      subst hs
      cases hx with
      | @lst xa xs _ hsx hax =>
      try dsimp only [cxOf, L2.Cx.nox, L2.Cx.wish]
      refine i_start (σ' := [some (.ref xa), none]) rfl ?_
      walk_at "zrd"
      obtain ⟨ex, ax⟩ := dpAll_at hax
      refine isi_L (c := "list") (b := true) hsx (by decide) rfl ?_
      walk_at "zrd"
      refine lcL hsx (fun D i H' => ∃ (G : Hp) (vs : List V), Gr No G0 H0 G H' ∧ At G H' D (.lst vs) ∧ DpAll K G vs (ds.take i) ∧ vs.length = i) ?_ ?_ ?_ ?_
      · intro D nD
        exact ⟨G0, [], g.new nD, At.of g nD, .nil, rfl⟩
      · rintro D i H' nD ⟨G, vs, g, tD, hd, hvl⟩
        exact sql g.same hsx
      · rintro D i x H' nD hx ⟨G, vs, g, tD, hd, hvl⟩
        obtain ⟨d, hd1, hx1⟩ := ax i x hx
        have hi := (List.getElem?_eq_some_iff.mp hx).1
        have gg0 := g.same
        walk_at "zrd"
        refine i_lcw rfl ?_
        walk_at "zrd"
        refine i_copied g (Dp.mono gg0 _ _ hx1) (hall d (List.mem_of_getElem? hd1)) fun v G2 H2 s g hv => ?_
        have tD := tD.monoN s
        walk_at "zrd"
        refine lcp tD (by omega) ?_
        exact ⟨G2, vs ++ [v], g.mut tD (.inr nD), tD.put, dpAll_takes (dpAll_mono s.gg hd) hd1 hv, by rw [List.length_append, hvl]; rfl⟩
      · rintro D H' nD ⟨G, vs, g, tD, hd, hvl⟩
        rw [ex, List.take_length] at hd
        walk_at "zrd"
        refine k _ _ H' (g.close tD nD) ?_
        exact .lst (Z.ls upd_same (Same.refl _)) (dpAll_mono (same_close tD) hd)
    · have hs := hsp j ej
      subst hs
      cases hx with
      | @tup xa xs _ hsx hax =>
      try dsimp only [cxOf, L2.Cx.nox, L2.Cx.wish]
      refine i_start (σ' := [some (.ref xa), none]) rfl ?_
      walk_at "zrd"
      obtain ⟨ex, ax⟩ := dpAll_at hax
      refine isi_T (c := "list") (b := false) hsx (by decide) rfl ?_
      walk_at "zrd"
      refine isi_T (c := "dict") (b := false) hsx (by decide) rfl ?_
      walk_at "zrd"
      refine isi_T (c := "tuple") (b := true) hsx (by decide) rfl ?_
      walk_at "zrd"
      refine lcT hsx (fun D i H' => ∃ (G : Hp) (vs : List V), Gr No G0 H0 G H' ∧ At G H' D (.lst vs) ∧ DpAll K G vs (ds.take i) ∧ vs.length = i) ?_ ?_ ?_ ?_
      · intro D nD
        exact ⟨G0, [], g.new nD, At.of g nD, .nil, rfl⟩
      · rintro D i H' nD ⟨G, vs, g, tD, hd, hvl⟩
        exact sqt g.same hsx
      · rintro D i x H' nD hx ⟨G, vs, g, tD, hd, hvl⟩
        obtain ⟨d, hd1, hx1⟩ := ax i x hx
        have hi := (List.getElem?_eq_some_iff.mp hx).1
        have gg0 := g.same
        walk_at "zrd"
        refine i_lcw rfl ?_
        walk_at "zrd"
        refine i_copied g (Dp.mono gg0 _ _ hx1) (hall d (List.mem_of_getElem? hd1)) fun v G2 H2 s g hv => ?_
        have tD := tD.monoN s
        walk_at "zrd"
        refine lcp tD (by omega) ?_
        exact ⟨G2, vs ++ [v], g.mut tD (.inr nD), tD.put, dpAll_takes (dpAll_mono s.gg hd) hd1 hv, by rw [List.length_append, hvl]; rfl⟩
      · rintro D H' nD ⟨G, vs, g, tD, hd, hvl⟩
        rw [ex, List.take_length] at hd
        walk_at "zrd"
        refine i_tupleL (.inl (.inl tD.h)) ?_
        refine newT (K := K) g (by first | omega | (simp; done) | (simp; omega)) fun p G3 H3 np zp s g tp => ?_
        walk_at "zrd"
        refine k _ _ H3 g ?_
        exact .tup tp (dpAll_mono s.gg hd)
end
end Z
set_option Elab.async false
set_option linter.all false
set_option maxRecDepth 100000
set_option maxHeartbeats 4000000
namespace Z
open PySem PySem.Spec PyProof.Rows L2
local macro_rules | `(tactic| walk_at "zrd") => `(tactic| (repeat (first | ((with_reducible apply i_var); (· exact rfl)) | with_reducible refine i_c ?_ | with_reducible refine i_op ?_ | with_reducible refine i_I0 ?_ | with_reducible refine i_eqI ?_ | with_reducible refine i_neI ?_ | with_reducible refine i_test ?_ | with_reducible refine i_cons ?_ | with_reducible refine i_nil ?_ | with_reducible refine i_seq ?_ | with_reducible refine i_nx ?_ | with_reducible refine i_rt ?_ | with_reducible refine i_pass ?_ | with_reducible refine i_asg ?_ | with_reducible refine i_gname ?_ | with_reducible refine i_ret ?_ | with_reducible refine i_drop ?_ | with_reducible refine i_ifS ?_ | with_reducible refine i_if ?_ | with_reducible refine i_not ?_ | with_reducible refine i_and ?_ | with_reducible refine i_or ?_ | with_reducible refine i_lst ?_ | with_reducible refine i_tup ?_ | with_reducible refine i_cb ?_ | with_reducible refine i_call ?_ | with_reducible refine i_gsub ?_ | with_reducible refine i_B ?_ | with_reducible refine i_un ?_ | with_reducible refine i_U ?_ | with_reducible refine i_eqOI ?_ | with_reducible refine i_eqIO ?_ | with_reducible refine i_forL ?_ | with_reducible refine i_forT ?_ | with_reducible refine i_forR ?_ | with_reducible refine i_forR2 ?_ | with_reducible refine i_forR3 ?_ | with_reducible refine i_forE ?_ | with_reducible refine i_lcL ?_ | with_reducible refine i_lcT ?_ | with_reducible refine i_lcR ?_ | with_reducible refine i_yes ?_ | with_reducible refine i_lce ?_ | with_reducible refine i_lcf ?_ | with_reducible refine i_gcons ?_ | with_reducible refine i_gnil ?_ | with_reducible refine i_chain ?_ | with_reducible refine i_t ?_ | with_reducible refine i_f ?_ | with_reducible refine i_nt ?_ | with_reducible refine i_nf ?_ | with_reducible refine i_bm ?_ | with_reducible refine i_bm0 ?_ | with_reducible refine i_and2 ?_ | with_reducible refine i_or2 ?_ | with_reducible refine i_intI ?_ | with_reducible refine i_intB ?_ | with_reducible refine i_sl ?_ | with_reducible refine i_part ?_ | with_reducible refine i_nopart ?_ | with_reducible refine i_cut ?_ | with_reducible refine i_lrg ?_ | with_reducible refine i_make ?_ | with_reducible refine i_meth ?_ | with_reducible refine i_fld ?_ | with_reducible refine i_sfld ?_ | with_reducible refine i_dnew ?_ | with_reducible refine i_par3 ?_ | with_reducible refine i_par3e ?_ | with_reducible refine i_par2 ?_ | with_reducible refine i_par2e ?_ | with_reducible refine i_dput ?_ | with_reducible refine i_dget2 ?_ | with_reducible refine i_din ?_ | with_reducible refine i_dget ?_ | with_reducible refine i_isO ?_ | with_reducible refine i_isR ?_ | with_reducible refine i_isN ?_ | with_reducible refine i_isI ?_ | with_reducible refine i_noO ?_ | with_reducible refine i_noR ?_ | with_reducible refine i_noN ?_ | with_reducible refine i_noI ?_ | with_reducible refine i_dgetN ?_ | with_reducible refine i_dputN ?_ | with_reducible refine i_dnewN ?_ | with_reducible refine i_ckw ?_ | with_reducible refine (show ∃ k, V.bl _ = V.bl k ∧ _ from ⟨_, rfl, ?_⟩) | with_reducible refine (show ∃ k, V.int _ = V.int k ∧ _ from ⟨_, rfl, ?_⟩) | ((with_reducible apply i_ixL); (· assumption); (· exact rfl)) | ((with_reducible apply i_ixT); (· assumption); (· exact rfl)) | ((with_reducible apply i_lenL); (· assumption)) | ((with_reducible apply i_lenT); (· assumption)) | ((with_reducible apply i_I); (· (first | omega | (dsimp only; omega) | exact ⟨by omega, by omega⟩ | exact Or.inr ⟨by omega, by omega⟩ | exact Or.inl ⟨by omega, by omega⟩ | exact ⟨by decide, by decide, by decide⟩))) | ((with_reducible apply i_gtup); (· assumption); (· rfl)) | ((with_reducible apply i_p); (· omega)) | ((with_reducible apply i_n); (· omega)) | ((with_reducible apply i_np); (· omega)) | ((with_reducible apply i_nn); (· omega)) | ((with_reducible apply i_lcP); (· omega)) | ((with_reducible apply i_lcN); (· omega)) | ((with_reducible apply i_lcnP); (· omega)) | ((with_reducible apply i_lcnN); (· omega)))))
section
variable {P : Program} {w : World} {K : PySem.W.Frag} {mg : Str → Option Value} {base : Heap} {f : Addr} {fd : FuncData} {CM : Addr}
abbrev s_law_is_paper : Stmt := topS 40
theorem sc_law_is_paper : FnScope ["_law_words", "_law_load_here", "_law_beats", "_law_paper", "_law_known", "_law_row", "_law_number", "_law_word", "_law_some", "_law_phase", "_law_ages", "_law_many_here", "_law_other", "_law_place"] ["_law_words", "_law_load_here", "_law_beats", "_law_paper"] (defScope s_law_is_paper) := ⟨rfl, rfl, rfl, by decide +kernel, rfl, by decide +kernel, by decide +kernel⟩
theorem ok_paperL (T : Txt K mg) (C__law_limits : Cal P w K mg base "_law_limits" 1 ["_law_words"] (spLimL K)) (C__law_behind : Cal P w K mg base "_law_behind" 2 ["_law_words", "_law_ages", "_law_mended"] (spBehL K)) (F : Fun K "_law_is_paper" "_law_is_paper" s_law_is_paper f fd) : FnOk P w K mg base CX0 3 f fd ["_law_words", "_law_load_here", "_law_beats", "_law_paper"] (spPaperL K) := by
  refine F.ok sc_law_is_paper (fun vs H Q E h => ?_) (fun cdv A outer s H0 vs Q E hr h => ?_)
  · obtain ⟨G, m, l, b, n, ws, ld, as, pp, ST, rfl, _⟩ := h
    rfl
  · obtain ⟨G0, m, l, b, n, ws, ld, as, pp, ST, rfl, sb, hw, okw, hl, okl, hb, pr, pa, so, rk, hmany, k⟩ := h
    refine ⟨_, (pss_cons (ps_if (pt_not (pt_val (pe_callB (r := rIsi K) call_isi (by rfl) T.b_isinstance (by decide +kernel) (pa_cons (pv 3) (pa_cons (pe_bltn (v := .ty "list") (u := .type "list") (by rfl) T.b_list (by decide +kernel) rfl) pa_nil))))) (pss_one (ps_ret pe_bl)) pss_nil)
      (pss_cons (ps_set (i := 4) sc_law_is_paper.nd rfl (Or.inl rfl) pe_dnewN)
      (pss_cons (ps_for PassesOwn.never rfl (pi_list (pv 3)) (pg_name (i := 5) sc_law_is_paper.nd rfl (Or.inl rfl)) (pss_cons (ps_if (PW.pt (pw_or (pt_not (pt_val (pe_callB (r := rIsi K) call_isi (by rfl) T.b_isinstance (by decide +kernel) (pa_cons (pv 5) (pa_cons (pe_bltn (v := .ty "tuple") (u := .type "tuple") (by rfl) T.b_tuple (by decide +kernel) rfl) pa_nil))))) (pw_or1 (pt_cmpR op_ne (pe_callB (r := rLen K) cl_len (by rfl) T.b_len (by decide +kernel) (pa_cons (pv 5) pa_nil)) pe_int (nomark _))))) (pss_one (ps_ret pe_bl)) pss_nil)
      (pss_cons (ps_if (pt_not (pt_val (pe_callB (r := rIsi K) call_isi (by rfl) T.b_isinstance (by decide +kernel) (pa_cons (pe_ix (r := rIxT K) ix_tup (pv 5) pe_int (fun _ _ => rfl)) (pa_cons (pe_bltn (v := .ty "tuple") (u := .type "tuple") (by rfl) T.b_tuple (by decide +kernel) rfl) pa_nil))))) (pss_one (ps_ret pe_bl)) pss_nil)
      (pss_cons (ps_for PassesOwn.never rfl (pi_tup (pe_op (r := rCatT K) op_catT (pe_ix (r := rIxT K) ix_tup (pv 5) pe_int (fun _ _ => rfl)) (pe_tup (pa_cons (pe_ix (r := rIxT K) ix_tup (pv 5) pe_int (fun _ _ => rfl)) (pa_cons (pe_ix (r := rIxT K) ix_tup (pv 5) pe_int (fun _ _ => rfl)) pa_nil))))) (pg_name (i := 6) sc_law_is_paper.nd rfl (Or.inl rfl)) (pss_one (ps_if (PW.pt (pw_or (pt_not (pt_val (pe_callB (r := rIsi K) call_isi (by rfl) T.b_isinstance (by decide +kernel) (pa_cons (pv 6) (pa_cons (pe_bltn (v := .ty "int") (u := .type "int") (by rfl) T.b_int (by decide +kernel) rfl) pa_nil))))) (pw_or1 (pt_val (pe_callB (r := rIsi K) call_isi (by rfl) T.b_isinstance (by decide +kernel) (pa_cons (pv 6) (pa_cons (pe_bltn (v := .ty "bool") (u := .type "bool") (by rfl) T.b_bool (by decide +kernel) rfl) pa_nil))))))) (pss_one (ps_ret pe_bl)) pss_nil)))
      (pss_one (ps_dputN hr.units (pv 4) (pe_slice (r := rSlT K) sl_tup (pv 5) po_none (po_some pe_int)) (pe_ix (r := rIxT K) ix_tup (pv 5) pe_int (fun _ _ => rfl)) rfl))))))
      (pss_cons (ps_if (pt_cmpR op_ne (pe_dget2N hr.units (pv 4) (pe_tup (pa_cons pe_int (pa_cons (pe_callTy (r := rTuple K) cl_tuple (by rfl) T.b_tuple (by decide +kernel) (pa_cons (pe_lc (own := [("_law_word", 7)]) (g := gName 7) rfl sc_law_is_paper.nd (pi_list (pv 0)) (blkOk_by (own := [("_law_word", 7)]) (N := ["_law_words", "_law_load_here", "_law_beats", "_law_paper", "_law_known", "_law_row", "_law_number", "_law_word", "_law_some", "_law_phase", "_law_ages", "_law_many_here", "_law_other", "_law_place"]) (sc := defScope s_law_is_paper) (by decide +kernel)) (fun _ _ _ _ _ => (pg_name (i := 7) sc_law_is_paper.nd rfl (Or.inl rfl))) (fun _ _ _ _ _ => pts_nil) (fun _ _ _ _ _ => pe_int)) pa_nil)) pa_nil))) (pe_un un_neg pe_int) ⟨rfl, by rfl, rfl, by rfl⟩) (pv 2) (nomark _)) (pss_one (ps_ret pe_bl)) pss_nil)
      (pss_cons (ps_setLc (i := 8) (own := [("_law_word", 7)]) (g := gName 7) rfl sc_law_is_paper.nd rfl rfl (sw_true rfl rfl rfl (by decide +kernel)) (pi_range1 (by rfl) T.b_range (pa_cons (pe_callB (r := rLen K) cl_len (by rfl) T.b_len (by decide +kernel) (pa_cons (pv 0) pa_nil)) pa_nil)) (blkOk_by (own := [("_law_word", 7)]) (N := ["_law_words", "_law_load_here", "_law_beats", "_law_paper", "_law_known", "_law_row", "_law_number", "_law_word", "_law_some", "_law_phase", "_law_ages", "_law_many_here", "_law_other", "_law_place"]) (sc := defScope s_law_is_paper) (by decide +kernel)) (fun _ _ _ _ _ => (pg_name (i := 7) sc_law_is_paper.nd rfl (Or.inl rfl))) (fun _ _ _ _ _ => (pts_one (pt_cmpR op_notNz (pe_ix (r := rIxL K) ix_list (pc C__law_limits (hr.mono (by decide)) (pa_cons (pv 0) pa_nil)) (pv 7) (fun _ _ => rfl)) pe_non (nomark _)))) (fun _ _ _ _ _ => (pv 7)))
      (pss_cons (ps_for PassesOwn.never rfl (pi_list (pv 3)) (pg_tup rfl (pgs_cons (pg_name (i := 9) sc_law_is_paper.nd rfl (Or.inl rfl)) (pgs_cons (pg_name (i := 10) sc_law_is_paper.nd rfl (Or.inl rfl)) (pgs_cons (pg_name (i := 11) sc_law_is_paper.nd rfl (Or.inl rfl)) pgs_nil)))) (pss_one (ps_for PassesOwn.never rfl (pi_list (pe_op op_cat (pe_lst (pa_cons pe_non pa_nil)) (pe_op op_rep (pv 8) (pe_callTy cl_int (by rfl) T.b_int (by decide +kernel) (pa_cons (pe_cmpR op_eq (pe_ix (r := rIxL K) ix_list (pv 1) (pv 9) (fun _ _ => rfl)) pe_int (nomark _)) pa_nil))))) (pg_name (i := 7) sc_law_is_paper.nd rfl (Or.inl rfl)) (pss_cons (ps_set (i := 12) sc_law_is_paper.nd rfl (Or.inl rfl) (pc C__law_behind (hr.mono (by decide)) (pa_cons (pv 0) (pa_cons (pv 10) (pa_cons (pv 7) pa_nil)))))
      (pss_cons (ps_set (i := 13) sc_law_is_paper.nd rfl (Or.inl rfl) (pe_tup (pa_cons (pe_op op_mod (pe_op op_add (pv 9) pe_int) (pe_callB (r := rLen K) cl_len (by rfl) T.b_len (by decide +kernel) (pa_cons (pv 1) pa_nil))) (pa_cons (pv 12) pa_nil))))
      (pss_one (ps_if (PW.pt (pw_and (pt_cmpR op_notNz (pv 12) pe_non (nomark _)) (pw_and1 (pt_cmpR op_ge (pe_dget2N hr.units (pv 4) (pv 13) (pv 11) ⟨rfl, by rfl, rfl, by rfl⟩) (pv 11) (nomark _))))) (pss_one (ps_ret pe_bl)) pss_nil)))))))
      (pss_one (ps_ret pe_bl)))))))), ?_⟩
    try dsimp only [cxOf, L2.Cx.nox, L2.Cx.wish]
    refine i_start (σ' := [some (.ref m), some (.ref l), some (.int (n : Nat)), some (.ref b), none, none, none, none, none, none, none, none, none, none]) rfl ?_
    have g : Gr No G0 H0 G0 H0 := Gr.refl sb
    obtain ⟨wa, hwa, wpr⟩ := id hw
    have ew : (wa.map V.ref).length = ws.length := by rw [List.length_map, Paired.len wpr, List.length_map]
    have w4 := okw.l4
    have oke := okEn_of okw
    have L1 := okl.l1
    have e0 : (ld.map V.int).length = ld.length := List.length_map _
    have epp : as.length = pp.length := Paired.len pr
    have eST : pp.length = ST.length := by rw [← pa.ks, List.length_map]
    have few := so.few oke okl
    have nd := pa.nd so
    have oks : ∀ x ∈ pp, OkS (ws.map lim) ld x.1 := fun x hx => (so.re x.1 (by rw [← pa.ks]; exact List.mem_map.mpr ⟨_, hx, rfl⟩)).ok L1 oke
    have hb1 : SqL K H0 b (as.map V.ref) := Z.ls hb g.sub
    walk_at "zrd"
    refine isi_L (c := "list") (b := true) hb1 (by decide) rfl ?_
    walk_at "zrd"
    intro kd nkd
    have zkd := g.fresh nkd
    have tk : At G0 (upd H0 kd (dN P w kd [])) kd (dN P w kd []) := At.of g nkd
    have g := g.new nkd (o := dN P w kd [])
    revert g tk
    generalize upd H0 kd (dN P w kd []) = H1
    intro tk g
    clear nkd
    walk_at "zrd"
    refine forL (Z.ls (K := K) hb g.sub) (fun i σ H' => ∃ (v5 v6 : Option V) (ks : List (S × Addr × V)) (G : Hp), σ = [some (.ref m), some (.ref l), some (.int (n : Nat)), some (.ref b), some (.ref kd), v5, v6, none, none, none, none, none, none, none] ∧ Gr No G0 H0 G H' ∧ At G H' kd (dN P w kd ks) ∧ KeysAt K G ks ∧ Paired (fun (e : S × Addr × V) (x : S × Nat) => e.1 = x.1 ∧ e.2.2 = .int (x.2 : Nat)) ks (pp.take i)) ⟨none, none, [], G0, rfl, g, tk, (fun x hx => by cases hx), .nil⟩ ?_ ?_ ?_
    · rintro i σ H' hi ⟨v5, v6, ks, G, rfl, g, tk, kx, pk⟩
      exact Z.ls (g.gg _ _ hb) g.sub
    · clear g tk
      rintro i x σ H' hx ⟨v5, v6, ks, G, rfl, g, tk, kx, pk⟩
      obtain ⟨a, ha, rfl⟩ := map_at hx
      have hil : i < as.length := (List.getElem?_eq_some_iff.mp ha).1
      have hpi : pp[i]? = some (pp[i]'(by omega)) := List.getElem?_eq_getElem (by omega)
      generalize pp[i]'(by omega) = x at hpi
      obtain ⟨st, num⟩ := x
      have hmem := List.mem_of_getElem? hpi
      have hok := oks _ hmem
      obtain ⟨r, hr1, hr2⟩ := RowP.mono (show Same G0 G from g.gg) (Paired.at pr ha hpi)
      have hsl : st.2.length = ws.length := by rw [hok.len, List.length_map]
      have hkl : ks.length ≤ i := by
        rw [Paired.len pk, List.length_take]
        omega
      have hr1' := sqt (K := K) g.sub hr1
      have hr2' := sqt (K := K) g.sub hr2
      walk_at "zrd"
      refine isi_T (c := "tuple") (b := true) hr1' (by decide) rfl ?_
      walk_at "zrd"
      rw [show ((([V.int st.1, V.ref r, V.int (num : Nat)] : List V).length : Nat) : Int) = 3 from rfl]
      walk_at "zrd"
      refine isi_T (c := "tuple") (b := true) hr2' (by decide) rfl ?_
      walk_at "zrd"
      refine newT (K := K) g (by first | omega | (simp; done) | (simp; omega)) fun p2 G2 H2 np2 zp2 s g tp2 => ?_
      have nkp2 := ne_of_none tk.h np2
      have tk := tk.monoN s
      walk_at "zrd"
      have hr1' := sqt (K := K) (s.gg.trans g.sub) hr1
      have hr2' := sqt (K := K) (s.gg.trans g.sub) hr2
      have s2 := s.gg
      refine i_catT hr2' (sqt (K := K) g.sub tp2) (fun z => ?_) (fun z => by cases z) ?_
      · have h1 := congrArg List.length z
        rw [List.length_map, hok.len, List.length_map] at h1
        have := okw.l1
        have h1 : ws.length = 0 := h1
        omega
      have hcl : (st.2.map V.int ++ [V.int st.1, V.int (num : Nat)]).length ≤ 6 := by
        rw [List.length_append, List.length_map, hok.len, List.length_map]
        show ws.length + 2 ≤ 6
        omega
      refine newT (K := K) g (by first | omega | (simp; done) | (simp; omega)) fun p3 G3 H3 np3 zp3 s g tp3 => ?_
      have nkp3 := ne_of_none tk.h np3
      have tk := tk.monoN s
      walk_at "zrd"
      have s3 := s2.trans s.gg
      have kx := kx.mono s3
      have hr1 := sqt (K := K) s3 hr1
      have hr2 := sqt (K := K) s3 hr2
      clear hr1' hr2'
      have gA := g
      rw [show st.2.map V.int ++ [V.int st.1, V.int (num : Nat)] = (st.2 ++ [st.1, (num : Int)]).map V.int by rw [List.map_append]; rfl] at tp3
      refine forT (sqt (K := K) g.sub tp3) (fun j σ H' => ∃ (v6 : Option V), σ = [some (.ref m), some (.ref l), some (.int (n : Nat)), some (.ref b), some (.ref kd), some (.ref a), v6, none, none, none, none, none, none, none] ∧ H' = H3) ⟨_, rfl, rfl⟩ ?_ ?_ ?_
      · rintro j σ H' hj ⟨v6, rfl, rfl⟩
        exact sqt (K := K) g.sub tp3
      · rintro j y σ H' hy ⟨v6, rfl, rfl⟩
        obtain ⟨z, hz, rfl⟩ := map_at hy
        walk_at "zrd"
        refine isi_I (c := "int") (b := true) (by decide) rfl ?_
        walk_at "zrd"
        refine isi_I (c := "bool") (b := false) (by decide) rfl ?_
        walk_at "zrd"
        exact ⟨_, rfl, rfl⟩
      · rintro σ H' ⟨v6, rfl, rfl⟩
        have hr1' := sqt (K := K) g.sub hr1
        walk_at "zrd"
        refine i_slT hr1' (show ¬ (HT.sIx 3 0 none = 0 ∧ HT.sIx 3 3 (some 2) = 3) from by decide) ?_
        rw [show cutV [V.int st.1, V.ref r, V.int (num : Nat)] none (some 2) = [V.int st.1, V.ref r] from rfl]
        refine newT (K := K) g (by first | omega | (simp; done) | (simp; omega)) fun q2 G4 H4 nq2 zq2 s g tq2 => ?_
        have nkq2 := ne_of_none tk.h nq2
        have tk := tk.monoN s
        walk_at "zrd"
        have kx := kx.mono s.gg
        have hq2 : StAt K G4 q2 st := ⟨r, tq2, sqt s.gg hr2⟩
        have hno : valN ks st = none := valN_fresh pk (by
          rw [List.map_take]
          exact take_fresh nd (by rw [List.getElem?_map, hpi]; rfl))
        refine dputN tk.h (kx.mono g.sub) (hq2.mono g.sub) (by omega) ?_
        rw [putN_new hno]
        refine ⟨_, _, ks ++ [(st, q2, .int (num : Nat))], G4, rfl, g.mut tk (.inr zkd), tk.put, fun x hx => ?_, ?_⟩
        · rcases List.mem_append.mp hx with h1 | h1
          · exact kx x h1
          · rw [List.mem_singleton.mp h1]; exact hq2
        · rw [List.take_add_one, hpi]
          exact Paired.snoc ⟨rfl, rfl⟩ pk
    · clear g tk
      rintro σ H' ⟨v5, v6, ks, G, rfl, g, tk, kx, pk⟩
      rw [List.length_map, epp, List.take_length] at pk
      have hval : ∀ t m, (t, m) ∈ pp → valN ks t = some (.int (m : Nat)) := fun t m h => valN_pap pk nd h
      have hwa := g.gg _ _ hwa
      have wpr := prt (K := K) g.gg wpr
      have hw := hw.mono g.gg
      have hl := g.gg _ _ hl
      have hb := g.gg _ _ hb
      have pr := Paired.imp (fun _ _ h => RowP.mono (show Same G0 G from g.gg) h) pr
      clear pk hb1 sb
      walk_at "zrd"
      refine i_dget2N ?_
      walk_at "zrd"
      refine dget2N tk.h (kx.mono g.sub) ?_
      walk_at "zrd"
      have gA := g
      have tkA := tk
      refine lcL (Z.ls (K := K) hwa g.sub) (fun D i H' => Gr No G0 H0 G H' ∧ At G H' kd (dN P w kd ks) ∧ At G H' D (.lst ((List.replicate i (0 : Int)).map V.int))) ?_ ?_ ?_ ?_
      · intro D nD
        exact ⟨g.new nD, tk.new nD, At.of g nD⟩
      · rintro D i H' nD ⟨g, tk, tD⟩
        exact Z.ls hwa g.sub
      · rintro D i x H' nD hx ⟨g, tk, tD⟩
        have hi : i < ws.length := by rw [← ew]; exact (List.getElem?_eq_some_iff.mp hx).1
        have nkD : kd ≠ D := ne_of_none tkA.h nD
        walk_at "zrd"
        refine i_lcw rfl ?_
        walk_at "zrd"
        refine lcp tD (by rw [List.length_map, List.length_replicate]; omega) ?_
        refine ⟨g.mut tD (.inr (gA.fresh nD)), tk.off nkD, ?_⟩
        rw [List.replicate_succ', List.map_append]
        exact tD.put
      rintro D H' nD ⟨g, tk, tD⟩
      rw [ew] at tD
      clear gA tkA
      walk_at "zrd"
      refine i_tupleL (.inl (.inl tD.h)) ?_
      have ezl : ((List.replicate ws.length (0 : Int)).map V.int).length ≤ 4 := by rw [List.length_map, List.length_replicate]; exact w4
      refine newT (K := K) g (by first | omega | (simp; done) | (simp; omega)) fun zt G2 H2 nzt zzt s g tzt => ?_
      have nkzt := ne_of_none tk.h nzt
      have tk := tk.monoN s
      walk_at "zrd"
      have s0 := s.gg
      refine newT (K := K) g (by first | omega | (simp; done) | (simp; omega)) fun q0 G3 H3 nq0 zq0 s g tq0 => ?_
      have nkq0 := ne_of_none tk.h nq0
      have tk := tk.monoN s
      walk_at "zrd"
      have hq0 : StAt K G3 q0 (firstS (ws.map lim)) := ⟨zt, tq0, by
        have h1 := sqt (K := K) s.gg tzt
        unfold firstS
        rw [List.length_map]
        exact h1⟩
      have sG := g.gg
      have s1 : Same G G3 := s0.trans s.gg
      have hwa := s1 _ _ hwa
      have wpr := prt (K := K) s1 wpr
      have hw := hw.mono s1
      have hl := s1 _ _ hl
      have hb := s1 _ _ hb
      have pr := Paired.imp (fun _ _ h => RowP.mono s1 h) pr
      have kx := kx.mono s1
      walk_at "zrd"
      refine dg2N tk.h (kx.mono g.sub) (hq0.mono g.sub) ?_
      rw [hval _ _ (pa.first so rk)]
      rw [show (some (V.int (n : Nat))).getD (V.int (-1)) = V.int (n : Nat) from rfl]
      have hm1 : SqL K H3 m (wa.map V.ref) := Z.ls hwa g.sub
      walk_at "zrd"
      rw [ew]
      have gA := g
      have tkA := tk
      refine lcR (by omega) (by omega) (fun D i H' => Gr No G0 H0 G3 H' ∧ At G3 H' kd (dN P w kd ks) ∧ At G3 H' D (.lst ((lims (ws.map lim) i).map vO))) ?_ ?_ ?_
      · intro D nD
        exact ⟨g.new nD, tk.new nD, At.of g nD⟩
      · rintro D i H' nD hi ⟨g, tk, tD⟩
        have hi2 : i < ws.length := by omega
        have nkD : kd ≠ D := ne_of_none tkA.h nD
        have zD := gA.fresh nD
        have elim : ((ws.map lim).map vO)[i]? = some (vO ((ws.map lim).getD i none)) := map_getD (d := none) (by rw [List.length_map]; exact hi2)
        have hll := lims_len (ws.map lim) i
        walk_at "zrd"
        refine i_lcw rfl ?_
        walk_at "zrd"
        refine i_limL g hw okw fun e H5 ne s g te => ?_
        have tk := tk.monoN s
        have tD := tD.monoN s
        walk_at "zrd"
        rcases hL : (ws.map lim).getD i none with _ | L
        · rw [hL] at elim
          have elim : ((ws.map lim).map vO)[i]? = some V.non := elim
          refine i_ixL (.inl (.inl te.h)) (atN (k := i) rfl elim) ?_
          walk_at "zrd"
          refine ⟨g, tk, ?_⟩
          rw [lims_succ, hL, if_neg (by simp), List.append_nil]
          exact tD
        · rw [hL] at elim
          have elim : ((ws.map lim).map vO)[i]? = some (V.int L) := elim
          refine i_ixL (.inl (.inl te.h)) (atN (k := i) rfl elim) ?_
          walk_at "zrd"
          refine lcp tD (by rw [List.length_map]; omega) ?_
          refine ⟨g.mut tD (.inr zD), tk.off nkD, ?_⟩
          rw [lims_succ, hL, if_pos (by simp), List.map_append]
          exact tD.put
      rintro D H' nD ⟨g, tk, tD⟩
      rw [Int.toNat_natCast] at tD
      have elen : (ws.map lim).length = ws.length := List.length_map _
      have hll := lims_len (ws.map lim) ws.length
      clear gA tkA hm1
      walk_at "zrd"
      refine forL (Z.ls (K := K) hb g.sub) (fun i σ H' => ∃ (v7 v9 v10 v11 v12 v13 : Option V) (G : Hp), σ = [some (.ref m), some (.ref l), some (.int (n : Nat)), some (.ref b), some (.ref kd), v5, v6, v7, some (.ref D), v9, v10, v11, v12, v13] ∧ Gr No G0 H0 G H' ∧ Same G3 G ∧ At G H' kd (dN P w kd ks) ∧ At G H' D (.lst ((lims (ws.map lim) ws.length).map vO))) ⟨_, none, none, none, none, none, G3, rfl, g, Same.refl _, tk, tD⟩ ?_ ?_ ?_
      · rintro i σ H' hi ⟨v7, v9, v10, v11, v12, v13, G, rfl, g, sG, tk, tD⟩
        exact Z.ls (sG _ _ hb) g.sub
      · clear g tk tD
        rintro i x σ H' hx ⟨v7, v9, v10, v11, v12, v13, G, rfl, g, sG, tk, tD⟩
        obtain ⟨a, ha, rfl⟩ := map_at hx
        have hil : i < as.length := (List.getElem?_eq_some_iff.mp ha).1
        have hpi : pp[i]? = some (pp[i]'(by omega)) := List.getElem?_eq_getElem (by omega)
        generalize pp[i]'(by omega) = x at hpi
        obtain ⟨st, num⟩ := x
        have hmem := List.mem_of_getElem? hpi
        have hok := oks _ hmem
        obtain ⟨r, hr1, hr2⟩ := RowP.mono sG (Paired.at pr ha hpi)
        have hsl : st.2.length = ws.length := by rw [hok.len, List.length_map]
        have hr1' := sqt (K := K) g.sub hr1
        have hw := hw.mono sG
        have hl := sG _ _ hl
        have kx := kx.mono sG
        have p0 : 0 ≤ st.1 := hok.p0
        have p1 : st.1 < ld.length := hok.p1
        walk_at "zrd"
        refine newL g (by first | omega | (simp; done) | (simp; omega)) fun z0 H5 nz0 zz0 s g tz0 => ?_
        have nkz0 := ne_of_none tk.h nz0
        have nDz0 := ne_of_none tD.h nz0
        have tk := tk.monoN s
        have tD := tD.monoN s
        walk_at "zrd"
        refine i_ixL (Z.ls (K := K) hl g.sub) (atN (k := st.1.toNat) (by show st.1 = _; omega) (map_getD (d := 1) (by show st.1.toNat < _; omega))) ?_
        walk_at "zrd"
        have hrep : (List.replicate (if decide (ld.getD st.1.toNat 1 = 0) = true then (1 : Int) else 0).toNat ((lims (ws.map lim) ws.length).map vO)).flatten = (if ld.getD st.1.toNat 1 = 0 then lims (ws.map lim) (ws.map lim).length else []).map vO := by
          rw [elen]
          by_cases hz : ld.getD st.1.toNat 1 = 0
          · rw [decide_eq_true hz, if_pos hz]
            simp
          · rw [decide_eq_false hz, if_neg hz]
            simp
        have hk01 : 0 ≤ (if decide (ld.getD st.1.toNat 1 = 0) = true then (1 : Int) else 0) ∧ (if decide (ld.getD st.1.toNat 1 = 0) = true then (1 : Int) else 0) ≤ 1 := by split <;> omega
        refine i_rep tD.h hk01.1 (by omega) ?_ ?_
        · rw [List.length_map]
          exact Nat.le_trans (Nat.mul_le_mul hll (show _ ≤ 1 by omega)) (by omega)
        rw [hrep]
        have hol := opts_len (ld := ld) oke st
        unfold opts at hol
        rw [List.length_cons] at hol
        have hol2 : ((if ld.getD st.1.toNat 1 = 0 then lims (ws.map lim) (ws.map lim).length else []).map vO).length ≤ 4 := by rw [List.length_map]; omega
        refine newL g (by first | omega | (simp; done) | (simp; omega)) fun z1 H6 nz1 zz1 s g tz1 => ?_
        have nkz1 := ne_of_none tk.h nz1
        have nDz1 := ne_of_none tD.h nz1
        have nz0z1 := ne_of_none tz0.h nz1
        have tk := tk.monoN s
        have tD := tD.monoN s
        have tz0 := tz0.monoN s
        walk_at "zrd"
        refine i_cat tz0.h tz1.h ?_
        rw [show [V.non] ++ (if ld.getD st.1.toNat 1 = 0 then lims (ws.map lim) (ws.map lim).length else []).map vO = (opts (ws.map lim) ld st).map vO from rfl]
        have hol3 : ((opts (ws.map lim) ld st).map vO).length ≤ 5 := by rw [List.length_map]; exact opts_len oke st
        refine newL g (by first | omega | (simp; done) | (simp; omega)) fun z2 H7 nz2 zz2 s g tz2 => ?_
        have nkz2 := ne_of_none tk.h nz2
        have nDz2 := ne_of_none tD.h nz2
        have tk := tk.monoN s
        have tD := tD.monoN s
        walk_at "zrd"
        refine forL (.inl (.inl tz2.h)) (fun j σ H' => ∃ (v7 v12 v13 : Option V) (G4 : Hp), σ = [some (.ref m), some (.ref l), some (.int (n : Nat)), some (.ref b), some (.ref kd), v5, v6, v7, some (.ref D), some (.int st.1), some (.ref r), some (.int (num : Nat)), v12, v13] ∧ Gr No G0 H0 G4 H' ∧ Same G G4 ∧ At G4 H' kd (dN P w kd ks) ∧ At G4 H' D (.lst ((lims (ws.map lim) ws.length).map vO)) ∧ At G4 H' z2 (.lst ((opts (ws.map lim) ld st).map vO))) ⟨_, _, _, G, rfl, g, Same.refl _, tk, tD, tz2⟩ ?_ ?_ ?_
        · rintro j σ H' hj ⟨v7, v12, v13, G4, rfl, g, sK, tk, tD, tz2⟩
          exact .inl (.inl tz2.h)
        · clear g tk tD tz2 tz0 tz1
          rintro j x σ H' hx ⟨v7, v12, v13, G4, rfl, g, sK, tk, tD, tz2⟩
          obtain ⟨o, ho, rfl⟩ := map_at hx
          have hop := List.mem_of_getElem? ho
          have hw := hw.mono sK
          have hl := sK _ _ hl
          have kx := kx.mono sK
          have hr2 := sqt (K := K) sK hr2
          walk_at "zrd"
          refine i_behL g hw okw hr2 hsl fun v G5 H8 s g hbv => ?_
          have sK := sK.trans s.gg
          have tk := tk.monoN s
          have tD := tD.monoN s
          have tz2 := tz2.monoN s
          have kx := kx.mono s.gg
          have hl1 : SqL K H8 l (ld.map V.int) := Z.ls (s.gg _ _ hl) g.sub
          walk_at "zrd"
          rw [e0]
          match hbe : beh (ws.map lim) st.2 o ws.length, hbv with
          | none, hbv =>
            have e : v = .non := hbv
            subst e
            refine newT (K := K) g (by first | omega | (simp; done) | (simp; omega)) fun pl G6 H9 npl zpl s g tpl => ?_
            have nkpl := ne_of_none tk.h npl
            have nDpl := ne_of_none tD.h npl
            have nz2pl := ne_of_none tz2.h npl
            have tk := tk.monoN s
            have tD := tD.monoN s
            have tz2 := tz2.monoN s
            walk_at "zrd"
            walk_at "zrd"
            exact ⟨_, _, _, G6, rfl, g, sK.trans s.gg, tk, tD, tz2⟩
          | some xs, ⟨p, e, tp⟩ =>
            subst e
            have hst : step (ws.map lim) ld st o = some ((st.1 + 1) % (ld.length : Nat), xs) := by
              unfold step
              rw [elen, hbe]
              rfl
            obtain ⟨mm, hm1, hm2⟩ := pa.less so hmem hop hst
            refine newT (K := K) g (by first | omega | (simp; done) | (simp; omega)) fun pl G6 H9 npl zpl s g tpl => ?_
            have nkpl := ne_of_none tk.h npl
            have nDpl := ne_of_none tD.h npl
            have nz2pl := ne_of_none tz2.h npl
            have tk := tk.monoN s
            have tD := tD.monoN s
            have tz2 := tz2.monoN s
            have kx := kx.mono s.gg
            walk_at "zrd"
            have hq : StAt K G6 pl ((st.1 + 1) % (ld.length : Nat), xs) := ⟨p, tpl, sqt s.gg tp⟩
            walk_at "zrd"
            refine i_dget2N ?_
            walk_at "zrd"
            refine dget2N tk.h (kx.mono g.sub) ?_
            walk_at "zrd"
            refine dg2N tk.h (kx.mono g.sub) (hq.mono g.sub) ?_
            rw [hval _ _ hm1]
            rw [show (some (V.int (mm : Nat))).getD (V.int (num : Nat)) = V.int (mm : Nat) from rfl]
            walk_at "zrd"
            exact ⟨_, _, _, G6, rfl, g, sK.trans s.gg, tk, tD, tz2⟩
        · rintro σ H' ⟨v7, v12, v13, G4, rfl, g, sK, tk, tD, tz2⟩
          exact ⟨_, _, _, _, _, _, G4, rfl, g, sG.trans sK, tk, tD⟩
      · rintro σ H' ⟨v7, v9, v10, v11, v12, v13, G, rfl, g, sG, tk, tD⟩
        walk_at "zrd"
        exact k _ g.same
end
end Z
set_option Elab.async false
set_option linter.all false
set_option maxRecDepth 100000
set_option maxHeartbeats 4000000
namespace Z
open PySem PySem.Spec PyProof.Rows L2
/-! ### held's answer as data -/
def dE (hd lp : List (Option Int)) : PyData := .tuple [.str "endless", .list (hd.map dO), .list (lp.map dO)]
def dN4 (n : Nat) (wd : List (Option Int)) (pp : List (S × Nat)) : PyData := .tuple [.str "ends", .int (n : Nat), .list (wd.map dO), .list (pp.map dP)]
def HeldD (en : List (Option Int)) (ld : List Int) (d : PyData) : Prop := (∃ hd lp, d = dE hd lp ∧ EndRes en ld hd lp) ∨ (∃ n wd pp ST, d = dN4 n wd pp ∧ LongRes en ld n wd ∧ PapRes en ld ST pp ∧ StOk en ld ST)
theorem HeldD.uniq {en : List (Option Int)} {ld : List Int} {d e : PyData} (h : HeldD en ld d) (k : HeldD en ld e) : d = e := by
  rcases h with ⟨hd, lp, rfl, h⟩ | ⟨n, wd, pp, ST, rfl, h1, h2, h3⟩ <;> rcases k with ⟨hd', lp', rfl, k⟩ | ⟨n', wd', pp', ST', rfl, k1, k2, k3⟩
  · obtain ⟨rfl, rfl⟩ := EndRes.uniq h k
    rfl
  · exact (k1.rk.not h.la).elim
  · exact (h1.rk.not k.la).elim
  · obtain rfl := h1.rk.uniq k1.rk
    obtain rfl := LongRes.uniq h1 k1
    obtain rfl := StOk.uniq h3 k3
    obtain rfl := PapRes.uniq h2 k2
    rfl
theorem held_data {K : PySem.W.Frag} {G H Hb : Hp} {r : Addr} {en : List (Option Int)} {ld : List Int} (sb : Same G H) (h : HeldV K G H Hb r en ld) : ∃ d, Dp K H (.ref r) d ∧ HeldD en ld d := by
  rcases h with ⟨a, b, hd, lp, na, nb, nab, hT, ta, tb, er⟩ | ⟨a, b, wd, as, pp, n, ST, na, nb, nab, hT, ta, lr, tb, pr, pa, so⟩
  · exact ⟨dE hd lp, .tup (sqt sb hT) (.cons (.str _) (.cons (.lst (.inl (.inl ta.h)) (dpAll_vO _)) (.cons (.lst (.inl (.inl tb.h)) (dpAll_vO _)) .nil))), .inl ⟨hd, lp, rfl, er⟩⟩
  · exact ⟨dN4 n wd pp, .tup (sqt sb hT) (.cons (.str _) (.cons (.int _) (.cons (.lst (.inl (.inl ta.h)) (dpAll_vO _)) (.cons (.lst (.inl (.inl tb.h)) (dp_paper (Paired.imp (fun _ _ h => RowP.mono sb h) pr))) .nil)))), .inr ⟨n, wd, pp, ST, rfl, lr, pa, so⟩⟩
theorem lk_up : ∀ {n : Nat} {d : PyData}, Lk n d → Lk (n + 1) d
  | 0, _, h => .inl h
  | n + 1, _, .inl h => .inl h
  | n + 1, _, .inr ⟨ds, h1, h2, h3⟩ => .inr ⟨ds, h1, h2, fun e he => lk_up (h3 e he)⟩
theorem lk_tupX {n : Nat} {ds : List PyData} (hl : ds.length ≤ 100000) (h : ∀ e ∈ ds, Lk n e) : Lk (n + 1) (.tuple ds) := .inr ⟨ds, .inr rfl, hl, h⟩
theorem lk_lstX {n : Nat} {ds : List PyData} (hl : ds.length ≤ 100000) (h : ∀ e ∈ ds, Lk n e) : Lk (n + 1) (.list ds) := .inr ⟨ds, .inl rfl, hl, h⟩
theorem lk_vOs {n : Nat} {os : List (Option Int)} (h : os.length ≤ 100000) : Lk (n + 1) (.list (os.map dO)) := lk_lstX (by rw [List.length_map]; exact h) fun e he => by
  obtain ⟨o, _, rfl⟩ := List.mem_map.mp he
  cases o with
  | none => exact lk_non
  | some i => exact lk_int
theorem HeldD.lk {ws : List W3} {ld : List Int} {d : PyData} (okw : OkWs ws) (okl : OkLd ld) (hm : manyS (ws.map lim) ld ≤ 2000) (h : HeldD (ws.map lim) ld d) : Lk 4 d := by
  have oke := okEn_of okw
  rcases h with ⟨hd, lp, rfl, h⟩ | ⟨n, wd, pp, ST, rfl, h1, h2, h3⟩
  · obtain ⟨okp, _⟩ := h.all okw okl hm
    have e1 := okp.h40
    have e2 := okp.l40
    refine lk_tupX (by show 3 ≤ 100000; decide) fun e he => ?_
    simp only [List.mem_cons, List.not_mem_nil, or_false] at he
    rcases he with rfl | rfl | rfl
    · exact lk_str
    · exact lk_vOs (by omega)
    · exact lk_vOs (by omega)
  · have hn := h1.few oke okl h3 hm
    have okp := h1.okPl (by omega)
    have e1 := okp.h40
    have e3 := h3.few oke okl
    have e4 : pp.length = ST.length := by rw [← h2.ks, List.length_map]
    refine lk_tupX (by show 4 ≤ 100000; decide) fun e he => ?_
    simp only [List.mem_cons, List.not_mem_nil, or_false] at he
    rcases he with rfl | rfl | rfl | rfl
    · exact lk_str
    · exact lk_int
    · exact lk_vOs (by omega)
    · refine lk_lstX (by rw [List.length_map]; omega) fun e he => ?_
      obtain ⟨x, hx, rfl⟩ := List.mem_map.mp he
      have hs : x.1 ∈ ST := by rw [← h2.ks]; exact List.mem_map.mpr ⟨_, hx, rfl⟩
      have hok := ((h3.re x.1 hs).ok okl.l1 oke).len
      have l4 := okw.l4
      rw [List.length_map] at hok
      refine lk_tupX (by show 3 ≤ 100000; decide) fun e he => ?_
      simp only [List.mem_cons, List.not_mem_nil, or_false] at he
      rcases he with rfl | rfl | rfl
      · exact lk_int
      · refine lk_tupX (by rw [List.length_map]; omega) fun e he => ?_
        obtain ⟨i, _, rfl⟩ := List.mem_map.mp he
        exact lk_int
      · exact lk_int
theorem i_neSt {H : Hp} {Q : VK} {x : Str} (q : Q (.bl false) H) : rNe (.str x) (.str x) H Q := ⟨rfl, by rw [decide_eq_true rfl]; exact q⟩
def spRight (K : PySem.W.Frag) (C : Addr) : Sp := fun vs H Q _ => ∃ (G : Hp) (m l mm r : Addr) (ws : List W3) (ld : List Int) (xs : List V), vs = [.ref m, .ref l, .ref mm, .ref r] ∧ Same G H ∧ TupL K G m (ws.map vW) ∧ G l = some (.lst (ld.map V.int)) ∧ OkLd ld ∧ MemAt K C G mm ws ∧ SqT K G r xs ∧ HeldC K G xs (ws.map lim) ld ∧ manyS (ws.map lim) ld ≤ 2000 ∧
  ∀ H', Same H H' → Q (.bl true) H'
theorem i_right {K : PySem.W.Frag} {C : Addr} {G H : Hp} {Q : VK} {E : XK} {m l mm r : Addr} {ws : List W3} {ld : List Int} {xs : List V} (sb : Same G H) (hw : TupL K G m (ws.map vW)) (hl : G l = some (.lst (ld.map V.int))) (okl : OkLd ld) (M : MemAt K C G mm ws) (hT : SqT K G r xs) (hC : HeldC K G xs (ws.map lim) ld) (hm : manyS (ws.map lim) ld ≤ 2000)
    (k : ∀ H', Same H H' → Q (.bl true) H') : spRight K C ([.ref m, .ref l, .ref mm, .ref r] ++ []) H Q E := ⟨G, m, l, mm, r, ws, ld, xs, rfl, sb, hw, hl, okl, M, hT, hC, hm, k⟩
end Z
set_option Elab.async false
set_option linter.all false
set_option maxRecDepth 100000
set_option maxHeartbeats 4000000
namespace Z
open PySem PySem.Spec PyProof.Rows L2
local macro_rules | `(tactic| walk_at "zrd") => `(tactic| (repeat (first | ((with_reducible apply i_var); (· exact rfl)) | with_reducible refine i_c ?_ | with_reducible refine i_op ?_ | with_reducible refine i_I0 ?_ | with_reducible refine i_eqI ?_ | with_reducible refine i_neI ?_ | with_reducible refine i_test ?_ | with_reducible refine i_cons ?_ | with_reducible refine i_nil ?_ | with_reducible refine i_seq ?_ | with_reducible refine i_nx ?_ | with_reducible refine i_rt ?_ | with_reducible refine i_pass ?_ | with_reducible refine i_asg ?_ | with_reducible refine i_gname ?_ | with_reducible refine i_ret ?_ | with_reducible refine i_drop ?_ | with_reducible refine i_ifS ?_ | with_reducible refine i_if ?_ | with_reducible refine i_not ?_ | with_reducible refine i_and ?_ | with_reducible refine i_or ?_ | with_reducible refine i_lst ?_ | with_reducible refine i_tup ?_ | with_reducible refine i_cb ?_ | with_reducible refine i_call ?_ | with_reducible refine i_gsub ?_ | with_reducible refine i_B ?_ | with_reducible refine i_un ?_ | with_reducible refine i_U ?_ | with_reducible refine i_eqOI ?_ | with_reducible refine i_eqIO ?_ | with_reducible refine i_forL ?_ | with_reducible refine i_forT ?_ | with_reducible refine i_forR ?_ | with_reducible refine i_forR2 ?_ | with_reducible refine i_forR3 ?_ | with_reducible refine i_forE ?_ | with_reducible refine i_lcL ?_ | with_reducible refine i_lcT ?_ | with_reducible refine i_lcR ?_ | with_reducible refine i_yes ?_ | with_reducible refine i_lce ?_ | with_reducible refine i_lcf ?_ | with_reducible refine i_gcons ?_ | with_reducible refine i_gnil ?_ | with_reducible refine i_chain ?_ | with_reducible refine i_t ?_ | with_reducible refine i_f ?_ | with_reducible refine i_nt ?_ | with_reducible refine i_nf ?_ | with_reducible refine i_bm ?_ | with_reducible refine i_bm0 ?_ | with_reducible refine i_and2 ?_ | with_reducible refine i_or2 ?_ | with_reducible refine i_intI ?_ | with_reducible refine i_intB ?_ | with_reducible refine i_sl ?_ | with_reducible refine i_part ?_ | with_reducible refine i_nopart ?_ | with_reducible refine i_cut ?_ | with_reducible refine i_lrg ?_ | with_reducible refine i_make ?_ | with_reducible refine i_meth ?_ | with_reducible refine i_fld ?_ | with_reducible refine i_sfld ?_ | with_reducible refine i_dnew ?_ | with_reducible refine i_par3 ?_ | with_reducible refine i_par3e ?_ | with_reducible refine i_par2 ?_ | with_reducible refine i_par2e ?_ | with_reducible refine i_dput ?_ | with_reducible refine i_dget2 ?_ | with_reducible refine i_din ?_ | with_reducible refine i_dget ?_ | with_reducible refine i_isO ?_ | with_reducible refine i_isR ?_ | with_reducible refine i_isN ?_ | with_reducible refine i_isI ?_ | with_reducible refine i_noO ?_ | with_reducible refine i_noR ?_ | with_reducible refine i_noN ?_ | with_reducible refine i_noI ?_ | with_reducible refine i_dgetN ?_ | with_reducible refine i_dputN ?_ | with_reducible refine i_dnewN ?_ | with_reducible refine i_ckw ?_ | with_reducible refine (show ∃ k, V.bl _ = V.bl k ∧ _ from ⟨_, rfl, ?_⟩) | with_reducible refine (show ∃ k, V.int _ = V.int k ∧ _ from ⟨_, rfl, ?_⟩) | ((with_reducible apply i_ixL); (· assumption); (· exact rfl)) | ((with_reducible apply i_ixT); (· assumption); (· exact rfl)) | ((with_reducible apply i_lenL); (· assumption)) | ((with_reducible apply i_lenT); (· assumption)) | ((with_reducible apply i_I); (· (first | omega | (dsimp only; omega) | exact ⟨by omega, by omega⟩ | exact Or.inr ⟨by omega, by omega⟩ | exact Or.inl ⟨by omega, by omega⟩ | exact ⟨by decide, by decide, by decide⟩))) | ((with_reducible apply i_gtup); (· assumption); (· rfl)) | ((with_reducible apply i_p); (· omega)) | ((with_reducible apply i_n); (· omega)) | ((with_reducible apply i_np); (· omega)) | ((with_reducible apply i_nn); (· omega)) | ((with_reducible apply i_lcP); (· omega)) | ((with_reducible apply i_lcN); (· omega)) | ((with_reducible apply i_lcnP); (· omega)) | ((with_reducible apply i_lcnN); (· omega)))))
section
variable {P : Program} {w : World} {K : PySem.W.Frag} {mg : Str → Option Value} {base : Heap} {f : Addr} {fd : FuncData} {C : Addr}
abbrev s_law_right : Stmt := topS 46
theorem sc_law_right : FnScope ["_law_words", "_law_load_here", "_law_memory_here", "_law_found", "_law_head", "_law_loop", "_law_plan_here", "_law_many_here", "_law_beats", "_law_told_here", "_law_paper", "_law_soonest_here"] ["_law_words", "_law_load_here", "_law_memory_here", "_law_found"] (defScope s_law_right) := ⟨rfl, rfl, rfl, by decide +kernel, rfl, by decide +kernel, by decide +kernel⟩
theorem ok_right (T : Txt K mg) (C__law_are_words : Cal P w K mg base "_law_are_words" 1 ["_law_found", "_law_many_here"] (spAreW K)) (C__law_soonest : Cal P w K mg base "_law_soonest" 2 ["_law_words", "_law_load_here", "_law_plan_here", "_law_beats"] (spSoonest K)) (C__law_like : Cal P w K mg base "_law_like" 6 ["_law_found", "_law_due"] (spLike 4 K)) (C__law_is_paper : Cal P w K mg base "_law_is_paper" 3 ["_law_words", "_law_load_here", "_law_beats", "_law_paper"] (spPaperL K)) (C_breaking : Cal P w K mg base "breaking" 3 ["memory", "load", "plan"] (spBreaking K C))
    (F : Fun K "_law_right" "_law_right" s_law_right f fd) : FnOk P w K mg base CX0 7 f fd ["_law_words", "_law_load_here", "_law_memory_here", "_law_found"] (spRight K C) := by
  refine F.ok sc_law_right (fun vs H Q E h => ?_) (fun cdv A outer s H0 vs Q E hr h => ?_)
  · obtain ⟨G, m, l, mm, r, ws, ld, xs, rfl, _⟩ := h
    rfl
  · obtain ⟨G0, m, l, mm, r, ws, ld, xs, rfl, sb, hw, hl, okl, M, hT, hC, hmany, k⟩ := h
    refine ⟨_, (pss_cons (ps_if (pt_not (pt_val (pe_callB (r := rIsi K) call_isi (by rfl) T.b_isinstance (by decide +kernel) (pa_cons (pv 3) (pa_cons (pe_bltn (v := .ty "tuple") (u := .type "tuple") (by rfl) T.b_tuple (by decide +kernel) rfl) pa_nil))))) (pss_one (ps_ret pe_bl)) pss_nil)
      (pss_cons (ps_if (PW.pt (pw_and (pt_cmpR op_eq (pe_ix (r := rIxT K) ix_tup (pv 3) pe_int (fun _ _ => rfl)) pe_str (nomark _)) (pw_and1 (pt_cmpR op_eq (pe_callB (r := rLen K) cl_len (by rfl) T.b_len (by decide +kernel) (pa_cons (pv 3) pa_nil)) pe_int (nomark _))))) (pss_cons (ps_asg (pe_slice (r := rSlT K) sl_tup (pv 3) (po_some pe_int) po_none) (pg_tup rfl (pgs_cons (pg_name (i := 4) sc_law_right.nd rfl (Or.inl rfl)) (pgs_cons (pg_name (i := 5) sc_law_right.nd rfl (Or.inl rfl)) pgs_nil))))
      (pss_cons (ps_if (PW.pt (pw_or (pt_not (pt_val (pc C__law_are_words (hr.mono (by decide)) (pa_cons (pv 4) (pa_cons (pe_callB (r := rLen K) cl_len (by rfl) T.b_len (by decide +kernel) (pa_cons (pv 0) pa_nil)) pa_nil))))) (pw_or1 (pt_cmpR (r := rEqD K) (op_eqD hr.units) (pv 5) (pe_lst pa_nil) (nomark _))))) (pss_one (ps_ret pe_bl)) pss_nil)
      (pss_cons (ps_if (pt_not (pt_val (pc C__law_are_words (hr.mono (by decide)) (pa_cons (pv 5) (pa_cons (pe_callB (r := rLen K) cl_len (by rfl) T.b_len (by decide +kernel) (pa_cons (pv 0) pa_nil)) pa_nil))))) (pss_one (ps_ret pe_bl)) pss_nil)
      (pss_cons (ps_set (i := 6) sc_law_right.nd rfl (Or.inl rfl) (pe_tup (pa_cons (pv 4) (pa_cons (pv 5) pa_nil))))
      (pss_cons (ps_set (i := 7) sc_law_right.nd rfl (Or.inl rfl) (pe_op op_add (pe_op op_mul (pe_callB (r := rLen K) cl_len (by rfl) T.b_len (by decide +kernel) (pa_cons (pv 1) pa_nil)) (pe_op op_add (pe_op op_add (pe_callB (r := rLen K) cl_len (by rfl) T.b_len (by decide +kernel) (pa_cons (pv 4) pa_nil)) (pe_op op_mul pe_int (pe_callB (r := rLen K) cl_len (by rfl) T.b_len (by decide +kernel) (pa_cons (pv 5) pa_nil)))) pe_int)) pe_int))
      (pss_cons (ps_if (pt_cmpR op_notNz (pc C__law_soonest (hr.mono (by decide)) (pa_cons (pv 0) (pa_cons (pv 1) (pa_cons (pv 6) (pa_cons (pv 7) pa_nil))))) pe_non (nomark _)) (pss_one (ps_ret pe_bl)) pss_nil)
      (pss_one (ps_ret (pe_cmpR op_isNz (pc C_breaking (hr.mono (by decide)) (pa_cons (pv 2) (pa_cons (pv 1) (pa_cons (pe_tup (pa_cons (pv 4) (pa_cons (pv 5) pa_nil))) pa_nil)))) pe_non (nomark _)))))))))) pss_nil)
      (pss_cons (ps_if (PW.pt (pw_or (pt_cmpR op_ne (pe_ix (r := rIxT K) ix_tup (pv 3) pe_int (fun _ _ => rfl)) pe_str (nomark _)) (pw_or1 (pt_cmpR op_ne (pe_callB (r := rLen K) cl_len (by rfl) T.b_len (by decide +kernel) (pa_cons (pv 3) pa_nil)) pe_int (nomark _))))) (pss_one (ps_ret pe_bl)) pss_nil)
      (pss_cons (ps_if (pt_not (pt_val (pc C__law_are_words (hr.mono (by decide)) (pa_cons (pe_ix (r := rIxT K) ix_tup (pv 3) pe_int (fun _ _ => rfl)) (pa_cons (pe_callB (r := rLen K) cl_len (by rfl) T.b_len (by decide +kernel) (pa_cons (pv 0) pa_nil)) pa_nil))))) (pss_one (ps_ret pe_bl)) pss_nil)
      (pss_cons (ps_asg (pe_slice (r := rSlT K) sl_tup (pv 3) (po_some pe_int) po_none) (pg_tup rfl (pgs_cons (pg_name (i := 8) sc_law_right.nd rfl (Or.inl rfl)) (pgs_cons (pg_name (i := 9) sc_law_right.nd rfl (Or.inl rfl)) (pgs_cons (pg_name (i := 10) sc_law_right.nd rfl (Or.inl rfl)) pgs_nil)))))
      (pss_cons (ps_set (i := 6) sc_law_right.nd rfl (Or.inl rfl) (pe_tup (pa_cons (pv 9) (pa_cons (pe_lst (pa_cons pe_non pa_nil)) pa_nil))))
      (pss_cons (ps_set (i := 11) sc_law_right.nd rfl (Or.inl rfl) (pc C__law_soonest (hr.mono (by decide)) (pa_cons (pv 0) (pa_cons (pv 1) (pa_cons (pv 6) (pa_cons (pe_op op_add (pv 8) pe_int) pa_nil))))))
      (pss_cons (ps_if (PW.pt (pw_or (pt_cmpR op_isNz (pv 11) pe_non (nomark _)) (pw_or1 (pt_not (pt_val (pc C__law_like (hr.mono (by decide)) (pa_cons (pv 8) (pa_cons (pe_ix (r := rIxT K) ix_tup (pv 11) pe_int (fun _ _ => rfl)) pa_nil)))))))) (pss_one (ps_ret pe_bl)) pss_nil)
      (pss_one (ps_ret (pc C__law_is_paper (hr.mono (by decide)) (pa_cons (pv 0) (pa_cons (pv 1) (pa_cons (pv 8) (pa_cons (pv 10) pa_nil))))))))))))))), ?_⟩
    try dsimp only [cxOf, L2.Cx.nox, L2.Cx.wish]
    refine i_start (σ' := [some (.ref m), some (.ref l), some (.ref mm), some (.ref r), none, none, none, none, none, none, none, none]) rfl ?_
    have g : Gr No G0 H0 G0 H0 := Gr.refl sb
    have okw := M.ok
    obtain ⟨wa, hwa, wpr⟩ := id hw
    have ew : (wa.map V.ref).length = ws.length := by rw [List.length_map, Paired.len wpr, List.length_map]
    have oke := okEn_of okw
    have L1 := okl.l1
    have L12 := okl.l12
    have e0 : (ld.map V.int).length = ld.length := List.length_map _
    have hT1 := sqt (K := K) g.sub hT
    have hm1 : SqL K H0 m (wa.map V.ref) := Z.ls hwa g.sub
    walk_at "zrd"
    refine isi_T (c := "tuple") (b := true) hT1 (by decide) rfl ?_
    rcases hC with ⟨a, b, hd, lp, rfl, ha, hb, er⟩ | ⟨a, b, wd, as, pp, n, ST, rfl, ha, lr, hb, pr, pa, so⟩
    · obtain ⟨okp, hno⟩ := er.all okw okl hmany
      have hd20 := okp.h40
      have lp20 := okp.l40
      have lp1 := okp.l1
      have ehd : (hd.map vO).length = hd.length := List.length_map _
      have elp : (lp.map vO).length = lp.length := List.length_map _
      walk_at "zrd"
      refine i_eqSt ?_
      walk_at "zrd"
      rw [show ((([V.str "endless", V.ref a, V.ref b] : List V).length : Nat) : Int) = 3 from rfl]
      walk_at "zrd"
      refine i_slT hT1 (sIx_1 (by show 1 ≤ 3; decide)) ?_
      rw [show cutV [V.str "endless", V.ref a, V.ref b] (some 1) none = [V.ref a, V.ref b] from rfl]
      refine newT (K := K) g (by first | omega | (simp; done) | (simp; omega)) fun q G2 H2 nq zq s g tq => ?_
      have ha := s.gg _ _ ha
      have hb := s.gg _ _ hb
      have hw := hw.mono s.gg
      have hl := s.gg _ _ hl
      have M := M.mono s.gg
      have hwa := s.gg _ _ hwa
      walk_at "zrd"
      have tq1 := sqt (K := K) g.sub tq
      have hm1 : SqL K H2 m (wa.map V.ref) := Z.ls hwa g.sub
      walk_at "zrd"
      rw [ew]
      refine i_areW (Z.ls (K := K) ha g.sub) (by omega) okp.hok fun H3 s => ?_
      have g := g.seqN (Gr.ofSame g.sub s)
      walk_at "zrd"
      refine newL g (by first | omega | (simp; done) | (simp; omega)) fun nn H4 nnn znn s g tnn => ?_
      walk_at "zrd"
      refine i_eqNil (ds := lp.map dO) (.lst (Z.ls (K := K) hb g.sub) (dpAll_vO _)) (dp_nil (.inl (.inl tnn.h))) (dk_vOs (k := 0) _) (by decide) ?_
      rw [show (lp.map dO).isEmpty = false by
        cases lp with
        | nil => exact absurd lp1 (by decide)
        | cons x xs => rfl]
      have hm1 : SqL K H4 m (wa.map V.ref) := Z.ls hwa g.sub
      walk_at "zrd"
      rw [ew]
      refine i_areW (Z.ls (K := K) hb g.sub) (by omega) okp.lok fun H5 s => ?_
      have g := g.seqN (Gr.ofSame g.sub s)
      walk_at "zrd"
      refine newT (K := K) g (by first | omega | (simp; done) | (simp; omega)) fun p G6 H6 np zp s g tp => ?_
      have ha := s.gg _ _ ha
      have hb := s.gg _ _ hb
      have hw := hw.mono s.gg
      have hl := s.gg _ _ hl
      have M := M.mono s.gg
      walk_at "zrd"
      have pl : Pl K G6 p hd lp := ⟨a, b, tp, ha, hb⟩
      have hl1 : SqL K H6 l (ld.map V.int) := Z.ls hl g.sub
      have ha1 : SqL K H6 a (hd.map vO) := Z.ls ha g.sub
      have hb1 : SqL K H6 b (lp.map vO) := Z.ls hb g.sub
      walk_at "zrd"
      have eN : (((ld.map V.int).length : Nat) : Int) * ((((hd.map vO).length : Nat) : Int) + 2 * (((lp.map vO).length : Nat) : Int) + 2) + 60 = ((ld.length * (hd.length + 2 * lp.length + 2) + 60 : Nat) : Int) := by
        rw [e0, ehd, elp, Int.natCast_add, Int.natCast_mul, Int.natCast_add, Int.natCast_add, Int.natCast_mul]
        rfl
      rw [eN]
      have hN : ld.length * (hd.length + 2 * lp.length + 2) ≤ 12 * 6002 := Nat.mul_le_mul (by omega) (by omega)
      revert hN
      generalize ld.length * (hd.length + 2 * lp.length + 2) = N
      intro hN
      clear hl1 ha1 hb1
      refine i_soonest g hw okw hl okl pl okp (by omega) (by omega) fun o2 v2 G7 H7 so s g hlv => ?_
      match o2, so, hlv with
      | some (t, w), so, _ => exact absurd so.2.1 (hno _ _)
      | none, so, hlv =>
        have e : v2 = .non := hlv
        subst e
        have ha := s.gg _ _ ha
        have hb := s.gg _ _ hb
        have hl := s.gg _ _ hl
        have M := M.mono s.gg
        walk_at "zrd"
        refine newT (K := K) g (by first | omega | (simp; done) | (simp; omega)) fun p2 G8 H8 np2 zp2 s g tp2 => ?_
        have ha := s.gg _ _ ha
        have hb := s.gg _ _ hb
        have hl := s.gg _ _ hl
        have M := M.mono s.gg
        walk_at "zrd"
        have pl2 : Pl K G8 p2 hd lp := ⟨a, b, tp2, ha, hb⟩
        refine i_breaking g M hl okl pl2 okp fun o3 bv G9 H9 s g brk hbv => ?_
        match o3, brk, hbv with
        | some (t, w), brk, _ => exact absurd brk.1 (hno _ _)
        | none, _, hbv =>
          have e : bv = .non := hbv
          subst e
          walk_at "zrd"
          exact k _ g.same
    · have hn := lr.few oke okl so hmany
      have okp := lr.okPl (by omega)
      have hd20 := okp.h40
      walk_at "zrd"
      refine i_eqSf s_ee2 ?_
      walk_at "zrd"
      refine i_neSt ?_
      walk_at "zrd"
      rw [show ((([V.str "ends", V.int (n : Nat), V.ref a, V.ref b] : List V).length : Nat) : Int) = 4 from rfl]
      walk_at "zrd"
      rw [ew]
      refine i_areW (Z.ls (K := K) ha g.sub) (by omega) okp.hok fun H3 s => ?_
      have g := g.seqN (Gr.ofSame g.sub s)
      have hT1 := sqt (K := K) g.sub hT
      walk_at "zrd"
      refine i_slT hT1 (sIx_1 (by show 1 ≤ 4; decide)) ?_
      rw [show cutV [V.str "ends", V.int (n : Nat), V.ref a, V.ref b] (some 1) none = [V.int (n : Nat), V.ref a, V.ref b] from rfl]
      refine newT (K := K) g (by first | omega | (simp; done) | (simp; omega)) fun q G2 H2 nq zq s g tq => ?_
      have ha := s.gg _ _ ha
      have hb := s.gg _ _ hb
      have hw := hw.mono s.gg
      have hl := s.gg _ _ hl
      have M := M.mono s.gg
      walk_at "zrd"
      have s2 := s.gg
      have tq1 := sqt (K := K) g.sub tq
      walk_at "zrd"
      refine newLC g (by first | omega | (simp; done) | (simp; omega)) fun nl G4 H4 nnl znl s g tnl => ?_
      have ha := s.gg _ _ ha
      have hb := s.gg _ _ hb
      have hw := hw.mono s.gg
      have hl := s.gg _ _ hl
      have M := M.mono s.gg
      walk_at "zrd"
      have s2 := s2.trans s.gg
      refine newT (K := K) g (by first | omega | (simp; done) | (simp; omega)) fun p G5 H5 np zp s g tp => ?_
      have ha := s.gg _ _ ha
      have hb := s.gg _ _ hb
      have hw := hw.mono s.gg
      have hl := s.gg _ _ hl
      have M := M.mono s.gg
      have tnl := s.gg _ _ tnl
      walk_at "zrd"
      have s2 := s2.trans s.gg
      have pr := Paired.imp (fun _ _ h => RowP.mono s2 h) pr
      have pl : Pl K G5 p wd [none] := ⟨a, nl, tp, ha, tnl⟩
      walk_at "zrd"
      refine i_soonest g hw okw hl okl pl okp (by omega) (by omega) fun o2 v2 G7 H7 sm s g hlv => ?_
      have hlo := lr.lose okw okl (by omega)
      match o2, sm, hlv with
      | none, sm, _ =>
        obtain ⟨v, hv⟩ := hlo.2
        exact absurd hv (sm v n (by omega))
      | some (t, w), sm, ⟨pp2, e, hpp⟩ =>
        subst e
        obtain ⟨v, ev⟩ := lr.brk okw okl (by omega) sm.2
        cases ev
        have hb := s.gg _ _ hb
        have hl := s.gg _ _ hl
        have hw := hw.mono s.gg
        have pr := Paired.imp (fun _ _ h => RowP.mono s.gg h) pr
        have hpp1 := sqt (K := K) g.sub hpp
        walk_at "zrd"
        refine i_like (d := .int (n : Nat)) (.int _) (.int _) lk_int ?_
        walk_at "zrd"
        refine i_paperL g.sub hw okw hl okl hb pr pa so lr.rk hmany fun H8 s => ?_
        exact k _ (g.same.trans s)
end
end Z
set_option Elab.async false
set_option linter.all false
set_option maxRecDepth 100000
set_option maxHeartbeats 4000000
namespace Z
open PySem PySem.Spec PyProof.Rows L2
local macro_rules | `(tactic| walk_at "zrd") => `(tactic| (repeat (first | ((with_reducible apply i_var); (· exact rfl)) | with_reducible refine i_c ?_ | with_reducible refine i_op ?_ | with_reducible refine i_I0 ?_ | with_reducible refine i_eqI ?_ | with_reducible refine i_neI ?_ | with_reducible refine i_test ?_ | with_reducible refine i_cons ?_ | with_reducible refine i_nil ?_ | with_reducible refine i_seq ?_ | with_reducible refine i_nx ?_ | with_reducible refine i_rt ?_ | with_reducible refine i_pass ?_ | with_reducible refine i_asg ?_ | with_reducible refine i_gname ?_ | with_reducible refine i_ret ?_ | with_reducible refine i_drop ?_ | with_reducible refine i_ifS ?_ | with_reducible refine i_if ?_ | with_reducible refine i_not ?_ | with_reducible refine i_and ?_ | with_reducible refine i_or ?_ | with_reducible refine i_lst ?_ | with_reducible refine i_tup ?_ | with_reducible refine i_cb ?_ | with_reducible refine i_call ?_ | with_reducible refine i_gsub ?_ | with_reducible refine i_B ?_ | with_reducible refine i_un ?_ | with_reducible refine i_U ?_ | with_reducible refine i_eqOI ?_ | with_reducible refine i_eqIO ?_ | with_reducible refine i_forL ?_ | with_reducible refine i_forT ?_ | with_reducible refine i_forR ?_ | with_reducible refine i_forR2 ?_ | with_reducible refine i_forR3 ?_ | with_reducible refine i_forE ?_ | with_reducible refine i_lcL ?_ | with_reducible refine i_lcT ?_ | with_reducible refine i_lcR ?_ | with_reducible refine i_yes ?_ | with_reducible refine i_lce ?_ | with_reducible refine i_lcf ?_ | with_reducible refine i_gcons ?_ | with_reducible refine i_gnil ?_ | with_reducible refine i_chain ?_ | with_reducible refine i_t ?_ | with_reducible refine i_f ?_ | with_reducible refine i_nt ?_ | with_reducible refine i_nf ?_ | with_reducible refine i_bm ?_ | with_reducible refine i_bm0 ?_ | with_reducible refine i_and2 ?_ | with_reducible refine i_or2 ?_ | with_reducible refine i_intI ?_ | with_reducible refine i_intB ?_ | with_reducible refine i_sl ?_ | with_reducible refine i_part ?_ | with_reducible refine i_nopart ?_ | with_reducible refine i_cut ?_ | with_reducible refine i_lrg ?_ | with_reducible refine i_make ?_ | with_reducible refine i_meth ?_ | with_reducible refine i_fld ?_ | with_reducible refine i_sfld ?_ | with_reducible refine i_dnew ?_ | with_reducible refine i_par3 ?_ | with_reducible refine i_par3e ?_ | with_reducible refine i_par2 ?_ | with_reducible refine i_par2e ?_ | with_reducible refine i_dput ?_ | with_reducible refine i_dget2 ?_ | with_reducible refine i_din ?_ | with_reducible refine i_dget ?_ | with_reducible refine i_isO ?_ | with_reducible refine i_isR ?_ | with_reducible refine i_isN ?_ | with_reducible refine i_isI ?_ | with_reducible refine i_noO ?_ | with_reducible refine i_noR ?_ | with_reducible refine i_noN ?_ | with_reducible refine i_noI ?_ | with_reducible refine i_dgetN ?_ | with_reducible refine i_dputN ?_ | with_reducible refine i_dnewN ?_ | with_reducible refine i_ckw ?_ | with_reducible refine (show ∃ k, V.bl _ = V.bl k ∧ _ from ⟨_, rfl, ?_⟩) | with_reducible refine (show ∃ k, V.int _ = V.int k ∧ _ from ⟨_, rfl, ?_⟩) | ((with_reducible apply i_ixL); (· assumption); (· exact rfl)) | ((with_reducible apply i_ixT); (· assumption); (· exact rfl)) | ((with_reducible apply i_lenL); (· assumption)) | ((with_reducible apply i_lenT); (· assumption)) | ((with_reducible apply i_I); (· (first | omega | (dsimp only; omega) | exact ⟨by omega, by omega⟩ | exact Or.inr ⟨by omega, by omega⟩ | exact Or.inl ⟨by omega, by omega⟩ | exact ⟨by decide, by decide, by decide⟩))) | ((with_reducible apply i_gtup); (· assumption); (· rfl)) | ((with_reducible apply i_p); (· omega)) | ((with_reducible apply i_n); (· omega)) | ((with_reducible apply i_np); (· omega)) | ((with_reducible apply i_nn); (· omega)) | ((with_reducible apply i_lcP); (· omega)) | ((with_reducible apply i_lcN); (· omega)) | ((with_reducible apply i_lcnP); (· omega)) | ((with_reducible apply i_lcnN); (· omega)))))
open HotX L2H LamX
section
variable {P : Program} {w : World} {K : PySem.W.Frag} {mg : Str → Option Value} {base : Heap} {f : Addr} {fd : FuncData} {c : Nat → Addr}
abbrev s_law_is : Stmt := topS 41
theorem sc_law_is : FnScope ["_law_e", "_law_word", "_law_kinds", "_law_words", "_law_one"] ["_law_e", "_law_word"] (defScope s_law_is) := ⟨rfl, rfl, rfl, by decide +kernel, rfl, by decide +kernel, by decide +kernel⟩
abbrev s_law_told : Stmt := topS 42
theorem sc_law_told : FnScope ["_law_work", "_law_e", "_law_word"] ["_law_work"] (defScope s_law_told) := ⟨rfl, rfl, rfl, by decide +kernel, rfl, by decide +kernel, by decide +kernel⟩
theorem ok_is (T : Txt K mg) (Y : XF K mg c) (F : Fun K "_law_is" "_law_is" s_law_is f fd) : HotFn P w K mg base 1 f fd ["_law_e", "_law_word"] (spIs c) := by
  refine hotFn_of F sc_law_is (fun p vs H Q E h => ?_) (fun cdv A outer s H0 vs Q E p hot hr h => ?_)
  · obtain ⟨cls, d, _, _, i, j, _, _, rfl, _⟩ := h
    rfl
  · obtain ⟨cls, d, hz, hf, i, j, hi, hj, rfl, rfl, hd, k⟩ := h
    have hp : p ∈ [p] := List.mem_singleton.mpr rfl
    have hot1 : Hot1 (A.deeper (envOfC "_law_is" (defScope s_law_is) s.heap.objs.size f cdv)) p := ⟨hot.1, hot.2⟩
    refine ⟨_, (pss_cons (ps_set (i := 2) sc_law_is.nd rfl (Or.inl rfl) (pe_lst (pa_cons (pe_callB (call_isP hp (Y.cls i hi) hz hf) (by rfl) T.b_isinstance (by decide +kernel) (pa_cons (pv 0) (pa_cons (pe_glob (v := .ref (c 0)) rfl Y.g0 rfl) pa_nil))) (pa_cons (pe_callB (call_isP hp (Y.cls i hi) hz hf) (by rfl) T.b_isinstance (by decide +kernel) (pa_cons (pv 0) (pa_cons (pe_glob (v := .ref (c 1)) rfl Y.g1 rfl) pa_nil))) (pa_cons (pe_callB (call_isP hp (Y.cls i hi) hz hf) (by rfl) T.b_isinstance (by decide +kernel) (pa_cons (pv 0) (pa_cons (pe_glob (v := .ref (c 2)) rfl Y.g2 rfl) pa_nil))) (pa_cons (pe_callB (call_isP hp (Y.cls i hi) hz hf) (by rfl) T.b_isinstance (by decide +kernel) (pa_cons (pv 0) (pa_cons (pe_glob (v := .ref (c 3)) rfl Y.g3 rfl) pa_nil))) pa_nil))))))
      (pss_cons (ps_set (i := 2) sc_law_is.nd rfl (Or.inl rfl) (pe_op op_cat (pv 2) (pe_lst (pa_cons (pe_callB (call_isP hp (Y.cls i hi) hz hf) (by rfl) T.b_isinstance (by decide +kernel) (pa_cons (pv 0) (pa_cons (pe_glob (v := .ref (c 4)) rfl Y.g4 rfl) pa_nil))) (pa_cons (pe_callB (call_isP hp (Y.cls i hi) hz hf) (by rfl) T.b_isinstance (by decide +kernel) (pa_cons (pv 0) (pa_cons (pe_glob (v := .ref (c 5)) rfl Y.g5 rfl) pa_nil))) pa_nil)))))
      (pss_cons (ps_set (i := 3) sc_law_is.nd rfl (Or.inl rfl) (pe_lst (pa_cons pe_str (pa_cons pe_str (pa_cons pe_str (pa_cons pe_str (pa_cons pe_str (pa_cons pe_str pa_nil))))))))
      (pss_one (ps_ret (pe_and (pe_callB (call_isP hp (Y.cls i hi) hz hf) (by rfl) T.b_isinstance (by decide +kernel) (pa_cons (pv 0) (pa_cons (pe_bltn (v := .ty "ValueError") (u := .type "ValueError") (by rfl) Y.nV (by decide +kernel) rfl) pa_nil))) (pe_one (pe_cmpR (r := rEqD K) (op_eqD hr.units) (pv 2) (pe_lcH (own := [("_law_one", 4)]) (g := gName 4) hp hot1 sc_law_is.nd (pi_listH (pv 3)) (blkOk_by (own := [("_law_one", 4)]) (N := ["_law_e", "_law_word", "_law_kinds", "_law_words", "_law_one"]) (sc := defScope s_law_is) (by decide +kernel)) (fun _ _ _ _ _ => (pg_name (i := 4) sc_law_is.nd rfl (Or.inl rfl))) (fun _ _ _ _ _ => pts_nil) (fun _ _ _ _ _ => (pe_cmpR op_eq (pv 1) (pv 4) (nomark _)))) (nomark _))))))))), ?_⟩
    try dsimp only [cxOf, L2.Cx.nox, L2.Cx.wish]
    refine i_start (σ' := [some (.ref p.1), some (.str (exWord j)), none, none, none]) rfl ?_
    have g : Gr No (fun _ => none) H0 (fun _ => none) H0 := Gr.refl (fun _ _ z => by cases z)
    walk_at "zrd"
    refine i_isP (j := 0) Y hi (by decide) hd ?_
    walk_at "zrd"
    refine i_isP (j := 1) Y hi (by decide) hd ?_
    walk_at "zrd"
    refine i_isP (j := 2) Y hi (by decide) hd ?_
    walk_at "zrd"
    refine i_isP (j := 3) Y hi (by decide) hd ?_
    walk_at "zrd"
    refine newL g (by first | omega | (simp; done) | (simp; omega)) fun q1 H1 nq1 zq1 s g tq1 => ?_
    walk_at "zrd"
    have hd := hd.mono s.same
    refine i_isP (j := 4) Y hi (by decide) hd ?_
    walk_at "zrd"
    refine i_isP (j := 5) Y hi (by decide) hd ?_
    walk_at "zrd"
    refine newL g (by first | omega | (simp; done) | (simp; omega)) fun q2 H2 nq2 zq2 s g tq2 => ?_
    have nq1q2 := ne_of_none tq1.h nq2
    have tq1 := tq1.monoN s
    walk_at "zrd"
    refine i_cat tq1.h tq2.h ?_
    have hd := hd.mono s.same
    refine newL g (by first | omega | (simp; done) | (simp; omega)) fun q3 H3 nq3 zq3 s g tq3 => ?_
    have nq1q3 := ne_of_none tq1.h nq3
    have tq1 := tq1.monoN s
    walk_at "zrd"
    have hd := hd.mono s.same
    refine newL g (by first | omega | (simp; done) | (simp; omega)) fun q4 H4 nq4 zq4 s g tq4 => ?_
    have nq3q4 := ne_of_none tq3.h nq4
    have tq3 := tq3.monoN s
    walk_at "zrd"
    have hd := hd.mono s.same
    refine i_isPV Y hi hd ?_
    walk_at "zrd"
    have gA := g
    have tqA := tq3
    have hw : SqL K H4 q4 (exWords.map V.str) := .inl (.inl tq4.h)
    refine lcL hw (fun C i H' => Gr No (fun _ => none) H4 (fun _ => none) H' ∧ At (fun _ => none) H' C (.lst ((exWords.take i).map fun w => V.bl (decide (exWord j = w))))) ?_ ?_ ?_ ?_
    · intro C nC
      exact ⟨Gr.new (Gr.refl g.sub) nC, At.of g nC⟩
    · rintro C i' H' nC ⟨g2, tC⟩
      exact .inl (.inl (g2.same _ _ tq4.h))
    · rintro C i' x H' nC hx ⟨g2, tC⟩
      obtain ⟨wd, hwd, rfl⟩ := map_at hx
      walk_at "zrd"
      refine i_lcw rfl ?_
      walk_at "zrd"
      refine i_eqS ?_
      walk_at "zrd"
      have hl : i' < exWords.length := (List.getElem?_eq_some_iff.mp hwd).1
      have h6 : exWords.length = 6 := rfl
      refine lcp tC (by rw [List.length_map, List.length_take]; omega) ?_
      refine ⟨g2.mut tC (.inr nC), ?_⟩
      have e : (exWords.take (i' + 1)).map (fun w => V.bl (decide (exWord j = w))) = (exWords.take i').map (fun w => V.bl (decide (exWord j = w))) ++ [V.bl (decide (exWord j = wd))] := by
        rw [List.take_add_one, hwd, List.map_append]
        rfl
      rw [e]
      exact tC.put
    · rintro C H' nC ⟨g2, tC⟩
      have h3 := g2.same _ _ tq3.h
      have hC := tC.h
      rw [List.length_map, List.take_length] at hC
      refine i_eqD (k := 1) (b := decide (i = j)) (.lst (.inl (.inl h3)) (dp_bools ([decide (i = 0), decide (i = 1), decide (i = 2), decide (i = 3)] ++ [decide (i = 4), decide (i = 5)]))) (.lst (.inl (.inl (by rw [hC]; exact congrArg (fun z => some (HO.lst z)) (by rw [List.map_map]; rfl)))) (dp_bools (exWords.map fun w => decide (exWord j = w)))) (dk_bools _) (dk_bools _) (by decide) (kinds_eq i hi j hj) ?_
      walk_at "zrd"
      exact k _ (gA.same.trans g2.same)
theorem told_gives {X : Cx} {g : Addr} {cdg : Value} {q : Str} {k : Nat} (T : Txt X.K X.mg) (I : IsC X.prog X.w X.K X.mg X.base c) : GivesN X ["_law_work", "_law_e", "_law_word"] "_law_told" (defScope s_law_told) g cdg (defBody s_law_told) "_law_work" q (k + 1) (TToldX c) := by
  intro f c' s H Q tl hr act hc h
  obtain ⟨Y, fi, fdi, mi, ki, bi, Hi⟩ := I
  refine ⟨_, pss_cons (ps_try_cell (X := (cxOf CX0 X.prog X.w X.K X.mg X.base ["_law_work", "_law_e", "_law_word"] "_law_told" (defScope s_law_told) g cdg X.A X.stack s H E0).nox) (c := .ref (c 6)) (i := 1)
    (tb := fun W D σ H => ∃ Ech : XK, (∀ cls d H', Ech cls d H' → W cls d σ H') ∧ σ[0]? = some (some (.ref f)) ∧ H c' = some (CodeO c' q) ∧ tl Ech H fun _ H1 => D.nx σ H1) rfl rfl sc_law_told.nd rfl rfl rfl ⟨rfl, by decide, .inl Y.g6⟩ (fun W pn xe tk _ => ?_)
    (fun a oe cls d pn hz hf => (pss_cons (ps_if (PW.pt (pw_or (pt_val (pe_callP (p := (a, oe)) (spA := spIsA c a cls d) Hi (fun vs H Q E h => ⟨cls, d, hz.zc, hf, h⟩) ((roomHm hr _).mono (by omega)) (by first | exact List.mem_cons_self | exact List.mem_singleton.mpr rfl) (hot_of hz hf) mi ki bi (pa_cons (pv 1) (pa_cons pe_str pa_nil)))) (pw_or1 (pt_val (pe_callP (p := (a, oe)) (spA := spIsA c a cls d) Hi (fun vs H Q E h => ⟨cls, d, hz.zc, hf, h⟩) ((roomHm hr _).mono (by omega)) (by first | exact List.mem_cons_self | exact List.mem_singleton.mpr rfl) (hot_of hz hf) mi ki bi (pa_cons (pv 1) (pa_cons pe_str pa_nil))))))) (pss_one (ps_ret (pe_lst (pa_cons (pe_ix (r := rIxL X.K) ix_list (pe_lst (pa_cons pe_str (pa_cons pe_str pa_nil))) (pe_callTy cl_int (by rfl) T.b_int (by decide +kernel) (pa_cons (pe_callP (p := (a, oe)) (spA := spIsA c a cls d) Hi (fun vs H Q E h => ⟨cls, d, hz.zc, hf, h⟩) ((roomHm hr _).mono (by omega)) (by first | exact List.mem_cons_self | exact List.mem_singleton.mpr rfl) (hot_of hz hf) mi ki bi (pa_cons (pv 1) (pa_cons pe_str pa_nil))) pa_nil)) (fun _ _ => rfl)) (pa_cons (pe_xfA hz.zc hf (pv 1)) pa_nil))))) pss_nil)
      (pss_cons (ps_if (pt_val (pe_callP (p := (a, oe)) (spA := spIsA c a cls d) Hi (fun vs H Q E h => ⟨cls, d, hz.zc, hf, h⟩) ((roomHm hr _).mono (by omega)) (by first | exact List.mem_cons_self | exact List.mem_singleton.mpr rfl) (hot_of hz hf) mi ki bi (pa_cons (pv 1) (pa_cons pe_str pa_nil)))) (pss_one (ps_ret (pe_lst (pa_cons pe_str (pa_cons (pe_xfA hz.zc hf (pv 1)) pa_nil))))) pss_nil)
      (pss_one (ps_ret (pe_lcH (own := [("_law_word", 2)]) (g := gName 2) (wi := iList X.K (tLst (tCons (tC (.str "load")) (tCons (tC (.str "plan")) (tCons (tC (.str "many")) tNil))))) List.mem_cons_self (hot_of hz hf) sc_law_told.nd (pi_listH (pe_lst (pa_cons pe_str (pa_cons pe_str (pa_cons pe_str pa_nil))))) (blkOk_by (own := [("_law_word", 2)]) (N := ["_law_work", "_law_e", "_law_word"]) (sc := defScope s_law_told) (by decide +kernel)) (fun _ _ _ _ _ => (pg_name (i := 2) sc_law_told.nd rfl (Or.inl rfl))) (fun _ _ _ _ _ => (pts_one (pt_val (pe_callP (p := (a, oe)) (spA := spIsA c a cls d) Hi (fun vs H Q E h => ⟨cls, d, hz.zc, hf, h⟩) ((roomHm hr _).mono (by omega)) (by first | exact List.mem_cons_self | exact List.mem_singleton.mpr rfl) (hot_of hz hf) mi ki bi (pa_cons (pv 1) (pa_cons (pv 2) pa_nil)))))) (fun _ _ _ _ _ => (pv 2))))))))) (pss_one (ps_ret pe_non)), ?_⟩
  · refine ⟨fun pins s' σ H' D I h' => ?_⟩
    obtain ⟨Ech, h0, h1, h2, h3⟩ := h'
    exact (pss_one (ps_expr (act W pn xe Ech _ _ tk))).run pins s' σ H' D I ⟨h0, h1, h2, h3⟩
  · refine ⟨fun cls d H' => ToldQ c cls d H' Q, fun cls d H' hq => ?_, rfl, hc, h⟩
    obtain ⟨i, hi, rfl, hd, k1, k2⟩ := hq
    refine ⟨true, Y.exm i hi, fun _ a na => ?_, fun z => by cases z⟩
    refine i_start (σ' := [some (.ref f), some (.ref a), none]) rfl ?_
    have g : Gr No (fun _ => none) H' (fun _ => none) H' := Gr.refl (fun _ _ z => by cases z)
    have stp : ∀ {Hx Hy : Hp}, Gr No (fun _ => none) H' (fun _ => none) Hx → Same Hx Hy → Gr No (fun _ => none) H' (fun _ => none) Hy := fun g s => g.seqN (Gr.ofSame g.sub s)
    walk_at "zrd"
    refine i_isA 0 hi (by decide) hd fun H1 s1 => ?_
    have g := stp g s1
    have hd := hd.mono s1
    walk_at "zrd"
    have h5 : i = 0 ∨ i = 3 ∨ i = 5 ∨ i = 1 ∨ i = 2 ∨ i = 4 := by omega
    rcases h5 with rfl | rfl | rfl | h5
    · walk_at "zrd"
      obtain ⟨dd, fs, n, rfl, hdd, hfl, k⟩ := k1 (.inl rfl)
      refine newL g (by first | omega | (simp; done) | (simp; omega)) fun q1 H2 nq1 zq1 s g tq1 => ?_
      walk_at "zrd"
      have hd := hd.mono s.same
      refine i_isA 0 hi (by decide) hd fun H3 s3 => ?_
      have tq1 := s3 _ _ tq1.h
      have g := stp g s3
      walk_at "zrd"
      refine i_ixL (.inl (.inl tq1)) (v := .str "memory") rfl ?_
      walk_at "zrd"
      refine i_xfA (Y.xf 0 hi) (Y.nat 0 hi) ?_
      walk_at "zrd"
      refine ⟨rfl, fs, .int n, g.same _ _ hdd, hfl, ?_⟩
      walk_at "zrd"
      refine newL g (by first | omega | (simp; done) | (simp; omega)) fun q2 H4 nq2 zq2 s g tq2 => ?_
      walk_at "zrd"
      exact k q2 _ g.same zq2 tq2.h
    · walk_at "zrd"
      refine i_isA 3 hi (by decide) hd fun H1b s1b => ?_
      have g := stp g s1b
      have hd := hd.mono s1b
      walk_at "zrd"
      obtain ⟨dd, fs, n, rfl, hdd, hfl, k⟩ := k1 (.inr (.inl rfl))
      refine newL g (by first | omega | (simp; done) | (simp; omega)) fun q1 H2 nq1 zq1 s g tq1 => ?_
      walk_at "zrd"
      have hd := hd.mono s.same
      refine i_isA 0 hi (by decide) hd fun H3 s3 => ?_
      have tq1 := s3 _ _ tq1.h
      have g := stp g s3
      walk_at "zrd"
      refine i_ixL (.inl (.inl tq1)) (v := .str "strokes") rfl ?_
      walk_at "zrd"
      refine i_xfA (Y.xf 3 hi) (Y.nat 3 hi) ?_
      walk_at "zrd"
      refine ⟨rfl, fs, .int n, g.same _ _ hdd, hfl, ?_⟩
      walk_at "zrd"
      refine newL g (by first | omega | (simp; done) | (simp; omega)) fun q2 H4 nq2 zq2 s g tq2 => ?_
      walk_at "zrd"
      exact k q2 _ g.same zq2 tq2.h
    · walk_at "zrd"
      refine i_isA 3 hi (by decide) hd fun H1b s1b => ?_
      have g := stp g s1b
      have hd := hd.mono s1b
      walk_at "zrd"
      refine i_isA 5 hi (by decide) hd fun H1c s1c => ?_
      have g := stp g s1c
      have hd := hd.mono s1c
      walk_at "zrd"
      obtain ⟨dd, fs, n, rfl, hdd, hfl, k⟩ := k1 (.inr (.inr rfl))
      refine i_xfA (Y.xf 5 hi) (Y.nat 5 hi) ?_
      walk_at "zrd"
      refine ⟨rfl, fs, .int n, g.same _ _ hdd, hfl, ?_⟩
      walk_at "zrd"
      refine newL g (by first | omega | (simp; done) | (simp; omega)) fun q2 H4 nq2 zq2 s g tq2 => ?_
      walk_at "zrd"
      exact k q2 _ g.same zq2 tq2.h
    · refine i_n (by omega) ?_
      walk_at "zrd"
      refine i_isA 3 hi (by decide) hd fun H1b s1b => ?_
      have g := stp g s1b
      have hd := hd.mono s1b
      walk_at "zrd"
      refine i_isA 5 hi (by decide) hd fun H1c s1c => ?_
      have g := stp g s1c
      have hd := hd.mono s1c
      walk_at "zrd"
      have k := k2 h5
      refine newL g (by first | omega | (simp; done) | (simp; omega)) fun q1 H2 nq1 zq1 s g tq1 => ?_
      walk_at "zrd"
      have hd := hd.mono s.same
      have gA := g
      have hw : SqL X.K H2 q1 ([(1, exWord 1), (2, exWord 2), (4, exWord 4)].map fun p => V.str p.2) := .inl (.inl tq1.h)
      refine lcL hw (fun C j H5 => Gr No (fun _ => none) H2 (fun _ => none) H5 ∧ At (fun _ => none) H5 C (.lst ((([(1, exWord 1), (2, exWord 2), (4, exWord 4)].take j).filter fun p => decide (i = p.1)).map fun p => V.str p.2))) ?_ ?_ ?_ ?_
      · intro C nC
        exact ⟨Gr.new (Gr.refl g.sub) nC, At.of g nC⟩
      · rintro C j H5 nC ⟨g2, tC⟩
        exact .inl (.inl (g2.same _ _ tq1.h))
      · rintro C j x H5 nC hx ⟨g2, tC⟩
        obtain ⟨pw, hpw, rfl⟩ := map_at hx
        have hlt : j < 3 := (List.getElem?_eq_some_iff.mp hpw).1
        have hj6 : pw.1 < 6 ∧ pw.2 = exWord pw.1 := by
          have : j = 0 ∨ j = 1 ∨ j = 2 := by omega
          rcases this with rfl | rfl | rfl <;> cases hpw <;> exact ⟨by decide, rfl⟩
        rw [hj6.2]
        walk_at "zrd"
        refine i_lcw rfl ?_
        walk_at "zrd"
        refine i_isA pw.1 hi hj6.1 (hd.mono g2.same) fun H6 s6 => ?_
        have g3 : Gr No (fun _ => none) H2 (fun _ => none) H6 := g2.seqN (Gr.ofSame g2.sub s6)
        have tC3 : At (fun _ => none) H6 C _ := ⟨s6 _ _ tC.h, rfl⟩
        have e1 : [(1, exWord 1), (2, exWord 2), (4, exWord 4)].take (j + 1) = [(1, exWord 1), (2, exWord 2), (4, exWord 4)].take j ++ [pw] := by rw [List.take_add_one, hpw]; rfl
        rw [e1, List.filter_append, List.map_append]
        walk_at "zrd"
        refine i_lcd (fun hyes => ?_) (fun hno => ?_)
        · walk_at "zrd"
          refine lcp tC3 ?_ ?_
          · rw [List.length_map]
            exact Nat.le_trans (List.length_filter_le _ _) (Nat.le_trans (List.length_take_le _ _) (by omega))
          · have e3 : [pw].filter (fun p => decide (i = p.1)) = [pw] := by simp [hyes]
            rw [e3, ← hj6.2]
            exact ⟨g3.mut tC3 (.inr nC), tC3.put⟩
        · have e3 : [pw].filter (fun p => decide (i = p.1)) = [] := by simp [hno]
          rw [e3, List.map_nil, List.append_nil]
          exact ⟨g3, tC3⟩
      · rintro C H5 nC ⟨g2, tC⟩
        walk_at "zrd"
        have hC := tC.h
        have e2 : (([(1, exWord 1), (2, exWord 2), (4, exWord 4)].take ([(1, exWord 1), (2, exWord 2), (4, exWord 4)].map fun p => V.str p.2).length).filter fun p => decide (i = p.1)).map (fun p => V.str p.2) = [.str (exWord i)] := by
          rcases h5 with rfl | rfl | rfl <;> rfl
        rw [e2] at hC
        exact k C _ (gA.same.trans g2.same) (gA.fresh nC) hC
/-- all that a call of _law_told leans on; cc: the law's code object, Pt: its table -/
structure TolC (P : Program) (w : World) (K : PySem.W.Frag) (mg : Str → Option Value) (base : Heap) (c : Nat → Addr) (cc Pt : Addr) : Prop where
  T : Txt K mg
  I : IsC P w K mg base c
  ex : ∃ (g : Addr) (fd : FuncData), Fun K "_law_told" "_law_told" s_law_told g fd ∧ mg "_law_told" = some (.ref g) ∧ Binds K fd ["_law_work"] []
  TB : TabB base mg cc Pt
theorem pe_told {X : Cx} {cc Pt : Addr} {k : Nat} {sc : Scope} {qn : Str} {params : Arguments} {body : Expr} {scope : Scope} {t : XK → TE} {p lpos pos : Pos} (C : TolC X.prog X.w X.K X.mg X.base c cc Pt) (hr : Room (k + 2) X.A)
    (hbody : ∀ (A : Around) (outer : List Env) (s : Shared) (H : Hp) (E : XK) (f c' : Addr), Room k (A.deeper (lamEnv X scope s.heap.objs.size f c')) → PE (lamN X A outer s H E scope f c') body (t E))
    (hcode : X.env.code = .ref cc := by rfl) (hsc : X.env.scope = sc := by rfl) (hqn : X.env.qual = qn := by rfl) (hq : qn ++ "<lambda>" = "law.<locals>.<lambda>" := by decide +kernel) (L : LamS sc scope := by exact lamS_by (by decide +kernel)) (hdef : defaultsOf params X.env = ([], []) := by rfl)
    (hbind : ∀ (q : Str) (cl : List (Str × Addr)) (pm cv ctv : Value), bindArgs (PySem.W.kla_fn "<lambda>" q params body scope cl pm cv ctv) ⟨[], []⟩ = pure [] := by intro _ _ _ _ _; rfl) (hg : Gl X "_law_told" := by rfl) :
    PE X (.Call (.Name "_law_told" p) [.Lambda params body scope lpos] [] pos) (tLamN Pt "law.<locals>.<lambda>" (TToldX c) t) := by
  obtain ⟨g, fd, Fg, hm, hb⟩ := C.ex
  exact pe_lamN Fg hm hb sc_law_told rfl (.inl rfl) (fun cdv => told_gives C.T C.I) C.TB hcode (by rw [hqn]; exact hq) hr (by rw [hsc]; exact L) hdef hbind hbody hg
end
end Z
set_option Elab.async false
set_option linter.all false
set_option maxRecDepth 100000
set_option maxHeartbeats 4000000
namespace Z
open PySem PySem.Spec PyProof.Rows L2
local macro_rules | `(tactic| walk_at "zrd") => `(tactic| (repeat (first | ((with_reducible apply i_var); (· exact rfl)) | with_reducible refine i_c ?_ | with_reducible refine i_op ?_ | with_reducible refine i_I0 ?_ | with_reducible refine i_eqI ?_ | with_reducible refine i_neI ?_ | with_reducible refine i_test ?_ | with_reducible refine i_cons ?_ | with_reducible refine i_nil ?_ | with_reducible refine i_seq ?_ | with_reducible refine i_nx ?_ | with_reducible refine i_rt ?_ | with_reducible refine i_pass ?_ | with_reducible refine i_asg ?_ | with_reducible refine i_gname ?_ | with_reducible refine i_ret ?_ | with_reducible refine i_drop ?_ | with_reducible refine i_ifS ?_ | with_reducible refine i_if ?_ | with_reducible refine i_not ?_ | with_reducible refine i_and ?_ | with_reducible refine i_or ?_ | with_reducible refine i_lst ?_ | with_reducible refine i_tup ?_ | with_reducible refine i_cb ?_ | with_reducible refine i_call ?_ | with_reducible refine i_gsub ?_ | with_reducible refine i_B ?_ | with_reducible refine i_un ?_ | with_reducible refine i_U ?_ | with_reducible refine i_eqOI ?_ | with_reducible refine i_eqIO ?_ | with_reducible refine i_forL ?_ | with_reducible refine i_forT ?_ | with_reducible refine i_forR ?_ | with_reducible refine i_forR2 ?_ | with_reducible refine i_forR3 ?_ | with_reducible refine i_forE ?_ | with_reducible refine i_lcL ?_ | with_reducible refine i_lcT ?_ | with_reducible refine i_lcR ?_ | with_reducible refine i_yes ?_ | with_reducible refine i_lce ?_ | with_reducible refine i_lcf ?_ | with_reducible refine i_gcons ?_ | with_reducible refine i_gnil ?_ | with_reducible refine i_chain ?_ | with_reducible refine i_t ?_ | with_reducible refine i_f ?_ | with_reducible refine i_nt ?_ | with_reducible refine i_nf ?_ | with_reducible refine i_bm ?_ | with_reducible refine i_bm0 ?_ | with_reducible refine i_and2 ?_ | with_reducible refine i_or2 ?_ | with_reducible refine i_intI ?_ | with_reducible refine i_intB ?_ | with_reducible refine i_sl ?_ | with_reducible refine i_part ?_ | with_reducible refine i_nopart ?_ | with_reducible refine i_cut ?_ | with_reducible refine i_lrg ?_ | with_reducible refine i_make ?_ | with_reducible refine i_meth ?_ | with_reducible refine i_fld ?_ | with_reducible refine i_sfld ?_ | with_reducible refine i_dnew ?_ | with_reducible refine i_par3 ?_ | with_reducible refine i_par3e ?_ | with_reducible refine i_par2 ?_ | with_reducible refine i_par2e ?_ | with_reducible refine i_dput ?_ | with_reducible refine i_dget2 ?_ | with_reducible refine i_din ?_ | with_reducible refine i_dget ?_ | with_reducible refine i_isO ?_ | with_reducible refine i_isR ?_ | with_reducible refine i_isN ?_ | with_reducible refine i_isI ?_ | with_reducible refine i_noO ?_ | with_reducible refine i_noR ?_ | with_reducible refine i_noN ?_ | with_reducible refine i_noI ?_ | with_reducible refine i_dgetN ?_ | with_reducible refine i_dputN ?_ | with_reducible refine i_dnewN ?_ | with_reducible refine i_ckw ?_ | with_reducible refine (show ∃ k, V.bl _ = V.bl k ∧ _ from ⟨_, rfl, ?_⟩) | with_reducible refine (show ∃ k, V.int _ = V.int k ∧ _ from ⟨_, rfl, ?_⟩) | ((with_reducible apply i_ixL); (· assumption); (· exact rfl)) | ((with_reducible apply i_ixT); (· assumption); (· exact rfl)) | ((with_reducible apply i_lenL); (· assumption)) | ((with_reducible apply i_lenT); (· assumption)) | ((with_reducible apply i_I); (· (first | omega | (dsimp only; omega) | exact ⟨by omega, by omega⟩ | exact Or.inr ⟨by omega, by omega⟩ | exact Or.inl ⟨by omega, by omega⟩ | exact ⟨by decide, by decide, by decide⟩))) | ((with_reducible apply i_gtup); (· assumption); (· rfl)) | ((with_reducible apply i_p); (· omega)) | ((with_reducible apply i_n); (· omega)) | ((with_reducible apply i_np); (· omega)) | ((with_reducible apply i_nn); (· omega)) | ((with_reducible apply i_lcP); (· omega)) | ((with_reducible apply i_lcN); (· omega)) | ((with_reducible apply i_lcnP); (· omega)) | ((with_reducible apply i_lcnN); (· omega)))))
open HotX L2H LamX
section
variable {P : Program} {w : World} {K : PySem.W.Frag} {mg : Str → Option Value} {base : Heap} {f : Addr} {fd : FuncData} {C CM cY : Addr}
def spSInitMany (K : PySem.W.Frag) (CM C cY : Addr) : Sp := fun vs H Q E => ∃ (G : Hp) (p dx m l : Addr) (ws : List W3) (ld : List Int), vs = [.ref p, .ref m, .ref l] ∧ Same G H ∧ At G H p (.ins C dx []) ∧ MemAt K CM G m ws ∧ G l = some (.lst (ld.map V.int)) ∧ OkLd ld ∧ 2000 < manyS (ws.map lim) ld ∧
  ∀ G' H', Gr (· = p) G H G' H' → E (.ref cY) none H'
def spHeldMany (K : PySem.W.Frag) (CM cY : Addr) : Sp := fun vs H Q E => ∃ (G : Hp) (m l : Addr) (ws : List W3) (ld : List Int), vs = [.ref m, .ref l] ∧ Same G H ∧ MemAt K CM G m ws ∧ G l = some (.lst (ld.map V.int)) ∧ OkLd ld ∧ 2000 < manyS (ws.map lim) ld ∧
  ∀ H', Same H H' → E (.ref cY) none H'
theorem i_searchMany {X : Addr → Prop} {G0 H0 G H : Hp} {Q : VK} {E : XK} {m l : Addr} {ws : List W3} {ld : List Int} (g : Gr X G0 H0 G H) (M : MemAt K CM G m ws) (hl : G l = some (.lst (ld.map V.int))) (okl : OkLd ld) (hm : 2000 < manyS (ws.map lim) ld)
    (k : ∀ H', Same H H' → E (.ref cY) none H') : MakeQ C (spSInitMany K CM C cY) E [.ref m, .ref l] H Q := by
  intro x dx nx ndx nex
  have s1 : Gr No G H G (upd H dx (.own x)) := Gr.new (Gr.refl g.sub) ndx
  have nx1 : (upd H dx (.own x)) x = none := by rw [upd_ne nex.symm]; exact nx
  have s2 : Gr No G H G (upd (upd H dx (.own x)) x (.ins C dx [])) := s1.new nx1
  exact ⟨G, x, dx, m, l, ws, ld, rfl, s2.sub, At.of s1 nx1, M, hl, okl, hm, fun G' H' s3 => k H' (s2.seq s3 fun c e => .inr (by rw [e]; exact nx)).same⟩
theorem i_heldMany {X : Addr → Prop} {G0 H0 G H : Hp} {Q : VK} {E : XK} {m l : Addr} {ws : List W3} {ld : List Int} (g : Gr X G0 H0 G H) (M : MemAt K CM G m ws) (hl : G l = some (.lst (ld.map V.int))) (okl : OkLd ld) (hm : 2000 < manyS (ws.map lim) ld)
    (k : ∀ H', Same H H' → E (.ref cY) none H') : spHeldMany K CM cY ([.ref m, .ref l] ++ []) H Q E := ⟨G, m, l, ws, ld, rfl, g.sub, M, hl, okl, hm, k⟩
/-- what is told of it -/
theorem toldMany {c : Nat → Addr} {H' : Hp} {Q : VK} (k : ∀ l H'', Same H' H'' → H' l = none → H'' l = some (.lst [.str "many"]) → Q (.ref l) H'') : ToldQ c (.ref (c 4)) none H' Q :=
  ⟨4, by decide, rfl, (fun d2 e2 => by cases e2), (fun h => by rcases h with h | h | h <;> cases h), fun _ => k⟩
theorem ok_sinitMany (T : Txt K mg) (cl : Cls K C) (nE : NoAttr K C "ends") (nL : NoAttr K C "load") (CY : CalX0 K mg "TooMany" cY) (C_limits : Cal P w K mg base "limits" 2 ["memory"] (spLimits K CM))
    (F : Fun K "__init__" "Search.__init__" sSearch___init__ f fd) : FnOk P w K mg base (L2N.CX P w) 3 f fd ["self", "memory", "load"] (spSInitMany K CM C cY) := by
  refine okN F scSearch___init__ (fun vs H Q E h => ?_) (fun cdv A outer s H0 vs Q E hr h => ?_)
  · obtain ⟨G, p, dx, m, l, ws, ld, rfl, _⟩ := h
    rfl
  · obtain ⟨G0, p, dx, m, l, ws, ld, rfl, sb, tp, M, hl, okl, hmany, k⟩ := h
    refine ⟨_, (pss_cons (ps_fld (pv 0) (pc C_limits (hr.mono (by decide)) (pa_cons (pv 1) pa_nil)) rfl)
      (pss_cons (ps_fld (pv 0) (pv 2) rfl)
      (pss_cons (ps_set (i := 3) scSearch___init__.nd rfl (Or.inl rfl) (pe_callB (r := rLen K) cl_len (by rfl) T.b_len (by decide +kernel) (pa_cons (pv 2) pa_nil)))
      (pss_cons (ps_for (passes_of rfl) rfl (pi_list (pe_fld (pv 0) rfl)) (pg_name (i := 4) scSearch___init__.nd rfl (Or.inl rfl)) (pss_one (ps_if (pt_cmpR op_notNz (pv 4) pe_non (nomark _)) (pss_one (ps_set (i := 3) scSearch___init__.nd rfl (Or.inl rfl) (pe_op op_mul (pv 3) (pe_op op_add (pv 4) pe_int)))) pss_nil)))
      (pss_cons (ps_if (pt_cmpR op_gt (pv 3) (pgc T.c_MOST_STATES) (nomark _)) (pss_one (ps_rai0 CY tkN)) pss_nil) pss_never))))), ?_⟩
    try dsimp only [cxOf, L2.Cx.nox, L2.Cx.wish]
    refine i_start (σ' := [some (.ref p), some (.ref m), some (.ref l), none, none]) rfl ?_
    have g : Gr (· = p) G0 H0 G0 H0 := Gr.refl sb
    have okw := M.ok
    have L1 := okl.l1
    have L12 := okl.l12
    have e0 : (ld.map V.int).length = ld.length := List.length_map _
    have oke := okEn_of okw
    have l4 := oke.l4
    have emf : manyF (ws.map lim) (ld.length : Nat) = (manyS (ws.map lim) ld : Nat) := manyF_eq _ _ fun L h => (oke.nn L h).1
    walk_at "zrd"
    refine i_limits g M fun e H1 ne s g2 te => ?_
    have ze := g.fresh ne
    have nep : p ≠ e := ne_of_none tp.h ne
    have tp := (tp.monoN s).close (u := .lst ((ws.map lim).map vO)) nep
    have sE := same_close te
    have g := g2.close te ze
    have he : upd G0 e (.lst ((ws.map lim).map vO)) e = some (.lst ((ws.map lim).map vO)) := upd_same
    have hl := sE _ _ hl
    revert g tp he hl
    generalize upd G0 e (.lst ((ws.map lim).map vO)) = G1
    clear sE te g2 s M
    intro tp g he hl
    generalize (ws.map lim) = en at *
    have e1 : (en.map vO).length = en.length := List.length_map _
    walk_at "zrd"
    refine sfld tp cl nE (by show 0 < 1000; decide) ?_
    have g := g.mut (u := .ins C dx (putF "ends" (.ref e) [])) tp (.inl rfl)
    have tp := tp.put (u := .ins C dx (putF "ends" (.ref e) []))
    revert g tp
    generalize upd H1 p (.ins C dx (putF "ends" (.ref e) [])) = H2
    intro g tp
    have tp : At G1 H2 p (.ins C dx (fS1 e)) := tp
    have ln1 : (fS1 e).length ≤ 1 := fS_len
    walk_at "zrd"
    refine sfld tp cl nL (by omega) ?_
    have g := g.mut (u := .ins C dx (putF "load" (.ref l) (fS1 e))) tp (.inl rfl)
    have tp := tp.put (u := .ins C dx (putF "load" (.ref l) (fS1 e)))
    revert g tp
    generalize upd H2 p (.ins C dx (putF "load" (.ref l) (fS1 e))) = H3
    intro g tp
    have tp : At G1 H3 p (.ins C dx (fS2 e l)) := tp
    have ln2 : (fS2 e l).length ≤ (fS1 e).length + 1 := fS_len
    walk_at "zrd"
    refine i_lenL (Z.ls hl g.sub) ?_
    walk_at "zrd"
    rw [e0]
    refine fld tp.h cl nE fS2_e ?_
    refine forL (Z.ls (K := K) he g.sub) (fun i σ H' => ∃ (v4 : Option V), σ = [some (.ref p), some (.ref m), some (.ref l), some (.int (manyF (en.take i) (ld.length : Nat))), v4] ∧ H' = H3) (by exact ⟨none, rfl, rfl⟩) ?_ ?_ ?_
    · rintro i σ H' hi ⟨v4, rfl, rfl⟩
      exact Z.ls he g.sub
    · rintro i x σ H' hx ⟨v4, rfl, rfl⟩
      obtain ⟨o, ho, rfl⟩ := map_at hx
      rw [manyF_take ho]
      walk_at "zrd"
      cases o with
      | none =>
        refine i_np rfl ?_
        walk_at "zrd"
        exact ⟨_, rfl, rfl⟩
      | some L =>
        refine i_nn (by simp) ?_
        dsimp only [vO]
        have hL := oke.nn L (List.mem_of_getElem? ho)
        walk_at "zrd"
        exact ⟨_, rfl, rfl⟩
    · rintro σ H' ⟨v4, rfl, rfl⟩
      rw [e1, List.take_length, emf]
      walk_at "zrd"
      exact k _ _ g
theorem ok_heldMany (T : Txt K mg) (C_need_load : Cal P w K mg base "need_load" 1 ["load"] (spNeedLoad K)) (CS : CalMkR P w K mg base "Search" C 3 ["self", "memory", "load"] (spSInitMany K CM C cY))
    (F : Fun K "held" "held" sheld f fd) : FnOk P w K mg base (L2N.CX P w) 5 f fd ["memory", "load"] (spHeldMany K CM cY) := by
  refine okN F scheld (fun vs H Q E h => ?_) (fun cdv A outer s H0 vs Q E hr h => ?_)
  · obtain ⟨G, m, l, ws, ld, rfl, _⟩ := h
    rfl
  · obtain ⟨G0, m, l, ws, ld, rfl, sb, M, hl, okl, hmany, k⟩ := h
    refine ⟨_, (pss_cons (ps_expr (pc C_need_load (hr.mono (by decide)) (pa_cons (pv 1) pa_nil)))
      (pss_cons (ps_set (i := 2) scheld.nd rfl (Or.inl rfl) (pmkR CS tkN (fun _ _ _ _ h => h) (hr.mono (by decide)) (pa_cons (pv 0) (pa_cons (pv 1) pa_nil)))) pss_never)), ?_⟩
    try dsimp only [cxOf, L2.Cx.nox, L2.Cx.wish]
    refine i_start (σ' := [some (.ref m), some (.ref l), none, none, none]) rfl ?_
    have g : Gr No G0 H0 G0 H0 := Gr.refl sb
    walk_at "zrd"
    refine i_needLoad g hl okl fun H2 s g => ?_
    walk_at "zrd"
    exact i_searchMany g M hl okl hmany fun H' s' => k H' (g.same.trans s')
end
end Z
set_option Elab.async false
set_option linter.all false
set_option maxRecDepth 100000
set_option maxHeartbeats 4000000
namespace Z
open PySem PySem.Spec PyProof.Rows L2
local macro_rules | `(tactic| walk_at "zrd") => `(tactic| (repeat (first | ((with_reducible apply i_var); (· exact rfl)) | with_reducible refine i_c ?_ | with_reducible refine i_op ?_ | with_reducible refine i_I0 ?_ | with_reducible refine i_eqI ?_ | with_reducible refine i_neI ?_ | with_reducible refine i_test ?_ | with_reducible refine i_cons ?_ | with_reducible refine i_nil ?_ | with_reducible refine i_seq ?_ | with_reducible refine i_nx ?_ | with_reducible refine i_rt ?_ | with_reducible refine i_pass ?_ | with_reducible refine i_asg ?_ | with_reducible refine i_gname ?_ | with_reducible refine i_ret ?_ | with_reducible refine i_drop ?_ | with_reducible refine i_ifS ?_ | with_reducible refine i_if ?_ | with_reducible refine i_not ?_ | with_reducible refine i_and ?_ | with_reducible refine i_or ?_ | with_reducible refine i_lst ?_ | with_reducible refine i_tup ?_ | with_reducible refine i_cb ?_ | with_reducible refine i_call ?_ | with_reducible refine i_gsub ?_ | with_reducible refine i_B ?_ | with_reducible refine i_un ?_ | with_reducible refine i_U ?_ | with_reducible refine i_eqOI ?_ | with_reducible refine i_eqIO ?_ | with_reducible refine i_forL ?_ | with_reducible refine i_forT ?_ | with_reducible refine i_forR ?_ | with_reducible refine i_forR2 ?_ | with_reducible refine i_forR3 ?_ | with_reducible refine i_forE ?_ | with_reducible refine i_lcL ?_ | with_reducible refine i_lcT ?_ | with_reducible refine i_lcR ?_ | with_reducible refine i_yes ?_ | with_reducible refine i_lce ?_ | with_reducible refine i_lcf ?_ | with_reducible refine i_gcons ?_ | with_reducible refine i_gnil ?_ | with_reducible refine i_chain ?_ | with_reducible refine i_t ?_ | with_reducible refine i_f ?_ | with_reducible refine i_nt ?_ | with_reducible refine i_nf ?_ | with_reducible refine i_bm ?_ | with_reducible refine i_bm0 ?_ | with_reducible refine i_and2 ?_ | with_reducible refine i_or2 ?_ | with_reducible refine i_intI ?_ | with_reducible refine i_intB ?_ | with_reducible refine i_sl ?_ | with_reducible refine i_part ?_ | with_reducible refine i_nopart ?_ | with_reducible refine i_cut ?_ | with_reducible refine i_lrg ?_ | with_reducible refine i_make ?_ | with_reducible refine i_meth ?_ | with_reducible refine i_fld ?_ | with_reducible refine i_sfld ?_ | with_reducible refine i_dnew ?_ | with_reducible refine i_par3 ?_ | with_reducible refine i_par3e ?_ | with_reducible refine i_par2 ?_ | with_reducible refine i_par2e ?_ | with_reducible refine i_dput ?_ | with_reducible refine i_dget2 ?_ | with_reducible refine i_din ?_ | with_reducible refine i_dget ?_ | with_reducible refine i_isO ?_ | with_reducible refine i_isR ?_ | with_reducible refine i_isN ?_ | with_reducible refine i_isI ?_ | with_reducible refine i_noO ?_ | with_reducible refine i_noR ?_ | with_reducible refine i_noN ?_ | with_reducible refine i_noI ?_ | with_reducible refine i_dgetN ?_ | with_reducible refine i_dputN ?_ | with_reducible refine i_dnewN ?_ | with_reducible refine i_ckw ?_ | with_reducible refine (show ∃ k, V.bl _ = V.bl k ∧ _ from ⟨_, rfl, ?_⟩) | with_reducible refine (show ∃ k, V.int _ = V.int k ∧ _ from ⟨_, rfl, ?_⟩) | ((with_reducible apply i_ixL); (· assumption); (· exact rfl)) | ((with_reducible apply i_ixT); (· assumption); (· exact rfl)) | ((with_reducible apply i_lenL); (· assumption)) | ((with_reducible apply i_lenT); (· assumption)) | ((with_reducible apply i_I); (· (first | omega | (dsimp only; omega) | exact ⟨by omega, by omega⟩ | exact Or.inr ⟨by omega, by omega⟩ | exact Or.inl ⟨by omega, by omega⟩ | exact ⟨by decide, by decide, by decide⟩))) | ((with_reducible apply i_gtup); (· assumption); (· rfl)) | ((with_reducible apply i_p); (· omega)) | ((with_reducible apply i_n); (· omega)) | ((with_reducible apply i_np); (· omega)) | ((with_reducible apply i_nn); (· omega)) | ((with_reducible apply i_lcP); (· omega)) | ((with_reducible apply i_lcN); (· omega)) | ((with_reducible apply i_lcnP); (· omega)) | ((with_reducible apply i_lcnN); (· omega)))))
open HotX L2H LamX
section
variable {P : Program} {w : World} {K : PySem.W.Frag} {mg : Str → Option Value} {base : Heap} {f : Addr} {fd : FuncData} {C cc Pt : Addr} {c : Nat → Addr}
abbrev slaw : Stmt := topS 47
theorem sclaw : FnScope ["_law_script", "_law_d", "_law_words", "_law_handed", "_law_found", "_law_first", "_law_part", "_law_load_here", "_law_memory_here"] ["_law_script"] (defScope slaw) := ⟨rfl, rfl, rfl, by decide +kernel, rfl, by decide +kernel, by decide +kernel⟩
theorem ok_law (T : Txt K mg) (C__law_dice : Cal P w K mg base "_law_dice" 1 ["_law_script"] (spDice K)) (C__law_small : Cal P w K mg base "_law_small" 2 ["_law_d", "_law_most"] (spSmall K)) (C__law_load : Cal P w K mg base "_law_load" 2 ["_law_d", "_law_most"] (spLoad K)) (C__law_many : Cal P w K mg base "_law_many" 2 ["_law_words", "_law_load_here"] (spMany K)) (C__law_like : Cal P w K mg base "_law_like" 6 ["_law_found", "_law_due"] (spLike 4 K)) (C__law_copied : Cal P w K mg base "_law_copied" 6 ["_law_found"] (spCopied 4 K)) (C__law_right : Cal P w K mg base "_law_right" 7 ["_law_words", "_law_load_here", "_law_memory_here", "_law_found"] (spRight K C))
    (C_held : Cal P w K mg base "held" 6 ["memory", "load"] (spHeld K C)) (C_Memory : CalMk P w K mg base "Memory" C 1 ["self", "words"] (spInit K C))
    (CH : CalR P w K mg base "held" 5 ["memory", "load"] (spHeldMany K C (c 4))) (CT : TolC P w K mg base c cc Pt) (F : Fun K "law" "law" slaw f fd) (hcc : fd.code = .ref cc) : FnOk P w K mg base CX0 9 f fd ["_law_script"] (spLawT K Pt) := by
  refine okC F hcc sclaw (fun vs H Q E h => ?_) (fun A outer s H0 vs Q E hr h => ?_)
  · obtain ⟨a, ns, rfl, _⟩ := h
    rfl
  · obtain ⟨sc, ns, rfl, hsc, _, hPt, k⟩ := h
    refine ⟨_, (pss_cons (ps_set (i := 1) sclaw.nd rfl (Or.inl rfl) (pc C__law_dice (hr.mono (by decide)) (pa_cons (pv 0) pa_nil)))
      (pss_cons (ps_set (i := 2) sclaw.nd rfl (Or.inl rfl) (pc C__law_small (hr.mono (by decide)) (pa_cons (pv 1) (pa_cons pe_int pa_nil))))
      (pss_cons (ps_set (i := 7) sclaw.nd rfl (Or.inr rfl) (pc C__law_load (hr.mono (by decide)) (pa_cons (pv 1) (pa_cons (pe_ix (r := rIxL K) ix_list (pe_lst (pa_cons pe_int (pa_cons pe_int (pa_cons pe_int (pa_cons pe_int pa_nil))))) (pe_op op_sub (pe_callB (r := rLen K) cl_len (by rfl) T.b_len (by decide +kernel) (pa_cons (pv 2) pa_nil)) pe_int) (fun _ _ => rfl)) pa_nil))))
      (pss_cons (ps_set (i := 8) sclaw.nd rfl (Or.inr rfl) (pmk C_Memory (hr.mono (by decide)) (pa_cons (pe_callTy (r := rList K) cl_list (by rfl) T.b_list (by decide +kernel) (pa_cons (pv 2) pa_nil)) pa_nil)))
      (pss_cons (ps_if (pt_cmpR op_gt (pc C__law_many (hr.mono (by decide)) (pa_cons (pv 2) (pa_cons (pv 7) pa_nil))) pe_int (nomark _)) (pss_one (ps_ret (pc C__law_like (hr.mono (by decide)) (pa_cons (pe_told (k := 5) (sc := defScope slaw) (qn := "law.<locals>.") CT (hr.mono (by decide)) (fun A outer s H E f c2 hr => (pcR CH takesN (fun _ _ _ _ h => h) (hr.mono (by decide)) (pa_cons (pv 8) (pa_cons (pv 7) pa_nil))))) (pa_cons (pe_lst (pa_cons pe_str pa_nil)) pa_nil))))) pss_nil)
      (pss_cons (ps_set (i := 3) sclaw.nd rfl (Or.inl rfl) (pe_callTy (r := rList K) cl_list (by rfl) T.b_list (by decide +kernel) (pa_cons (pv 7) pa_nil)))
      (pss_cons (ps_set (i := 4) sclaw.nd rfl (Or.inl rfl) (pc C_held (hr.mono (by decide)) (pa_cons (pv 8) (pa_cons (pv 3) pa_nil))))
      (pss_cons (ps_if (PW.pt (pw_or (pt_not (pt_val (pc C__law_right (hr.mono (by decide)) (pa_cons (pv 2) (pa_cons (pv 7) (pa_cons (pv 8) (pa_cons (pv 4) pa_nil))))))) (pw_or1 (pt_cmpR (r := rNeD K) (op_neD hr.units) (pv 3) (pv 7) (nomark _))))) (pss_one (ps_ret pe_bl)) pss_nil)
      (pss_cons (ps_set (i := 5) sclaw.nd rfl (Or.inl rfl) (pc C__law_copied (hr.mono (by decide)) (pa_cons (pv 4) pa_nil)))
      (pss_cons (ps_for PassesOwn.never rfl (pi_tup (pe_slice (r := rSlT K) sl_tup (pv 4) (po_some pe_int) po_none)) (pg_name (i := 6) sclaw.nd rfl (Or.inl rfl)) (pss_one (ps_if (pt_val (pe_callB (r := rIsi K) call_isi (by rfl) T.b_isinstance (by decide +kernel) (pa_cons (pv 6) (pa_cons (pe_bltn (v := .ty "list") (u := .type "list") (by rfl) T.b_list (by decide +kernel) rfl) pa_nil)))) (pss_one (ps_expr (pe_bm PySem.F.plainAttrs_list PySem.F.slot_list_append PySem.F.type_list_append mt_append (pv 6) (pa_cons (pe_tup (pa_cons pe_int (pa_cons pe_int (pa_cons pe_int pa_nil)))) pa_nil)))) pss_nil)))
      (pss_one (ps_ret (pc C__law_like (hr.mono (by decide)) (pa_cons (pc C_held (hr.mono (by decide)) (pa_cons (pv 8) (pa_cons (pv 7) pa_nil))) (pa_cons (pv 5) pa_nil))))))))))))))), ?_⟩
    try dsimp only [cxOf, L2.Cx.nox, L2.Cx.wish]
    refine i_start (σ' := [some (.ref sc), none, none, none, none, none, none, none, none]) rfl ?_
    have g : Gr No H0 H0 H0 H0 := Gr.refl (Same.refl H0)
    walk_at "zrd"
    refine i_dice g hsc fun d H1 zd s g D => ?_
    walk_at "zrd"
    refine i_small g D (.inr zd) (by omega) (by omega) fun ws m G2 H2 nm s g D hw okw hwl hsm => ?_
    obtain ⟨wa, hwa, wpr⟩ := id hw
    have ew : (wa.map V.ref).length = ws.length := by rw [List.length_map, Paired.len wpr, List.length_map]
    obtain ⟨w1, w4, _⟩ := id okw
    have oke := okEn_of okw
    have hm1 : SqL K H2 m (wa.map V.ref) := Z.ls hwa g.sub
    walk_at "zrd"
    refine newL g (by first | omega | (simp; done) | (simp; omega)) fun q H3 nq zq s g tq => ?_
    have ndq := D.ne nq
    have D := D.monoN s
    walk_at "zrd"
    have hm1 : SqL K H3 m (wa.map V.ref) := Z.ls hwa g.sub
    walk_at "zrd"
    rw [ew]
    obtain ⟨v, hv, ha⟩ := atPick (xs := [V.int 12, V.int 12, V.int 6, V.int 3]) (n := (ws.length : Int) - 1) (by omega) (by simp; omega)
    obtain ⟨u, rfl, hu0, hu8⟩ : ∃ u, v = V.int u ∧ 3 ≤ u ∧ u ≤ 12 := by
      simp only [List.mem_cons, List.not_mem_nil, or_false] at hv
      rcases hv with rfl | rfl | rfl | rfl <;> exact ⟨_, rfl, by omega, by omega⟩
    refine i_ixL (.inl (.inl tq.h)) ha ?_
    clear tq
    walk_at "zrd"
    refine i_load g D (.inr zd) (by omega) (by omega) fun ld l G4 H4 s g D hl okl hll => ?_
    have hw := hw.mono s.gg
    have hwa := s.gg _ _ hwa
    have wpr := prt (K := K) s.gg wpr
    have L1 := okl.l1
    have L12 := okl.l12
    have e0 : (ld.map V.int).length = ld.length := List.length_map _
    walk_at "zrd"
    refine i_listL (Z.ls (K := K) hwa g.sub) (by rw [ew]; exact Nat.le_of_lt (small1000 (by omega))) ?_
    refine newLC g (by first | omega | (simp; done) | (simp; omega)) fun wl G5 H5 nwl zwl s g twl => ?_
    have ndwl := D.ne nwl
    have D := D.monoN s
    have hw := hw.mono s.gg
    have hl := s.gg _ _ hl
    walk_at "zrd"
    refine i_mem (ws := ws) g ⟨wa, twl, prt s.gg wpr⟩ okw fun mm G6 H6 nmm s g M => ?_
    have hw := hw.mono s.gg
    have hl := s.gg _ _ hl
    clear hwa wpr twl D hm1
    walk_at "zrd"
    refine i_many g hw okw hl fun H7 s g => ?_
    walk_at "zrd"
    refine i_ite (fun hc => ?_) (fun hc => ?_)
    · walk_at "zrd"
      have T0 : TabS H7 Pt "law.<locals>.<lambda>" := TabS.nil (g.same _ _ hPt)
      refine i_lamN T0 fun H21 eN T1 => ?_
      have hl := extL (noTbl_same (G := G6)) hl
      have M := extM (noTbl_same (G := G6)) M
      have g : Gr No (noTbl G6) H21 (noTbl G6) H21 := Gr.refl (noTbl_sub g.sub eN)
      unfold TToldX
      dsimp only
      walk_at "zrd"
      refine i_heldMany g M hl okl (by omega) fun H22 s3 => toldMany fun tl H23 s4 ntl e4 => ?_
      have g := g.seqN (Gr.ofSame g.sub (s3.trans s4))
      walk_at "zrd"
      refine newL g (by first | omega | (simp; done) | (simp; omega)) fun due H24 ndue zdue s g tdue => ?_
      walk_at "zrd"
      refine i_like (d := .list [.str "many"]) (.lst (.inl (.inl (s.same _ _ e4))) (.cons (.str _) .nil)) (.lst (.inl (.inl tdue.h)) (.cons (.str _) .nil)) (lk_list (by show 1 ≤ 100000; decide) fun e he => by
        rw [List.mem_singleton.mp he]
        exact lk_str) ?_
      walk_at "zrd"
      exact k _
    have hmany : manyS (ws.map lim) ld ≤ 2000 := by omega
    walk_at "zrd"
    refine i_listL (Z.ls (K := K) hl g.sub) (by rw [e0]; exact Nat.le_of_lt (small1000 (by omega))) ?_
    refine newLC g (by first | omega | (simp; done) | (simp; omega)) fun ha G8 H8 nha zha s g tha => ?_
    have hw := hw.mono s.gg
    have hl := s.gg _ _ hl
    have M := M.mono s.gg
    walk_at "zrd"
    walk_at "zrd"
    have gA := g
    refine i_held g M tha okl hmany fun r G9 H9 s g hv => ?_
    have hw := hw.mono s.gg
    have hl := s.gg _ _ hl
    have tha := s.gg _ _ tha
    have M := M.mono s.gg
    obtain ⟨dd, hdd, hD⟩ := held_data g.sub hv
    have hlk := hD.lk okw okl hmany
    -- all closed, for looking over
    have hcl : ∃ G' xs, Same G9 G' ∧ Same G' H9 ∧ SqT K G' r xs ∧ HeldC K G' xs (ws.map lim) ld := by
      rcases hv with ⟨a, b, hd, lp, na, nb, nab, hT, ta, tb, er⟩ | ⟨a, b, wd, as, pp, n, ST, na, nb, nab, hT, ta, lr, tb, pr, pa, so⟩
      · have g1 := g.close ta (gA.fresh na)
        have s1 := same_close ta
        have tb1 := tb.close (u := .lst (hd.map vO)) nab.symm
        have s2 := same_close tb1
        exact ⟨_, _, s1.trans s2, (g1.close tb1 (gA.fresh nb)).sub, sqt (s1.trans s2) hT, .inl ⟨a, b, hd, lp, rfl, s2 _ _ upd_same, upd_same, er⟩⟩
      · have g1 := g.close ta (gA.fresh na)
        have s1 := same_close ta
        have tb1 := tb.close (u := .lst (wd.map vO)) nab.symm
        have s2 := same_close tb1
        exact ⟨_, _, s1.trans s2, (g1.close tb1 (gA.fresh nb)).sub, sqt (s1.trans s2) hT, .inr ⟨a, b, wd, as, pp, n, ST, rfl, s2 _ _ upd_same, lr, upd_same, Paired.imp (fun _ _ h => RowP.mono (s1.trans s2) h) pr, pa, so⟩⟩
    obtain ⟨Gc, xc, sc1, sc2, hTc, hCc⟩ := hcl
    walk_at "zrd"
    refine i_right sc2 (hw.mono sc1) (sc1 _ _ hl) okl (M.mono sc1) hTc hCc hmany fun H10 s10 => ?_
    clear sc1 sc2 hTc hCc
    have s := Gr.ofSame g.sub s10
    have g := g.seqN s
    have hdd := Dp.mono s10 _ _ hdd
    walk_at "zrd"
    refine i_neD1 (.lst (Z.ls (K := K) tha g.sub) (dpAll_ints _)) (.lst (Z.ls (K := K) hl g.sub) (dpAll_ints _)) (dk_ints (k := 0) _) (by decide) ?_
    walk_at "zrd"
    refine i_copied g hdd hlk fun v1 G11 H11 s11 g hv1 => ?_
    have hl := s11.gg _ _ hl
    have M := M.mono s11.gg
    rcases hv with ⟨a, b, hd, lp, na, nb, nab, hT, ta, tb, er⟩ | ⟨a, b, wd, as, pp, n, ST, na, nb, nab, hT, ta, lr, tb, pr, pa, so⟩
    · have ta := (ta.monoN s).monoN s11
      have tb := (tb.monoN s).monoN s11
      have hT := sqt (K := K) s11.gg hT
      have za := gA.fresh na
      have zb := gA.fresh nb
      have hT1 := sqt (K := K) g.sub hT
      obtain ⟨okp, _⟩ := er.all okw okl hmany
      have hb1 : (hd.map vO).length ≤ 3000 + 0 := by
        have := okp.h40
        rw [List.length_map]
        omega
      have hb2 : (lp.map vO).length ≤ 3000 + 0 := by
        have := okp.l40
        rw [List.length_map]
        omega
      clear s s11 hdd
      walk_at "zrd"
      refine i_slT hT1 (sIx_1 (by show 1 ≤ 3; decide)) ?_
      rw [show cutV [V.str "endless", V.ref a, V.ref b] (some 1) none = [V.ref a, V.ref b] from rfl]
      refine newT (K := K) g (by first | omega | (simp; done) | (simp; omega)) fun q2 G12 H12 nq2 zq2 s g tq2 => ?_
      have naq2 := ne_of_none ta.h nq2
      have nbq2 := ne_of_none tb.h nq2
      have ta := ta.monoN s
      have tb := tb.monoN s
      walk_at "zrd"
      have hl := s.gg _ _ hl
      have M := M.mono s.gg
      have hv1 := Dp.mono s.gg _ _ hv1
      refine forT (sqt (K := K) g.sub tq2) (fun i σ H' => ∃ (v6 : Option V) (G : Hp) (xs ys : List V), σ = [some (.ref sc), some (.ref d), some (.ref m), some (.ref ha), some (.ref r), some v1, v6, some (.ref l), some (.ref mm)] ∧ Gr No H0 H0 G H' ∧ Same G12 G ∧ At G H' a (.lst xs) ∧ At G H' b (.lst ys) ∧ xs.length ≤ 3000 + i ∧ ys.length ≤ 3000 + i) ⟨none, G12, _, _, rfl, g, Same.refl _, ta, tb, hb1, hb2⟩ ?_ ?_ ?_
      · rintro i σ H' hi ⟨v6, G, xs, ys, rfl, g, sK, ta, tb, hx, hy⟩
        exact sqt (K := K) (sK.trans g.sub) tq2
      · clear g ta tb
        rintro i y σ H' hj ⟨v6, G, xs, ys, rfl, g, sK, ta, tb, hx, hy⟩
        have hi5 : i < 2 := (List.getElem?_eq_some_iff.mp hj).1
        have hj2 : y = .ref a ∨ y = .ref b := by
          match i, hj with
          | 0, hj => exact .inl (by cases hj; rfl)
          | 1, hj => exact .inr (by cases hj; rfl)
          | n + 2, hj => cases hj
        rcases hj2 with rfl | rfl
        · walk_at "zrd"
          refine isi_L (c := "list") (b := true) (.inl (.inl ta.h)) (by decide) rfl ?_
          walk_at "zrd"
          refine ⟨tyL ta.h, ?_⟩
          walk_at "zrd"
          refine newT (K := K) g (by first | omega | (simp; done) | (simp; omega)) fun t9 G13 H13 nt9 zt9 s g tt9 => ?_
          have nat9 := ne_of_none ta.h nt9
          have nbt9 := ne_of_none tb.h nt9
          have ta := ta.monoN s
          have tb := tb.monoN s
          walk_at "zrd"
          refine i_append ta.h (by omega) ?_
          walk_at "zrd"
          exact ⟨_, G13, _, ys, rfl, g.mut ta (.inr za), sK.trans s.gg, ta.put, tb.off nab.symm, by rw [List.length_append]; show xs.length + 1 ≤ _; omega, by omega⟩
        · walk_at "zrd"
          refine isi_L (c := "list") (b := true) (.inl (.inl tb.h)) (by decide) rfl ?_
          walk_at "zrd"
          refine ⟨tyL tb.h, ?_⟩
          walk_at "zrd"
          refine newT (K := K) g (by first | omega | (simp; done) | (simp; omega)) fun t9 G13 H13 nt9 zt9 s g tt9 => ?_
          have nat9 := ne_of_none ta.h nt9
          have nbt9 := ne_of_none tb.h nt9
          have ta := ta.monoN s
          have tb := tb.monoN s
          walk_at "zrd"
          refine i_append tb.h (by omega) ?_
          walk_at "zrd"
          exact ⟨_, G13, xs, _, rfl, g.mut tb (.inr zb), sK.trans s.gg, ta.off nab, tb.put, by omega, by rw [List.length_append]; show ys.length + 1 ≤ _; omega⟩
      · clear g ta tb
        rintro σ H' ⟨v6, G, xs, ys, rfl, g, sK, ta, tb, hx, hy⟩
        have hl := sK _ _ hl
        have M := M.mono sK
        have hv1 := Dp.mono sK _ _ hv1
        clear ta tb
        walk_at "zrd"
        refine i_held g M hl okl hmany fun r2 G14 H14 s g hv2 => ?_
        obtain ⟨d2, hd2, hD2⟩ := held_data g.sub hv2
        obtain rfl := hD.uniq hD2
        walk_at "zrd"
        refine i_like hd2 (Dp.mono (s.gg.trans g.sub) _ _ hv1) hlk ?_
        walk_at "zrd"
        exact k _
    · have ta := (ta.monoN s).monoN s11
      have tb := (tb.monoN s).monoN s11
      have hT := sqt (K := K) s11.gg hT
      have za := gA.fresh na
      have zb := gA.fresh nb
      have hT1 := sqt (K := K) g.sub hT
      have hn := lr.few oke okl so hmany
      have okp := lr.okPl (by omega)
      have hb1 : (wd.map vO).length ≤ 3000 + 0 := by
        have := okp.h40
        rw [List.length_map]
        omega
      have hb2 : (as.map V.ref).length ≤ 3000 + 0 := by
        have h1 := so.few oke okl
        have h2 : as.length = pp.length := Paired.len pr
        have h3 : pp.length = ST.length := by rw [← pa.ks, List.length_map]
        rw [List.length_map]
        omega
      clear s s11 hdd
      walk_at "zrd"
      refine i_slT hT1 (sIx_1 (by show 1 ≤ 4; decide)) ?_
      rw [show cutV [V.str "ends", V.int (n : Nat), V.ref a, V.ref b] (some 1) none = [V.int (n : Nat), V.ref a, V.ref b] from rfl]
      refine newT (K := K) g (by first | omega | (simp; done) | (simp; omega)) fun q2 G12 H12 nq2 zq2 s g tq2 => ?_
      have naq2 := ne_of_none ta.h nq2
      have nbq2 := ne_of_none tb.h nq2
      have ta := ta.monoN s
      have tb := tb.monoN s
      walk_at "zrd"
      have hl := s.gg _ _ hl
      have M := M.mono s.gg
      have hv1 := Dp.mono s.gg _ _ hv1
      refine forT (sqt (K := K) g.sub tq2) (fun i σ H' => ∃ (v6 : Option V) (G : Hp) (xs ys : List V), σ = [some (.ref sc), some (.ref d), some (.ref m), some (.ref ha), some (.ref r), some v1, v6, some (.ref l), some (.ref mm)] ∧ Gr No H0 H0 G H' ∧ Same G12 G ∧ At G H' a (.lst xs) ∧ At G H' b (.lst ys) ∧ xs.length ≤ 3000 + i ∧ ys.length ≤ 3000 + i) ⟨none, G12, _, _, rfl, g, Same.refl _, ta, tb, hb1, hb2⟩ ?_ ?_ ?_
      · rintro i σ H' hi ⟨v6, G, xs, ys, rfl, g, sK, ta, tb, hx, hy⟩
        exact sqt (K := K) (sK.trans g.sub) tq2
      · clear g ta tb
        rintro i y σ H' hj ⟨v6, G, xs, ys, rfl, g, sK, ta, tb, hx, hy⟩
        have hi5 : i < 3 := (List.getElem?_eq_some_iff.mp hj).1
        have hj2 : y = .int (n : Nat) ∨ y = .ref a ∨ y = .ref b := by
          match i, hj with
          | 0, hj => exact .inl (by cases hj; rfl)
          | 1, hj => exact .inr (.inl (by cases hj; rfl))
          | 2, hj => exact .inr (.inr (by cases hj; rfl))
          | n + 3, hj => cases hj
        rcases hj2 with rfl | rfl | rfl
        · walk_at "zrd"
          refine isi_I (c := "list") (b := false) (by decide) rfl ?_
          walk_at "zrd"
          exact ⟨_, G, xs, ys, rfl, g, sK, ta, tb, by omega, by omega⟩
        · walk_at "zrd"
          refine isi_L (c := "list") (b := true) (.inl (.inl ta.h)) (by decide) rfl ?_
          walk_at "zrd"
          refine ⟨tyL ta.h, ?_⟩
          walk_at "zrd"
          refine newT (K := K) g (by first | omega | (simp; done) | (simp; omega)) fun t9 G13 H13 nt9 zt9 s g tt9 => ?_
          have nat9 := ne_of_none ta.h nt9
          have nbt9 := ne_of_none tb.h nt9
          have ta := ta.monoN s
          have tb := tb.monoN s
          walk_at "zrd"
          refine i_append ta.h (by omega) ?_
          walk_at "zrd"
          exact ⟨_, G13, _, ys, rfl, g.mut ta (.inr za), sK.trans s.gg, ta.put, tb.off nab.symm, by rw [List.length_append]; show xs.length + 1 ≤ _; omega, by omega⟩
        · walk_at "zrd"
          refine isi_L (c := "list") (b := true) (.inl (.inl tb.h)) (by decide) rfl ?_
          walk_at "zrd"
          refine ⟨tyL tb.h, ?_⟩
          walk_at "zrd"
          refine newT (K := K) g (by first | omega | (simp; done) | (simp; omega)) fun t9 G13 H13 nt9 zt9 s g tt9 => ?_
          have nat9 := ne_of_none ta.h nt9
          have nbt9 := ne_of_none tb.h nt9
          have ta := ta.monoN s
          have tb := tb.monoN s
          walk_at "zrd"
          refine i_append tb.h (by omega) ?_
          walk_at "zrd"
          exact ⟨_, G13, xs, _, rfl, g.mut tb (.inr zb), sK.trans s.gg, ta.off nab, tb.put, by omega, by rw [List.length_append]; show ys.length + 1 ≤ _; omega⟩
      · clear g ta tb
        rintro σ H' ⟨v6, G, xs, ys, rfl, g, sK, ta, tb, hx, hy⟩
        have hl := sK _ _ hl
        have M := M.mono sK
        have hv1 := Dp.mono sK _ _ hv1
        clear ta tb
        walk_at "zrd"
        refine i_held g M hl okl hmany fun r2 G14 H14 s g hv2 => ?_
        obtain ⟨d2, hd2, hD2⟩ := held_data g.sub hv2
        obtain rfl := hD.uniq hD2
        walk_at "zrd"
        refine i_like hd2 (Dp.mono (s.gg.trans g.sub) _ _ hv1) hlk ?_
        walk_at "zrd"
        exact k _
end
end Z
set_option Elab.async false
set_option linter.all false
set_option maxRecDepth 100000
set_option maxHeartbeats 0
namespace Z
open PySem PySem.Spec PyProof.Rows L2
abbrev FnP (K : PySem.W.Frag) (x q : Str) (st : Stmt) (f : Addr) (fd : FuncData) : Prop := FunD K x q (defArgs st) (defBody st) (defScope st) [] [] f fd
theorem fun_of {K : PySem.W.Frag} {x q : Str} {st : Stmt} {f : Addr} {fd : FuncData} (F : FnP K x q st f fd) : Fun K x q st f fd := by
  obtain ⟨oc, od, dV, kV, doc, pm, an, cdv, ct, osl, e, lk, hc, hd, hk⟩ := F.ex
  rcases hd with ⟨_, e2⟩ | ⟨n, _⟩
  · subst e2
    exact ⟨⟨oc, od, kV, doc, pm, an, cdv, ct, osl, e, lk, hc⟩, F.kp⟩
  · exact absurd rfl n
def d_Memory___init__ : He.DefD := ⟨("Memory", some "__init__"), "__init__", "Memory.__init__", defArgs sMemory___init__, defBody sMemory___init__, defScope sMemory___init__, [], []⟩
def d_Memory_words : He.DefD := ⟨("Memory", some "words"), "words", "Memory.words", defArgs sMemory_words, defBody sMemory_words, defScope sMemory_words, [], []⟩
def d__law_is : He.DefD := ⟨("_law_is", none), "_law_is", "_law_is", defArgs s_law_is, defBody s_law_is, defScope s_law_is, [], []⟩
def d__law_told : He.DefD := ⟨("_law_told", none), "_law_told", "_law_told", defArgs s_law_told, defBody s_law_told, defScope s_law_told, [], []⟩
def d_Search___init__ : He.DefD := ⟨("Search", some "__init__"), "__init__", "Search.__init__", defArgs sSearch___init__, defBody sSearch___init__, defScope sSearch___init__, [], []⟩
def d_Search_behind : He.DefD := ⟨("Search", some "behind"), "behind", "Search.behind", defArgs sSearch_behind, defBody sSearch_behind, defScope sSearch_behind, [], []⟩
def d_Search_moves : He.DefD := ⟨("Search", some "moves"), "moves", "Search.moves", defArgs sSearch_moves, defBody sSearch_moves, defScope sSearch_moves, [], []⟩
def d_Search_met : He.DefD := ⟨("Search", some "met"), "met", "Search.met", defArgs sSearch_met, defBody sSearch_met, defScope sSearch_met, [], []⟩
def d_Search_rank : He.DefD := ⟨("Search", some "rank"), "rank", "Search.rank", defArgs sSearch_rank, defBody sSearch_rank, defScope sSearch_rank, [], []⟩
def d_Search_best : He.DefD := ⟨("Search", some "best"), "best", "Search.best", defArgs sSearch_best, defBody sSearch_best, defScope sSearch_best, [], []⟩
def d_Search_endless : He.DefD := ⟨("Search", some "endless"), "endless", "Search.endless", defArgs sSearch_endless, defBody sSearch_endless, defScope sSearch_endless, [], []⟩
def d_Search_longest : He.DefD := ⟨("Search", some "longest"), "longest", "Search.longest", defArgs sSearch_longest, defBody sSearch_longest, defScope sSearch_longest, [], []⟩
def d_Search_paper : He.DefD := ⟨("Search", some "paper"), "paper", "Search.paper", defArgs sSearch_paper, defBody sSearch_paper, defScope sSearch_paper, [], []⟩
def d__law_dice : He.DefD := ⟨("_law_dice", none), "_law_dice", "_law_dice", defArgs s_law_dice, defBody s_law_dice, defScope s_law_dice, [], []⟩
def d__law_next : He.DefD := ⟨("_law_next", none), "_law_next", "_law_next", defArgs s_law_next, defBody s_law_next, defScope s_law_next, [], []⟩
def d__law_load : He.DefD := ⟨("_law_load", none), "_law_load", "_law_load", defArgs s_law_load, defBody s_law_load, defScope s_law_load, [], []⟩
def d__law_small : He.DefD := ⟨("_law_small", none), "_law_small", "_law_small", defArgs s_law_small, defBody s_law_small, defScope s_law_small, [], []⟩
def d__law_mends : He.DefD := ⟨("_law_mends", none), "_law_mends", "_law_mends", defArgs s_law_mends, defBody s_law_mends, defScope s_law_mends, [], []⟩
def d__law_soonest : He.DefD := ⟨("_law_soonest", none), "_law_soonest", "_law_soonest", defArgs s_law_soonest, defBody s_law_soonest, defScope s_law_soonest, [], []⟩
def d__law_like : He.DefD := ⟨("_law_like", none), "_law_like", "_law_like", defArgs s_law_like, defBody s_law_like, defScope s_law_like, [], []⟩
def d__law_limits : He.DefD := ⟨("_law_limits", none), "_law_limits", "_law_limits", defArgs s_law_limits, defBody s_law_limits, defScope s_law_limits, [], []⟩
def d__law_many : He.DefD := ⟨("_law_many", none), "_law_many", "_law_many", defArgs s_law_many, defBody s_law_many, defScope s_law_many, [], []⟩
def d__law_behind : He.DefD := ⟨("_law_behind", none), "_law_behind", "_law_behind", defArgs s_law_behind, defBody s_law_behind, defScope s_law_behind, [], []⟩
def d__law_is_paper : He.DefD := ⟨("_law_is_paper", none), "_law_is_paper", "_law_is_paper", defArgs s_law_is_paper, defBody s_law_is_paper, defScope s_law_is_paper, [], []⟩
def d__law_are_words : He.DefD := ⟨("_law_are_words", none), "_law_are_words", "_law_are_words", defArgs s_law_are_words, defBody s_law_are_words, defScope s_law_are_words, [], []⟩
def d_need_load : He.DefD := ⟨("need_load", none), "need_load", "need_load", defArgs sneed_load, defBody sneed_load, defScope sneed_load, [], []⟩
def d_need_plan : He.DefD := ⟨("need_plan", none), "need_plan", "need_plan", defArgs sneed_plan, defBody sneed_plan, defScope sneed_plan, [], []⟩
def d_mended_at : He.DefD := ⟨("mended_at", none), "mended_at", "mended_at", defArgs smended_at, defBody smended_at, defScope smended_at, [], []⟩
def d_limits : He.DefD := ⟨("limits", none), "limits", "limits", defArgs slimits, defBody slimits, defScope slimits, [], []⟩
def d_beats_of : He.DefD := ⟨("beats_of", none), "beats_of", "beats_of", defArgs sbeats_of, defBody sbeats_of, defScope sbeats_of, [], []⟩
def d_stretches : He.DefD := ⟨("stretches", none), "stretches", "stretches", defArgs sstretches, defBody sstretches, defScope sstretches, [], []⟩
def d_breaking : He.DefD := ⟨("breaking", none), "breaking", "breaking", defArgs sbreaking, defBody sbreaking, defScope sbreaking, [], []⟩
def d_held : He.DefD := ⟨("held", none), "held", "held", defArgs sheld, defBody sheld, defScope sheld, [], []⟩
def d__law_copied : He.DefD := ⟨("_law_copied", none), "_law_copied", "_law_copied", defArgs s_law_copied, defBody s_law_copied, defScope s_law_copied, [], []⟩
def d__law_right : He.DefD := ⟨("_law_right", none), "_law_right", "_law_right", defArgs s_law_right, defBody s_law_right, defScope s_law_right, [], []⟩
def d_law : He.DefD := ⟨("law", none), "law", "law", defArgs slaw, defBody slaw, defScope slaw, [], []⟩
def hfn : List He.DefD := [d_Memory___init__, d_Memory_words, d__law_is, d__law_told, d_Search___init__, d_Search_behind, d_Search_moves, d_Search_met, d_Search_rank, d_Search_best, d_Search_endless, d_Search_longest, d_Search_paper, d__law_dice, d__law_next, d__law_load, d__law_small, d__law_mends, d__law_soonest, d__law_like, d__law_limits, d__law_many, d__law_behind, d__law_is_paper, d__law_are_words, d_need_load, d_need_plan, d_mended_at, d_limits, d_beats_of, d_stretches, d_breaking, d_held, d__law_copied, d__law_right, d_law]
def hfa : List He.Fa := ([.free "len", .free "int", .free "range", .free "list", .free "tuple", .free "sorted", .free "max", .free "min", .free "enumerate", .free "isinstance", .free "str", .free "bool", .free "dict", .free "ValueError", .glo "BadMemory", .glo "BadLoad", .glo "BadPlan", .glo "BadStrokes", .glo "TooMany", .glo "BadText"] : List He.Fa) ++ ([.glo "ScrubError", .glo "_law_is", .glo "_law_told", .int "MOST_WORDS" 4, .int "MOST_WIDE" 8, .int "MOST_GAP" 9, .int "MOST_LOAD" 12, .int "MOST_PLAN" 2000, .int "MOST_STATES" 2000, .glo "_law_dice", .glo "_law_next", .glo "_law_load", .glo "_law_small", .glo "_law_mends", .glo "_law_soonest", .glo "_law_like", .glo "_law_limits", .glo "_law_many", .glo "_law_behind", .glo "_law_is_paper"] : List He.Fa) ++ ([.glo "_law_are_words", .glo "need_load", .glo "need_plan", .glo "mended_at", .glo "limits", .glo "beats_of", .glo "stretches", .glo "breaking", .glo "held", .glo "_law_copied", .glo "_law_right", .glo "law", .glo "Memory", .cls "Memory", .noat "Memory" "kept", .meth "Memory" "words", .mkr "Memory", .glo "Search", .cls "Search", .mkr "Search"] : List He.Fa) ++ ([.noat "Search" "ends", .noat "Search" "load", .noat "Search" "first", .noat "Search" "states", .noat "Search" "known", .meth "Search" "behind", .meth "Search" "moves", .meth "Search" "met", .meth "Search" "rank", .meth "Search" "best", .meth "Search" "endless", .meth "Search" "longest", .meth "Search" "paper"] : List He.Fa)
abbrev RR : PySem.W.OpenRow := PySem.W.OpenLaw.row PySem.Challenge.rw_scrubround_k06_whole_held_or_shown
abbrev hk : PySem.W.Hook := hookY 5 hfa hfn
def hob (s : PySem.W.SharedT) : He.AlD × Bool := obsY 5 hfa hfn (HandSHeadRun.getT s)
theorem hob_eq (s : PySem.W.SharedT) : hob s = hk.obs s.abs := obsY_eq (HandSHeadRun.getT_eq s)
def hloose : List PySem.Str := (["ScrubError", "BadMemory", "BadLoad", "BadPlan", "BadStrokes", "TooMany", "BadText", "MOST_WORDS", "MOST_WIDE", "MOST_GAP", "MOST_LOAD", "MOST_PLAN", "Memory", "limits", "need_load", "need_plan", "MOST_STATES", "Search", "held", "mended_at"] : List PySem.Str) ++ (["beats_of", "stretches", "breaking", "_law_dice", "_law_next", "_law_like", "_law_memory", "_law_load", "_law_limits", "_law_plan", "_law_mends", "_law_soonest", "_law_fall", "_law_many", "_law_behind", "_law_is_paper", "_law_is", "_law_told", "_law_copied", "_law_small"] : List PySem.Str) ++ (["_law_are_words", "_law_right"] : List PySem.Str)
theorem hrun (w : World) : HandSHeadRun.RunEq RR (PySem.W.view RR.prog [47]) hk hob 6000 hloose w := by
  intro os
  kernel_rfl
theorem hfacts {P : Program} {w : World} {K : PySem.W.Frag} {mg : Str → Option Value} {h : Heap} {f : Addr} (X : K.In h) (G : h.Ns mainGlobals mg) (hfa0 : mg ("law" : Str) = some (.ref f)) (cx : SaysY hfa hfn h K) :
    ∃ fd : FuncData, (∀ (s : Shared) (v : Value), BindsTo s fd ⟨[v], []⟩ [("_law_script", v)]) ∧ ∀ base : Heap, K.In base → base.Ns mainGlobals mg → LamX.TabB base mg (He.cT K lawN).1 (He.cT K lawN).2 → FnOk P w K mg base CX0 9 f fd ["_law_script"] (spLawT K (He.cT K lawN).2) := by
  have c := cx.t
  obtain ⟨fd_Memory___init__, Fd_Memory___init__⟩ := c.def_ 0 (d := d_Memory___init__) rfl
  have F_Memory___init__ := fun_of (st := sMemory___init__) Fd_Memory___init__
  obtain ⟨fd_Memory_words, Fd_Memory_words⟩ := c.def_ 1 (d := d_Memory_words) rfl
  have F_Memory_words := fun_of (st := sMemory_words) Fd_Memory_words
  obtain ⟨fd__law_is, Fd__law_is⟩ := c.def_ 2 (d := d__law_is) rfl
  have F__law_is := fun_of (st := s_law_is) Fd__law_is
  obtain ⟨fd__law_told, Fd__law_told⟩ := c.def_ 3 (d := d__law_told) rfl
  have F__law_told := fun_of (st := s_law_told) Fd__law_told
  obtain ⟨fd_Search___init__, Fd_Search___init__⟩ := c.def_ 4 (d := d_Search___init__) rfl
  have F_Search___init__ := fun_of (st := sSearch___init__) Fd_Search___init__
  obtain ⟨fd_Search_behind, Fd_Search_behind⟩ := c.def_ 5 (d := d_Search_behind) rfl
  have F_Search_behind := fun_of (st := sSearch_behind) Fd_Search_behind
  obtain ⟨fd_Search_moves, Fd_Search_moves⟩ := c.def_ 6 (d := d_Search_moves) rfl
  have F_Search_moves := fun_of (st := sSearch_moves) Fd_Search_moves
  obtain ⟨fd_Search_met, Fd_Search_met⟩ := c.def_ 7 (d := d_Search_met) rfl
  have F_Search_met := fun_of (st := sSearch_met) Fd_Search_met
  obtain ⟨fd_Search_rank, Fd_Search_rank⟩ := c.def_ 8 (d := d_Search_rank) rfl
  have F_Search_rank := fun_of (st := sSearch_rank) Fd_Search_rank
  obtain ⟨fd_Search_best, Fd_Search_best⟩ := c.def_ 9 (d := d_Search_best) rfl
  have F_Search_best := fun_of (st := sSearch_best) Fd_Search_best
  obtain ⟨fd_Search_endless, Fd_Search_endless⟩ := c.def_ 10 (d := d_Search_endless) rfl
  have F_Search_endless := fun_of (st := sSearch_endless) Fd_Search_endless
  obtain ⟨fd_Search_longest, Fd_Search_longest⟩ := c.def_ 11 (d := d_Search_longest) rfl
  have F_Search_longest := fun_of (st := sSearch_longest) Fd_Search_longest
  obtain ⟨fd_Search_paper, Fd_Search_paper⟩ := c.def_ 12 (d := d_Search_paper) rfl
  have F_Search_paper := fun_of (st := sSearch_paper) Fd_Search_paper
  obtain ⟨fd__law_dice, Fd__law_dice⟩ := c.def_ 13 (d := d__law_dice) rfl
  have F__law_dice := fun_of (st := s_law_dice) Fd__law_dice
  obtain ⟨fd__law_next, Fd__law_next⟩ := c.def_ 14 (d := d__law_next) rfl
  have F__law_next := fun_of (st := s_law_next) Fd__law_next
  obtain ⟨fd__law_load, Fd__law_load⟩ := c.def_ 15 (d := d__law_load) rfl
  have F__law_load := fun_of (st := s_law_load) Fd__law_load
  obtain ⟨fd__law_small, Fd__law_small⟩ := c.def_ 16 (d := d__law_small) rfl
  have F__law_small := fun_of (st := s_law_small) Fd__law_small
  obtain ⟨fd__law_mends, Fd__law_mends⟩ := c.def_ 17 (d := d__law_mends) rfl
  have F__law_mends := fun_of (st := s_law_mends) Fd__law_mends
  obtain ⟨fd__law_soonest, Fd__law_soonest⟩ := c.def_ 18 (d := d__law_soonest) rfl
  have F__law_soonest := fun_of (st := s_law_soonest) Fd__law_soonest
  obtain ⟨fd__law_like, Fd__law_like⟩ := c.def_ 19 (d := d__law_like) rfl
  have F__law_like := fun_of (st := s_law_like) Fd__law_like
  obtain ⟨fd__law_limits, Fd__law_limits⟩ := c.def_ 20 (d := d__law_limits) rfl
  have F__law_limits := fun_of (st := s_law_limits) Fd__law_limits
  obtain ⟨fd__law_many, Fd__law_many⟩ := c.def_ 21 (d := d__law_many) rfl
  have F__law_many := fun_of (st := s_law_many) Fd__law_many
  obtain ⟨fd__law_behind, Fd__law_behind⟩ := c.def_ 22 (d := d__law_behind) rfl
  have F__law_behind := fun_of (st := s_law_behind) Fd__law_behind
  obtain ⟨fd__law_is_paper, Fd__law_is_paper⟩ := c.def_ 23 (d := d__law_is_paper) rfl
  have F__law_is_paper := fun_of (st := s_law_is_paper) Fd__law_is_paper
  obtain ⟨fd__law_are_words, Fd__law_are_words⟩ := c.def_ 24 (d := d__law_are_words) rfl
  have F__law_are_words := fun_of (st := s_law_are_words) Fd__law_are_words
  obtain ⟨fd_need_load, Fd_need_load⟩ := c.def_ 25 (d := d_need_load) rfl
  have F_need_load := fun_of (st := sneed_load) Fd_need_load
  obtain ⟨fd_need_plan, Fd_need_plan⟩ := c.def_ 26 (d := d_need_plan) rfl
  have F_need_plan := fun_of (st := sneed_plan) Fd_need_plan
  obtain ⟨fd_mended_at, Fd_mended_at⟩ := c.def_ 27 (d := d_mended_at) rfl
  have F_mended_at := fun_of (st := smended_at) Fd_mended_at
  obtain ⟨fd_limits, Fd_limits⟩ := c.def_ 28 (d := d_limits) rfl
  have F_limits := fun_of (st := slimits) Fd_limits
  obtain ⟨fd_beats_of, Fd_beats_of⟩ := c.def_ 29 (d := d_beats_of) rfl
  have F_beats_of := fun_of (st := sbeats_of) Fd_beats_of
  obtain ⟨fd_stretches, Fd_stretches⟩ := c.def_ 30 (d := d_stretches) rfl
  have F_stretches := fun_of (st := sstretches) Fd_stretches
  obtain ⟨fd_breaking, Fd_breaking⟩ := c.def_ 31 (d := d_breaking) rfl
  have F_breaking := fun_of (st := sbreaking) Fd_breaking
  obtain ⟨fd_held, Fd_held⟩ := c.def_ 32 (d := d_held) rfl
  have F_held := fun_of (st := sheld) Fd_held
  obtain ⟨fd__law_copied, Fd__law_copied⟩ := c.def_ 33 (d := d__law_copied) rfl
  have F__law_copied := fun_of (st := s_law_copied) Fd__law_copied
  obtain ⟨fd__law_right, Fd__law_right⟩ := c.def_ 34 (d := d__law_right) rfl
  have F__law_right := fun_of (st := s_law_right) Fd__law_right
  obtain ⟨fd_law, Fd_law⟩ := c.def_ 35 (d := d_law) rfl
  have F_law := fun_of (st := slaw) Fd_law
  have e := hfa0.symm.trans (He.glo_ok X G (c.fact 51 (f := .glo "law") rfl))
  cases e
  have T : Txt K mg := ⟨He.free_ok X G (c.fact 0 (f := .free "len") rfl), He.free_ok X G (c.fact 1 (f := .free "int") rfl), He.free_ok X G (c.fact 2 (f := .free "range") rfl), He.free_ok X G (c.fact 3 (f := .free "list") rfl), He.free_ok X G (c.fact 4 (f := .free "tuple") rfl), He.free_ok X G (c.fact 5 (f := .free "sorted") rfl), He.free_ok X G (c.fact 6 (f := .free "max") rfl), He.free_ok X G (c.fact 7 (f := .free "min") rfl), He.free_ok X G (c.fact 8 (f := .free "enumerate") rfl), He.free_ok X G (c.fact 9 (f := .free "isinstance") rfl), He.free_ok X G (c.fact 10 (f := .free "str") rfl), He.free_ok X G (c.fact 11 (f := .free "bool") rfl), He.free_ok X G (c.fact 12 (f := .free "dict") rfl), He.int_ok X G (c.fact 23 (f := .int "MOST_WORDS" 4) rfl), He.int_ok X G (c.fact 24 (f := .int "MOST_WIDE" 8) rfl), He.int_ok X G (c.fact 25 (f := .int "MOST_GAP" 9) rfl), He.int_ok X G (c.fact 26 (f := .int "MOST_LOAD" 12) rfl), He.int_ok X G (c.fact 27 (f := .int "MOST_PLAN" 2000) rfl), He.int_ok X G (c.fact 28 (f := .int "MOST_STATES" 2000) rfl)⟩
  have cl := He.cls_ok (c.fact 53 (f := .cls "Memory") rfl)
  have na := He.noat_ok (c.fact 54 (f := .noat "Memory" "kept") rfl)
  have me := He.meth_ok (c.fact 55 (f := .meth "Memory" "words") rfl)
  have mk := He.mkr_ok (c.fact 56 (f := .mkr "Memory") rfl)
  have gM := He.glo_ok X G (c.fact 52 (f := .glo "Memory") rfl)
  have b_Memory___init__ := F_Memory___init__.binds (ps := ["self", "words"]) fun _ _ _ _ _ _ us hl => match us, hl with | [_, _], _ => rfl
  have b_Memory_words := F_Memory_words.binds (ps := ["self"]) fun _ _ _ _ _ _ us hl => match us, hl with | [_], _ => rfl
  have b__law_is := F__law_is.binds (ps := ["_law_e", "_law_word"]) fun _ _ _ _ _ _ us hl => match us, hl with | [_, _], _ => rfl
  have b__law_told := F__law_told.binds (ps := ["_law_work"]) fun _ _ _ _ _ _ us hl => match us, hl with | [_], _ => rfl
  have b_Search___init__ := F_Search___init__.binds (ps := ["self", "memory", "load"]) fun _ _ _ _ _ _ us hl => match us, hl with | [_, _, _], _ => rfl
  have b_Search_behind := F_Search_behind.binds (ps := ["self", "phase", "ages", "word"]) fun _ _ _ _ _ _ us hl => match us, hl with | [_, _, _, _], _ => rfl
  have b_Search_moves := F_Search_moves.binds (ps := ["self", "state"]) fun _ _ _ _ _ _ us hl => match us, hl with | [_, _], _ => rfl
  have b_Search_met := F_Search_met.binds (ps := ["self"]) fun _ _ _ _ _ _ us hl => match us, hl with | [_], _ => rfl
  have b_Search_rank := F_Search_rank.binds (ps := ["self"]) fun _ _ _ _ _ _ us hl => match us, hl with | [_], _ => rfl
  have b_Search_best := F_Search_best.binds (ps := ["self", "state"]) fun _ _ _ _ _ _ us hl => match us, hl with | [_, _], _ => rfl
  have b_Search_endless := F_Search_endless.binds (ps := ["self"]) fun _ _ _ _ _ _ us hl => match us, hl with | [_], _ => rfl
  have b_Search_longest := F_Search_longest.binds (ps := ["self"]) fun _ _ _ _ _ _ us hl => match us, hl with | [_], _ => rfl
  have b_Search_paper := F_Search_paper.binds (ps := ["self"]) fun _ _ _ _ _ _ us hl => match us, hl with | [_], _ => rfl
  have b__law_dice := F__law_dice.binds (ps := ["_law_script"]) fun _ _ _ _ _ _ us hl => match us, hl with | [_], _ => rfl
  have b__law_next := F__law_next.binds (ps := ["_law_dice_here", "_law_many_here"]) fun _ _ _ _ _ _ us hl => match us, hl with | [_, _], _ => rfl
  have b__law_load := F__law_load.binds (ps := ["_law_d", "_law_most"]) fun _ _ _ _ _ _ us hl => match us, hl with | [_, _], _ => rfl
  have b__law_small := F__law_small.binds (ps := ["_law_d", "_law_most"]) fun _ _ _ _ _ _ us hl => match us, hl with | [_, _], _ => rfl
  have b__law_mends := F__law_mends.binds (ps := ["_law_load_here", "_law_plan_here", "_law_beats"]) fun _ _ _ _ _ _ us hl => match us, hl with | [_, _, _], _ => rfl
  have b__law_soonest := F__law_soonest.binds (ps := ["_law_words", "_law_load_here", "_law_plan_here", "_law_beats"]) fun _ _ _ _ _ _ us hl => match us, hl with | [_, _, _, _], _ => rfl
  have b__law_like := F__law_like.binds (ps := ["_law_found", "_law_due"]) fun _ _ _ _ _ _ us hl => match us, hl with | [_, _], _ => rfl
  have b__law_limits := F__law_limits.binds (ps := ["_law_words"]) fun _ _ _ _ _ _ us hl => match us, hl with | [_], _ => rfl
  have b__law_many := F__law_many.binds (ps := ["_law_words", "_law_load_here"]) fun _ _ _ _ _ _ us hl => match us, hl with | [_, _], _ => rfl
  have b__law_behind := F__law_behind.binds (ps := ["_law_words", "_law_ages", "_law_mended"]) fun _ _ _ _ _ _ us hl => match us, hl with | [_, _, _], _ => rfl
  have b__law_is_paper := F__law_is_paper.binds (ps := ["_law_words", "_law_load_here", "_law_beats", "_law_paper"]) fun _ _ _ _ _ _ us hl => match us, hl with | [_, _, _, _], _ => rfl
  have b__law_are_words := F__law_are_words.binds (ps := ["_law_found", "_law_many_here"]) fun _ _ _ _ _ _ us hl => match us, hl with | [_, _], _ => rfl
  have b_need_load := F_need_load.binds (ps := ["load"]) fun _ _ _ _ _ _ us hl => match us, hl with | [_], _ => rfl
  have b_need_plan := F_need_plan.binds (ps := ["memory", "plan"]) fun _ _ _ _ _ _ us hl => match us, hl with | [_, _], _ => rfl
  have b_mended_at := F_mended_at.binds (ps := ["load", "plan", "beats"]) fun _ _ _ _ _ _ us hl => match us, hl with | [_, _, _], _ => rfl
  have b_limits := F_limits.binds (ps := ["memory"]) fun _ _ _ _ _ _ us hl => match us, hl with | [_], _ => rfl
  have b_beats_of := F_beats_of.binds (ps := ["load", "plan"]) fun _ _ _ _ _ _ us hl => match us, hl with | [_, _], _ => rfl
  have b_stretches := F_stretches.binds (ps := ["memory", "load", "plan"]) fun _ _ _ _ _ _ us hl => match us, hl with | [_, _, _], _ => rfl
  have b_breaking := F_breaking.binds (ps := ["memory", "load", "plan"]) fun _ _ _ _ _ _ us hl => match us, hl with | [_, _, _], _ => rfl
  have b_held := F_held.binds (ps := ["memory", "load"]) fun _ _ _ _ _ _ us hl => match us, hl with | [_, _], _ => rfl
  have b__law_copied := F__law_copied.binds (ps := ["_law_found"]) fun _ _ _ _ _ _ us hl => match us, hl with | [_], _ => rfl
  have b__law_right := F__law_right.binds (ps := ["_law_words", "_law_load_here", "_law_memory_here", "_law_found"]) fun _ _ _ _ _ _ us hl => match us, hl with | [_, _, _, _], _ => rfl
  have b_law := Fd_law.bindsA (ps := ["_law_script"]) fun _ _ _ _ _ _ us hl => match us, hl with | [_], _ => rfl
  have hcc : fd_law.code = .ref (He.cT K lawN).1 := code_of (p := lawN) Fd_law
  refine ⟨fd_law, fun s v => b_law s [v] rfl, fun base _ _ TB => ?_⟩
  have gx0 : mg (exNames.getD 0 "ScrubError") = some (.ref (exC K 0)) := He.glo_ok X G (c.fact 14 (f := .glo "BadMemory") rfl)
  have gx1 : mg (exNames.getD 1 "ScrubError") = some (.ref (exC K 1)) := He.glo_ok X G (c.fact 15 (f := .glo "BadLoad") rfl)
  have gx2 : mg (exNames.getD 2 "ScrubError") = some (.ref (exC K 2)) := He.glo_ok X G (c.fact 16 (f := .glo "BadPlan") rfl)
  have gx3 : mg (exNames.getD 3 "ScrubError") = some (.ref (exC K 3)) := He.glo_ok X G (c.fact 17 (f := .glo "BadStrokes") rfl)
  have gx4 : mg (exNames.getD 4 "ScrubError") = some (.ref (exC K 4)) := He.glo_ok X G (c.fact 18 (f := .glo "TooMany") rfl)
  have gx5 : mg (exNames.getD 5 "ScrubError") = some (.ref (exC K 5)) := He.glo_ok X G (c.fact 19 (f := .glo "BadText") rfl)
  have gx6 : mg (exNames.getD 6 "ScrubError") = some (.ref (exC K 6)) := He.glo_ok X G (c.fact 20 (f := .glo "ScrubError") rfl)
  have Y : XF K mg (exC K) := xf_of cx.more (fun i hi => match i, hi with | 0, _ => gx0 | 1, _ => gx1 | 2, _ => gx2 | 3, _ => gx3 | 4, _ => gx4 | 5, _ => gx5 | 6, _ => gx6) (He.free_ok X G (c.fact 13 (f := .free "ValueError") rfl))
  obtain ⟨xq0, xq3, xq5, xq1, xq2, xq4, xq6⟩ := exB_2 cx.more
  have C_BadLoad : CalX0 K mg "BadLoad" (exC K 1) := x0_of (by decide) cx.more xq1 gx1
  have C_BadPlan : CalX0 K mg "BadPlan" (exC K 2) := x0_of (by decide) cx.more xq2 gx2
  have C_TooMany : CalX0 K mg "TooMany" (exC K 4) := x0_of (by decide) cx.more xq4 gx4
  have CI : IsC P w K mg base (exC K) := ⟨Y, _, _, He.glo_ok X G (c.fact 21 (f := .glo "_law_is") rfl), F__law_is.kp, b__law_is, ok_is T Y F__law_is⟩
  have CT : TolC P w K mg base (exC K) (He.cT K lawN).1 (He.cT K lawN).2 := ⟨T, CI, ⟨_, _, F__law_told, He.glo_ok X G (c.fact 22 (f := .glo "_law_told") rfl), b__law_told⟩, TB⟩
  have C_Memory : CalMk P w K mg base "Memory" (He.ga K "Memory") 1 ["self", "words"] (spInit K (He.ga K "Memory")) := ⟨⟨_, _, gM, mk, b_Memory___init__, ok_init T cl na F_Memory___init__⟩⟩
  have C_words : CalMt P w K mg base (He.ga K "Memory") "words" 1 ["self"] (spWords K (He.ga K "Memory")) := ⟨cl, ⟨_, _, me, b_Memory_words, ok_words T cl na F_Memory_words⟩⟩
  have C__law_dice : Cal P w K mg base "_law_dice" 1 ["_law_script"] (spDice K) := Cal.of F__law_dice (He.glo_ok X G (c.fact 29 (f := .glo "_law_dice") rfl)) b__law_dice (ok_dice T  F__law_dice)
  have C__law_next : Cal P w K mg base "_law_next" 1 ["_law_dice_here", "_law_many_here"] (spNext K) := Cal.of F__law_next (He.glo_ok X G (c.fact 30 (f := .glo "_law_next") rfl)) b__law_next (ok_next T  F__law_next)
  have C__law_load : Cal P w K mg base "_law_load" 2 ["_law_d", "_law_most"] (spLoad K) := Cal.of F__law_load (He.glo_ok X G (c.fact 31 (f := .glo "_law_load") rfl)) b__law_load (ok_load T C__law_next F__law_load)
  have C__law_small : Cal P w K mg base "_law_small" 2 ["_law_d", "_law_most"] (spSmall K) := Cal.of F__law_small (He.glo_ok X G (c.fact 32 (f := .glo "_law_small") rfl)) b__law_small (ok_small T C__law_next F__law_small)
  have C__law_mends : Cal P w K mg base "_law_mends" 1 ["_law_load_here", "_law_plan_here", "_law_beats"] (spMends K) := Cal.of F__law_mends (He.glo_ok X G (c.fact 33 (f := .glo "_law_mends") rfl)) b__law_mends (ok_mends T  F__law_mends)
  have C__law_soonest : Cal P w K mg base "_law_soonest" 2 ["_law_words", "_law_load_here", "_law_plan_here", "_law_beats"] (spSoonest K) := Cal.of F__law_soonest (He.glo_ok X G (c.fact 34 (f := .glo "_law_soonest") rfl)) b__law_soonest (ok_soonest T C__law_mends F__law_soonest)
  have L0 : Cal P w K mg base "_law_like" 1 ["_law_found", "_law_due"] spNo := Cal.of F__law_like (He.glo_ok X G (c.fact 35 (f := .glo "_law_like") rfl)) b__law_like (like_no F__law_like)
  have L1 : Cal P w K mg base "_law_like" 2 ["_law_found", "_law_due"] (spLike 0 K) := Cal.of F__law_like (He.glo_ok X G (c.fact 35 (f := .glo "_law_like") rfl)) b__law_like (ok_like 0 (fun _ h => by cases h) T L0 F__law_like)
  have L2 : Cal P w K mg base "_law_like" 3 ["_law_found", "_law_due"] (spLike 1 K) := Cal.of F__law_like (He.glo_ok X G (c.fact 35 (f := .glo "_law_like") rfl)) b__law_like (ok_like 1 (fun _ h => by cases h; rfl) T L1 F__law_like)
  have L3 : Cal P w K mg base "_law_like" 4 ["_law_found", "_law_due"] (spLike 2 K) := Cal.of F__law_like (He.glo_ok X G (c.fact 35 (f := .glo "_law_like") rfl)) b__law_like (ok_like 2 (fun _ h => by cases h; rfl) T L2 F__law_like)
  have L4 : Cal P w K mg base "_law_like" 5 ["_law_found", "_law_due"] (spLike 3 K) := Cal.of F__law_like (He.glo_ok X G (c.fact 35 (f := .glo "_law_like") rfl)) b__law_like (ok_like 3 (fun _ h => by cases h; rfl) T L3 F__law_like)
  have C__law_like : Cal P w K mg base "_law_like" 6 ["_law_found", "_law_due"] (spLike 4 K) := Cal.of F__law_like (He.glo_ok X G (c.fact 35 (f := .glo "_law_like") rfl)) b__law_like (ok_like 4 (fun _ h => by cases h; rfl) T L4 F__law_like)
  have C__law_limits : Cal P w K mg base "_law_limits" 1 ["_law_words"] (spLimL K) := Cal.of F__law_limits (He.glo_ok X G (c.fact 36 (f := .glo "_law_limits") rfl)) b__law_limits (ok_limL T  F__law_limits)
  have C__law_many : Cal P w K mg base "_law_many" 2 ["_law_words", "_law_load_here"] (spMany K) := Cal.of F__law_many (He.glo_ok X G (c.fact 37 (f := .glo "_law_many") rfl)) b__law_many (ok_many T C__law_limits F__law_many)
  have C__law_behind : Cal P w K mg base "_law_behind" 2 ["_law_words", "_law_ages", "_law_mended"] (spBehL K) := Cal.of F__law_behind (He.glo_ok X G (c.fact 38 (f := .glo "_law_behind") rfl)) b__law_behind (ok_behL T C__law_limits F__law_behind)
  have C__law_is_paper : Cal P w K mg base "_law_is_paper" 3 ["_law_words", "_law_load_here", "_law_beats", "_law_paper"] (spPaperL K) := Cal.of F__law_is_paper (He.glo_ok X G (c.fact 39 (f := .glo "_law_is_paper") rfl)) b__law_is_paper (ok_paperL T C__law_limits C__law_behind F__law_is_paper)
  have C__law_are_words : Cal P w K mg base "_law_are_words" 1 ["_law_found", "_law_many_here"] (spAreW K) := Cal.of F__law_are_words (He.glo_ok X G (c.fact 40 (f := .glo "_law_are_words") rfl)) b__law_are_words (ok_areW T  F__law_are_words)
  have C_need_load : Cal P w K mg base "need_load" 1 ["load"] (spNeedLoad K) := Cal.of F_need_load (He.glo_ok X G (c.fact 41 (f := .glo "need_load") rfl)) b_need_load (ok_need_load T  F_need_load)
  have C_need_plan : Cal P w K mg base "need_plan" 2 ["memory", "plan"] (spNeedPlan K (He.ga K "Memory")) := Cal.of F_need_plan (He.glo_ok X G (c.fact 42 (f := .glo "need_plan") rfl)) b_need_plan (ok_need_plan T C_words F_need_plan)
  have C_mended_at : Cal P w K mg base "mended_at" 1 ["load", "plan", "beats"] (spMended K) := Cal.of F_mended_at (He.glo_ok X G (c.fact 43 (f := .glo "mended_at") rfl)) b_mended_at (ok_mended T  F_mended_at)
  have C_limits : Cal P w K mg base "limits" 2 ["memory"] (spLimits K (He.ga K "Memory")) := Cal.of F_limits (He.glo_ok X G (c.fact 44 (f := .glo "limits") rfl)) b_limits (ok_limits T C_words F_limits)
  have C_beats_of : Cal P w K mg base "beats_of" 1 ["load", "plan"] (spBeats K) := Cal.of F_beats_of (He.glo_ok X G (c.fact 45 (f := .glo "beats_of") rfl)) b_beats_of (ok_beats_of T  F_beats_of)
  have C_stretches : Cal P w K mg base "stretches" 2 ["memory", "load", "plan"] (spStretches K (He.ga K "Memory")) := Cal.of F_stretches (He.glo_ok X G (c.fact 46 (f := .glo "stretches") rfl)) b_stretches (ok_stretches T C_words C_mended_at C_beats_of F_stretches)
  have C_breaking : Cal P w K mg base "breaking" 3 ["memory", "load", "plan"] (spBreaking K (He.ga K "Memory")) := Cal.of F_breaking (He.glo_ok X G (c.fact 47 (f := .glo "breaking") rfl)) b_breaking (ok_breaking T C_words C_need_load C_need_plan C_stretches C_limits F_breaking)
  have clS := He.cls_ok (c.fact 58 (f := .cls "Search") rfl)
  have mkS := He.mkr_ok (c.fact 59 (f := .mkr "Search") rfl)
  have gS := He.glo_ok X G (c.fact 57 (f := .glo "Search") rfl)
  have nS_ends := He.noat_ok (c.fact 60 (f := .noat "Search" "ends") rfl)
  have nS_load := He.noat_ok (c.fact 61 (f := .noat "Search" "load") rfl)
  have nS_first := He.noat_ok (c.fact 62 (f := .noat "Search" "first") rfl)
  have nS_states := He.noat_ok (c.fact 63 (f := .noat "Search" "states") rfl)
  have nS_known := He.noat_ok (c.fact 64 (f := .noat "Search" "known") rfl)
  have mS_behind := He.meth_ok (c.fact 65 (f := .meth "Search" "behind") rfl)
  have C_behind : CalMt P w K mg base (He.ga K "Search") "behind" 1 ["self", "phase", "ages", "word"] (spBehind K (He.ga K "Search")) := ⟨clS, ⟨_, _, mS_behind, b_Search_behind, ok_behind T clS nS_ends nS_load  F_Search_behind⟩⟩
  have mS_moves := He.meth_ok (c.fact 66 (f := .meth "Search" "moves") rfl)
  have C_moves : CalMt P w K mg base (He.ga K "Search") "moves" 2 ["self", "state"] (spMoves K (He.ga K "Search")) := ⟨clS, ⟨_, _, mS_moves, b_Search_moves, ok_moves T clS nS_ends nS_load C_behind F_Search_moves⟩⟩
  have mS_met := He.meth_ok (c.fact 67 (f := .meth "Search" "met") rfl)
  have C_met : CalMt P w K mg base (He.ga K "Search") "met" 3 ["self"] (spMet P w K (He.ga K "Search")) := ⟨clS, ⟨_, _, mS_met, b_Search_met, ok_met T clS nS_first C_moves F_Search_met⟩⟩
  have mS_rank := He.meth_ok (c.fact 68 (f := .meth "Search" "rank") rfl)
  have C_rank : CalMt P w K mg base (He.ga K "Search") "rank" 3 ["self"] (spRank P w K (He.ga K "Search")) := ⟨clS, ⟨_, _, mS_rank, b_Search_rank, ok_rank T clS nS_states nS_known C_moves F_Search_rank⟩⟩
  have mS_best := He.meth_ok (c.fact 69 (f := .meth "Search" "best") rfl)
  have C_best : CalMt P w K mg base (He.ga K "Search") "best" 3 ["self", "state"] (spBest P w K (He.ga K "Search")) := ⟨clS, ⟨_, _, mS_best, b_Search_best, ok_best T clS nS_known C_moves F_Search_best⟩⟩
  have mS_endless := He.meth_ok (c.fact 70 (f := .meth "Search" "endless") rfl)
  have C_endless : CalMt P w K mg base (He.ga K "Search") "endless" 4 ["self"] (spEndless P w K (He.ga K "Search")) := ⟨clS, ⟨_, _, mS_endless, b_Search_endless, ok_endless T clS nS_first nS_load C_best F_Search_endless⟩⟩
  have mS_longest := He.meth_ok (c.fact 71 (f := .meth "Search" "longest") rfl)
  have C_longest : CalMt P w K mg base (He.ga K "Search") "longest" 4 ["self"] (spLongestS P w K (He.ga K "Search")) := ⟨clS, ⟨_, _, mS_longest, b_Search_longest, ok_slongest T clS nS_first nS_load nS_known C_best F_Search_longest⟩⟩
  have mS_paper := He.meth_ok (c.fact 72 (f := .meth "Search" "paper") rfl)
  have C_paper : CalMt P w K mg base (He.ga K "Search") "paper" 1 ["self"] (spPaper P w K (He.ga K "Search")) := ⟨clS, ⟨_, _, mS_paper, b_Search_paper, ok_paper T clS nS_states nS_known  F_Search_paper⟩⟩
  have C_Search : CalMk P w K mg base "Search" (He.ga K "Search") 4 ["self", "memory", "load"] (spSInit P w K (He.ga K "Memory") (He.ga K "Search")) := ⟨⟨_, _, gS, mkS, b_Search___init__, ok_sinit T clS nS_ends nS_load nS_first nS_states nS_known C_limits C_met C_rank F_Search___init__⟩⟩
  have C_held : Cal P w K mg base "held" 6 ["memory", "load"] (spHeld K (He.ga K "Memory")) := Cal.of F_held (He.glo_ok X G (c.fact 48 (f := .glo "held") rfl)) b_held (ok_held T clS nS_first nS_known C_need_load C_Search C_endless C_longest C_paper F_held)
  have C__law_copied : Cal P w K mg base "_law_copied" 1 ["_law_found"] (spNo) := Cal.of F__law_copied (He.glo_ok X G (c.fact 49 (f := .glo "_law_copied") rfl)) b__law_copied (copied_no T  F__law_copied)
  have K1 : Cal P w K mg base "_law_copied" 2 ["_law_found"] (spCopied 0 K) := Cal.of F__law_copied (He.glo_ok X G (c.fact 49 (f := .glo "_law_copied") rfl)) b__law_copied (ok_copied 0 (fun _ h => by cases h) T C__law_copied F__law_copied)
  have K2 : Cal P w K mg base "_law_copied" 3 ["_law_found"] (spCopied 1 K) := Cal.of F__law_copied (He.glo_ok X G (c.fact 49 (f := .glo "_law_copied") rfl)) b__law_copied (ok_copied 1 (fun _ h => by cases h; rfl) T K1 F__law_copied)
  have K3 : Cal P w K mg base "_law_copied" 4 ["_law_found"] (spCopied 2 K) := Cal.of F__law_copied (He.glo_ok X G (c.fact 49 (f := .glo "_law_copied") rfl)) b__law_copied (ok_copied 2 (fun _ h => by cases h; rfl) T K2 F__law_copied)
  have K4 : Cal P w K mg base "_law_copied" 5 ["_law_found"] (spCopied 3 K) := Cal.of F__law_copied (He.glo_ok X G (c.fact 49 (f := .glo "_law_copied") rfl)) b__law_copied (ok_copied 3 (fun _ h => by cases h; rfl) T K3 F__law_copied)
  have K5 : Cal P w K mg base "_law_copied" 6 ["_law_found"] (spCopied 4 K) := Cal.of F__law_copied (He.glo_ok X G (c.fact 49 (f := .glo "_law_copied") rfl)) b__law_copied (ok_copied 4 (fun _ h => by cases h; rfl) T K4 F__law_copied)
  have C__law_right : Cal P w K mg base "_law_right" 7 ["_law_words", "_law_load_here", "_law_memory_here", "_law_found"] (spRight K (He.ga K "Memory")) := Cal.of F__law_right (He.glo_ok X G (c.fact 50 (f := .glo "_law_right") rfl)) b__law_right (ok_right T C__law_are_words C__law_soonest C__law_like C__law_is_paper C_breaking F__law_right)
  have CSY : CalMkR P w K mg base "Search" (He.ga K "Search") 3 ["self", "memory", "load"] (spSInitMany K (He.ga K "Memory") (He.ga K "Search") (exC K 4)) := ⟨⟨_, _, gS, mkS, b_Search___init__, ok_sinitMany T clS nS_ends nS_load C_TooMany C_limits F_Search___init__⟩⟩
  have CH : CalR P w K mg base "held" 5 ["memory", "load"] (spHeldMany K (He.ga K "Memory") (exC K 4)) := ⟨⟨_, _, (He.glo_ok X G (c.fact 48 (f := .glo "held") rfl)), F_held.kp, b_held, ok_heldMany T C_need_load CSY F_held⟩⟩
  exact ok_law T C__law_dice C__law_small C__law_load C__law_many C__law_like K5 C__law_right C_held C_Memory CH CT F_law hcc
end Z
open PySem PySem.W PySem.Calls PyProof.Rows
set_option maxRecDepth 100000 in
set_option maxHeartbeats 0 in
theorem PySem.Challenge.cw_scrubround_k06_whole_held_or_shown_holds : PySem.Challenge.rw_scrubround_k06_whole_held_or_shown.Holds := by
  w_on; o_law
  refine HandSHeadRun.head_any (r := OpenLaw.row PySem.Challenge.rw_scrubround_k06_whole_held_or_shown) (q := view (OpenLaw.row PySem.Challenge.rw_scrubround_k06_whole_held_or_shown).prog [47]) (H := Z.hk) (ob := Z.hob) (M := 6000) (loose := Z.hloose) (d := HandSHeadRun.topDef (OpenLaw.row PySem.Challenge.rw_scrubround_k06_whole_held_or_shown).prog 47) (kwd := []) Z.hob_eq
    (by kernel_rfl) (fun s => by kernel_rfl) Z.hrun (by kernel_rfl) (by kernel_rfl) (by kernel_rfl) (by rfl) (by first | assumption | decide +kernel) (by decide +kernel) ⟨rfl, rfl, rfl, rfl, rfl, by decide +kernel⟩ ?hw ?hc
  case hw => w_witness2
  case hc =>
    refine LamX.walk_ofTsE (l := PySem.Challenge.rw_scrubround_k06_whole_held_or_shown) (n := 63) (k := 9) (x := "_law_script") (CX := fun _ => L2.CX0) rfl (by decide) (by kernel_rfl) ⟨rfl, by decide, by decide⟩ ?F (fun _ _ _ _ _ z => z)
    intro w mg fa h Y G hmg0
    obtain ⟨K, KX, c⟩ := Y
    have hmg : mg ("law" : PySem.Str) = some (.ref fa) := by
      have e : (HandSHeadRun.topDef (OpenLaw.row PySem.Challenge.rw_scrubround_k06_whole_held_or_shown).prog 47).name = ("law" : PySem.Str) := by kernel_rfl
      rw [← e]
      exact hmg0
    obtain ⟨fd, hb, hF⟩ := Z.hfacts (P := (PySem.Challenge.rw_scrubround_k06_whole_held_or_shown).prog) (w := w) KX G hmg c
    have m1 : ∀ p ∈ [He.cT K Z.lawN], p = He.cT K Z.lawN := fun p hp => List.mem_singleton.mp hp
    exact ⟨K, KX, fd, [He.cT K Z.lawN], Z.spLawT K (He.cT K Z.lawN).2, fun p hp => by rw [m1 p hp]; exact c.empty, fun p hp => by rw [m1 p hp]; exact c.out, fun p hp => by rw [m1 p hp]; exact codeHd_of_K KX c.hd, hb, fun H a ns hl _ hT hS => ⟨a, ns, rfl, hS, hl, hT _ (List.mem_singleton.mpr rfl), fun _ => rfl⟩, fun base kb gb tb => hF base kb gb (tb _ (List.mem_singleton.mpr rfl))⟩
