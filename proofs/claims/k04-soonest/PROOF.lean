import PyProof.Rows.All
import Wide.All
import OpenK.AllK
import Wide.FinOn
import HandS.ForMost
import HandS.TupLe
import HandS.TupAny
import HandS.Style
import HandS.Flow
import HandS.Codes
import HandS.SortInts
import HandS.Walk
import HandS.NoneIn
import HandS.Conv
import HandS.IsInst
import HandS.SetFor
import KE.KStateDown
import HandS.Words
import HandS.WordsExc
import HandS.Defaults
import HandS.Head0
import HandS.Head1
import HandS.Head2
import HandS.HeadEnd
import HandS.HeadHook1
import HandS.HeadHook2
import PySem.Challenge.RW_scrubround_k04_whole_lost_as_soon_as_can
set_option Elab.async false
set_option linter.all false
set_option maxRecDepth 100000
set_option maxHeartbeats 4000000
/-! Own base layer: two heaps (G, what is never written again, and H, all that is tracked), readings step by step, flat data. -/
namespace Z
open PySem PySem.Spec PyProof.Rows L2

/-! ### growing heaps -/
/-- from (G, H) to (G', H'): what was kept is kept; what was tracked stands but at X; nothing that was tracked and open is closed -/
structure Gr (X : Addr → Prop) (G H G' H' : Hp) : Prop where
  gg : Same G G'
  sub : Same G' H'
  old : ∀ b o, ¬ X b → H b = some o → H' b = some o
  dom : ∀ b o, H b = some o → ∃ o', H' b = some o'
  dis : ∀ b o, H b = some o → G b = none → G' b = none
abbrev No : Addr → Prop := fun _ => False
theorem Gr.refl {X : Addr → Prop} {G H : Hp} (s : Same G H) : Gr X G H G H := ⟨Same.refl G, s, fun _ _ _ h => h, fun _ o h => ⟨o, h⟩, fun _ _ _ h => h⟩
theorem Gr.trans {X : Addr → Prop} {G H G1 H1 G2 H2 : Hp} (a : Gr X G H G1 H1) (b : Gr X G1 H1 G2 H2) : Gr X G H G2 H2 :=
  ⟨a.gg.trans b.gg, b.sub, fun c o n h => b.old c o n (a.old c o n h), fun c o h => (a.dom c o h).elim fun o' h' => b.dom c o' h', fun c o h g => (a.dom c o h).elim fun o' h' => b.dis c o' h' (a.dis c o h g)⟩
/-- a step that writes elsewhere: only at X, or at what is new -/
theorem Gr.seq {X Y : Addr → Prop} {G H G1 H1 G2 H2 : Hp} (a : Gr X G H G1 H1) (b : Gr Y G1 H1 G2 H2) (hy : ∀ c, Y c → X c ∨ H c = none) : Gr X G H G2 H2 :=
  ⟨a.gg.trans b.gg, b.sub, fun c o n h => b.old c o (fun y => (hy c y).elim n fun z => by rw [h] at z; cases z) (a.old c o n h), fun c o h => (a.dom c o h).elim fun o' h' => b.dom c o' h', fun c o h g => (a.dom c o h).elim fun o' h' => b.dis c o' h' (a.dis c o h g)⟩
theorem Gr.seqN {X : Addr → Prop} {G H G1 H1 G2 H2 : Hp} (a : Gr X G H G1 H1) (b : Gr No G1 H1 G2 H2) : Gr X G H G2 H2 := a.seq b fun _ h => h.elim
theorem Gr.wide {X : Addr → Prop} {G H G1 H1 : Hp} (a : Gr No G H G1 H1) (s : Same G H) : Gr X G H G1 H1 := (Gr.refl s).seqN a
theorem Gr.fresh {X : Addr → Prop} {G H G1 H1 : Hp} (a : Gr X G H G1 H1) {p : Addr} (h : H1 p = none) : H p = none := by
  cases e : H p with
  | none => rfl
  | some o =>
    obtain ⟨o', h'⟩ := a.dom p o e
    rw [h] at h'
    cases h'
/-- a new object, open -/
theorem Gr.new {X : Addr → Prop} {G0 H0 G H : Hp} (a : Gr X G0 H0 G H) {p : Addr} {o : HO} (hp : H p = none) : Gr X G0 H0 G (upd H p o) :=
  ⟨a.gg, fun b u e => by rw [upd_ne (ne_of_none (a.sub b u e) hp)]; exact a.sub b u e, fun b u n h => by rw [upd_ne (ne_of_none (a.old b u n h) hp)]; exact a.old b u n h,
    fun b u h => (a.dom b u h).elim fun o' h' => ⟨o', by rw [upd_ne (ne_of_none h' hp)]; exact h'⟩, a.dis⟩
/-- a new object, closed at once -/
theorem Gr.pub {X : Addr → Prop} {G0 H0 G H : Hp} (a : Gr X G0 H0 G H) {p : Addr} {o : HO} (hp : H p = none) : Gr X G0 H0 (upd G p o) (upd H p o) := by
  have gp : G p = none := a.sub.free hp
  refine ⟨fun b u e => ?_, fun b u e => ?_, fun b u n h => ?_, fun b u h => ?_, fun b u h g => ?_⟩
  · rw [upd_ne (ne_of_none (a.gg b u e) gp)]; exact a.gg b u e
  · by_cases q : b = p
    · subst q; rw [upd_same] at e; rw [upd_same]; exact e
    · rw [upd_ne q] at e; rw [upd_ne q]; exact a.sub b u e
  · rw [upd_ne (ne_of_none (a.old b u n h) hp)]; exact a.old b u n h
  · exact (a.dom b u h).elim fun o' h' => ⟨o', by rw [upd_ne (ne_of_none h' hp)]; exact h'⟩
  · obtain ⟨o', h'⟩ := a.dom b u h
    rw [upd_ne (ne_of_none h' hp)]; exact a.dis b u h g
theorem Gr.back {X : Addr → Prop} {G H G1 H1 : Hp} (a : Gr X G H G1 H1) : Gr X G H G H1 := ⟨Same.refl G, a.gg.trans a.sub, a.old, a.dom, fun _ _ _ h => h⟩
/-- an open object: it stands in H, nobody keeps it -/
structure At (G H : Hp) (p : Addr) (o : HO) : Prop where
  h : H p = some o
  g : G p = none
theorem At.of {G0 H0 G H : Hp} {X : Addr → Prop} (a : Gr X G0 H0 G H) {p : Addr} {o : HO} (hp : H p = none) : At G (upd H p o) p o := ⟨upd_same, a.sub.free hp⟩
theorem At.mono {X : Addr → Prop} {G H G1 H1 : Hp} {p : Addr} {o : HO} (t : At G H p o) (a : Gr X G H G1 H1) (n : ¬ X p) : At G1 H1 p o := ⟨a.old p o n t.h, a.dis p o t.h t.g⟩
theorem At.monoN {G H G1 H1 : Hp} {p : Addr} {o : HO} (t : At G H p o) (a : Gr No G H G1 H1) : At G1 H1 p o := t.mono a fun z => z
theorem At.ne {G H : Hp} {p q : Addr} {o u : HO} (t : At G H p o) (h : H q = some u) (d : o ≠ u) : p ≠ q := ne_of t.h h d
/-- an open object is written -/
theorem Gr.mut {X : Addr → Prop} {G0 H0 G H : Hp} (a : Gr X G0 H0 G H) {p : Addr} {o u : HO} (t : At G H p o) (n : X p ∨ H0 p = none) : Gr X G0 H0 G (upd H p u) := by
  refine ⟨a.gg, fun b v e => ?_, fun b v m h => ?_, fun b v h => ?_, a.dis⟩
  · have q : b ≠ p := fun q => by rw [q, t.g] at e; cases e
    rw [upd_ne q]; exact a.sub b v e
  · have q : b ≠ p := fun q => by
      subst q
      rcases n with n | n
      · exact m n
      · rw [n] at h; cases h
    rw [upd_ne q]; exact a.old b v m h
  · by_cases q : b = p
    · exact ⟨u, by rw [q, upd_same]⟩
    · obtain ⟨o', h'⟩ := a.dom b v h
      exact ⟨o', by rw [upd_ne q]; exact h'⟩
theorem At.put {G H : Hp} {p : Addr} {o u : HO} (t : At G H p o) : At G (upd H p u) p u := ⟨upd_same, t.g⟩
theorem At.off {G H : Hp} {p q : Addr} {o u : HO} (t : At G H p o) (h : p ≠ q) : At G (upd H q u) p o := ⟨by rw [upd_ne h]; exact t.h, t.g⟩
theorem At.new {G H : Hp} {p q : Addr} {o u : HO} (t : At G H p o) (h : H q = none) : At G (upd H q u) p o := t.off (ne_of_none t.h h)
theorem At.pub {G H : Hp} {p q : Addr} {o u : HO} (t : At G H p o) (h : H q = none) : At (upd G q u) (upd H q u) p o := ⟨(t.new h).h, by rw [upd_ne (ne_of_none t.h h)]; exact t.g⟩
/-- an open object is closed -/
theorem Gr.close {X : Addr → Prop} {G0 H0 G H : Hp} (a : Gr X G0 H0 G H) {p : Addr} {o : HO} (t : At G H p o) (n : H0 p = none) : Gr X G0 H0 (upd G p o) H := by
  refine ⟨fun b u e => ?_, fun b u e => ?_, a.old, a.dom, fun b u h g => ?_⟩
  · rw [upd_ne (ne_of_none (a.gg b u e) t.g)]; exact a.gg b u e
  · by_cases q : b = p
    · subst q; rw [upd_same] at e; rw [← e]; exact t.h
    · rw [upd_ne q] at e; exact a.sub b u e
  · rw [upd_ne (ne_of_none h n)]; exact a.dis b u h g
theorem At.close {G H : Hp} {p q : Addr} {o u : HO} (t : At G H p o) (h : p ≠ q) : At (upd G q u) H p o := ⟨t.h, by rw [upd_ne h]; exact t.g⟩
theorem same_close {G H : Hp} {p : Addr} {o : HO} (t : At G H p o) : Same G (upd G p o) := fun b u e => by rw [upd_ne (ne_of_none e t.g)]; exact e
theorem same_new {H : Hp} {p : Addr} {o : HO} (h : H p = none) : Same H (upd H p o) := fun b u e => by rw [upd_ne (ne_of_none e h)]; exact e

/-! ### data -/
section
variable {K : PySem.W.Frag} {G H G' H' : Hp}
theorem sqt {a : Addr} {xs : List V} (e : Same G G') (h : SqT K G a xs) : SqT K G' a xs := by
  rcases h with (h | ⟨o, h⟩) | h
  · exact .inl (.inl (e _ _ h))
  · exact .inl (.inr ⟨o, e _ _ h⟩)
  · exact .inr h
theorem sql {a : Addr} {xs : List V} (e : Same G G') (h : SqL K G a xs) : SqL K G' a xs := e.seq h
/-- two lists side by side -/
theorem Paired.at {α β : Type} {R : α → β → Prop} : ∀ {xs : List α} {ys : List β}, Paired R xs ys → ∀ {i : Nat} {x : α} {y : β}, xs[i]? = some x → ys[i]? = some y → R x y
  | _, _, .nil, i, x, y, h, _ => by simp at h
  | _, _, .cons r t, 0, x, y, h, k => by
    simp at h k
    subst h; subst k
    exact r
  | _, _, .cons r t, i + 1, x, y, h, k => Paired.at t (i := i) (by simpa using h) (by simpa using k)
theorem Paired.imp {α β : Type} {R S : α → β → Prop} (f : ∀ x y, R x y → S x y) : ∀ {xs : List α} {ys : List β}, Paired R xs ys → Paired S xs ys
  | _, _, .nil => .nil
  | _, _, .cons r t => .cons (f _ _ r) (Paired.imp f t)
theorem Paired.len {α β : Type} {R : α → β → Prop} : ∀ {xs : List α} {ys : List β}, Paired R xs ys → xs.length = ys.length
  | _, _, .nil => rfl
  | _, _, .cons _ t => congrArg (· + 1) (Paired.len t)
theorem Paired.snoc {α β : Type} {R : α → β → Prop} {x : α} {y : β} (r : R x y) : ∀ {xs : List α} {ys : List β}, Paired R xs ys → Paired R (xs ++ [x]) (ys ++ [y])
  | _, _, .nil => .cons r .nil
  | _, _, .cons q t => .cons q (Paired.snoc r t)
theorem prt {as : List Addr} {ts : List (List V)} (e : Same G G') (h : Paired (fun p t => SqT K G p t) as ts) : Paired (fun p t => SqT K G' p t) as ts := Paired.imp (fun _ _ => sqt e) h
/-- at a stands a list of tuples -/
theorem ls {a : Addr} {xs : List V} (h : G a = some (.lst xs)) (s : Same G H) : SqL K H a xs := .inl (.inl (s _ _ h))
theorem ts {a : Addr} {xs : List V} (h : G a = some (.tup xs)) (s : Same G H) : SqT K H a xs := .inl (.inl (s _ _ h))
def TupL (K : PySem.W.Frag) (G : Hp) (a : Addr) (ts : List (List V)) : Prop := ∃ as : List Addr, G a = some (.lst (as.map V.ref)) ∧ Paired (fun p t => SqT K G p t) as ts
theorem TupL.mono {a : Addr} {ts : List (List V)} (e : Same G G') (h : TupL K G a ts) : TupL K G' a ts := by
  obtain ⟨as, h1, h2⟩ := h
  exact ⟨as, e _ _ h1, Paired.imp (fun _ _ => sqt e) h2⟩
mutual
theorem Dp.mono (e : Same G G') : ∀ (d : PyData) (v : V), Dp K G v d → Dp K G' v d
  | .none, _, h => by cases h; exact .non
  | .bool b, _, h => by cases h; exact .bl b
  | .int i, _, h => by cases h; exact .int i
  | .str x, _, h => by cases h; exact .str x
  | .list ds, _, h => by
    cases h with
    | lst hs ha => exact .lst (sql e hs) (DpAll.mono e ds _ ha)
  | .tuple ds, _, h => by
    cases h with
    | tup hs ha => exact .tup (sqt e hs) (DpAll.mono e ds _ ha)
  | .dict _, _, h => by cases h
theorem DpAll.mono (e : Same G G') : ∀ (ds : List PyData) (vs : List V), DpAll K G vs ds → DpAll K G' vs ds
  | [], _, h => by cases h; exact .nil
  | d :: ds, _, h => by
    cases h with
    | cons h1 h2 => exact .cons (Dp.mono e d _ h1) (DpAll.mono e ds _ h2)
end
theorem dpAll_ints : ∀ ns : List Int, DpAll K G (ns.map V.int) (ns.map PyData.int)
  | [] => .nil
  | n :: ns => .cons (.int n) (dpAll_ints ns)
theorem Dp.ints {a : Addr} {ns : List Int} (h : SqL K G a (ns.map V.int)) : Dp K G (.ref a) (.list (ns.map PyData.int)) := .lst h (dpAll_ints ns)
theorem dpAll_append : ∀ {xs ys : List V} {ds es : List PyData}, DpAll K G xs ds → DpAll K G ys es → DpAll K G (xs ++ ys) (ds ++ es)
  | _, _, _, _, .nil, h => h
  | _, _, _, _, .cons a b, h => .cons a (dpAll_append b h)
/-- a number or None -/
def vO : Option Int → V
  | none => .non
  | some i => .int i
def dO : Option Int → PyData
  | none => .none
  | some i => .int i
theorem dp_vO : ∀ o : Option Int, Dp K G (vO o) (dO o)
  | none => .non
  | some i => .int i
theorem dpAll_vO : ∀ os : List (Option Int), DpAll K G (os.map vO) (os.map dO)
  | [] => .nil
  | o :: os => .cons (dp_vO o) (dpAll_vO os)
end

/-! ### readings, step by step -/
section
variable {K : PySem.W.Frag} {σ : L2.St} {H : Hp} {Q : VK} {i j : Int} {n : Nat} {v x y : V} {ta tb tc te : TE} {r r' : R2} {b : Bool}
theorem i_var {k : Nat} (h : σ[k]? = some (some v)) (q : Q v H) : tVar k σ H Q := ⟨v, h, q⟩
theorem i_c (q : Q v H) : tC v σ H Q := q
theorem i_op (q : ta σ H fun x H1 => tb σ H1 fun y H2 => r x y H2 Q) : tOp r ta tb σ H Q := q
theorem i_un {u : V → Hp → VK → Prop} (q : ta σ H fun x H1 => u x H1 Q) : tUn u ta σ H Q := q
theorem i_I0 {g : Int → Int → V} (q : Q (g i j) H) : rI0 g (.int i) (.int j) H Q := ⟨i, j, rfl, rfl, q⟩
theorem i_I {C : Int → Int → Prop} {g : Int → Int → V} (c : C i j) (q : Q (g i j) H) : rI C g (.int i) (.int j) H Q := ⟨i, j, rfl, rfl, c, q⟩
theorem i_U {g : Int → V} (q : Q (g i) H) : rU g (.int i) H Q := ⟨i, rfl, q⟩
theorem i_eqI (q : Q (.bl (decide (i = j))) H) : rEq (.int i) (.int j) H Q := ⟨rfl, by
  have e : decide (V.int i = V.int j) = decide (i = j) := decide_eq_decide.mpr ⟨fun h => V.int.inj h, fun h => by rw [h]⟩
  rw [e]; exact q⟩
theorem i_neI (q : Q (.bl (!decide (i = j))) H) : rNe (.int i) (.int j) H Q := ⟨rfl, by
  have e : decide (V.int i = V.int j) = decide (i = j) := decide_eq_decide.mpr ⟨fun h => V.int.inj h, fun h => by rw [h]⟩
  rw [e]; exact q⟩
theorem i_eqOI {o : Option Int} (q : Q (.bl (decide (o = some j))) H) : rEq (vO o) (.int j) H Q := by
  cases o with
  | none => exact ⟨rfl, by
      have e : decide (V.non = V.int j) = false := decide_eq_false (by intro z; cases z)
      show Q (.bl (decide (V.non = V.int j))) H
      rw [e]; simpa using q⟩
  | some i => exact i_eqI (by simpa using q)
theorem i_eqIO {o : Option Int} (q : Q (.bl (decide (o = some j))) H) : rEq (.int j) (vO o) H Q := by
  cases o with
  | none => exact ⟨rfl, by
      have e : decide (V.int j = V.non) = false := decide_eq_false (by intro z; cases z)
      show Q (.bl (decide (V.int j = V.non))) H
      rw [e]; simpa using q⟩
  | some i => exact i_eqI (by simpa [eq_comm] using q)
theorem i_test {P : Bool → Hp → Prop} (q : te σ H fun x H' => ∃ k, x = .bl k ∧ P k H') : tTest te σ H P := q
theorem i_B {P : Bool → Hp → Prop} (q : te σ H fun x H' => ∃ k, x = .bl k ∧ P k H') : tB te σ H P := q
theorem i_k {P : Bool → Hp → Prop} (q : P b H) : ∃ k, V.bl b = .bl k ∧ P k H := ⟨b, rfl, q⟩
theorem i_nil {P : List V → Hp → Prop} (q : P [] H) : tNil σ H P := q
theorem i_cons {P : List V → Hp → Prop} {tr : TA} (q : ta σ H fun x H1 => tr σ H1 fun xs H2 => P (x :: xs) H2) : tCons ta tr σ H P := q
def NewL (xs : List V) (H : Hp) (Q : VK) : Prop := xs.length ≤ sizeLine ∧ ∀ p, H p = none → Q (.ref p) (upd H p (.lst xs))
def NewT (xs : List V) (H : Hp) (Q : VK) : Prop := xs.length ≤ sizeLine ∧ ∀ p, H p = none → Q (.ref p) (upd H p (.tup xs))
theorem i_lst {t : TA} (q : t σ H fun xs H1 => NewL xs H1 Q) : tLst t σ H Q := q
theorem i_tup {t : TA} (q : t σ H fun xs H1 => NewT xs H1 Q) : tTup t σ H Q := q
theorem i_cb {rr : List V → Hp → VK → Prop} {t : TA} (q : t σ H fun vs H1 => rr vs H1 Q) : tCB rr t σ H Q := q
theorem i_call {sp : Sp} {E : XK} {t : TA} (q : t σ H fun vs H1 => sp (vs ++ []) H1 Q E) : tCall sp [] E t σ H Q := q
theorem i_if {t : TT} (q : t σ H fun c H1 => if c = true then ta σ H1 Q else tb σ H1 Q) : tIf t ta tb σ H Q := q
theorem i_not {t : TT} {P : Bool → Hp → Prop} (q : t σ H fun c H1 => P (!c) H1) : tNot t σ H P := q
theorem i_and {t u : TT} {P : Bool → Hp → Prop} (q : t σ H fun c H1 => if c = true then u σ H1 P else P false H1) : tAnd t u σ H P := q
theorem i_or {t u : TT} {P : Bool → Hp → Prop} (q : t σ H fun c H1 => if c = true then P true H1 else u σ H1 P) : tOr t u σ H P := q
theorem i_ixL {p : Addr} {xs : List V} (h : SqL K H p xs) (a : atI xs i = some v) (q : Q v H) : rIxL K (.ref p) (.int i) H Q := ⟨p, xs, i, v, rfl, rfl, h, a, q⟩
theorem i_ixT {p : Addr} {xs : List V} (h : SqT K H p xs) (a : atI xs i = some v) (q : Q v H) : rIxT K (.ref p) (.int i) H Q := ⟨p, xs, i, v, rfl, rfl, h, a, q⟩
theorem i_ite {c : Prop} [Decidable c] {A B : Prop} (h1 : c → A) (h2 : ¬ c → B) : if decide c = true then A else B := by
  by_cases h : c
  · rw [if_pos (decide_eq_true h)]; exact h1 h
  · rw [if_neg (by simpa using h)]; exact h2 h
theorem i_iteN {c : Prop} [Decidable c] {A B : Prop} (h1 : ¬ c → A) (h2 : c → B) : if (!decide c) = true then A else B := by
  by_cases h : c
  · rw [if_neg (by simpa using h)]; exact h2 h
  · rw [if_pos (by simpa using h)]; exact h1 h
theorem i_t {A B : Prop} (h : A) : if true = true then A else B := by rw [if_pos rfl]; exact h
theorem i_f {A B : Prop} (h : B) : if false = true then A else B := by rw [if_neg Bool.false_ne_true]; exact h
theorem i_nt {A B : Prop} (h : B) : if (!true) = true then A else B := i_f h
theorem i_nf {A B : Prop} (h : A) : if (!false) = true then A else B := i_t h
/-- a test, by what its answer is equal to -/
theorem i_b {k : Bool} {A B : Prop} (h1 : k = true → A) (h2 : k = false → B) : if k = true then A else B := by
  cases k with
  | true => exact i_t (h1 rfl)
  | false => exact i_f (h2 rfl)
theorem i_chain (q : ta σ H fun x H1 => tb σ H1 fun y H2 => r x y H2 fun z H3 => ∃ k, z = .bl k ∧ (if k = true then tc σ H3 fun w' H4 => r' y w' H4 Q else Q (.bl false) H3)) : tChain r r' ta tb tc σ H Q := q
theorem dec_non (o : Option Int) : decide (vO o = V.non) = decide (o = none) := by cases o <;> simp [vO]
def rIsNz : R2 := fun x y H Q => y = .non ∧ Q (.bl (decide (x = .non))) H
def rNotNz : R2 := fun x y H Q => y = .non ∧ Q (.bl (!decide (x = .non))) H
theorem op_isNz {X : Cx} : OpR X (compareOp .Is) rIsNz := op_isN
theorem op_notNz {X : Cx} : OpR X (compareOp .IsNot) rNotNz := op_notN
theorem i_isO {o : Option Int} (q : Q (.bl (decide (o = none))) H) : rIsNz (vO o) .non H Q := ⟨rfl, by rw [dec_non]; exact q⟩
theorem i_isR {a : Addr} (q : Q (.bl false) H) : rIsNz (.ref a) .non H Q := ⟨rfl, q⟩
theorem i_isN (q : Q (.bl true) H) : rIsNz .non .non H Q := ⟨rfl, q⟩
theorem i_isI (q : Q (.bl false) H) : rIsNz (.int i) .non H Q := ⟨rfl, q⟩
theorem i_noO {o : Option Int} (q : Q (.bl (!decide (o = none))) H) : rNotNz (vO o) .non H Q := ⟨rfl, by rw [dec_non]; exact q⟩
theorem i_noR {a : Addr} (q : Q (.bl true) H) : rNotNz (.ref a) .non H Q := ⟨rfl, q⟩
theorem i_noN (q : Q (.bl false) H) : rNotNz .non .non H Q := ⟨rfl, q⟩
theorem i_noI (q : Q (.bl true) H) : rNotNz (.int i) .non H Q := ⟨rfl, q⟩
theorem i_bm {T : String} {rr : V → List V → Hp → VK → Prop} {t : TA} (q : ta σ H fun x H1 => tyV K T x H1 ∧ t σ H1 fun xs H2 => rr x xs H2 Q) : tBM K T rr ta t σ H Q := q
theorem i_bm0 {T : String} {rr : V → List V → Hp → VK → Prop} (q : ta σ H fun x H1 => tyV K T x H1 ∧ rr x [] H1 Q) : tBM0 K T rr ta σ H Q := q
theorem i_and2 (q : ta σ H fun x H1 => ∃ c, x = .bl c ∧ if c = true then tb σ H1 Q else Q (.bl false) H1) : tAndV ta tb σ H Q := q
theorem i_or2 (q : ta σ H fun x H1 => ∃ c, x = .bl c ∧ if c = true then Q (.bl true) H1 else tb σ H1 Q) : tOrV ta tb σ H Q := q
theorem i_sl {rs : V → Option Int → Option Int → Hp → VK → Prop} {tl th : TO} (q : te σ H fun x H1 => tl σ H1 fun l H2 => th σ H2 fun u H3 => rs x l u H3 Q) : tSl rs te tl th σ H Q := q
theorem i_part {P : Option Int → Hp → Prop} (q : te σ H fun x H1 => ∃ i, x = .int i ∧ P (some i) H1) : tPart te σ H P := q
theorem i_nopart {P : Option Int → Hp → Prop} (q : P none H) : tNoPart σ H P := q
variable {D : Ends} {t u : TS} {f : L2.St → Hp → Prop} {F2 : V → Hp → Prop} {f3 f4 : L2.St → Hp → Prop}
theorem i_seq (q : t { D with nx := u D } σ H) : tSeq t u D σ H := q
theorem i_nx (q : f σ H) : Ends.nx ⟨f, F2, f3, f4⟩ σ H := q
theorem i_rt (q : F2 v H) : Ends.rt ⟨f, F2, f3, f4⟩ v H := q
theorem i_cut (q : ∃ Mid : L2.St → Hp → Prop, t { D with nx := Mid } σ H ∧ ∀ σ' H', Mid σ' H' → u D σ' H') : C8.tCut t u D σ H := q
def Par3 (i j l : Nat) (D : Ends) (σ : L2.St) (vs : List V) (H : Hp) : Prop := ∃ u v w, vs = [u, v, w] ∧ D.nx (((σ.set i (some u)).set j (some v)).set l (some w)) H
theorem i_par3 {i j l : Nat} {ts : TA} (q : ts σ H fun vs H1 => Par3 i j l D σ vs H1) : tPar3 i j l ts D σ H := q
theorem i_par3e {i j l : Nat} {a b c : V} (q : D.nx (((σ.set i (some a)).set j (some b)).set l (some c)) H) : Par3 i j l D σ [a, b, c] H := ⟨a, b, c, rfl, q⟩
def Par2 (i j : Nat) (D : Ends) (σ : L2.St) (vs : List V) (H : Hp) : Prop := ∃ v w, vs = [v, w] ∧ D.nx ((σ.set i (some v)).set j (some w)) H
theorem i_par2 {i j : Nat} {ts : TA} (q : ts σ H fun vs H1 => Par2 i j D σ vs H1) : tPar i j ts D σ H := q
theorem i_par2e {i j : Nat} {a b : V} (q : D.nx ((σ.set i (some a)).set j (some b)) H) : Par2 i j D σ [a, b] H := ⟨a, b, rfl, q⟩
theorem i_pass (q : D.nx σ H) : tNext D σ H := q
theorem i_asg {g : TG} (q : te σ H fun x H1 => g x σ H1 D.nx) : tAsg te g D σ H := q
theorem i_gname {P : L2.St → Hp → Prop} {k : Nat} (q : P (σ.set k (some v)) H) : gName k v σ H P := q
theorem i_ret (q : te σ H D.rt) : tRet te D σ H := q
theorem i_drop (q : te σ H fun _ H1 => D.nx σ H1) : tDrop te D σ H := q
theorem i_ifS {c : TT} (q : c σ H fun b H1 => if b = true then t D σ H1 else u D σ H1) : tIfS c t u D σ H := q
theorem i_gsub {to ti : TE} {ts : TSet} {P : L2.St → Hp → Prop} (q : to σ H fun o H1 => ti σ H1 fun i H2 => ts o i v H2 fun H3 => P σ H3) : gSub to ti ts v σ H P := q
theorem i_setL {P : Hp → Prop} {p : Addr} {xs : List V} {k : Nat} (ys : List V) (h : H p = some (.lst xs)) (hi : ixN xs.length i = some k) (e : xs.set k v = ys) (q : P (upd H p (.lst ys))) : rSetL (.ref p) (.int i) v H P := ⟨p, xs, i, k, rfl, rfl, h, hi, by rw [e]; exact q⟩
theorem i_gtup {g : TGs} {n : Nat} {P : L2.St → Hp → Prop} {a : Addr} {xs : List V} (h : SqT K H a xs) (hl : xs.length = n) (q : g xs σ H P) : gTup K n g (.ref a) σ H P := ⟨a, xs, rfl, h, hl, q⟩
theorem i_gcons {t : TG} {u : TGs} {P : L2.St → Hp → Prop} {vs : List V} (q : t v σ H fun σ' H' => u vs σ' H' P) : gCons t u (v :: vs) σ H P := ⟨v, vs, rfl, q⟩
theorem i_gnil {P : L2.St → Hp → Prop} (q : P σ H) : gNil [] σ H P := ⟨rfl, q⟩
/-! ### loops and comprehensions, by what they walk -/
def ForL (K : PySem.W.Frag) (g : TG) (tb : TS) (D : Ends) (σ : L2.St) (x : V) (H : Hp) : Prop := ∃ a, x = .ref a ∧ (∃ xs, SqL K H a xs) ∧ tFor (fun _ H R => R (Itl K a) H) g tb D σ H
def ForT (K : PySem.W.Frag) (g : TG) (tb : TS) (D : Ends) (σ : L2.St) (x : V) (H : Hp) : Prop := ∃ a, x = .ref a ∧ (∃ xs, SqT K H a xs) ∧ tFor (fun _ H R => R (Itt K a) H) g tb D σ H
def ForR (g : TG) (tb : TS) (D : Ends) (σ : L2.St) (vs : List V) (H : Hp) : Prop := ∃ j : Int, vs = [.int j] ∧ -(2 ^ 62) ≤ j ∧ j < 2 ^ 62 ∧ tFor (fun _ H R => R (Itr 0 j.toNat) H) g tb D σ H
def ForR2 (g : TG) (tb : TS) (D : Ends) (σ : L2.St) (vs : List V) (H : Hp) : Prop := ∃ i j : Int, vs = [.int i, .int j] ∧ (-(2 ^ 62) ≤ i ∧ i < 2 ^ 62 ∧ -(2 ^ 62) ≤ j ∧ j < 2 ^ 62) ∧ tFor (fun _ H R => R (Itr i (j - i).toNat) H) g tb D σ H
theorem i_forL {tl : TE} {g : TG} (q : tl σ H fun x H1 => ForL K g t D σ x H1) : tFor (iList K tl) g t D σ H := q
theorem i_forT {tl : TE} {g : TG} (q : tl σ H fun x H1 => ForT K g t D σ x H1) : tFor (iTup K tl) g t D σ H := q
theorem i_forR {ts : TA} {g : TG} (q : ts σ H fun x H1 => ForR g t D σ x H1) : tFor (iRng1 ts) g t D σ H := q
theorem i_forR2 {ts : TA} {g : TG} (q : ts σ H fun x H1 => ForR2 g t D σ x H1) : tFor (iRng2 ts) g t D σ H := q
theorem forL {a : Addr} {xs : List V} {g : TG} (h : SqL K H a xs) (Pv : Nat → L2.St → Hp → Prop) (h0 : Pv 0 σ H) (hl : ∀ i σ H, i ≤ xs.length → Pv i σ H → SqL K H a xs)
    (hs : ∀ i x σ H, xs[i]? = some x → Pv i σ H → g x σ H fun σ2 H2 => t { D with nx := Pv (i + 1), ct := Pv (i + 1), bk := D.nx } σ2 H2) (hd : ∀ σ H, Pv xs.length σ H → D.nx σ H) : ForL K g t D σ (.ref a) H := ⟨a, rfl, ⟨xs, h⟩, for_list Pv h0 hl hs hd⟩
theorem forT {a : Addr} {xs : List V} {g : TG} (h : SqT K H a xs) (Pv : Nat → L2.St → Hp → Prop) (h0 : Pv 0 σ H) (hl : ∀ i σ H, i ≤ xs.length → Pv i σ H → SqT K H a xs)
    (hs : ∀ i x σ H, xs[i]? = some x → Pv i σ H → g x σ H fun σ2 H2 => t { D with nx := Pv (i + 1), ct := Pv (i + 1), bk := D.nx } σ2 H2) (hd : ∀ σ H, Pv xs.length σ H → D.nx σ H) : ForT K g t D σ (.ref a) H := ⟨a, rfl, ⟨xs, h⟩, for_tup Pv h0 hl hs hd⟩
theorem forR {n : Int} {g : TG} (h0' : 0 ≤ n) (h1 : n < 2 ^ 62) (Pv : Nat → L2.St → Hp → Prop) (h0 : Pv 0 σ H)
    (hs : ∀ i σ H, i < n.toNat → Pv i σ H → g (.int i) σ H fun σ2 H2 => t { D with nx := Pv (i + 1), ct := Pv (i + 1), bk := D.nx } σ2 H2) (hd : ∀ σ H, Pv n.toNat σ H → D.nx σ H) : ForR g t D σ [.int n] H :=
  ⟨n, rfl, by omega, h1, for_range (lo := 0) Pv h0 (fun i σ H a b => by rw [Int.zero_add]; exact hs i σ H a b) hd⟩
theorem forR2 {m n : Int} {g : TG} (hm0 : 0 ≤ m) (hm1 : m < 2 ^ 62) (hn0 : 0 ≤ n) (h1 : n < 2 ^ 62) (Pv : Nat → L2.St → Hp → Prop) (h0 : Pv 0 σ H)
    (hs : ∀ i σ H, i < (n - m).toNat → Pv i σ H → g (.int (m + i)) σ H fun σ2 H2 => t { D with nx := Pv (i + 1), ct := Pv (i + 1), bk := D.nx } σ2 H2) (hd : ∀ σ H, Pv (n - m).toNat σ H → D.nx σ H) : ForR2 g t D σ [.int m, .int n] H :=
  ⟨m, n, rfl, ⟨by omega, by omega, by omega, h1⟩, for_range (lo := m) Pv h0 hs hd⟩
def LcL (K : PySem.W.Frag) (g : TG) (tt : TT) (te : TE) (vs : List Nat) (σ : L2.St) (x : V) (H : Hp) (Q : VK) : Prop := ∃ a, x = .ref a ∧ (∃ xs, SqL K H a xs) ∧ tLc (fun _ H R => R (Itl K a) H) g tt te vs σ H Q
def LcT (K : PySem.W.Frag) (g : TG) (tt : TT) (te : TE) (vs : List Nat) (σ : L2.St) (x : V) (H : Hp) (Q : VK) : Prop := ∃ a, x = .ref a ∧ (∃ xs, SqT K H a xs) ∧ tLc (fun _ H R => R (Itt K a) H) g tt te vs σ H Q
def LcR (g : TG) (tt : TT) (te : TE) (vs : List Nat) (σ : L2.St) (xs : List V) (H : Hp) (Q : VK) : Prop := ∃ j : Int, xs = [.int j] ∧ -(2 ^ 62) ≤ j ∧ j < 2 ^ 62 ∧ tLc (fun _ H R => R (Itr 0 j.toNat) H) g tt te vs σ H Q
theorem i_lcL {tl : TE} {g : TG} {tt : TT} {vs : List Nat} (q : tl σ H fun x H1 => LcL K g tt te vs σ x H1 Q) : tLc (iList K tl) g tt te vs σ H Q := q
theorem i_lcT {tl : TE} {g : TG} {tt : TT} {vs : List Nat} (q : tl σ H fun x H1 => LcT K g tt te vs σ x H1 Q) : tLc (iTup K tl) g tt te vs σ H Q := q
theorem i_lcR {ts : TA} {g : TG} {tt : TT} {vs : List Nat} (q : ts σ H fun x H1 => LcR g tt te vs σ x H1 Q) : tLc (iRng1 ts) g tt te vs σ H Q := q
/-- the end of a turn: the item goes into the new list, or not -/
def LcE (te : TE) (C : Addr) (N : Hp → Prop) (σ : L2.St) (b : Bool) (H : Hp) : Prop := if b = true then te σ H fun y H4 => ∃ acc, H4 C = some (.lst acc) ∧ acc.length < sizeLine ∧ N (upd H4 C (.lst (acc ++ [y]))) else N H
/-- the turn's own test -/
def LcW (tt : TT) (te : TE) (C : Addr) (N : Hp → Prop) (s0 : L2.St) (vs : List Nat) (σ : L2.St) (H : Hp) : Prop := wipe σ vs = wipe s0 vs ∧ tt σ H fun b H3 => LcE te C N σ b H3
theorem lcL {a : Addr} {xs : List V} {g : TG} {tt : TT} {vs : List Nat} (h : SqL K H a xs) (Pv : Addr → Nat → Hp → Prop) (h0 : ∀ C, H C = none → Pv C 0 (upd H C (.lst []))) (hl : ∀ C i H', H C = none → Pv C i H' → SqL K H' a xs)
    (hs : ∀ C i x H', H C = none → xs[i]? = some x → Pv C i H' → g x (wipe σ vs) H' fun σ2 H2 => LcW tt te C (Pv C (i + 1)) σ vs σ2 H2) (hd : ∀ C H', H C = none → Pv C xs.length H' → Q (.ref C) H') : LcL K g tt te vs σ (.ref a) H Q :=
  ⟨a, rfl, ⟨xs, h⟩, fun C nC => lc_list (Pv C) (h0 C nC) (fun i H' _ p => hl C i H' nC p) (fun i x H' e p => hs C i x H' nC e p) (fun H' p => hd C H' nC p)⟩
theorem lcT {a : Addr} {xs : List V} {g : TG} {tt : TT} {vs : List Nat} (h : SqT K H a xs) (Pv : Addr → Nat → Hp → Prop) (h0 : ∀ C, H C = none → Pv C 0 (upd H C (.lst []))) (hl : ∀ C i H', H C = none → Pv C i H' → SqT K H' a xs)
    (hs : ∀ C i x H', H C = none → xs[i]? = some x → Pv C i H' → g x (wipe σ vs) H' fun σ2 H2 => LcW tt te C (Pv C (i + 1)) σ vs σ2 H2) (hd : ∀ C H', H C = none → Pv C xs.length H' → Q (.ref C) H') : LcT K g tt te vs σ (.ref a) H Q :=
  ⟨a, rfl, ⟨xs, h⟩, fun C nC => lc_tup (Pv C) (h0 C nC) (fun i H' _ p => hl C i H' nC p) (fun i x H' e p => hs C i x H' nC e p) (fun H' p => hd C H' nC p)⟩
theorem lcR {n : Int} {g : TG} {tt : TT} {vs : List Nat} (h0' : 0 ≤ n) (h1 : n < 2 ^ 62) (Pv : Addr → Nat → Hp → Prop) (h0 : ∀ C, H C = none → Pv C 0 (upd H C (.lst [])))
    (hs : ∀ C i H', H C = none → i < n.toNat → Pv C i H' → g (.int i) (wipe σ vs) H' fun σ2 H2 => LcW tt te C (Pv C (i + 1)) σ vs σ2 H2) (hd : ∀ C H', H C = none → Pv C n.toNat H' → Q (.ref C) H') : LcR g tt te vs σ [.int n] H Q :=
  ⟨n, rfl, by omega, h1, fun C nC => lc_range (lo := 0) (Pv C) (h0 C nC) (fun i H' hi p => by rw [Int.zero_add]; exact hs C i H' nC hi p) (fun H' p => hd C H' nC p)⟩
theorem i_lcw {tt : TT} {te : TE} {C : Addr} {N : Hp → Prop} {s0 : L2.St} {vs : List Nat} (e : wipe σ vs = wipe s0 vs) (q : tt σ H fun b H3 => LcE te C N σ b H3) : LcW tt te C N s0 vs σ H := ⟨e, q⟩
def LcP (C : Addr) (N : Hp → Prop) (y : V) (H : Hp) : Prop := ∃ acc, H C = some (.lst acc) ∧ acc.length < sizeLine ∧ N (upd H C (.lst (acc ++ [y])))
theorem i_lce {te : TE} {C : Addr} {N : Hp → Prop} (q : te σ H fun y H4 => LcP C N y H4) : LcE te C N σ true H := i_t (A := te σ H fun y H4 => LcP C N y H4) (B := N H) q
theorem i_lcf {te : TE} {C : Addr} {N : Hp → Prop} (q : N H) : LcE te C N σ false H := i_f (A := te σ H fun y H4 => LcP C N y H4) q
theorem i_lcd {c : Prop} [Decidable c] {te : TE} {C : Addr} {N : Hp → Prop} (h1 : c → te σ H fun y H4 => LcP C N y H4) (h2 : ¬ c → N H) : LcE te C N σ (decide c) H := by
  by_cases h : c
  · rw [decide_eq_true h]; exact i_lce (h1 h)
  · rw [decide_eq_false h]; exact i_lcf (h2 h)
theorem i_lcb {b : Bool} {te : TE} {C : Addr} {N : Hp → Prop} (h1 : b = true → te σ H fun y H4 => LcP C N y H4) (h2 : b = false → N H) : LcE te C N σ b H := by
  cases b with
  | true => exact i_lce (h1 rfl)
  | false => exact i_lcf (h2 rfl)
theorem i_lcP {c : Prop} [Decidable c] {te : TE} {C : Addr} {N : Hp → Prop} (h : c) (q : te σ H fun y H4 => LcP C N y H4) : LcE te C N σ (decide c) H := by rw [decide_eq_true h]; exact i_lce q
theorem i_lcN {c : Prop} [Decidable c] {te : TE} {C : Addr} {N : Hp → Prop} (h : ¬ c) (q : N H) : LcE te C N σ (decide c) H := by rw [decide_eq_false h]; exact i_lcf q
theorem i_lcnP {c : Prop} [Decidable c] {te : TE} {C : Addr} {N : Hp → Prop} (h : c) (q : N H) : LcE te C N σ (!decide c) H := by rw [decide_eq_true h]; exact i_lcf q
theorem i_lcnN {c : Prop} [Decidable c] {te : TE} {C : Addr} {N : Hp → Prop} (h : ¬ c) (q : te σ H fun y H4 => LcP C N y H4) : LcE te C N σ (!decide c) H := by rw [decide_eq_false h]; exact i_lce q
theorem i_lcnd {c : Prop} [Decidable c] {te : TE} {C : Addr} {N : Hp → Prop} (h1 : ¬ c → te σ H fun y H4 => LcP C N y H4) (h2 : c → N H) : LcE te C N σ (!decide c) H := by
  by_cases h : c
  · exact i_lcnP h (h2 h)
  · exact i_lcnN h (h1 h)
theorem i_yes {P : Bool → Hp → Prop} (q : P true H) : tYes σ H P := q
/-- the item is put: the new list is open at C -/
theorem lcp {G : Hp} {C : Addr} {N : Hp → Prop} {acc : List V} {v : V} (t : At G H C (.lst acc)) (hl : acc.length ≤ 100000) (q : N (upd H C (.lst (acc ++ [v])))) : LcP C N v H := ⟨acc, t.h, Nat.lt_of_le_of_lt hl (by decide), q⟩
/-! ### what is new -/
variable {X0 : Addr → Prop} {G0 H0 G : Hp}
theorem newL {xs : List V} (g : Gr X0 G0 H0 G H) (hl : xs.length ≤ 100000) (k : ∀ p H', H p = none → H0 p = none → Gr No G H G H' → Gr X0 G0 H0 G H' → At G H' p (.lst xs) → Q (.ref p) H') : NewL xs H Q :=
  ⟨Nat.le_trans hl (by decide), fun p np => k p _ np (g.fresh np) (Gr.new (Gr.refl g.sub) np) (g.new np) (At.of g np)⟩
theorem newT {xs : List V} (g : Gr X0 G0 H0 G H) (hl : xs.length ≤ 100000) (k : ∀ p G' H', H p = none → H0 p = none → Gr No G H G' H' → Gr X0 G0 H0 G' H' → SqT K G' p xs → Q (.ref p) H') : NewT xs H Q :=
  ⟨Nat.le_trans hl (by decide), fun p np => k p _ _ np (g.fresh np) (Gr.pub (Gr.refl g.sub) np) (g.pub np) (.inl (.inl upd_same))⟩
/-- a new list, closed at once -/
theorem newLC {xs : List V} (g : Gr X0 G0 H0 G H) (hl : xs.length ≤ 100000) (k : ∀ p G' H', H p = none → H0 p = none → Gr No G H G' H' → Gr X0 G0 H0 G' H' → G' p = some (.lst xs) → Q (.ref p) H') : NewL xs H Q :=
  ⟨Nat.le_trans hl (by decide), fun p np => k p _ _ np (g.fresh np) (Gr.pub (Gr.refl g.sub) np) (g.pub np) upd_same⟩
/-- a new tuple, left open -/
theorem newTO {xs : List V} (g : Gr X0 G0 H0 G H) (hl : xs.length ≤ 100000) (k : ∀ p H', H p = none → H0 p = none → Gr No G H G H' → Gr X0 G0 H0 G H' → At G H' p (.tup xs) → Q (.ref p) H') : NewT xs H Q :=
  ⟨Nat.le_trans hl (by decide), fun p np => k p _ np (g.fresh np) (Gr.new (Gr.refl g.sub) np) (g.new np) (At.of g np)⟩
/-! ### built-in functions, by names of our own -/
def rLen (K : PySem.W.Frag) : List V → Hp → VK → Prop := fun xs H Q => ∃ p ys, xs = [.ref p] ∧ (SqL K H p ys ∨ SqT K H p ys) ∧ Q (.int (ys.length : Nat)) H
theorem cl_len {X : Cx} : CallR X (.builtin "len") (rLen X.K) := call_len_seq
theorem i_lenL {p : Addr} {ys : List V} (h : SqL K H p ys) (q : Q (.int (ys.length : Nat)) H) : rLen K [.ref p] H Q := ⟨p, ys, rfl, .inl h, q⟩
theorem i_lenT {p : Addr} {ys : List V} (h : SqT K H p ys) (q : Q (.int (ys.length : Nat)) H) : rLen K [.ref p] H Q := ⟨p, ys, rfl, .inr h, q⟩
def rInt : List V → Hp → VK → Prop := fun xs H Q => (∃ i, xs = [.int i] ∧ Q (.int i) H) ∨ ∃ k, xs = [.bl k] ∧ Q (.int (if k then 1 else 0)) H
theorem cl_int {X : Cx} : CallR X (.type "int") rInt := call_int1
theorem i_intI (q : Q (.int i) H) : rInt [.int i] H Q := .inl ⟨i, rfl, q⟩
theorem i_intB (q : Q (.int (if b then 1 else 0)) H) : rInt [.bl b] H Q := .inr ⟨b, rfl, q⟩
def rList (K : PySem.W.Frag) : List V → Hp → VK → Prop := fun xs H Q => ∃ p ys, xs = [.ref p] ∧ (SqL K H p ys ∨ SqT K H p ys) ∧ ∀ l, H l = none → Q (.ref l) (upd H l (.lst ys))
theorem cl_list {X : Cx} : CallR X (.type "list") (rList X.K) := call_list_of
theorem i_listL {p : Addr} {ys : List V} (h : SqL K H p ys) (hl : ys.length ≤ sizeLine) (q : NewL ys H Q) : rList K [.ref p] H Q := ⟨p, ys, rfl, .inl h, q.2⟩
def rTuple (K : PySem.W.Frag) : List V → Hp → VK → Prop := fun xs H Q => ∃ p ys, xs = [.ref p] ∧ ((SqL K H p ys ∧ ∀ l, H l = none → Q (.ref l) (upd H l (.tup ys))) ∨ (SqT K H p ys ∧ Q (.ref p) H))
theorem cl_tuple {X : Cx} : CallR X (.type "tuple") (rTuple X.K) := call_tuple_of
theorem i_tupleL {p : Addr} {ys : List V} (h : SqL K H p ys) (q : NewT ys H Q) : rTuple K [.ref p] H Q := ⟨p, ys, rfl, .inl ⟨h, q.2⟩⟩
theorem i_cat {l c : Addr} {xs zs : List V} (h1 : H l = some (.lst xs)) (h2 : H c = some (.lst zs)) (q : NewL (xs ++ zs) H Q) : rCat (.ref l) (.ref c) H Q := ⟨l, c, xs, zs, rfl, rfl, h1, h2, by rw [← List.length_append]; exact q.1, q.2⟩
theorem i_rep {l : Addr} {k : Int} {xs : List V} (h : H l = some (.lst xs)) (h0 : 0 ≤ k) (h1 : k ≤ 100000) (hl : xs.length * k.toNat ≤ 100000) (q : NewL (List.replicate k.toNat xs).flatten H Q) : rRep (.ref l) (.int k) H Q :=
  ⟨l, k, xs, rfl, rfl, h, by omega, by omega, Nat.le_trans hl (by decide), q.2⟩
def LRg (x : V) (H : Hp) (Q : VK) : Prop := ∃ n, x = .int n ∧ RgOk 0 n ∧ ∀ q, H q = none → Q (.ref q) (upd H q (.lst (rgV 0 n)))
theorem i_lrg (q : ta σ H fun x H1 => LRg x H1 Q) : tLstRg (tRg1 ta) σ H Q := q
theorem lrg {n : Int} (h0 : 0 ≤ n) (h1 : n ≤ 100000) (q : NewL (rgV 0 n) H Q) : LRg (.int n) H Q := ⟨n, rfl, RgOk.of_le (by omega) (by omega) (by omega) (by omega), q.2⟩
theorem i_slL {a : Addr} {xs : List V} {lo hi : Option Int} (h : SqL K H a xs) (q : NewL (cutV xs lo hi) H Q) : rSlL K (.ref a) lo hi H Q := ⟨a, xs, rfl, h, q.2⟩
theorem i_slT {a : Addr} {xs : List V} {lo hi : Option Int} (h : SqT K H a xs) (n : ¬ (HT.sIx xs.length 0 lo = 0 ∧ HT.sIx xs.length xs.length hi = xs.length)) (q : NewT (cutV xs lo hi) H Q) : rSlT K (.ref a) lo hi H Q := ⟨a, xs, rfl, h, n, q.2⟩
theorem i_append {l : Addr} {xs : List V} {y : V} (h : H l = some (.lst xs)) (hl : xs.length ≤ 100000) (q : Q .non (upd H l (.lst (xs ++ [y])))) : rAppend (.ref l) [y] H Q := ⟨l, xs, y, rfl, rfl, h, Nat.lt_of_le_of_lt hl (by decide), q⟩
theorem tyL {a : Addr} {xs : List V} (h : H a = some (.lst xs)) : tyV K "list" (.ref a) H := .inl ⟨rfl, _, .inl (.inl h)⟩
end
theorem atN {α : Type} {xs : List α} {i : Int} {v : α} {k : Nat} (e : i = (k : Int)) (h : xs[k]? = some v) : atI xs i = some v := by rw [e]; exact atI_nat h
theorem atPick {α : Type} {xs : List α} {n : Int} (h0 : 0 ≤ n) (h1 : n < xs.length) : ∃ v, v ∈ xs ∧ atI xs n = some v := by
  have h : n.toNat < xs.length := by omega
  exact ⟨xs[n.toNat], List.getElem_mem h, atN (k := n.toNat) (by omega) (List.getElem?_eq_getElem h)⟩
theorem ixN_nat {n k : Nat} {i : Int} (e : i = (k : Int)) (h : k < n) : ixN n i = some k := by
  subst e
  unfold ixN
  rw [if_pos (Int.natCast_nonneg k), if_pos (by omega)]
  rw [Int.toNat_natCast]
end Z
namespace Z
open PySem PySem.Spec PyProof.Rows L2
theorem map_at {α β : Type} {g : α → β} {xs : List α} {i : Nat} {y : β} (h : (xs.map g)[i]? = some y) : ∃ x, xs[i]? = some x ∧ y = g x := by
  rw [List.getElem?_map] at h
  cases e : xs[i]? with
  | none => rw [e] at h; cases h
  | some x => rw [e] at h; exact ⟨x, rfl, (Option.some.inj h).symm⟩
theorem i_start {t : TS} {D : Ends} {σ σ' : L2.St} {H : Hp} (e : σ = σ') (h : t D σ' H) : t D σ H := e ▸ h
/-! ### a def as callers see it -/
structure Cal (P : Program) (w : World) (K : PySem.W.Frag) (mg : Str → Option Value) (base : Heap) (x : Str) (k : Nat) (ps : List Str) (sp : Sp) : Prop where
  ex : ∃ (f : Addr) (fd : FuncData), mg x = some (.ref f) ∧ PySem.W.keepIn K (.ref f) = true ∧ Binds K fd ps [] ∧ FnOk P w K mg base CX0 k f fd ps sp
theorem Cal.of {P : Program} {w : World} {K : PySem.W.Frag} {mg : Str → Option Value} {base : Heap} {x q : Str} {st : Stmt} {k : Nat} {ps : List Str} {sp : Sp} {f : Addr} {fd : FuncData} (F : Fun K x q st f fd) (g : mg x = some (.ref f)) (b : Binds K fd ps []) (ok : FnOk P w K mg base CX0 k f fd ps sp) : Cal P w K mg base x k ps sp := ⟨f, fd, g, F.kp, b, ok⟩
section
variable {X : Cx}
theorem pc {x : Str} {k : Nat} {ps : List Str} {sp : Sp} {e : Expr} {es : List Expr} {t : TA} {p pos : Pos} (c : Cal X.prog X.w X.K X.mg X.base x k ps sp) (hr : Room k X.A) (ha : PA X (e :: es) t) (hg : Gl X x := by rfl) (hdb : (x == ("__debug__" : Str)) = false := by decide)
    (hs : starEach (e :: es) X.env = (false, eval e X.env) :: starEach es X.env := by rfl) (hpl : (backTo pos (starEach es X.env)).any (·.1) = false := by rfl) : PE X (.Call (.Name x p) (e :: es) [] pos) (tCall sp [] E0 t) := by
  obtain ⟨f, fd, hm, hk, hb, F⟩ := c.ex
  exact pe_call F hr hg hm hk hb .nil pass0 ha hdb hs hpl
theorem pgc {x : Str} {i : Int} {pos : Pos} (h : ∃ t, X.mg x = some (.int i t)) (hg : Gl X x := by rfl) (hd : (x == ("__debug__" : Str)) = false := by decide) : PE X (.Name x pos) (tC (.int i)) := by
  obtain ⟨t, h⟩ := h
  exact pe_glob hg h ⟨t, rfl⟩ hd
end
/-! ### what a law draws from -/
def Dice (K : PySem.W.Frag) (G H : Hp) (d : Addr) : Prop := ∃ (sa : Addr) (ns : List Int) (i m r : Int), At G H d (.lst [.ref sa, .int i, .int m, .int r]) ∧ SqL K G sa (ns.map V.int) ∧ 0 ≤ i
theorem Dice.mono {K : PySem.W.Frag} {G H G1 H1 : Hp} {X : Addr → Prop} {d : Addr} (D : Dice K G H d) (a : Gr X G H G1 H1) (n : ¬ X d) : Dice K G1 H1 d := by
  obtain ⟨sa, ns, i, m, r, t, s, h⟩ := D
  exact ⟨sa, ns, i, m, r, t.mono a n, sql a.gg s, h⟩
theorem Dice.monoN {K : PySem.W.Frag} {G H G1 H1 : Hp} {d : Addr} (D : Dice K G H d) (a : Gr No G H G1 H1) : Dice K G1 H1 d := D.mono a fun z => z
section
variable {K : PySem.W.Frag} {G0 H0 G H : Hp} {X : Addr → Prop} {d : Addr} {m : Int} {Q : VK} {E : XK}
end
theorem Dice.off {K : PySem.W.Frag} {G H : Hp} {d l : Addr} {u : HO} (D : Dice K G H d) (n : ¬ l = d) : Dice K G (upd H l u) d := by
  obtain ⟨sa, ns, i, m, r, t, s, h⟩ := D
  exact ⟨sa, ns, i, m, r, t.off fun e => n e.symm, s, h⟩
theorem Dice.close {K : PySem.W.Frag} {G H : Hp} {d l : Addr} {u : HO} (D : Dice K G H d) (t : At G H l u) (n : ¬ l = d) : Dice K (upd G l u) H d := by
  obtain ⟨sa, ns, i, m, r, td, s, h⟩ := D
  exact ⟨sa, ns, i, m, r, td.close fun e => n e.symm, sql (same_close t) s, h⟩
theorem Dice.ne {K : PySem.W.Frag} {G H : Hp} {d l : Addr} (D : Dice K G H d) (h : H l = none) : ¬ l = d := fun e => by
  obtain ⟨_, _, _, _, _, t, _⟩ := D
  rw [e, t.h] at h
  cases h
def spDice (K : PySem.W.Frag) : Sp := fun vs H Q _ => ∃ (s : Addr) (ns : List Int) (G : Hp), vs = [.ref s] ∧ Same G H ∧ SqL K G s (ns.map V.int) ∧ ∀ p H', Gr No G H G H' → Dice K G H' p → H p = none → Q (.ref p) H'
def spNext (K : PySem.W.Frag) : Sp := fun vs H Q _ => ∃ (G : Hp) (d : Addr) (m : Int), vs = [.ref d, .int m] ∧ Same G H ∧ Dice K G H d ∧ 0 < m ∧ m < 1073741824 ∧ ∀ n H', Gr (· = d) G H G H' → Dice K G H' d → 0 ≤ n → n < m → Q (.int n) H'
theorem i_next {K : PySem.W.Frag} {G0 H0 G H : Hp} {X : Addr → Prop} {d : Addr} {m : Int} {Q : VK} {E : XK} (g : Gr X G0 H0 G H) (D : Dice K G H d) (hd : X d ∨ H0 d = none) (h0 : 0 < m) (h1 : m < 1073741824)
    (k : ∀ n H', Gr (· = d) G H G H' → Gr X G0 H0 G H' → Dice K G H' d → 0 ≤ n → n < m → Q (.int n) H') : spNext K ([.ref d, .int m] ++ []) H Q E :=
  ⟨G, d, m, rfl, g.sub, D, h0, h1, fun n H' s D' a b => k n H' s (g.seq s fun c e => by rw [e]; exact hd) D' a b⟩
/-! ### words, loads, plans -/
def vW (w : Int × Int × Int) : List V := [.int w.1, .int w.2.1, .int w.2.2]
def okW (w : Int × Int × Int) : Prop := 1 ≤ w.1 ∧ w.1 ≤ 8 ∧ 0 ≤ w.2.1 ∧ w.2.1 ≤ 8 ∧ 1 ≤ w.2.2 ∧ w.2.2 ≤ 9
structure OkWs (ws : List (Int × Int × Int)) : Prop where
  l1 : 1 ≤ ws.length
  l4 : ws.length ≤ 4
  ok : ∀ w ∈ ws, okW w
structure OkLd (ld : List Int) : Prop where
  l1 : 1 ≤ ld.length
  l12 : ld.length ≤ 12
  bit : ∀ x ∈ ld, x = 0 ∨ x = 1
  free : 0 ∈ ld
def okT (n : Nat) (o : Option Int) : Prop := ∀ i, o = some i → 0 ≤ i ∧ i < (n : Int)
structure OkPl (n : Nat) (hd lp : List (Option Int)) : Prop where
  h40 : hd.length ≤ 2000
  l1 : 1 ≤ lp.length
  l40 : lp.length ≤ 2000
  hok : ∀ o ∈ hd, okT n o
  lok : ∀ o ∈ lp, okT n o
def Pl (K : PySem.W.Frag) (G : Hp) (p : Addr) (hd lp : List (Option Int)) : Prop := ∃ a b, SqT K G p [.ref a, .ref b] ∧ G a = some (.lst (hd.map vO)) ∧ G b = some (.lst (lp.map vO))
theorem Pl.mono {K : PySem.W.Frag} {G G' : Hp} {p : Addr} {hd lp : List (Option Int)} (e : Same G G') (h : Pl K G p hd lp) : Pl K G' p hd lp := by
  obtain ⟨a, b, h1, h2, h3⟩ := h
  exact ⟨a, b, sqt e h1, e _ _ h2, e _ _ h3⟩
def spMemory (K : PySem.W.Frag) : Sp := fun vs H Q _ => ∃ (G : Hp) (d : Addr) (m : Int), vs = [.ref d, .int m] ∧ Same G H ∧ Dice K G H d ∧ 0 < m ∧ m ≤ 4 ∧
  ∀ (ws : List (Int × Int × Int)) p G' H', Gr (· = d) G H G' H' → Dice K G' H' d → H p = none → TupL K G' p (ws.map vW) → OkWs ws → (ws.length : Int) ≤ m → Q (.ref p) H'
def spLoad (K : PySem.W.Frag) : Sp := fun vs H Q _ => ∃ (G : Hp) (d : Addr) (m : Int), vs = [.ref d, .int m] ∧ Same G H ∧ Dice K G H d ∧ 0 < m ∧ m ≤ 12 ∧
  ∀ (ld : List Int) p G' H', Gr (· = d) G H G' H' → Dice K G' H' d → H p = none → G' p = some (.lst (ld.map V.int)) → OkLd ld → (ld.length : Int) ≤ m → Q (.ref p) H'
def spPlan (K : PySem.W.Frag) : Sp := fun vs H Q _ => ∃ (G : Hp) (d : Addr) (m : Int), vs = [.ref d, .int m] ∧ Same G H ∧ Dice K G H d ∧ 0 < m ∧ m ≤ 4 ∧
  ∀ (hd lp : List (Option Int)) p G' H', Gr (· = d) G H G' H' → Dice K G' H' d → Pl K G' p hd lp → OkPl m.toNat hd lp → hd.length ≤ 40 → lp.length ≤ 40 → Q (.ref p) H'
end Z
set_option Elab.async false
set_option linter.all false
set_option maxRecDepth 100000
set_option maxHeartbeats 4000000
namespace Z
open PySem PySem.Spec PyProof.Rows L2
/-! ### shapes of data -/
structure Dk (k : Nat) (d : PyData) : Prop where
  c : d.canLay0 = true
  d : d.depth ≤ k
theorem dk_int {k : Nat} {i : Int} : Dk k (.int i) := ⟨rfl, Nat.zero_le _⟩
theorem dk_non {k : Nat} : Dk k .none := ⟨rfl, Nat.zero_le _⟩
theorem dk_vO {k : Nat} (o : Option Int) : Dk k (dO o) := by cases o <;> exact ⟨rfl, Nat.zero_le _⟩
theorem dkAll {k : Nat} : ∀ {ds : List PyData}, (∀ d ∈ ds, Dk k d) → PyData.canLayAll0 ds = true ∧ PyData.depthAll ds ≤ k
  | [], _ => ⟨rfl, Nat.zero_le _⟩
  | d :: ds, h => by
    have h1 := h d List.mem_cons_self
    have h2 := dkAll (ds := ds) fun e he => h e (List.mem_cons_of_mem _ he)
    exact ⟨by rw [PyData.canLayAll0, h1.c, h2.1]; rfl, by rw [PyData.depthAll]; exact Nat.max_le.mpr ⟨h1.d, h2.2⟩⟩
theorem dk_list {k : Nat} {ds : List PyData} (h : ∀ d ∈ ds, Dk k d) : Dk (k + 1) (.list ds) := ⟨by rw [PyData.canLay0]; exact (dkAll h).1, by rw [PyData.depth]; exact Nat.succ_le_succ (dkAll h).2⟩
theorem dk_tup {k : Nat} {ds : List PyData} (h : ∀ d ∈ ds, Dk k d) : Dk (k + 1) (.tuple ds) := ⟨by rw [PyData.canLay0]; exact (dkAll h).1, by rw [PyData.depth]; exact Nat.succ_le_succ (dkAll h).2⟩
theorem Dk.mono {k j : Nat} {d : PyData} (h : Dk k d) (l : k ≤ j) : Dk j d := ⟨h.c, Nat.le_trans h.d l⟩
theorem Dk.sh {k : Nat} {d : PyData} (h : Dk k d) (l : k ≤ 64 := by decide) : SeqAt.shaped d = true := by
  unfold SeqAt.shaped
  rw [h.c, decide_eq_true (Nat.le_trans h.d l)]
  rfl
theorem dk_ints {k : Nat} (ns : List Int) : Dk (k + 1) (.list (ns.map PyData.int)) := dk_list fun d hd => by
  obtain ⟨i, _, rfl⟩ := List.mem_map.mp hd
  exact dk_int
theorem dk_vOs {k : Nat} (os : List (Option Int)) : Dk (k + 1) (.list (os.map dO)) := dk_list fun d hd => by
  obtain ⟨i, _, rfl⟩ := List.mem_map.mp hd
  exact dk_vO i
section
variable {K : PySem.W.Frag} {σ : L2.St} {H G : Hp} {Q : VK} {x y : V} {d e : PyData} {k : Nat}
theorem i_eqD1 (h1 : Dp K H x d) (h2 : Dp K H y d) (hd : Dk k d) (hk : k ≤ 64) (q : Q (.bl true) H) : rEqD K x y H Q := ⟨d, d, h1, h2, hd.sh hk, hd.sh hk, by rw [SeqAt.eqv_refl d hd.c]; exact q⟩
theorem i_neD1 (h1 : Dp K H x d) (h2 : Dp K H y d) (hd : Dk k d) (hk : k ≤ 64) (q : Q (.bl false) H) : rNeD K x y H Q := ⟨d, d, h1, h2, hd.sh hk, hd.sh hk, by rw [SeqAt.eqv_refl d hd.c]; exact q⟩
/-- == [], != [] -/
theorem eqv_nil (ds : List PyData) : PyData.eqv (.list ds) (.list []) = ds.isEmpty := by cases ds <;> simp [PyData.eqv, PyData.eqvAll]
theorem i_eqNil {ds : List PyData} (h1 : Dp K H x (.list ds)) (h2 : Dp K H y (.list [])) (hd : Dk k (.list ds)) (hk : k ≤ 64) (q : Q (.bl ds.isEmpty) H) : rEqD K x y H Q :=
  ⟨_, _, h1, h2, hd.sh hk, (dk_ints (k := 0) []).sh, by rw [eqv_nil]; exact q⟩
theorem i_neNil {ds : List PyData} (h1 : Dp K H x (.list ds)) (h2 : Dp K H y (.list [])) (hd : Dk k (.list ds)) (hk : k ≤ 64) (q : Q (.bl (!ds.isEmpty)) H) : rNeD K x y H Q :=
  ⟨_, _, h1, h2, hd.sh hk, (dk_ints (k := 0) []).sh, by rw [eqv_nil]; exact q⟩
theorem dp_nil {p : Addr} (h : SqL K H p []) : Dp K H (.ref p) (.list []) := .lst h .nil
/-- membership among flat things -/
theorem i_inL {p : Addr} {xs : List V} {b : Bool} (h : SqL K H p xs) (h1 : flatV x = true) (h2 : xs.all flatV = true) (e : inV x xs = b) (q : Q (.bl b) H) : rIn K false x (.ref p) H Q := ⟨p, xs, rfl, .inl h, h1, h2, by rw [e]; exact q⟩
theorem i_niL {p : Addr} {xs : List V} {b : Bool} (h : SqL K H p xs) (h1 : flatV x = true) (h2 : xs.all flatV = true) (e : inV x xs = b) (q : Q (.bl (!b)) H) : rIn K true x (.ref p) H Q := ⟨p, xs, rfl, .inl h, h1, h2, by rw [e]; exact q⟩
theorem i_niL1 {p : Addr} {xs : List V} (h : SqL K H p xs) (h1 : flatV x = true) (h2 : xs.all flatV = true) (e : inV x xs = true) (q : Q (.bl false) H) : rIn K true x (.ref p) H Q := ⟨p, xs, rfl, .inl h, h1, h2, by rw [e]; exact q⟩
theorem i_niT1 {p : Addr} {xs : List V} (h : SqT K H p xs) (h1 : flatV x = true) (h2 : xs.all flatV = true) (e : inV x xs = true) (q : Q (.bl false) H) : rIn K true x (.ref p) H Q := ⟨p, xs, rfl, .inr h, h1, h2, by rw [e]; exact q⟩
theorem i_inT {p : Addr} {xs : List V} {b : Bool} (h : SqT K H p xs) (h1 : flatV x = true) (h2 : xs.all flatV = true) (e : inV x xs = b) (q : Q (.bl b) H) : rIn K false x (.ref p) H Q := ⟨p, xs, rfl, .inr h, h1, h2, by rw [e]; exact q⟩
theorem i_niT {p : Addr} {xs : List V} {b : Bool} (h : SqT K H p xs) (h1 : flatV x = true) (h2 : xs.all flatV = true) (e : inV x xs = b) (q : Q (.bl (!b)) H) : rIn K true x (.ref p) H Q := ⟨p, xs, rfl, .inr h, h1, h2, by rw [e]; exact q⟩
end
theorem flat_ints (ns : List Int) : (ns.map V.int).all flatV = true := by
  rw [List.all_map]
  exact List.all_eq_true.mpr fun i _ => rfl
theorem flat_vO (o : Option Int) : flatV (vO o) = true := by cases o <;> rfl
theorem flat_vOs (os : List (Option Int)) : (os.map vO).all flatV = true := by
  rw [List.all_map]
  exact List.all_eq_true.mpr fun i _ => flat_vO i
theorem inV_ints (i : Int) (ns : List Int) : inV (.int i) (ns.map V.int) = decide (i ∈ ns) := by
  unfold inV
  rw [List.any_map, Bool.eq_iff_iff, List.any_eq_true, decide_eq_true_iff]
  refine ⟨fun ⟨j, hj, e⟩ => ?_, fun h => ⟨i, h, ?_⟩⟩
  · have e2 : j = i := by simpa [eqV] using e
    rw [← e2]; exact hj
  · simp [eqV]
theorem inV_vOs (i : Int) (os : List (Option Int)) : inV (.int i) (os.map vO) = decide (some i ∈ os) := by
  unfold inV
  rw [List.any_map, Bool.eq_iff_iff, List.any_eq_true, decide_eq_true_iff]
  refine ⟨fun ⟨j, hj, e⟩ => ?_, fun h => ⟨some i, h, ?_⟩⟩
  · cases j with
    | none => simp [eqV, vO] at e
    | some j =>
      have e2 : j = i := by simpa [eqV, vO] using e
      rw [← e2]; exact hj
  · simp [eqV, vO]
/-! ### tests whose answer is known -/
theorem i_p {c : Prop} [Decidable c] {A B : Prop} (h : c) (q : A) : if decide c = true then A else B := by rw [if_pos (decide_eq_true h)]; exact q
theorem i_n {c : Prop} [Decidable c] {A B : Prop} (h : ¬ c) (q : B) : if decide c = true then A else B := by rw [if_neg (by simpa using h)]; exact q
theorem i_np {c : Prop} [Decidable c] {A B : Prop} (h : c) (q : B) : if (!decide c) = true then A else B := by rw [if_neg (by simpa using h)]; exact q
theorem i_nn {c : Prop} [Decidable c] {A B : Prop} (h : ¬ c) (q : A) : if (!decide c) = true then A else B := by rw [if_pos (by simpa using h)]; exact q
theorem i_bT {b : Bool} {A B : Prop} (h : b = true) (q : A) : if b = true then A else B := by rw [if_pos h]; exact q
theorem i_bF {b : Bool} {A B : Prop} (h : b = false) (q : B) : if b = true then A else B := by rw [h]; exact i_f q
/-! ### order of tuples -/
def rGtT (K : PySem.W.Frag) : R2 := fun x y H Q => ∃ (a b : Addr) (ns ms : List Int), x = .ref a ∧ y = .ref b ∧ SqT K H a (ns.map V.int) ∧ SqT K H b (ms.map V.int) ∧
  Q (.bl (Ob.lexAt (fun j => decide (ns.getD j 0 = ms.getD j 0)) (fun j => decide (ms.getD j 0 < ns.getD j 0)) (decide (ns.length > ms.length)) 0 (min ns.length ms.length))) H
theorem op_gtT {X : Cx} (hu : X.A.units < cLine) : OpR X (compareOp .Gt) (rGtT X.K) := by
  intro pins s σ H x y v u Q I rx ry h
  obtain ⟨a, b, ns, ms, rfl, rfl, ha, hb, q⟩ := h
  cases rx
  cases ry
  obtain ⟨its, r1, p1, _⟩ := I.tuple ha
  obtain ⟨its2, r2, p2, _⟩ := I.tuple hb
  have i1 : IntsAre its ns := Vals.ints r1
  have i2 : IntsAre its2 ms := Vals.ints r2
  have e1 : its.toArray.size = ns.length := by rw [List.size_toArray]; exact i1.length
  have e2 : its2.toArray.size = ms.length := by rw [List.size_toArray]; exact i2.length
  have at1 : ∀ j (h1 : j < its.toArray.size), ∃ t, its.toArray[j] = .int (ns.getD j 0) t := fun j h1 => PyProof.Rows.IntsAre.int_at i1 _ _ (by simp at h1; simp [h1])
  have at2 : ∀ j (h1 : j < its2.toArray.size), ∃ t, its2.toArray[j] = .int (ms.getD j 0) t := fun j h1 => PyProof.Rows.IntsAre.int_at i2 _ _ (by simp at h1; simp [h1])
  have R := Ob.RcOp.tuples_gt (A := X.A) (s := s) (e := fun j => decide (ns.getD j 0 = ms.getD j 0)) (r := fun j => decide (ms.getD j 0 < ns.getD j 0)) p1 p2 hu (fun j h1 h2 => by
    obtain ⟨t, et⟩ := at1 j h1
    obtain ⟨t', et'⟩ := at2 j h2
    rw [et, et']
    have z : (ns.getD j 0 == ms.getD j 0) = decide (ns.getD j 0 = ms.getD j 0) := by
      by_cases q : ns.getD j 0 = ms.getD j 0
      · rw [decide_eq_true q]; exact beq_iff_eq.mpr q
      · rw [decide_eq_false q]; exact beq_eq_false_iff_ne.mpr q
    rw [← z]
    exact SeqAt.EqAt.int_int _ _ _ _) (fun j h1 h2 _ => by
    obtain ⟨t, et⟩ := at1 j h1
    obtain ⟨t', et'⟩ := at2 j h2
    rw [et, et']
    exact Ob.RcOp.gt_int _ _ _ _)
  rw [e1, e2] at R
  have z : wpAny (model X.prog X.w) X.A (compareOp .Gt (.ref a) (.ref b)) (EP X pins σ Q) X.xe s := R X.prog X.w X.xe (EP X pins σ Q) ⟨.bl _, H, I, rfl, q⟩
  exact z
/-- pairs -/
def ltP (a b : Int × Int) : Prop := a.1 < b.1 ∨ (a.1 = b.1 ∧ a.2 < b.2)
instance (a b : Int × Int) : Decidable (ltP a b) := by unfold ltP; exact inferInstance
def leP (a b : Int × Int) : Prop := a.1 < b.1 ∨ (a.1 = b.1 ∧ a.2 ≤ b.2)
instance (a b : Int × Int) : Decidable (leP a b) := by unfold leP; exact inferInstance
section
variable {K : PySem.W.Frag} {H : Hp} {Q : VK} {a b : Addr} {i j k l : Int}
theorem i_gtT (h1 : SqT K H a [.int i, .int j]) (h2 : SqT K H b [.int k, .int l]) (q : Q (.bl (decide (ltP (k, l) (i, j)))) H) : rGtT K (.ref a) (.ref b) H Q := by
  refine ⟨a, b, [i, j], [k, l], rfl, rfl, h1, h2, ?_⟩
  have e : Ob.lexAt (fun n => decide (([i, j] : List Int).getD n 0 = ([k, l] : List Int).getD n 0)) (fun n => decide (([k, l] : List Int).getD n 0 < ([i, j] : List Int).getD n 0)) (decide (([i, j] : List Int).length > ([k, l] : List Int).length)) 0 (min ([i, j] : List Int).length ([k, l] : List Int).length) = decide (ltP (k, l) (i, j)) := by
    simp only [List.length_cons, List.length_nil, Nat.min_self, Ob.lexAt_succ, Ob.lexAt_zero]
    simp only [List.getD_cons_zero, List.getD_cons_succ, decide_eq_true_eq, gt_iff_lt, Nat.lt_irrefl, decide_false]
    by_cases h : i = k
    · rw [if_pos h]
      by_cases h2 : j = l
      · rw [if_pos h2]
        symm
        rw [decide_eq_false_iff_not]
        show ¬ (k < i ∨ (k = i ∧ l < j))
        omega
      · rw [if_neg h2, decide_eq_decide]
        show _ ↔ (k < i ∨ (k = i ∧ l < j))
        omega
    · rw [if_neg h, decide_eq_decide]
      show _ ↔ (k < i ∨ (k = i ∧ l < j))
      omega
  rw [e]
  exact q
theorem i_leT (h1 : SqT K H a [.int i, .int j]) (h2 : SqT K H b [.int k, .int l]) (q : Q (.bl (decide (leP (i, j) (k, l)))) H) : rLeT K (.ref a) (.ref b) H Q := by
  refine ⟨a, b, [i, j], [k, l], rfl, rfl, h1, h2, ?_⟩
  have e : Ob.lexAt (fun n => decide (([i, j] : List Int).getD n 0 = ([k, l] : List Int).getD n 0)) (fun n => decide (([i, j] : List Int).getD n 0 ≤ ([k, l] : List Int).getD n 0)) (decide (([i, j] : List Int).length ≤ ([k, l] : List Int).length)) 0 (min ([i, j] : List Int).length ([k, l] : List Int).length) = decide (leP (i, j) (k, l)) := by
    simp only [List.length_cons, List.length_nil, Nat.min_self, Ob.lexAt_succ, Ob.lexAt_zero]
    simp only [List.getD_cons_zero, List.getD_cons_succ, decide_eq_true_eq, Nat.le_refl, decide_true]
    by_cases h : i = k
    · rw [if_pos h]
      by_cases h2 : j = l
      · rw [if_pos h2]
        symm
        rw [decide_eq_true_iff]
        show (i < k ∨ (i = k ∧ j ≤ l))
        omega
      · rw [if_neg h2, decide_eq_decide]
        show _ ↔ (i < k ∨ (i = k ∧ j ≤ l))
        omega
    · rw [if_neg h, decide_eq_decide]
      show _ ↔ (i < k ∨ (i = k ∧ j ≤ l))
      omega
  rw [e]
  exact q
end
/-! ### classes as callers see them -/
structure CalMk (P : Program) (w : World) (K : PySem.W.Frag) (mg : Str → Option Value) (base : Heap) (x : Str) (C : Addr) (k : Nat) (ps : List Str) (sp : Sp) : Prop where
  ex : ∃ (f : Addr) (fd : FuncData), mg x = some (.ref C) ∧ Mk K C f ∧ Binds K fd ps [] ∧ FnOk P w K mg base CX0 k f fd ps sp
structure CalMt (P : Program) (w : World) (K : PySem.W.Frag) (mg : Str → Option Value) (base : Heap) (C : Addr) (m : Str) (k : Nat) (ps : List Str) (sp : Sp) : Prop where
  cl : Cls K C
  ex : ∃ (f : Addr) (fd : FuncData), Meth K C m f ∧ Binds K fd ps [] ∧ FnOk P w K mg base CX0 k f fd ps sp
section
variable {X : Cx}
theorem pmk {x : Str} {C : Addr} {k : Nat} {ps : List Str} {sp : Sp} {e : Expr} {es : List Expr} {t : TA} {p pos : Pos} (c : CalMk X.prog X.w X.K X.mg X.base x C k ps sp) (hr : Room (k + 1) X.A) (ha : PA X (e :: es) t) (hg : Gl X x := by rfl) (hdb : (x == ("__debug__" : Str)) = false := by decide)
    (hs : starEach (e :: es) X.env = (false, eval e X.env) :: starEach es X.env := by rfl) (hpl : (backTo pos (starEach es X.env)).any (·.1) = false := by rfl) : PE X (.Call (.Name x p) (e :: es) [] pos) (tMake C sp [] E0 t) := by
  obtain ⟨f, fd, hm, M, hb, F⟩ := c.ex
  exact pe_make M F hr hg hm hb .nil pass0 ha hdb hs hpl
theorem pmt {m : Str} {C : Addr} {k : Nat} {ps : List Str} {sp : Sp} {o : Expr} {ta : TE} {apos pos : Pos} {pl : Sem Bool} (c : CalMt X.prog X.w X.K X.mg X.base C m k ps sp) (hr : Room k X.A) (ho : PE X o ta)
    (ht : eval (.Call (.Attribute o m apos) [] [] pos) X.env = (do
      let ov ← eval o X.env
      standAt apos.atName
      let (f, first) ← holding [ov] (getMethod ov m pl)
      callWith pos f first (backTo pos (starEach [] X.env)) (backToKw pos (keywordEach [] X.env))) := by rfl) : PE X (.Call (.Attribute o m apos) [] [] pos) (tMeth C m sp [] E0 ta tNil) := by
  obtain ⟨f, fd, M, hb, F⟩ := c.ex
  exact pe_meth0 ho c.cl M F hr hb .nil pass0 ht
end
section
variable {K : PySem.W.Frag} {σ : L2.St} {H : Hp} {Q : VK} {C : Addr} {m : Str} {sp : Sp} {E : XK} {t : TA} {ta : TE} {dvs : List V}
def SFldQ (K : PySem.W.Frag) (f : Str) (D : Ends) (σ : L2.St) (y x : V) (H2 : Hp) : Prop := ∃ a C dx fs, x = .ref a ∧ H2 a = some (.ins C dx fs) ∧ Cls K C ∧ NoAttr K C f ∧ fs.length < 1000 ∧ D.nx σ (upd H2 a (.ins C dx (putF f y fs)))
theorem i_sfld {D : Ends} {ta tv : TE} {f : Str} (q : tv σ H fun y H1 => ta σ H1 fun x H2 => SFldQ K f D σ y x H2) : sFld K ta tv f D σ H := q
theorem sfld {D : Ends} {f : Str} {G : Hp} {a dx : Addr} {fs : List (Str × V)} {y : V} (t : At G H a (.ins C dx fs)) (c : Cls K C) (n : NoAttr K C f) (hl : fs.length < 1000) (q : D.nx σ (upd H a (.ins C dx (putF f y fs)))) : SFldQ K f D σ y (.ref a) H := ⟨a, C, dx, fs, rfl, t.h, c, n, hl, q⟩
def FldQ (K : PySem.W.Frag) (f : Str) (x : V) (H1 : Hp) (Q : VK) : Prop := ∃ a C dx fs v, x = .ref a ∧ H1 a = some (.ins C dx fs) ∧ Cls K C ∧ NoAttr K C f ∧ fs.lookup f = some v ∧ Q v H1
theorem i_fld {f : Str} (q : ta σ H fun x H1 => FldQ K f x H1 Q) : tFld K ta f σ H Q := q
theorem fld {f : Str} {a dx : Addr} {fs : List (Str × V)} {v : V} (h : H a = some (.ins C dx fs)) (c : Cls K C) (n : NoAttr K C f) (hl : fs.lookup f = some v) (q : Q v H) : FldQ K f (.ref a) H Q := ⟨a, C, dx, fs, v, rfl, h, c, n, hl, q⟩
def MakeQ (C : Addr) (sp : Sp) (E : XK) (vs : List V) (H1 : Hp) (Q : VK) : Prop := ∀ x dx, H1 x = none → H1 dx = none → dx ≠ x → sp (.ref x :: (vs ++ [])) (upd (upd H1 dx (.own x)) x (.ins C dx [])) (fun v H2 => v = .non ∧ Q (.ref x) H2) E
theorem i_make (q : t σ H fun vs H1 => MakeQ C sp E vs H1 Q) : tMake C sp [] E t σ H Q := q
def MethQ (C : Addr) (m : Str) (sp : Sp) (E : XK) (t : TA) (σ : L2.St) (x : V) (H1 : Hp) (Q : VK) : Prop := ∃ a dx fs, x = .ref a ∧ H1 a = some (.ins C dx fs) ∧ fs.lookup m = none ∧ t σ H1 fun vs H2 => sp (x :: (vs ++ [])) H2 Q E
theorem i_meth (q : ta σ H fun x H1 => MethQ C m sp E t σ x H1 Q) : tMeth C m sp [] E ta t σ H Q := q
end
/-! ### a memory -/
def fK (l : Addr) : List (Str × V) := putF "kept" (.ref l) []
theorem fK_look (l : Addr) : (fK l).lookup ("kept" : Str) = some (.ref l) := by
  unfold fK
  rw [lookup_putF, if_pos rfl]
theorem fK_no (l : Addr) {m : Str} (h : ¬ m = "kept") : (fK l).lookup m = none := by
  unfold fK
  rw [lookup_putF, if_neg h]
  all_goals rfl
def MemAt (K : PySem.W.Frag) (C : Addr) (G : Hp) (m : Addr) (ws : List (Int × Int × Int)) : Prop := ∃ dx l, G m = some (.ins C dx (fK l)) ∧ TupL K G l (ws.map vW) ∧ OkWs ws
theorem tup_at {K : PySem.W.Frag} {G : Hp} {as : List Addr} {ts : List (List V)} {i : Nat} {t : List V} (pr : Paired (fun p t => SqT K G p t) as ts) (h : ts[i]? = some t) : ∃ p, as[i]? = some p ∧ SqT K G p t := by
  have hl : i < as.length := by rw [Paired.len pr]; exact (List.getElem?_eq_some_iff.mp h).1
  exact ⟨as[i], List.getElem?_eq_getElem hl, Paired.at pr (List.getElem?_eq_getElem hl) h⟩
theorem word_at {K : PySem.W.Frag} {G : Hp} {as : List Addr} {ws : List (Int × Int × Int)} {i : Nat} {w : Int × Int × Int} (pr : Paired (fun p t => SqT K G p t) as (ws.map vW)) (h : ws[i]? = some w) : ∃ p, (as.map V.ref)[i]? = some (.ref p) ∧ SqT K G p [.int w.1, .int w.2.1, .int w.2.2] := by
  obtain ⟨p, h1, h2⟩ := tup_at (t := vW w) pr (by rw [List.getElem?_map, h]; rfl)
  exact ⟨p, by rw [List.getElem?_map, h1]; rfl, h2⟩
theorem MemAt.mono {K : PySem.W.Frag} {C : Addr} {G G' : Hp} {m : Addr} {ws : List (Int × Int × Int)} (e : Same G G') (h : MemAt K C G m ws) : MemAt K C G' m ws := by
  obtain ⟨dx, l, h1, h2, h3⟩ := h
  exact ⟨dx, l, e _ _ h1, h2.mono e, h3⟩
theorem MemAt.ok {K : PySem.W.Frag} {C : Addr} {G : Hp} {m : Addr} {ws : List (Int × Int × Int)} (h : MemAt K C G m ws) : OkWs ws := by
  obtain ⟨_, _, _, _, h⟩ := h
  exact h
def spInit (K : PySem.W.Frag) (C : Addr) : Sp := fun vs H Q _ => ∃ (G : Hp) (p dx l : Addr) (ws : List (Int × Int × Int)), vs = [.ref p, .ref l] ∧ Same G H ∧ At G H p (.ins C dx []) ∧ TupL K G l (ws.map vW) ∧ OkWs ws ∧
  ∀ l2 G' H', Gr (· = p) G H G' H' → At G' H' p (.ins C dx (fK l2)) → TupL K G' l2 (ws.map vW) → Q .non H'
def spWords (K : PySem.W.Frag) (C : Addr) : Sp := fun vs H Q _ => ∃ (G : Hp) (m : Addr) (ws : List (Int × Int × Int)), vs = [.ref m] ∧ Same G H ∧ MemAt K C G m ws ∧
  ∀ p as H', H p = none → Gr No G H G H' → At G H' p (.lst (as.map V.ref)) → Paired (fun p t => SqT K G p t) as (ws.map vW) → Q (.ref p) H'
section
variable {K : PySem.W.Frag} {σ : L2.St} {X : Addr → Prop} {G0 H0 G H : Hp} {Q : VK} {C : Addr} {E : XK}
theorem i_words {m : Addr} {ws : List (Int × Int × Int)} (g : Gr X G0 H0 G H) (M : MemAt K C G m ws)
    (k : ∀ p as H', H p = none → Gr No G H G H' → Gr X G0 H0 G H' → At G H' p (.lst (as.map V.ref)) → Paired (fun p t => SqT K G p t) as (ws.map vW) → Q (.ref p) H') : MethQ C "words" (spWords K C) E tNil σ (.ref m) H Q := by
  obtain ⟨dx, l, h1, h2, _⟩ := id M
  exact ⟨m, dx, _, rfl, g.sub _ _ h1, fK_no _ (by decide +kernel), G, m, ws, rfl, g.sub, M, fun p as H' np s t pr => k p as H' np s (g.seqN s) t pr⟩
theorem i_mem {l : Addr} {ws : List (Int × Int × Int)} (g : Gr X G0 H0 G H) (hw : TupL K G l (ws.map vW)) (ok : OkWs ws)
    (k : ∀ m G' H', H m = none → Gr No G H G' H' → Gr X G0 H0 G' H' → MemAt K C G' m ws → Q (.ref m) H') : MakeQ C (spInit K C) E [.ref l] H Q := by
  intro x dx nx ndx nex
  have s1 : Gr No G H G (upd H dx (.own x)) := Gr.new (Gr.refl g.sub) ndx
  have nx1 : (upd H dx (.own x)) x = none := by rw [upd_ne nex.symm]; exact nx
  have s2 : Gr No G H G (upd (upd H dx (.own x)) x (.ins C dx [])) := s1.new nx1
  refine ⟨G, x, dx, l, ws, rfl, s2.sub, At.of s1 nx1, hw, ok, fun l2 G' H' s3 t tl => ⟨rfl, ?_⟩⟩
  have s4 : Gr No G H G' H' := s2.seq s3 fun c e => .inr (by rw [e]; exact nx)
  have s5 := s4.close t nx
  exact k x _ H' nx s5 (g.seqN s5) ⟨dx, l2, upd_same, tl.mono (same_close t), ok⟩
end
end Z
set_option Elab.async false
set_option linter.all false
set_option maxRecDepth 100000
set_option maxHeartbeats 4000000
namespace Z
open PySem PySem.Spec PyProof.Rows L2
/-! ### what is mended when -/
/-- the free beats among the first b -/
def fr (ld : List Int) : Nat → Nat
  | 0 => 0
  | b + 1 => fr ld b + (if ld.getD (b % ld.length) 1 = 0 then 1 else 0)
/-- the n-th thing of a plan -/
def thing (hd lp : List (Option Int)) (n : Nat) : Option Int := if n < hd.length then hd.getD n none else lp.getD ((n - hd.length) % lp.length) none
def mend (ld : List Int) (hd lp : List (Option Int)) (b : Nat) : Option Int := if ld.getD (b % ld.length) 1 = 0 then thing hd lp (fr ld b) else none
def mends (ld : List Int) (hd lp : List (Option Int)) (n : Nat) : List (Option Int) := (List.range n).map (mend ld hd lp)
theorem mends_len (ld : List Int) (hd lp : List (Option Int)) (n : Nat) : (mends ld hd lp n).length = n := by unfold mends; rw [List.length_map, List.length_range]
theorem mends_succ (ld : List Int) (hd lp : List (Option Int)) (n : Nat) : mends ld hd lp (n + 1) = mends ld hd lp n ++ [mend ld hd lp n] := by unfold mends; rw [List.range_succ, List.map_append]; rfl
theorem mends_at (ld : List Int) (hd lp : List (Option Int)) {n i : Nat} (h : i < n) : (mends ld hd lp n)[i]? = some (mend ld hd lp i) := by
  unfold mends
  rw [List.getElem?_map, List.getElem?_range h]
  rfl
theorem getD_at {α : Type} {xs : List α} {i : Nat} {d : α} (h : i < xs.length) : xs[i]? = some (xs.getD i d) := by
  rw [List.getD_eq_getElem?_getD, List.getElem?_eq_getElem h]
  rfl
theorem getD_mem {α : Type} {xs : List α} {i : Nat} {d : α} (h : i < xs.length) : xs.getD i d ∈ xs := List.mem_of_getElem? (getD_at h)
theorem map_getD {α β : Type} {g : α → β} {xs : List α} {i : Nat} {d : α} (h : i < xs.length) : (xs.map g)[i]? = some (g (xs.getD i d)) := by
  rw [List.getElem?_map, getD_at (d := d) h]
  rfl
theorem thing_ok {n : Nat} {hd lp : List (Option Int)} (ok : OkPl n hd lp) (k : Nat) : okT n (thing hd lp k) := by
  unfold thing
  split
  · exact ok.hok _ (getD_mem (by assumption))
  · exact ok.lok _ (getD_mem (Nat.mod_lt _ ok.l1))
theorem mend_ok {n : Nat} {ld : List Int} {hd lp : List (Option Int)} (ok : OkPl n hd lp) (b : Nat) : okT n (mend ld hd lp b) := by
  unfold mend
  split
  · exact thing_ok ok _
  · intro i e
    cases e
/-! ### promises -/
def spNeedLoad (K : PySem.W.Frag) : Sp := fun vs H Q _ => ∃ (G : Hp) (a : Addr) (ld : List Int), vs = [.ref a] ∧ Same G H ∧ G a = some (.lst (ld.map V.int)) ∧ OkLd ld ∧ ∀ H', Gr No G H G H' → Q .non H'
def spNeedPlan (K : PySem.W.Frag) (C : Addr) : Sp := fun vs H Q _ => ∃ (G : Hp) (m p : Addr) (ws : List (Int × Int × Int)) (hd lp : List (Option Int)), vs = [.ref m, .ref p] ∧ Same G H ∧ MemAt K C G m ws ∧ Pl K G p hd lp ∧ OkPl ws.length hd lp ∧ ∀ H', Gr No G H G H' → Q .non H'
def spMended (K : PySem.W.Frag) : Sp := fun vs H Q _ => ∃ (G : Hp) (a p : Addr) (n : Int) (ld : List Int) (hd lp : List (Option Int)) (k : Nat), vs = [.ref a, .ref p, .int n] ∧ Same G H ∧ G a = some (.lst (ld.map V.int)) ∧ OkLd ld ∧ Pl K G p hd lp ∧ OkPl k hd lp ∧ 0 ≤ n ∧ n ≤ 100000 ∧
  ∀ q H', H q = none → Gr No G H G H' → At G H' q (.lst ((mends ld hd lp n.toNat).map vO)) → Q (.ref q) H'
section
variable {K : PySem.W.Frag} {C : Addr} {X : Addr → Prop} {G0 H0 G H : Hp} {Q : VK} {E : XK}
theorem i_needLoad {a : Addr} {ld : List Int} (g : Gr X G0 H0 G H) (hl : G a = some (.lst (ld.map V.int))) (ok : OkLd ld) (k : ∀ H', Gr No G H G H' → Gr X G0 H0 G H' → Q .non H') : spNeedLoad K ([.ref a] ++ []) H Q E :=
  ⟨G, a, ld, rfl, g.sub, hl, ok, fun H' s => k H' s (g.seqN s)⟩
theorem i_needPlan {m p : Addr} {ws : List (Int × Int × Int)} {hd lp : List (Option Int)} (g : Gr X G0 H0 G H) (M : MemAt K C G m ws) (pl : Pl K G p hd lp) (ok : OkPl ws.length hd lp) (k : ∀ H', Gr No G H G H' → Gr X G0 H0 G H' → Q .non H') : spNeedPlan K C ([.ref m, .ref p] ++ []) H Q E :=
  ⟨G, m, p, ws, hd, lp, rfl, g.sub, M, pl, ok, fun H' s => k H' s (g.seqN s)⟩
theorem i_mended {a p : Addr} {n : Int} {ld : List Int} {hd lp : List (Option Int)} {j : Nat} (g : Gr X G0 H0 G H) (hl : G a = some (.lst (ld.map V.int))) (ok : OkLd ld) (pl : Pl K G p hd lp) (okp : OkPl j hd lp) (h0 : 0 ≤ n) (h1 : n ≤ 100000)
    (k : ∀ q H', H q = none → Gr No G H G H' → Gr X G0 H0 G H' → At G H' q (.lst ((mends ld hd lp n.toNat).map vO)) → Q (.ref q) H') : spMended K ([.ref a, .ref p, .int n] ++ []) H Q E :=
  ⟨G, a, p, n, ld, hd, lp, j, rfl, g.sub, hl, ok, pl, okp, h0, h1, fun q H' nq s t => k q H' nq s (g.seqN s) t⟩
end
end Z
set_option Elab.async false
set_option linter.all false
set_option maxRecDepth 100000
set_option maxHeartbeats 4000000
namespace Z
open PySem PySem.Spec PyProof.Rows L2
/-! ### dicts with int keys -/
section
variable {K : PySem.W.Frag} {σ : L2.St} {X : Addr → Prop} {G0 H0 G H : Hp} {Q : VK} {v x y z : V} {ta tb td ty tx tv : TE} {D : Ends} {i : Int} {a : Addr} {kvs : List (Key × V)}
def NewD (H : Hp) (Q : VK) : Prop := ∀ p, H p = none → Q (.ref p) (upd H p (.dK []))
theorem i_dnew (q : NewD H Q) : tDNewK σ H Q := q
theorem newD (g : Gr X G0 H0 G H) (k : ∀ p H', H p = none → H0 p = none → Gr No G H G H' → Gr X G0 H0 G H' → At G H' p (.dK []) → Q (.ref p) H') : NewD H Q := fun p np => k p _ np (g.fresh np) (Gr.new (Gr.refl g.sub) np) (g.new np) (At.of g np)
def DPutQ (D : Ends) (σ : L2.St) (x y v : V) (H3 : Hp) : Prop := ∃ a H4, x = .ref a ∧ DPut H3 a y v H4 ∧ D.nx σ H4
theorem i_dput (q : tv σ H fun v H1 => td σ H1 fun x H2 => ty σ H2 fun y H3 => DPutQ D σ x y v H3) : sDPut td ty tv D σ H := q
theorem dputI (t : At G H a (.dK kvs)) (hl : kvs.length ≤ 100000) (q : D.nx σ (upd H a (.dK (putK kvs (Sum.inl i) v)))) : DPutQ D σ (.ref a) (.int i) v H := ⟨a, _, rfl, DPut.k (k := Sum.inl i) t.h (Nat.lt_of_le_of_lt hl (by decide)), q⟩
def DGet2Q (ty tx : TE) (σ : L2.St) (x : V) (H1 : Hp) (Q : VK) : Prop := ∃ a, x = .ref a ∧ IsD H1 a ∧ ty σ H1 fun y H2 => tx σ H2 fun z H3 => ∃ o, DGet H3 a y o ∧ Q (o.getD z) H3
def DG2 (a : Addr) (y z : V) (H3 : Hp) (Q : VK) : Prop := ∃ o, DGet H3 a y o ∧ Q (o.getD z) H3
theorem i_dget2 (q : td σ H fun x H1 => DGet2Q ty tx σ x H1 Q) : tDGet2 td ty tx σ H Q := q
theorem dget2 (h : At G H a (.dK kvs)) (q : ty σ H fun y H2 => tx σ H2 fun z H3 => DG2 a y z H3 Q) : DGet2Q ty tx σ (.ref a) H Q := ⟨a, rfl, .inl ⟨kvs, .inl h.h⟩, q⟩
theorem dg2 (h : At G H a (.dK kvs)) (q : Q ((valV kvs (Sum.inl i)).getD z) H) : DG2 a (.int i) z H Q := ⟨_, DGet.k (k := Sum.inl i) h.h, q⟩
def DInQ (y x : V) (H2 : Hp) (Q : VK) : Prop := ∃ a o, x = .ref a ∧ DGet H2 a y o ∧ Q (.bl o.isSome) H2
theorem i_din (q : ty σ H fun y H1 => td σ H1 fun x H2 => DInQ y x H2 Q) : tDIn ty td σ H Q := q
theorem dinI (h : At G H a (.dK kvs)) (q : Q (.bl (valV kvs (Sum.inl i)).isSome) H) : DInQ (.int i) (.ref a) H Q := ⟨a, _, rfl, DGet.k (k := Sum.inl i) h.h, q⟩
def DGetQ (x y : V) (H2 : Hp) (Q : VK) : Prop := ∃ a v, x = .ref a ∧ DGet H2 a y (some v) ∧ Q v H2
theorem i_dget (q : td σ H fun x H1 => ty σ H1 fun y H2 => DGetQ x y H2 Q) : tDGet td ty σ H Q := q
theorem dgetI (h : At G H a (.dK kvs)) (e : valV kvs (Sum.inl i) = some v) (q : Q v H) : DGetQ (.ref a) (.int i) H Q := ⟨a, v, rfl, by rw [← e]; exact DGet.k (k := Sum.inl i) h.h, q⟩
end
/-! ### strokes -/
abbrev W3 := Int × Int × Int
def d3 : W3 := (1, 0, 1)
structure OkSt (ws : List W3) (ss : List W3) : Prop where
  few : ss.length ≤ 1000
  rng : ∀ s ∈ ss, 0 ≤ s.1 ∧ s.1 ≤ 999 ∧ 0 ≤ s.2.1 ∧ s.2.1 < ws.length ∧ 0 ≤ s.2.2 ∧ s.2.2 < (ws.getD s.2.1.toNat d3).1
  ord : ss.Pairwise fun s t => ltP (s.1, s.2.1) (t.1, t.2.1) ∧ (s.2.1 = t.2.1 → (ws.getD t.2.1.toNat d3).2.2 ≤ t.1 - s.1)
theorem pw_at {α : Type} {R : α → α → Prop} {xs : List α} (h : xs.Pairwise R) {i j : Nat} {x y : α} (hi : xs[i]? = some x) (hj : xs[j]? = some y) (l : i < j) : R x y := by
  obtain ⟨h1, e1⟩ := List.getElem?_eq_some_iff.mp hi
  obtain ⟨h2, e2⟩ := List.getElem?_eq_some_iff.mp hj
  have := List.pairwise_iff_getElem.mp h i j h1 h2 l
  rw [e1, e2] at this
  exact this
/-- the last beat of each word, as a dict that a walk over strokes has filled -/
def LastOf (ss : List W3) (i : Nat) (kvs : List (Key × V)) : Prop := kvs.length ≤ i ∧ ∀ (w : Int) (v : V), valV kvs (Sum.inl w) = some v → ∃ j s, j < i ∧ ss[j]? = some s ∧ s.2.1 = w ∧ v = .int s.1
theorem lastOf_nil (ss : List W3) : LastOf ss 0 [] := ⟨Nat.le_refl _, fun w v h => by cases h⟩
theorem lastOf_put {ss : List W3} {i : Nat} {kvs : List (Key × V)} {s : W3} (h : LastOf ss i kvs) (hs : ss[i]? = some s) : LastOf ss (i + 1) (putK kvs (Sum.inl s.2.1) (.int s.1)) := by
  refine ⟨Nat.le_trans (length_putK _ _ _) (by have := h.1; omega), fun w v hv => ?_⟩
  rw [valV_put] at hv
  by_cases e : (Sum.inl w : Key) = Sum.inl s.2.1
  · rw [if_pos e] at hv
    cases hv
    exact ⟨i, s, by omega, hs, (Sum.inl.inj e).symm, rfl⟩
  · rw [if_neg e] at hv
    obtain ⟨j, t, hj, ht, h1, h2⟩ := h.2 w v hv
    exact ⟨j, t, by omega, ht, h1, h2⟩
def spNeedStrokes (K : PySem.W.Frag) (C : Addr) : Sp := fun vs H Q _ => ∃ (G : Hp) (m p : Addr) (ws ss : List W3), vs = [.ref m, .ref p] ∧ Same G H ∧ MemAt K C G m ws ∧ TupL K G p (ss.map vW) ∧ OkSt ws ss ∧ ∀ H', Gr No G H G H' → Q .non H'
theorem i_needStrokes {K : PySem.W.Frag} {C : Addr} {X : Addr → Prop} {G0 H0 G H : Hp} {Q : VK} {E : XK} {m p : Addr} {ws ss : List W3} (g : Gr X G0 H0 G H) (M : MemAt K C G m ws) (hs : TupL K G p (ss.map vW)) (ok : OkSt ws ss)
    (k : ∀ H', Gr No G H G H' → Gr X G0 H0 G H' → Q .non H') : spNeedStrokes K C ([.ref m, .ref p] ++ []) H Q E := ⟨G, m, p, ws, ss, rfl, g.sub, M, hs, ok, fun H' s => k H' s (g.seqN s)⟩
end Z
set_option Elab.async false
set_option linter.all false
set_option maxRecDepth 100000
set_option maxHeartbeats 4000000
namespace Z
open PySem PySem.Spec PyProof.Rows L2
/-! ### a run, as a function -/
def srt (xs : List Int) : List Int := xs.mergeSort fun a b => decide (a ≤ b)
theorem srt_perm (xs : List Int) : (srt xs).Perm xs := List.mergeSort_perm _ _
theorem srt_le (xs : List Int) : (srt xs).Pairwise (· ≤ ·) := by
  have h := List.pairwise_mergeSort (le := fun a b : Int => decide (a ≤ b)) (fun a b c h1 h2 => by simp at *; omega) (fun a b => by simp; omega) xs
  exact h.imp fun h => by simpa using h
theorem srt_uniq {xs ys : List Int} (h : ys.Perm xs) (s : ys.Pairwise (· ≤ ·)) : ys = srt xs := List.Perm.eq_of_pairwise (fun a b _ _ h1 h2 => Int.le_antisymm h1 h2) s (srt_le xs) (h.trans (srt_perm xs).symm)
def flip (b : Int) (xs : List Int) : List Int := if b ∈ xs then xs.filter (fun o => !decide (o = b)) else srt (xs ++ [b])
/-- rising, of bits -/
structure OkX (xs : List Int) : Prop where
  up : xs.Pairwise (· < ·)
  rg : ∀ x ∈ xs, 0 ≤ x ∧ x < 8
theorem okX_len : ∀ (k : Nat) (xs : List Int), xs.Pairwise (· < ·) → (∀ x ∈ xs, (8 : Int) - k ≤ x ∧ x < 8) → xs.length ≤ k
  | _, [], _, _ => Nat.zero_le _
  | 0, x :: xs, _, h => by have := h x List.mem_cons_self; omega
  | k + 1, x :: xs, u, h => by
    have h1 := List.pairwise_cons.mp u
    have h0 := h x List.mem_cons_self
    refine Nat.succ_le_succ (okX_len k xs h1.2 fun y hy => ?_)
    have h2 := h1.1 y hy
    have h3 := h y (List.mem_cons_of_mem _ hy)
    omega
theorem OkX.len {xs : List Int} (h : OkX xs) : xs.length ≤ 8 := okX_len 8 xs h.up fun x hx => by have := h.rg x hx; omega
theorem okX_nil : OkX [] := ⟨.nil, fun _ h => by cases h⟩
theorem okX_flip {b : Int} {xs : List Int} (h : OkX xs) (h0 : 0 ≤ b) (h8 : b < 8) : OkX (flip b xs) := by
  unfold flip
  split
  · exact ⟨h.up.filter _, fun x hx => h.rg x (List.mem_filter.mp hx).1⟩
  · rename_i hb
    have hp := srt_perm (xs ++ [b])
    refine ⟨?_, fun x hx => ?_⟩
    · have hn : (srt (xs ++ [b])).Nodup := by
        refine hp.nodup_iff.mpr ?_
        rw [List.nodup_append]
        refine ⟨h.up.imp fun h e => by omega, by simp, fun x hx y hy e => ?_⟩
        rw [List.mem_singleton.mp hy] at e
        rw [e] at hx
        exact hb hx
      have hle := srt_le (xs ++ [b])
      exact (hle.and hn).imp fun ⟨h1, h2⟩ => by omega
    · rcases List.mem_append.mp (hp.mem_iff.mp hx) with h1 | h1
      · exact h.rg x h1
      · rw [List.mem_singleton.mp h1]; exact ⟨h0, h8⟩
def strokeAt (b : Int) (tu : List (List Int)) (s : W3) : List (List Int) := if s.1 = b then tu.set s.2.1.toNat (flip s.2.2 (tu.getD s.2.1.toNat [])) else tu
def strokesAt (b : Int) (ss : List W3) (tu : List (List Int)) : List (List Int) := ss.foldl (strokeAt b) tu
def mendAt (o : Option Int) (tu : List (List Int)) : List (List Int) := match o with
  | none => tu
  | some w => tu.set w.toNat []
def tuAt (mf : Nat → Option Int) (ss : List W3) (n : Nat) : Nat → List (List Int)
  | 0 => List.replicate n []
  | b + 1 => strokesAt b ss (mendAt (mf b) (tuAt mf ss n b))
/-- word w is lost -/
def lossP (ws : List W3) (tu : List (List Int)) (w : Nat) : Prop := w < ws.length ∧ (ws.getD w d3).2.1 < ((tu.getD w []).length : Int)
/-- the least word lost, if any -/
def LossAt (ws : List W3) (tu : List (List Int)) (o : Option Nat) : Prop := match o with
  | none => ∀ w, ¬ lossP ws tu w
  | some w => lossP ws tu w ∧ ∀ v, v < w → ¬ lossP ws tu v
/-- what run tells -/
def RunRes (ws : List W3) (mf : Nat → Option Int) (ss : List W3) (n : Nat) (lost : Option (Nat × Nat)) (tu : List (List Int)) : Prop := match lost with
  | none => tu = tuAt mf ss ws.length n ∧ ∀ b, b < n → LossAt ws (tuAt mf ss ws.length (b + 1)) none
  | some (b, w) => b < n ∧ tu = tuAt mf ss ws.length (b + 1) ∧ LossAt ws tu (some w) ∧ ∀ c, c < b → LossAt ws (tuAt mf ss ws.length (c + 1)) none
theorem RunRes.uniq {ws : List W3} {mf : Nat → Option Int} {ss : List W3} {n : Nat} {l l2 : Option (Nat × Nat)} {t t2 : List (List Int)} (h : RunRes ws mf ss n l t) (h2 : RunRes ws mf ss n l2 t2) : l = l2 ∧ t = t2 := by
  match l, l2, h, h2 with
  | none, none, h, h2 => exact ⟨rfl, h.1.trans h2.1.symm⟩
  | none, some (b, w), h, h2 =>
    obtain ⟨h3, h4, h5, _⟩ := h2
    rw [h4] at h5
    exact absurd h5.1 (h.2 b h3 w)
  | some (b, w), none, h, h2 =>
    obtain ⟨h3, h4, h5, _⟩ := h
    rw [h4] at h5
    exact absurd h5.1 (h2.2 b h3 w)
  | some (b, w), some (c, v), h, h2 =>
    obtain ⟨h3, h4, h5, h6⟩ := h
    obtain ⟨k3, k4, k5, k6⟩ := h2
    rw [h4] at h5
    rw [k4] at k5
    have e : b = c := by
      rcases Nat.lt_trichotomy b c with z | z | z
      · exact absurd h5.1 (k6 b z w)
      · exact z
      · exact absurd k5.1 (h6 c z v)
    subst e
    have e2 : w = v := by
      rcases Nat.lt_trichotomy w v with z | z | z
      · exact absurd h5.1 (k5.2 w z)
      · exact z
      · exact absurd k5.1 (h5.2 v z)
    subst e2
    exact ⟨rfl, h4.trans k4.symm⟩
theorem strokesAt_take {b : Int} {ss : List W3} {tu : List (List Int)} {i : Nat} {s : W3} (h : ss[i]? = some s) : strokesAt b (ss.take (i + 1)) tu = strokeAt b (strokesAt b (ss.take i) tu) s := by
  unfold strokesAt
  rw [List.take_add_one, h, List.foldl_append]
  rfl
/-- all words' lists are in order -/
structure OkTu (n : Nat) (tu : List (List Int)) : Prop where
  len : tu.length = n
  ok : ∀ xs ∈ tu, OkX xs
theorem okTu_set {n : Nat} {tu : List (List Int)} (h : OkTu n tu) (i : Nat) {xs : List Int} (hx : OkX xs) : OkTu n (tu.set i xs) := ⟨by rw [List.length_set]; exact h.len, fun y hy => (List.mem_or_eq_of_mem_set hy).elim (h.ok y) fun e => by rw [e]; exact hx⟩
theorem okTu_getD {n : Nat} {tu : List (List Int)} (h : OkTu n tu) (i : Nat) : OkX (tu.getD i []) := by
  by_cases hi : i < tu.length
  · exact h.ok _ (getD_mem hi)
  · rw [List.getD_eq_getElem?_getD, List.getElem?_eq_none (by omega)]; exact okX_nil
theorem okTu_mend {n : Nat} {tu : List (List Int)} (h : OkTu n tu) (o : Option Int) : OkTu n (mendAt o tu) := by
  cases o with
  | none => exact h
  | some w => exact okTu_set h _ okX_nil
theorem okTu_stroke {n : Nat} {tu : List (List Int)} (h : OkTu n tu) (b : Int) {s : W3} (h0 : 0 ≤ s.2.2) (h8 : s.2.2 < 8) : OkTu n (strokeAt b tu s) := by
  unfold strokeAt
  split
  · exact okTu_set h _ (okX_flip (okTu_getD h _) h0 h8)
  · exact h
theorem okTu_strokes {n : Nat} (b : Int) : ∀ (ss : List W3) {tu : List (List Int)}, OkTu n tu → (∀ s ∈ ss, 0 ≤ s.2.2 ∧ s.2.2 < 8) → OkTu n (strokesAt b ss tu)
  | [], _, h, _ => h
  | s :: ss, tu, h, hs => okTu_strokes b ss (okTu_stroke h b (hs s List.mem_cons_self).1 (hs s List.mem_cons_self).2) fun t ht => hs t (List.mem_cons_of_mem _ ht)
theorem okTu_at {ws ss : List W3} (mf : Nat → Option Int) (hs : ∀ s ∈ ss, 0 ≤ s.2.2 ∧ s.2.2 < 8) : ∀ b, OkTu ws.length (tuAt mf ss ws.length b)
  | 0 => ⟨List.length_replicate, fun xs hx => by rw [(List.mem_replicate.mp hx).2]; exact okX_nil⟩
  | b + 1 => okTu_strokes _ ss (okTu_mend (okTu_at mf hs b) _) hs
theorem bits_of {ws ss : List W3} (okw : OkWs ws) (ok : OkSt ws ss) : ∀ s ∈ ss, 0 ≤ s.2.2 ∧ s.2.2 < 8 := fun s hs => by
  obtain ⟨_, _, h3, h4, h5, h6⟩ := ok.rng s hs
  have h := okw.ok _ (getD_mem (d := d3) (show s.2.1.toNat < ws.length by omega))
  have := h.2.1
  omega
/-! ### a list of open lists -/
structure TuAt (G H H0 : Hp) (t : Addr) (ls : List Addr) (tu : List (List Int)) : Prop where
  tt : At G H t (.lst (ls.map V.ref))
  pr : Paired (fun p xs => At G H p (.lst (xs.map V.int)) ∧ H0 p = none) ls tu
  nd : ls.Nodup
  nt : ¬ t ∈ ls
  n0 : H0 t = none
theorem Paired.mem {α β : Type} {R : α → β → Prop} : ∀ {xs : List α} {ys : List β}, Paired R xs ys → ∀ {x : α}, x ∈ xs → ∃ y, R x y
  | _, _, .nil, _, h => by cases h
  | _, _, .cons r t, x, h => by
    rcases List.mem_cons.mp h with e | h
    · rw [e]; exact ⟨_, r⟩
    · exact Paired.mem t h
theorem Paired.impM {α β : Type} {R S : α → β → Prop} : ∀ {xs : List α} {ys : List β}, Paired R xs ys → (∀ x y, x ∈ xs → R x y → S x y) → Paired S xs ys
  | _, _, .nil, _ => .nil
  | _, _, .cons r t, f => .cons (f _ _ List.mem_cons_self r) (Paired.impM t fun x y h => f x y (List.mem_cons_of_mem _ h))
theorem Paired.setM {α β : Type} {R : α → β → Prop} {x : α} {y : β} (r : R x y) : ∀ {xs : List α} {ys : List β} (i : Nat), Paired R xs ys → Paired R (xs.set i x) (ys.set i y)
  | _, _, _, .nil => .nil
  | _, _, 0, .cons _ t => .cons r t
  | _, _, i + 1, .cons q t => .cons q (Paired.setM r i t)
theorem nodup_set {α : Type} {x : α} : ∀ {xs : List α}, xs.Nodup → ¬ x ∈ xs → ∀ i, (xs.set i x).Nodup
  | [], h, _, _ => h
  | y :: ys, h, n, 0 => List.nodup_cons.mpr ⟨fun z => n (List.mem_cons_of_mem _ z), (List.nodup_cons.mp h).2⟩
  | y :: ys, h, n, i + 1 => List.nodup_cons.mpr ⟨fun z => (List.mem_or_eq_of_mem_set z).elim (List.nodup_cons.mp h).1 fun e => n (by rw [← e]; exact List.mem_cons_self), nodup_set (List.nodup_cons.mp h).2 (fun z => n (List.mem_cons_of_mem _ z)) i⟩
section
variable {G H H0 G1 H1 : Hp} {t q : Addr} {ls : List Addr} {tu : List (List Int)} {xs : List Int}
theorem TuAt.mono (T : TuAt G H H0 t ls tu) (s : Gr No G H G1 H1) : TuAt G1 H1 H0 t ls tu := ⟨T.tt.monoN s, Paired.imp (fun _ _ h => ⟨h.1.monoN s, h.2⟩) T.pr, T.nd, T.nt, T.n0⟩
theorem TuAt.fresh (T : TuAt G H H0 t ls tu) (n : H q = none) : ¬ q ∈ ls ∧ q ≠ t := by
  refine ⟨fun h => ?_, fun e => ?_⟩
  · obtain ⟨xs, h1, _⟩ := Paired.mem T.pr h
    rw [h1.h] at n
    cases n
  · rw [e, T.tt.h] at n
    cases n
theorem TuAt.len (T : TuAt G H H0 t ls tu) : ls.length = tu.length := Paired.len T.pr
theorem TuAt.get (T : TuAt G H H0 t ls tu) {i : Nat} (h : i < tu.length) : ∃ p, (ls.map V.ref)[i]? = some (.ref p) ∧ At G H p (.lst ((tu.getD i []).map V.int)) := by
  have hl : i < ls.length := by rw [T.len]; exact h
  refine ⟨ls[i], by rw [List.getElem?_map, List.getElem?_eq_getElem hl]; rfl, ?_⟩
  exact (Paired.at T.pr (List.getElem?_eq_getElem hl) (getD_at (d := []) h)).1
theorem TuAt.set (T : TuAt G H H0 t ls tu) (tq : At G H q (.lst (xs.map V.int))) (nq : ¬ q ∈ ls) (nqt : q ≠ t) (q0 : H0 q = none) (i : Nat) : TuAt G (upd H t (.lst ((ls.map V.ref).set i (.ref q)))) H0 t (ls.set i q) (tu.set i xs) := by
  refine ⟨by rw [List.map_set]; exact T.tt.put, Paired.setM ⟨tq.off nqt, q0⟩ i (Paired.impM T.pr fun x y hx h => ⟨h.1.off fun e => T.nt (by rw [← e]; exact hx), h.2⟩), ?_, fun h => ?_, T.n0⟩
  · exact nodup_set T.nd nq i
  · rcases List.mem_or_eq_of_mem_set h with h | h
    · exact T.nt h
    · exact nqt h.symm
end
theorem TuAt.off {G H H0 : Hp} {t q : Addr} {ls : List Addr} {tu : List (List Int)} {u : HO} (T : TuAt G H H0 t ls tu) (nq : ¬ q ∈ ls) (nqt : q ≠ t) : TuAt G (upd H q u) H0 t ls tu :=
  ⟨T.tt.off fun e => nqt e.symm, Paired.impM T.pr fun x y hx h => ⟨h.1.off fun e => nq (by rw [← e]; exact hx), h.2⟩, T.nd, T.nt, T.n0⟩
theorem TuAt.push {G H H0 : Hp} {t q : Addr} {ls : List Addr} {tu : List (List Int)} {xs : List Int} (T : TuAt G H H0 t ls tu) (tq : At G H q (.lst (xs.map V.int))) (nq : ¬ q ∈ ls) (nqt : q ≠ t) (q0 : H0 q = none) : TuAt G (upd H t (.lst (ls.map V.ref ++ [.ref q]))) H0 t (ls ++ [q]) (tu ++ [xs]) := by
  refine ⟨by rw [List.map_append]; exact T.tt.put, Paired.snoc ⟨tq.off nqt, q0⟩ (Paired.impM T.pr fun x y hx h => ⟨h.1.off fun e => T.nt (by rw [← e]; exact hx), h.2⟩), ?_, fun h => ?_, T.n0⟩
  · rw [List.nodup_append]
    exact ⟨T.nd, by simp, fun a ha b hb e => nq (by rw [← List.mem_singleton.mp hb, ← e]; exact ha)⟩
  · rcases List.mem_append.mp h with h | h
    · exact T.nt h
    · exact nqt (List.mem_singleton.mp h).symm
theorem i_sortedI {K : PySem.W.Frag} {H : Hp} {Q : VK} {c : Addr} {ns : List Int} (h : SqL K H c (ns.map V.int)) (q : NewL ((srt ns).map V.int) H Q) : rSortedI K [.ref c] H Q :=
  ⟨c, ns, rfl, h, fun ns' p pm sm np => by rw [srt_uniq pm sm]; exact q.2 p np⟩
theorem filter_take {α : Type} {P : α → Bool} {xs : List α} {i : Nat} {x : α} (h : xs[i]? = some x) : (xs.take (i + 1)).filter P = (xs.take i).filter P ++ (if P x then [x] else []) := by
  rw [List.take_add_one, h, List.filter_append]
  congr 1
  show List.filter P [x] = _
  rw [List.filter_cons]
  rfl
/-- the first loss, told -/
def LostV (K : PySem.W.Frag) (G : Hp) (v : V) (lost : Option (Nat × Nat)) : Prop := match lost with
  | none => v = .non
  | some (b, w) => ∃ p, v = .ref p ∧ SqT K G p [.int (b : Nat), .int (w : Nat)]
def spRun (K : PySem.W.Frag) (C : Addr) : Sp := fun vs H Q _ => ∃ (G : Hp) (m a p s : Addr) (n : Int) (ws ss : List W3) (ld : List Int) (hd lp : List (Option Int)), vs = [.ref m, .ref a, .ref p, .ref s, .int n] ∧ Same G H ∧ MemAt K C G m ws ∧
  G a = some (.lst (ld.map V.int)) ∧ OkLd ld ∧ Pl K G p hd lp ∧ OkPl ws.length hd lp ∧ TupL K G s (ss.map vW) ∧ OkSt ws ss ∧ 0 ≤ n ∧ n ≤ 100000 ∧
  ∀ lost tu r t lv ls G' H', RunRes ws (mend ld hd lp) ss n.toNat lost tu → Gr No G H G' H' → H r = none → SqT K G' r [lv, .ref t] → LostV K G' lv lost → TuAt G' H' H t ls tu → Q (.ref r) H'
end Z
set_option Elab.async false
set_option linter.all false
set_option maxRecDepth 100000
set_option maxHeartbeats 4000000
namespace Z
open PySem PySem.Spec PyProof.Rows L2
/-! ### the law's own list of mendings -/
/-- what is left of a plan behind k things -/
structure Left (hd lp : List (Option Int)) (k : Nat) (L : List (Option Int)) : Prop where
  at_ : ∀ j, j < L.length → L.getD j none = thing hd lp (k + j)
  ge : hd.length ≤ k + L.length
  al : (k + L.length - hd.length) % lp.length = 0
  few : L.length ≤ hd.length + lp.length
theorem left_zero (hd lp : List (Option Int)) : Left hd lp 0 hd := by
  refine ⟨fun j hj => ?_, by omega, by rw [Nat.zero_add, Nat.sub_self]; exact Nat.zero_mod _, by omega⟩
  rw [Nat.zero_add]
  unfold thing
  rw [if_pos hj]
theorem left_new {hd lp : List (Option Int)} {k : Nat} (h : Left hd lp k []) (l1 : 1 ≤ lp.length) : Left hd lp k lp := by
  have h1 := h.ge
  have h2 := h.al
  rw [List.length_nil, Nat.add_zero] at h1 h2
  refine ⟨fun j hj => ?_, by omega, ?_, by omega⟩
  · unfold thing
    rw [if_neg (by omega)]
    have e : (k + j - hd.length) % lp.length = j := by
      rw [show k + j - hd.length = (k - hd.length) + j by omega, Nat.add_mod, h2, Nat.zero_add, Nat.mod_mod, Nat.mod_eq_of_lt hj]
    rw [e]
  · rw [show k + lp.length - hd.length = (k - hd.length) + lp.length by omega, Nat.add_mod_right]
    exact h2
theorem left_pop {hd lp : List (Option Int)} {k : Nat} {o : Option Int} {L : List (Option Int)} (h : Left hd lp k (o :: L)) : o = thing hd lp k ∧ Left hd lp (k + 1) L := by
  refine ⟨h.at_ 0 (Nat.succ_pos _), fun j hj => ?_, ?_, ?_, ?_⟩
  · have := h.at_ (j + 1) (Nat.succ_lt_succ hj)
    rw [show k + 1 + j = k + (j + 1) by omega]
    exact this
  · have := h.ge
    rw [List.length_cons] at this
    omega
  · have := h.al
    rw [List.length_cons] at this
    rw [show k + 1 + L.length = k + (L.length + 1) by omega]
    exact this
  · have := h.few
    rw [List.length_cons] at this
    omega
def spMends (K : PySem.W.Frag) : Sp := fun vs H Q _ => ∃ (G : Hp) (a p : Addr) (n : Int) (ld : List Int) (hd lp : List (Option Int)) (k : Nat), vs = [.ref a, .ref p, .int n] ∧ Same G H ∧ G a = some (.lst (ld.map V.int)) ∧ OkLd ld ∧ Pl K G p hd lp ∧ OkPl k hd lp ∧ 0 ≤ n ∧ n ≤ 100000 ∧
  ∀ q H', H q = none → Gr No G H G H' → At G H' q (.lst ((mends ld hd lp n.toNat).map vO)) → Q (.ref q) H'
section
variable {K : PySem.W.Frag} {C : Addr} {X : Addr → Prop} {G0 H0 G H : Hp} {Q : VK} {E : XK}
theorem i_mends {a p : Addr} {n : Int} {ld : List Int} {hd lp : List (Option Int)} {j : Nat} (g : Gr X G0 H0 G H) (hl : G a = some (.lst (ld.map V.int))) (ok : OkLd ld) (pl : Pl K G p hd lp) (okp : OkPl j hd lp) (h0 : 0 ≤ n) (h1 : n ≤ 100000)
    (k : ∀ q H', H q = none → Gr No G H G H' → Gr X G0 H0 G H' → At G H' q (.lst ((mends ld hd lp n.toNat).map vO)) → Q (.ref q) H') : spMends K ([.ref a, .ref p, .int n] ++ []) H Q E :=
  ⟨G, a, p, n, ld, hd, lp, j, rfl, g.sub, hl, ok, pl, okp, h0, h1, fun q H' nq s t => k q H' nq s (g.seqN s) t⟩
theorem i_pop0 {l : Addr} {y : V} {xs : List V} (h : H l = some (.lst (y :: xs))) (q : Q y (upd H l (.lst xs))) : rPopAt (.ref l) [.int 0] H Q := by
  refine ⟨l, y :: xs, 0, 0, y, rfl, rfl, h, by omega, by omega, ?_, rfl, q⟩
  simp [seqIndex?]
end
/-- words and strokes as data -/
def dW (w : W3) : PyData := .tuple [.int w.1, .int w.2.1, .int w.2.2]
theorem dk_W {k : Nat} (w : W3) : Dk (k + 1) (dW w) := dk_tup fun d hd => by
  simp only [List.mem_cons, List.not_mem_nil, or_false] at hd
  rcases hd with rfl | rfl | rfl <;> exact dk_int
theorem dk_Ws {k : Nat} (ws : List W3) : Dk (k + 2) (.list (ws.map dW)) := dk_list fun d hd => by
  obtain ⟨w, _, rfl⟩ := List.mem_map.mp hd
  exact dk_W w
theorem dpAll_W {K : PySem.W.Frag} {H : Hp} : ∀ {as : List Addr} {ws : List W3}, Paired (fun p t => SqT K H p t) as (ws.map vW) → DpAll K H (as.map V.ref) (ws.map dW)
  | [], [], _ => .nil
  | [], _ :: _, h => by cases h
  | _ :: _, [], h => by cases h
  | a :: as, w :: ws, h => by
    cases h with
    | cons h1 h2 => exact .cons (.tup h1 (.cons (.int _) (.cons (.int _) (.cons (.int _) .nil)))) (dpAll_W h2)
end Z
set_option Elab.async false
set_option linter.all false
set_option maxRecDepth 100000
set_option maxHeartbeats 4000000
namespace Z
open PySem PySem.Spec PyProof.Rows L2
theorem i_sl32 {K : PySem.W.Frag} {H : Hp} {Q : VK} {p : Addr} {a b c : V} (h : SqT K H p [a, b, c]) (q : NewT [a, b] H Q) : rSlT K (.ref p) none (some 2) H Q := i_slT h (by show ¬ (HT.sIx 3 0 none = 0 ∧ HT.sIx 3 3 (some 2) = 3); decide) q
/-- the words lost, as a list -/
def lostL (ws : List W3) (tu : List (List Int)) (n : Nat) : List Nat := (List.range n).filter fun w => decide ((ws.getD w d3).2.1 < ((tu.getD w []).length : Int))
theorem lostL_none {ws : List W3} {tu : List (List Int)} (h : lostL ws tu ws.length = []) : LossAt ws tu none := by
  intro w hw
  have : w ∈ lostL ws tu ws.length := List.mem_filter.mpr ⟨List.mem_range.mpr hw.1, decide_eq_true hw.2⟩
  rw [h] at this
  cases this
theorem lostL_some {ws : List W3} {tu : List (List Int)} {w : Nat} {r : List Nat} (h : lostL ws tu ws.length = w :: r) : LossAt ws tu (some w) := by
  have e : (lostL ws tu ws.length).head? = some w := by rw [h]; rfl
  unfold lostL at e
  rw [List.head?_filter, List.find?_range_eq_some] at e
  obtain ⟨h1, h2, h3⟩ := e
  refine ⟨⟨List.mem_range.mp h2, of_decide_eq_true h1⟩, fun v hv hl => ?_⟩
  have := h3 v hv
  rw [decide_eq_true hl.2] at this
  cases this
theorem lostL_succ (ws : List W3) (tu : List (List Int)) (n : Nat) : lostL ws tu (n + 1) = lostL ws tu n ++ (if (ws.getD n d3).2.1 < ((tu.getD n []).length : Int) then [n] else []) := by
  unfold lostL
  rw [List.range_succ, List.filter_append]
  congr 1
  rw [List.filter_cons]
  by_cases h : (ws.getD n d3).2.1 < ((tu.getD n []).length : Int)
  · rw [if_pos (decide_eq_true h), if_pos h]; rfl
  · rw [if_neg (by simpa using h), if_neg h]; rfl
theorem lostL_len (ws : List W3) (tu : List (List Int)) (n : Nat) : (lostL ws tu n).length ≤ n := by
  refine Nat.le_trans (List.length_filter_le _ _) ?_
  rw [List.length_range]
  exact Nat.le_refl n
def nI (w : Nat) : Int := (w : Int)
def spFall (K : PySem.W.Frag) : Sp := fun vs H Q _ => ∃ (G : Hp) (a p : Addr) (ws ss : List W3), vs = [.ref a, .ref p] ∧ Same G H ∧ TupL K G a (ws.map vW) ∧ OkWs ws ∧ TupL K G p (ss.map vW) ∧ OkSt ws ss ∧ ∀ H', Gr No G H G H' → Q (.bl true) H'
def spStrokes (K : PySem.W.Frag) : Sp := fun vs H Q _ => ∃ (G : Hp) (d a : Addr) (m : Int) (ws : List W3), vs = [.ref d, .ref a, .int m] ∧ Same G H ∧ Dice K G H d ∧ TupL K G a (ws.map vW) ∧ OkWs ws ∧ 0 ≤ m ∧ m ≤ 100 ∧
  ∀ ss p G' H', Gr (· = d) G H G' H' → Dice K G' H' d → TupL K G' p (ss.map vW) → OkSt ws ss → (∀ s ∈ ss, s.1 ≤ 2 * m) → Q (.ref p) H'
theorem ltP_trans {a b c : Int × Int} (h1 : ltP a b) (h2 : ltP b c) : ltP a c := by
  obtain ⟨a1, a2⟩ := a
  obtain ⟨b1, b2⟩ := b
  obtain ⟨c1, c2⟩ := c
  have h1 : a1 < b1 ∨ (a1 = b1 ∧ a2 < b2) := h1
  have h2 : b1 < c1 ∨ (b1 = c1 ∧ b2 < c2) := h2
  show a1 < c1 ∨ (a1 = c1 ∧ a2 < c2)
  omega
section
variable {K : PySem.W.Frag} {X : Addr → Prop} {G0 H0 G H : Hp} {Q : VK} {E : XK}
theorem i_fall {a p : Addr} {ws ss : List W3} (g : Gr X G0 H0 G H) (hw : TupL K G a (ws.map vW)) (okw : OkWs ws) (hs : TupL K G p (ss.map vW)) (ok : OkSt ws ss) (k : ∀ H', Gr No G H G H' → Gr X G0 H0 G H' → Q (.bl true) H') : spFall K ([.ref a, .ref p] ++ []) H Q E :=
  ⟨G, a, p, ws, ss, rfl, g.sub, hw, okw, hs, ok, fun H' s => k H' s (g.seqN s)⟩
theorem i_strokes {d a : Addr} {m : Int} {ws : List W3} (g : Gr X G0 H0 G H) (D : Dice K G H d) (hd : X d ∨ H0 d = none) (hw : TupL K G a (ws.map vW)) (okw : OkWs ws) (h0 : 0 ≤ m) (h1 : m ≤ 100)
    (k : ∀ ss p G' H', Gr (· = d) G H G' H' → Gr X G0 H0 G' H' → Dice K G' H' d → TupL K G' p (ss.map vW) → OkSt ws ss → (∀ s ∈ ss, s.1 ≤ 2 * m) → Q (.ref p) H') : spStrokes K ([.ref d, .ref a, .int m] ++ []) H Q E :=
  ⟨G, d, a, m, ws, rfl, g.sub, D, hw, okw, h0, h1, fun ss p G' H' s => k ss p G' H' s (g.seq s fun c e => by rw [e]; exact hd)⟩
end
/-- the last beat of each word, seen from the drawing side -/
structure LastIs (ss : List W3) (kvs : List (Key × V)) : Prop where
  few : kvs.length ≤ ss.length
  is : ∀ w, (valV kvs (Sum.inl w) = none ∨ ∃ x, valV kvs (Sum.inl w) = some (.int x) ∧ 0 ≤ x) ∧ ∀ s ∈ ss, s.2.1 = w → ∃ x, valV kvs (Sum.inl w) = some (.int x) ∧ s.1 ≤ x
theorem lastIs_nil : LastIs [] [] := ⟨Nat.le_refl _, fun w => ⟨.inl rfl, fun s hs => by cases hs⟩⟩
theorem lastIs_put {ss : List W3} {kvs : List (Key × V)} {b w t : Int} (h : LastIs ss kvs) (h0 : 0 ≤ b) (hb : ∀ s ∈ ss, s.1 ≤ b) : LastIs (ss ++ [(b, w, t)]) (putK kvs (Sum.inl w) (.int b)) := by
  refine ⟨Nat.le_trans (length_putK _ _ _) (by have := h.few; simp; omega), fun v => ?_⟩
  rw [valV_put]
  by_cases e : (Sum.inl v : Key) = Sum.inl w
  · have e2 : v = w := Sum.inl.inj e
    rw [if_pos e]
    refine ⟨.inr ⟨b, rfl, h0⟩, fun s hs hw => ⟨b, rfl, ?_⟩⟩
    rcases List.mem_append.mp hs with h1 | h1
    · exact hb s h1
    · rw [List.mem_singleton.mp h1]; exact Int.le_refl b
  · have e2 : v ≠ w := fun z => e (by rw [z])
    rw [if_neg e]
    refine ⟨(h.is v).1, fun s hs hw => ?_⟩
    rcases List.mem_append.mp hs with h1 | h1
    · exact (h.is v).2 s h1 hw
    · rw [List.mem_singleton.mp h1] at hw; exact absurd hw.symm e2
theorem paired_last {R : Addr → List V → Prop} {fa : List Addr} {ss : List W3} (h : Paired R fa (ss.map vW)) (hne : ss ≠ []) : ∃ fi f0 s0, fa = fi ++ [f0] ∧ ss.getLast? = some s0 ∧ R f0 (vW s0) := by
  have hl : fa.length = ss.length := by rw [Paired.len h, List.length_map]
  have hp : 0 < ss.length := List.length_pos_iff.mpr hne
  have hf : fa ≠ [] := by rintro rfl; rw [List.length_nil] at hl; omega
  refine ⟨fa.dropLast, fa.getLast hf, ss.getLast hne, (List.dropLast_concat_getLast hf).symm, List.getLast?_eq_some_getLast hne, ?_⟩
  refine Paired.at h (i := ss.length - 1) ?_ ?_
  · rw [← hl, List.getLast_eq_getElem, List.getElem?_eq_getElem]
  · rw [List.getElem?_map, List.getLast_eq_getElem, List.getElem?_eq_getElem (by omega)]
    rfl
/-- the strokes drawn so far -/
structure Drawn (ws ss : List W3) (kvs : List (Key × V)) (b : Int) : Prop where
  rng : ∀ s ∈ ss, 0 ≤ s.1 ∧ s.1 ≤ b ∧ 0 ≤ s.2.1 ∧ s.2.1 < ws.length ∧ 0 ≤ s.2.2 ∧ s.2.2 < (ws.getD s.2.1.toNat d3).1
  ord : ss.Pairwise fun s t => ltP (s.1, s.2.1) (t.1, t.2.1) ∧ (s.2.1 = t.2.1 → (ws.getD t.2.1.toNat d3).2.2 ≤ t.1 - s.1)
  la : LastIs ss kvs
theorem drawn_nil (ws : List W3) : Drawn ws [] [] 0 := ⟨fun s h => (by cases h), .nil, lastIs_nil⟩
theorem Drawn.up {ws ss : List W3} {kvs : List (Key × V)} {b c : Int} (h : Drawn ws ss kvs b) (l : b ≤ c) : Drawn ws ss kvs c := ⟨fun s hs => by have := h.rng s hs; omega, h.ord, h.la⟩
theorem Drawn.more {ws ss : List W3} {kvs : List (Key × V)} {b w t x : Int} (h : Drawn ws ss kvs b) (h0 : 0 ≤ b) (w0 : 0 ≤ w) (w1 : w < ws.length) (t0 : 0 ≤ t) (t1 : t < (ws.getD w.toNat d3).1)
    (late : ss = [] ∨ ∃ s0, ss.getLast? = some s0 ∧ ltP (s0.1, s0.2.1) (b, w)) (hx : (valV kvs (Sum.inl w)).getD (.int (-99)) = .int x) (hg : (ws.getD w.toNat d3).2.2 ≤ b - x) : Drawn ws (ss ++ [(b, w, t)]) (putK kvs (Sum.inl w) (.int b)) b := by
  refine ⟨fun s hs => ?_, ?_, lastIs_put h.la h0 fun s hs => (h.rng s hs).2.1⟩
  · rcases List.mem_append.mp hs with h1 | h1
    · exact h.rng s h1
    · rw [List.mem_singleton.mp h1]
      exact ⟨h0, Int.le_refl b, w0, w1, t0, t1⟩
  · rw [List.pairwise_append]
    refine ⟨h.ord, List.pairwise_singleton _ _, fun s hs y hy => ?_⟩
    rw [List.mem_singleton.mp hy]
    refine ⟨?_, fun hw => ?_⟩
    · rcases late with rfl | ⟨s0, hl, hlt⟩
      · cases hs
      · obtain ⟨init, rfl⟩ : ∃ init, ss = init ++ [s0] := by
          have hne : ss ≠ [] := by rintro rfl; cases hs
          refine ⟨ss.dropLast, ?_⟩
          have e := List.getLast?_eq_some_getLast hne
          rw [hl] at e
          cases e
          exact (List.dropLast_concat_getLast hne).symm
        rcases List.mem_append.mp hs with h1 | h1
        · have := (List.pairwise_append.mp h.ord).2.2 s h1 s0 (by simp)
          exact ltP_trans this.1 hlt
        · rw [List.mem_singleton.mp h1]; exact hlt
    · obtain ⟨x2, e, hle⟩ := (h.la.is w).2 s hs hw
      rw [e] at hx
      cases hx
      show (ws.getD w.toNat d3).2.2 ≤ b - s.1
      omega
end Z
set_option Elab.async false
set_option linter.all false
set_option maxRecDepth 100000
set_option maxHeartbeats 4000000
namespace Z
open PySem PySem.Spec PyProof.Rows L2
/-! ### the law's own calls -/
def spLaw (K : PySem.W.Frag) : Sp := fun vs H Q _ => ∃ (a : Addr) (ns : List Int), vs = [.ref a] ∧ SqL K H a (ns.map V.int) ∧ ns.length ≤ 63 ∧ ∀ H', Q (.bl true) H'
section
variable {K : PySem.W.Frag} {C : Addr} {X : Addr → Prop} {G0 H0 G H : Hp} {Q : VK} {E : XK} {σ : L2.St} {t : TS} {D : Ends}
theorem i_dice {s : Addr} {ns : List Int} (g : Gr X G0 H0 G H) (h : SqL K G s (ns.map V.int)) (k : ∀ p H', H0 p = none → Gr No G H G H' → Gr X G0 H0 G H' → Dice K G H' p → Q (.ref p) H') : spDice K ([.ref s] ++ []) H Q E :=
  ⟨s, ns, G, rfl, g.sub, h, fun p H' s D np => k p H' (g.fresh np) s (g.seqN s) D⟩
theorem i_memory {d : Addr} {m : Int} (g : Gr X G0 H0 G H) (D : Dice K G H d) (hd : X d ∨ H0 d = none) (h0 : 0 < m) (h1 : m ≤ 4)
    (k : ∀ ws p G' H', H p = none → Gr (· = d) G H G' H' → Gr X G0 H0 G' H' → Dice K G' H' d → TupL K G' p (ws.map vW) → OkWs ws → (ws.length : Int) ≤ m → Q (.ref p) H') : spMemory K ([.ref d, .int m] ++ []) H Q E :=
  ⟨G, d, m, rfl, g.sub, D, h0, h1, fun ws p G' H' s D' np => k ws p G' H' np s (g.seq s fun c e => by rw [e]; exact hd) D'⟩
theorem i_load {d : Addr} {m : Int} (g : Gr X G0 H0 G H) (D : Dice K G H d) (hd : X d ∨ H0 d = none) (h0 : 0 < m) (h1 : m ≤ 12)
    (k : ∀ ld p G' H', Gr (· = d) G H G' H' → Gr X G0 H0 G' H' → Dice K G' H' d → G' p = some (.lst (ld.map V.int)) → OkLd ld → (ld.length : Int) ≤ m → Q (.ref p) H') : spLoad K ([.ref d, .int m] ++ []) H Q E :=
  ⟨G, d, m, rfl, g.sub, D, h0, h1, fun ld p G' H' s D' np => k ld p G' H' s (g.seq s fun c e => by rw [e]; exact hd) D'⟩
theorem i_plan {d : Addr} {m : Int} (g : Gr X G0 H0 G H) (D : Dice K G H d) (hd : X d ∨ H0 d = none) (h0 : 0 < m) (h1 : m ≤ 4)
    (k : ∀ hdl lp p G' H', Gr (· = d) G H G' H' → Gr X G0 H0 G' H' → Dice K G' H' d → Pl K G' p hdl lp → OkPl m.toNat hdl lp → hdl.length ≤ 40 → lp.length ≤ 40 → Q (.ref p) H') : spPlan K ([.ref d, .int m] ++ []) H Q E :=
  ⟨G, d, m, rfl, g.sub, D, h0, h1, fun hdl lp p G' H' s D' => k hdl lp p G' H' s (g.seq s fun c e => by rw [e]; exact hd) D'⟩
/-- what run tells, as data -/
def dLost (lost : Option (Nat × Nat)) : PyData := match lost with
  | none => .none
  | some (b, w) => .tuple [.int (b : Nat), .int (w : Nat)]
def dTu (tu : List (List Int)) : PyData := .list (tu.map fun xs => .list (xs.map PyData.int))
def dR (lost : Option (Nat × Nat)) (tu : List (List Int)) : PyData := .tuple [dLost lost, dTu tu]
theorem dk_R (lost : Option (Nat × Nat)) (tu : List (List Int)) : Dk 3 (dR lost tu) := dk_tup fun d hd => by
  simp only [List.mem_cons, List.not_mem_nil, or_false] at hd
  rcases hd with rfl | rfl
  · match lost with
    | none => exact dk_non
    | some (b, w) => exact (dk_tup (k := 0) fun d hd => by
        simp only [List.mem_cons, List.not_mem_nil, or_false] at hd
        rcases hd with rfl | rfl <;> exact dk_int).mono (by decide)
  · exact dk_list fun d hd => by
      obtain ⟨xs, _, rfl⟩ := List.mem_map.mp hd
      exact dk_ints xs
theorem dpAll_tu {ls : List Addr} {tu : List (List Int)} {P : Addr → Prop} (pr : Paired (fun p xs => At G H p (.lst (xs.map V.int)) ∧ P p) ls tu) : DpAll K H (ls.map V.ref) (tu.map fun xs => .list (xs.map PyData.int)) := by
  induction pr with
  | nil => exact .nil
  | cons r t ih => exact .cons (Dp.ints (.inl (.inl r.1.h))) ih
theorem dp_lost {v : V} {lost : Option (Nat × Nat)} (h : LostV K H v lost) : Dp K H v (dLost lost) := by
  match lost, h with
  | none, h =>
    have e : v = .non := h
    rw [e]; exact .non
  | some (b, w), h =>
    obtain ⟨p, rfl, hp⟩ := h
    exact .tup hp (.cons (.int _) (.cons (.int _) .nil))
theorem LostV.mono {G' : Hp} {v : V} {lost : Option (Nat × Nat)} (e : Same G G') (h : LostV K G v lost) : LostV K G' v lost := by
  match lost, h with
  | none, h => exact h
  | some (b, w), ⟨p, h1, h2⟩ => exact ⟨p, h1, sqt e h2⟩
theorem dp_run {r t : Addr} {lv : V} {lost : Option (Nat × Nat)} {tu : List (List Int)} {ls : List Addr} (sb : Same G H) (hr : SqT K G r [lv, .ref t]) (hv : LostV K G lv lost) (T : TuAt G H H0 t ls tu) : Dp K H (.ref r) (dR lost tu) :=
  .tup (sqt sb hr) (.cons (dp_lost (hv.mono sb)) (.cons (.lst (.inl (.inl T.tt.h)) (dpAll_tu T.pr)) .nil))
theorem Gr.same (s : Gr No G H G0 H0) : Same H H0 := fun b o h => s.old b o (fun z => z) h
theorem i_run {m a p sp : Addr} {n : Int} {ws ss : List W3} {ld : List Int} {hd lp : List (Option Int)} (g : Gr X G0 H0 G H) (M : MemAt K C G m ws) (hl : G a = some (.lst (ld.map V.int))) (okl : OkLd ld) (pl : Pl K G p hd lp) (okp : OkPl ws.length hd lp) (hs : TupL K G sp (ss.map vW)) (oks : OkSt ws ss) (n0 : 0 ≤ n) (n1 : n ≤ 100000)
    (k : ∀ lost tu r t lv ls G' H', RunRes ws (mend ld hd lp) ss n.toNat lost tu → Gr No G H G' H' → Gr X G0 H0 G' H' → SqT K G' r [lv, .ref t] → LostV K G' lv lost → TuAt G' H' H t ls tu → Q (.ref r) H') : spRun K C ([.ref m, .ref a, .ref p, .ref sp, .int n] ++ []) H Q E :=
  ⟨G, m, a, p, sp, n, ws, ss, ld, hd, lp, rfl, g.sub, M, hl, okl, pl, okp, hs, oks, n0, n1, fun lost tu r t lv ls G' H' R s _ => k lost tu r t lv ls G' H' R s (g.seqN s)⟩
def ForR3 (g : TG) (tb : TS) (D : Ends) (σ : L2.St) (vs : List V) (H : Hp) : Prop := ∃ (i j c : Int) (n : Nat), vs = [.int i, .int j, .int c] ∧ RgC i j c n ∧ tFor (fun _ H R => R (Itc i c n) H) g tb D σ H
theorem i_forR3 {ts : TA} {g : TG} (q : ts σ H fun x H1 => ForR3 g t D σ x H1) : tFor (iRng3 ts) g t D σ H := q
theorem forR3 {i j c : Int} {n : Nat} {g : TG} (h : RgC i j c n) (Pv : Nat → L2.St → Hp → Prop) (h0 : Pv 0 σ H)
    (hs : ∀ k σ H, k < n → Pv k σ H → g (.int (i + (k : Nat) * c)) σ H fun σ2 H2 => t { D with nx := Pv (k + 1), ct := Pv (k + 1), bk := D.nx } σ2 H2) (hd : ∀ σ H, Pv n σ H → D.nx σ H) : ForR3 g t D σ [.int i, .int j, .int c] H := ⟨i, j, c, n, rfl, h, for_rangeC Pv h0 hs hd⟩
end
theorem rg61 {x : Int} (h0 : 0 ≤ x) (h1 : x < 4) : ∃ n, RgC 0 61 (1 + x) n ∧ ∀ k : Nat, k < n → (0 : Int) + (k : Int) * (1 + x) ≤ 60 := by
  have : x = 0 ∨ x = 1 ∨ x = 2 ∨ x = 3 := by omega
  rcases this with rfl | rfl | rfl | rfl
  · exact ⟨61, ⟨by decide, by decide, by decide +kernel, by decide +kernel⟩, fun k hk => by omega⟩
  · exact ⟨31, ⟨by decide, by decide, by decide +kernel, by decide +kernel⟩, fun k hk => by omega⟩
  · exact ⟨21, ⟨by decide, by decide, by decide +kernel, by decide +kernel⟩, fun k hk => by omega⟩
  · exact ⟨16, ⟨by decide, by decide, by decide +kernel, by decide +kernel⟩, fun k hk => by omega⟩
/-! ### strokes that fall late -/
def late (k : Int) (s : W3) : W3 := (s.1 + k, s.2.1, s.2.2)
theorem okSt_late {ws ss : List W3} (ok : OkSt ws ss) {k : Int} (k0 : 0 ≤ k) (h : ∀ s ∈ ss, s.1 + k ≤ 999) : OkSt ws (ss.map (late k)) := by
  refine ⟨by rw [List.length_map]; exact ok.few, fun s hs => ?_, ?_⟩
  · obtain ⟨t, ht, rfl⟩ := List.mem_map.mp hs
    obtain ⟨r1, r2, r3, r4, r5, r6⟩ := ok.rng t ht
    have := h t ht
    exact ⟨by show 0 ≤ t.1 + k; omega, this, r3, r4, r5, r6⟩
  · rw [List.pairwise_map]
    refine ok.ord.imp fun {s t} ⟨h1, h2⟩ => ⟨?_, fun e => ?_⟩
    · have h1 : s.1 < t.1 ∨ (s.1 = t.1 ∧ s.2.1 < t.2.1) := h1
      show s.1 + k < t.1 + k ∨ (s.1 + k = t.1 + k ∧ s.2.1 < t.2.1)
      omega
    · have := h2 e
      show _ ≤ t.1 + k - (s.1 + k)
      have e2 : (late k t).2.1 = t.2.1 := rfl
      rw [e2]
      omega
theorem strokesAt_none {b : Int} : ∀ {ss : List W3} {tu : List (List Int)}, (∀ s ∈ ss, s.1 ≠ b) → strokesAt b ss tu = tu
  | [], _, _ => rfl
  | s :: ss, tu, h => by
    have e : strokeAt b tu s = tu := if_neg (h s List.mem_cons_self)
    show strokesAt b ss (strokeAt b tu s) = tu
    rw [e]
    exact strokesAt_none fun t ht => h t (List.mem_cons_of_mem _ ht)
theorem set_repl {n i : Nat} : (List.replicate n ([] : List Int)).set i [] = List.replicate n [] := by
  refine List.ext_getElem? fun j => ?_
  rw [List.getElem?_set]
  split
  · split
    · rename_i h1 h2
      subst h1
      rw [List.length_replicate] at h2
      rw [List.getElem?_replicate, if_pos h2]
    · rename_i h1 h2
      subst h1
      rw [List.getElem?_eq_none (by omega)]
  · rfl
theorem tuAt_late {mf : Nat → Option Int} {ss : List W3} {n k : Nat} (h : ∀ s ∈ ss, (k : Int) ≤ s.1) : ∀ b, b ≤ k → tuAt mf ss n b = List.replicate n []
  | 0, _ => rfl
  | b + 1, hb => by
    show strokesAt b ss (mendAt (mf b) (tuAt mf ss n b)) = _
    rw [tuAt_late h b (by omega), strokesAt_none fun s hs => by have := h s hs; omega]
    cases mf b with
    | none => rfl
    | some w => exact set_repl
theorem runRes_late {ws ss : List W3} {mf : Nat → Option Int} {k : Nat} (okw : OkWs ws) (h : ∀ s ∈ ss, (k : Int) ≤ s.1) : RunRes ws mf ss k none (List.replicate ws.length []) := by
  refine ⟨(tuAt_late h k (Nat.le_refl k)).symm, fun b hb w hw => ?_⟩
  rw [tuAt_late h (b + 1) hb] at hw
  obtain ⟨h1, h2⟩ := hw
  have e : (List.replicate ws.length ([] : List Int)).getD w [] = [] := by
    rw [List.getD_eq_getElem?_getD, List.getElem?_replicate, if_pos h1]; rfl
  rw [e] at h2
  have := (okw.ok _ (getD_mem (d := d3) h1)).2.2.1
  have h3 : (ws.getD w d3).2.1 < 0 := h2
  omega
/-- once lost, lost for all longer runs -/
theorem RunRes.longer {ws ss : List W3} {mf : Nat → Option Int} {n m b w : Nat} {tu : List (List Int)} (h : RunRes ws mf ss n (some (b, w)) tu) (l : n ≤ m) : RunRes ws mf ss m (some (b, w)) tu := ⟨Nat.lt_of_lt_of_le h.1 l, h.2⟩
end Z
set_option Elab.async false
set_option linter.all false
set_option maxRecDepth 100000
set_option maxHeartbeats 4000000
namespace Z
open PySem PySem.Spec PyProof.Rows L2
/-! ### stretches without mending, in plain Lean -/
/-- so many beats ahead of beat t is word w without mending -/
def gl (m : Nat → Option Int) (w : Int) : Nat → Nat
  | 0 => 0
  | t + 1 => if m t = some w then 1 else gl m w t + 1
theorem gl_le (m : Nat → Option Int) (w : Int) : ∀ t, gl m w t ≤ t
  | 0 => Nat.le_refl _
  | t + 1 => by
    rw [gl]
    have := gl_le m w t
    split <;> omega
theorem gl_pos (m : Nat → Option Int) (w : Int) (t : Nat) : 1 ≤ gl m w (t + 1) := by
  rw [gl]
  split <;> omega
/-- backward within a stretch -/
theorem gl_back {m : Nat → Option Int} {w : Int} : ∀ {i t : Nat}, i < gl m w t → gl m w (t - i) = gl m w t - i
  | 0, t, _ => by rw [Nat.sub_zero, Nat.sub_zero]
  | i + 1, 0, h => by rw [gl] at h; omega
  | i + 1, t + 1, h => by
    rw [gl] at h
    split at h
    · omega
    · rename_i hm
      have ih := gl_back (m := m) (w := w) (i := i) (t := t) (by omega)
      rw [show t + 1 - (i + 1) = t - i by omega, ih, gl, if_neg hm]
      omega
/-- forward while not mended -/
theorem gl_fwd {m : Nat → Option Int} {w : Int} {t : Nat} : ∀ {i : Nat}, (∀ s, t ≤ s → s < t + i → m s ≠ some w) → gl m w (t + i) = gl m w t + i
  | 0, _ => rfl
  | i + 1, h => by
    have ih := gl_fwd (m := m) (w := w) (t := t) (i := i) fun s h1 h2 => h s h1 (by omega)
    show gl m w (t + i + 1) = _
    rw [gl, if_neg (h (t + i) (by omega) (by omega)), ih]
    omega
/-- within a stretch nothing is mended -/
theorem gl_none {m : Nat → Option Int} {w : Int} {t s : Nat} (h1 : s < t) (h2 : t < s + gl m w t) : m s ≠ some w := by
  intro hm
  have h3 : t - (s + 1) < gl m w t := by omega
  have h4 := gl_back h3
  rw [show t - (t - (s + 1)) = s + 1 by omega, gl, if_pos hm] at h4
  omega
/-- the beats among the first n at which w is mended -/
def mB (m : Nat → Option Int) (w : Int) (n : Nat) : List Nat := (List.range n).filter fun b => decide (m b = some w)
theorem mB_succ (m : Nat → Option Int) (w : Int) (n : Nat) : mB m w (n + 1) = mB m w n ++ (if m n = some w then [n] else []) := by
  unfold mB
  rw [List.range_succ, List.filter_append]
  congr 1
  rw [List.filter_cons]
  by_cases h : m n = some w
  · rw [if_pos (decide_eq_true h), if_pos h]; rfl
  · rw [if_neg (by simpa using h), if_neg h]; rfl
theorem mem_mB {m : Nat → Option Int} {w : Int} {n e : Nat} : e ∈ mB m w n ↔ e < n ∧ m e = some w := by
  unfold mB
  rw [List.mem_filter, List.mem_range, decide_eq_true_iff]
/-- the rows: begin, how long -/
def rowB (m : Nat → Option Int) (w : Int) (e : Nat) : Int × Option Int := ((e : Int) - gl m w e, some (gl m w e : Nat))
def rowsM (m : Nat → Option Int) (lp : List (Option Int)) (w : Int) (n : Nat) : List (Int × Option Int) := (mB m w n).map (rowB m w) ++ (if some w ∈ lp then [] else [((n : Int) - gl m w n, none)])
/-- begins, as the program lists them -/
def begs (m : Nat → Option Int) (w : Int) (n : Nat) : List Int := 0 :: (mB m w n).map fun b => ((b : Nat) : Int)
theorem begs_last (m : Nat → Option Int) (w : Int) : ∀ n, (begs m w n).getLast? = some ((n : Int) - gl m w n)
  | 0 => rfl
  | n + 1 => by
    unfold begs
    rw [mB_succ, gl]
    by_cases h : m n = some w
    · rw [if_pos h, if_pos h, List.map_append, ← List.cons_append]
      show List.getLast? (_ ++ [((n : Nat) : Int)]) = _
      rw [List.getLast?_concat]
      congr 1
      omega
    · rw [if_neg h, if_neg h, List.append_nil]
      have := begs_last m w n
      unfold begs at this
      rw [this]
      congr 1
      omega
theorem begs_at (m : Nat → Option Int) (w : Int) (n k : Nat) (h : k < (mB m w n).length) : (begs m w n).getD (k + 1) 0 - (begs m w n).getD k 0 = (gl m w ((mB m w n).getD k 0) : Nat) ∧ (begs m w n).getD k 0 = ((mB m w n).getD k 0 : Nat) - (gl m w ((mB m w n).getD k 0) : Nat) := by
  induction n with
  | zero => exact absurd h (Nat.not_lt_zero k)
  | succ n ih =>
    have hb : begs m w (n + 1) = begs m w n ++ (if m n = some w then [(n : Int)] else []) := by
      unfold begs
      rw [mB_succ, List.map_append]
      split <;> rfl
    have hl : (begs m w n).length = (mB m w n).length + 1 := by unfold begs; rw [List.length_cons, List.length_map]
    by_cases hk : k < (mB m w n).length
    · have e1 : (begs m w (n + 1)).getD (k + 1) 0 = (begs m w n).getD (k + 1) 0 := by
        rw [hb, List.getD_eq_getElem?_getD, List.getD_eq_getElem?_getD, List.getElem?_append_left (by omega)]
      have e2 : (begs m w (n + 1)).getD k 0 = (begs m w n).getD k 0 := by
        rw [hb, List.getD_eq_getElem?_getD, List.getD_eq_getElem?_getD, List.getElem?_append_left (by omega)]
      have e3 : (mB m w (n + 1)).getD k 0 = (mB m w n).getD k 0 := by
        rw [mB_succ, List.getD_eq_getElem?_getD, List.getD_eq_getElem?_getD, List.getElem?_append_left hk]
      rw [e1, e2, e3]
      exact ih hk
    · rw [mB_succ, List.length_append] at h
      by_cases hm : m n = some w
      · rw [if_pos hm, List.length_singleton] at h
        have hk2 : k = (mB m w n).length := by omega
        subst hk2
        have e1 : (begs m w (n + 1)).getD ((mB m w n).length + 1) 0 = n := by
          rw [hb, if_pos hm, List.getD_eq_getElem?_getD, List.getElem?_append_right (by omega), hl, Nat.sub_self]
          rfl
        have e2 : (begs m w (n + 1)).getD (mB m w n).length 0 = (n : Int) - gl m w n := by
          have h2 := begs_last m w n
          rw [List.getLast?_eq_getElem?, hl, Nat.add_sub_cancel] at h2
          rw [hb, List.getD_eq_getElem?_getD, List.getElem?_append_left (by omega), h2]
          rfl
        have e3 : (mB m w (n + 1)).getD (mB m w n).length 0 = n := by
          rw [mB_succ, if_pos hm, List.getD_eq_getElem?_getD, List.getElem?_append_right (Nat.le_refl _), Nat.sub_self]
          rfl
        rw [e1, e2, e3]
        have := gl_le m w n
        omega
      · rw [if_neg hm, List.length_nil] at h
        omega
/-! ### the schedule comes again -/
theorem fr_add (ld : List Int) (s t : Nat) (h : s % ld.length = 0) : fr ld (s + t) = fr ld s + fr ld t := by
  induction t with
  | zero => rfl
  | succ t ih =>
    show fr ld (s + t) + (if ld.getD ((s + t) % ld.length) 1 = 0 then 1 else 0) = fr ld s + (fr ld t + (if ld.getD (t % ld.length) 1 = 0 then 1 else 0))
    rw [ih, Nat.add_mod, h, Nat.zero_add, Nat.mod_mod, Nat.add_assoc]
def free (ld : List Int) : Nat := fr ld ld.length
theorem fr_mul (ld : List Int) (k : Nat) : fr ld (ld.length * k) = k * free ld := by
  induction k with
  | zero => rw [Nat.mul_zero, Nat.zero_mul]; rfl
  | succ k ih =>
    rw [Nat.mul_succ, fr_add _ _ _ (Nat.mul_mod_right _ _), ih, Nat.succ_mul]
    rfl
theorem fr_mono (ld : List Int) {s t : Nat} (h : s ≤ t) : fr ld s ≤ fr ld t := by
  induction t with
  | zero => rw [Nat.le_zero.mp h]; exact Nat.le_refl _
  | succ t ih =>
    rcases Nat.le_succ_iff.mp h with h | h
    · exact Nat.le_trans (ih h) (Nat.le_add_right _ _)
    · rw [h]; exact Nat.le_refl _
theorem free_pos {ld : List Int} (ok : OkLd ld) : 1 ≤ free ld := by
  obtain ⟨i, hi, e⟩ := List.mem_iff_getElem.mp ok.free
  have h1 : fr ld (i + 1) ≤ free ld := fr_mono ld hi
  have h2 : ld.getD (i % ld.length) 1 = 0 := by
    rw [Nat.mod_eq_of_lt hi, List.getD_eq_getElem?_getD, List.getElem?_eq_getElem hi, e]
    rfl
  rw [fr, if_pos h2] at h1
  omega
/-- each number of free beats between is met at a free beat -/
theorem fr_meets (ld : List Int) {s t k : Nat} (h : s ≤ t) (h1 : fr ld s ≤ k) (h2 : k < fr ld t) : ∃ e, s ≤ e ∧ e < t ∧ fr ld e = k ∧ ld.getD (e % ld.length) 1 = 0 := by
  induction t with
  | zero => rw [Nat.le_zero.mp h] at h1; omega
  | succ t ih =>
    rcases Nat.le_succ_iff.mp h with h3 | h3
    · by_cases hk : k < fr ld t
      · obtain ⟨e, e1, e2, e3, e4⟩ := ih h3 hk
        exact ⟨e, e1, by omega, e3, e4⟩
      · rw [fr] at h2
        by_cases hz : ld.getD (t % ld.length) 1 = 0
        · rw [if_pos hz] at h2
          exact ⟨t, h3, by omega, by omega, hz⟩
        · rw [if_neg hz] at h2
          omega
    · have h4 : s = t + 1 := h3
      rw [h4] at h1
      omega
/-- the beat from which on the loop alone is taken; the period -/
def n0 (ld : List Int) (hd : List (Option Int)) : Nat := (hd.length / free ld + 1) * ld.length
def per (ld : List Int) (lp : List (Option Int)) : Nat := lp.length * ld.length
section
variable {ld : List Int} {hd lp : List (Option Int)}
theorem fr_n0 (ok : OkLd ld) {t : Nat} (h : n0 ld hd ≤ t) : hd.length ≤ fr ld t := by
  refine Nat.le_trans ?_ (fr_mono ld h)
  unfold n0
  rw [Nat.mul_comm, fr_mul]
  have h1 := free_pos ok
  have h2 := Nat.div_add_mod hd.length (free ld)
  have h3 := Nat.mod_lt hd.length (show 0 < free ld by omega)
  rw [Nat.succ_mul, Nat.mul_comm]
  omega
theorem fr_per (t : Nat) : fr ld (t + per ld lp) = fr ld t + lp.length * free ld := by
  rw [Nat.add_comm, fr_add _ _ _ (by unfold per; exact Nat.mul_mod_left _ _)]
  unfold per
  rw [Nat.mul_comm, fr_mul, Nat.add_comm]
theorem mend_per (ok : OkLd ld) {t : Nat} (h : n0 ld hd ≤ t) : mend ld hd lp (t + per ld lp) = mend ld hd lp t := by
  have h1 := fr_n0 ok h
  have h2 : (t + per ld lp) % ld.length = t % ld.length := by unfold per; rw [Nat.add_mul_mod_self_right]
  unfold mend
  rw [h2]
  split
  · unfold thing
    rw [fr_per, if_neg (by omega), if_neg (by omega)]
    congr 1
    rw [show fr ld t + lp.length * free ld - hd.length = (fr ld t - hd.length) + lp.length * free ld by omega, Nat.add_mul_mod_self_left]
  · rfl
theorem mend_meets (ok : OkLd ld) {w : Int} (hw : some w ∈ lp) {t : Nat} (h : n0 ld hd ≤ t) : ∃ e, t ≤ e ∧ e < t + per ld lp ∧ mend ld hd lp e = some w := by
  have h1 := fr_n0 (hd := hd) ok h
  obtain ⟨j, hj, ej⟩ := List.mem_iff_getElem.mp hw
  have hfree := free_pos ok
  -- the least k from fr t on with (k - h) % l = j
  obtain ⟨k, hk1, hk2, hk3⟩ : ∃ k, fr ld t ≤ k ∧ k < fr ld t + lp.length ∧ (k - hd.length) % lp.length = j := by
    have hl : 0 < lp.length := by omega
    have hq := Nat.div_add_mod (fr ld t - hd.length) lp.length
    have hm := Nat.mod_lt (fr ld t - hd.length) hl
    by_cases hc : (fr ld t - hd.length) % lp.length ≤ j
    · refine ⟨fr ld t + (j - (fr ld t - hd.length) % lp.length), by omega, by omega, ?_⟩
      rw [show fr ld t + (j - (fr ld t - hd.length) % lp.length) - hd.length = j + lp.length * ((fr ld t - hd.length) / lp.length) by omega, Nat.add_mul_mod_self_left, Nat.mod_eq_of_lt hj]
    · refine ⟨fr ld t + (lp.length + j - (fr ld t - hd.length) % lp.length), by omega, by omega, ?_⟩
      rw [show fr ld t + (lp.length + j - (fr ld t - hd.length) % lp.length) - hd.length = (j + lp.length) + lp.length * ((fr ld t - hd.length) / lp.length) by omega, Nat.add_mul_mod_self_left, Nat.add_mod_right, Nat.mod_eq_of_lt hj]
  have h4 : fr ld t + lp.length ≤ fr ld (t + per ld lp) := by
    rw [fr_per]
    have := Nat.le_mul_of_pos_right lp.length hfree
    omega
  obtain ⟨e, e1, e2, e3, e4⟩ := fr_meets ld (Nat.le_add_right t (per ld lp)) hk1 (by omega)
  refine ⟨e, e1, e2, ?_⟩
  unfold mend
  rw [if_pos e4, e3]
  unfold thing
  rw [if_neg (by omega), hk3, List.getD_eq_getElem?_getD, List.getElem?_eq_getElem hj, ej]
  rfl
theorem mend_not (ok : OkLd ld) (l1 : 1 ≤ lp.length) {w : Int} (hw : ¬ some w ∈ lp) {t : Nat} (h : n0 ld hd ≤ t) : mend ld hd lp t ≠ some w := by
  have h1 := fr_n0 (hd := hd) ok h
  intro e
  unfold mend at e
  split at e
  · unfold thing at e
    rw [if_neg (by omega)] at e
    apply hw
    rw [← e]
    exact getD_mem (Nat.mod_lt _ (by omega))
  · cases e
end
end Z
set_option Elab.async false
set_option linter.all false
set_option maxRecDepth 100000
set_option maxHeartbeats 4000000
namespace Z
open PySem PySem.Spec PyProof.Rows L2
theorem gl_begin (m : Nat → Option Int) (w : Int) : ∀ t, 1 ≤ t → m (t - gl m w t) = some w ∨ gl m w t = t
  | 0, h => by omega
  | t + 1, _ => by
    rw [gl]
    by_cases hm : m t = some w
    · rw [if_pos hm]
      exact .inl hm
    · rw [if_neg hm]
      by_cases h0 : t = 0
      · subst h0
        exact .inr rfl
      · rcases gl_begin m w t (by omega) with h | h
        · left
          rw [show t + 1 - (gl m w t + 1) = t - gl m w t by omega]
          exact h
        · right
          rw [h]
theorem first_from {m : Nat → Option Int} {w : Int} {s : Nat} : ∀ k, m (s + k) = some w → ∃ i, i ≤ k ∧ m (s + i) = some w ∧ ∀ j, j < i → m (s + j) ≠ some w := by
  intro k
  induction k using Nat.strongRecOn with
  | _ k ih =>
    intro h
    by_cases hx : ∃ j, j < k ∧ m (s + j) = some w
    · obtain ⟨j, hj, e⟩ := hx
      obtain ⟨i, h1, h2, h3⟩ := ih j hj e
      exact ⟨i, by omega, h2, h3⟩
    · exact ⟨k, Nat.le_refl k, h, fun j hj e => hx ⟨j, hj, e⟩⟩
/-- from a beat within a stretch to its end -/
theorem gl_to {m : Nat → Option Int} {w : Int} {s i : Nat} (h : ∀ j, j < i → m (s + j) ≠ some w) : gl m w (s + i) = gl m w s + i := gl_fwd fun r h1 h2 => by
  have := h (r - s) (by omega)
  rw [show s + (r - s) = r by omega] at this
  exact this
section
variable {ld : List Int} {hd lp : List (Option Int)} {w : Int}
theorem gl_small (ok : OkLd ld) (hw : some w ∈ lp) {t : Nat} (h : n0 ld hd + per ld lp ≤ t) : gl (mend ld hd lp) w t ≤ per ld lp := by
  obtain ⟨e, e1, e2, e3⟩ := mend_meets (hd := hd) ok hw (t := t - per ld lp) (by omega)
  refine Nat.le_of_not_lt fun hlt => ?_
  exact gl_none (m := mend ld hd lp) (w := w) (s := e) (t := t) (by omega) (by omega) e3
theorem gl_per (ok : OkLd ld) (hw : some w ∈ lp) {t : Nat} (h : n0 ld hd + per ld lp ≤ t) (l1 : 1 ≤ per ld lp) : gl (mend ld hd lp) w (t + per ld lp) = gl (mend ld hd lp) w t := by
  have h1 := gl_small ok hw h
  have hp := gl_pos (mend ld hd lp) w (t - 1)
  rw [show t - 1 + 1 = t by omega] at hp
  have hb := gl_begin (mend ld hd lp) w t (by omega)
  have hlt : gl (mend ld hd lp) w t < t ∨ n0 ld hd = 0 ∧ gl (mend ld hd lp) w t = t := by omega
  -- the begin, moved by a period
  have key : ∀ i, gl (mend ld hd lp) w t = i → i ≤ t → mend ld hd lp (t - i) = some w → gl (mend ld hd lp) w (t + per ld lp) = i := by
    intro i hi hit hm
    have hm2 : mend ld hd lp (t - i + per ld lp) = some w := by rw [mend_per ok (by omega)]; exact hm
    have h3 : gl (mend ld hd lp) w (t - i + per ld lp + 1) = 1 := by rw [gl, if_pos hm2]
    have h4 := gl_fwd (m := mend ld hd lp) (w := w) (t := t - i + per ld lp + 1) (i := i - 1) fun s h1 h2 => by
      have h5 : mend ld hd lp s = mend ld hd lp (s - per ld lp) := by
        have := mend_per (hd := hd) (lp := lp) ok (t := s - per ld lp) (by omega)
        rw [show s - per ld lp + per ld lp = s by omega] at this
        exact this
      rw [h5]
      exact gl_none (t := t) (by omega) (by omega)
    rw [h3, show t - i + per ld lp + 1 + (i - 1) = t + per ld lp by omega] at h4
    omega
  rcases hb with hb | hb
  · exact key _ rfl (gl_le _ _ _) hb
  · -- the begin is beat 0
    have hz : n0 ld hd = 0 ∧ t = per ld lp := by
      have := gl_le (mend ld hd lp) w t
      omega
    have h0 : mend ld hd lp 0 = some w ∨ mend ld hd lp 0 ≠ some w := by by_cases h : mend ld hd lp 0 = some w; exact .inl h; exact .inr h
    rcases h0 with h0 | h0
    · rw [hb]; exact key t hb (Nat.le_refl t) (by rw [Nat.sub_self]; exact h0)
    · -- nothing is mended from 0 to t, though the loop meets w
      exfalso
      obtain ⟨e, e1, e2, e3⟩ := mend_meets (hd := hd) ok hw (t := 0) (by omega)
      rcases Nat.eq_zero_or_pos e with he | he
      · rw [he] at e3; exact h0 e3
      · exact gl_none (m := mend ld hd lp) (w := w) (s := e) (t := t) (by omega) (by omega) e3
/-- the longest stretch -/
def Longest (m : Nat → Option Int) (w : Int) (M : Nat) : Prop := (∃ e, m e = some w ∧ gl m w e = M) ∧ ∀ e, m e = some w → gl m w e ≤ M
theorem Longest.uniq {m : Nat → Option Int} {M N : Nat} (h : Longest m w M) (k : Longest m w N) : M = N := by
  obtain ⟨⟨e, h1, h2⟩, h3⟩ := h
  obtain ⟨⟨f, k1, k2⟩, k3⟩ := k
  have := h3 f k1
  have := k3 e h1
  omega
/-- each stretch is met ahead of n0 + 2 per -/
theorem row_early (ok : OkLd ld) (hw : some w ∈ lp) (l1 : 1 ≤ per ld lp) : ∀ e, mend ld hd lp e = some w → ∃ f, f < n0 ld hd + 2 * per ld lp ∧ mend ld hd lp f = some w ∧ gl (mend ld hd lp) w f = gl (mend ld hd lp) w e := by
  intro e
  induction e using Nat.strongRecOn with
  | _ e ih =>
    intro he
    by_cases h : e < n0 ld hd + 2 * per ld lp
    · exact ⟨e, h, he, rfl⟩
    · have h1 := mend_per (hd := hd) (lp := lp) ok (t := e - per ld lp) (by omega)
      have h2 := gl_per (hd := hd) ok hw (t := e - per ld lp) (by omega) l1
      rw [show e - per ld lp + per ld lp = e by omega] at h1 h2
      obtain ⟨f, f1, f2, f3⟩ := ih (e - per ld lp) (by omega) (by rw [← h1]; exact he)
      exact ⟨f, f1, f2, f3.trans h2.symm⟩
theorem longest_of (ok : OkLd ld) (hw : some w ∈ lp) (l1 : 1 ≤ per ld lp) {n M : Nat} (hn : n0 ld hd + 2 * per ld lp ≤ n) (h1 : ∃ e, e < n ∧ mend ld hd lp e = some w ∧ gl (mend ld hd lp) w e = M) (h2 : ∀ e, e < n → mend ld hd lp e = some w → gl (mend ld hd lp) w e ≤ M) : Longest (mend ld hd lp) w M := by
  obtain ⟨e, e1, e2, e3⟩ := h1
  refine ⟨⟨e, e2, e3⟩, fun f hf => ?_⟩
  obtain ⟨g, g1, g2, g3⟩ := row_early (hd := hd) ok hw l1 f hf
  rw [← g3]
  exact h2 g (by omega) g2
/-- a stretch that is long enough gives the beat at which the word is lost -/
theorem cand_lose (ok : OkLd ld) (l1 : 1 ≤ lp.length) {n L : Nat} {b : Int} {len : Option Int} (hn : n0 ld hd ≤ n) (hr : (b, len) ∈ rowsM (mend ld hd lp) lp w n) (hl : len = none ∨ ∃ x, len = some x ∧ (L : Int) < x) :
    ∃ t : Nat, (t : Int) = b + L ∧ gl (mend ld hd lp) w (t + 1) = L + 1 := by
  rcases List.mem_append.mp hr with h | h
  · obtain ⟨e, he, er⟩ := List.mem_map.mp h
    unfold rowB at er
    cases er
    rcases hl with hl | ⟨x, hl, hx⟩
    · cases hl
    · cases hl
      have h1 := gl_le (mend ld hd lp) w e
      have h2 : gl (mend ld hd lp) w e - (L + 1) < gl (mend ld hd lp) w e := by omega
      have h3 := gl_back h2
      refine ⟨e - gl (mend ld hd lp) w e + L, by omega, ?_⟩
      rw [show e - gl (mend ld hd lp) w e + L + 1 = e - (gl (mend ld hd lp) w e - (L + 1)) by omega, h3]
      omega
  · by_cases hw : some w ∈ lp
    · rw [if_pos hw] at h; cases h
    · rw [if_neg hw] at h
      have e := List.mem_singleton.mp h
      cases e
      have h1 := gl_le (mend ld hd lp) w n
      refine ⟨n - gl (mend ld hd lp) w n + L, by omega, ?_⟩
      by_cases hc : L + 1 ≤ gl (mend ld hd lp) w n
      · have h2 : gl (mend ld hd lp) w n - (L + 1) < gl (mend ld hd lp) w n := by omega
        have h3 := gl_back h2
        rw [show n - gl (mend ld hd lp) w n + L + 1 = n - (gl (mend ld hd lp) w n - (L + 1)) by omega, h3]
        omega
      · have h3 := gl_to (m := mend ld hd lp) (w := w) (s := n) (i := L + 1 - gl (mend ld hd lp) w n) fun j hj => mend_not ok l1 hw (by omega)
        rw [show n + (L + 1 - gl (mend ld hd lp) w n) = n - gl (mend ld hd lp) w n + L + 1 by omega] at h3
        omega
/-- where a word can be lost a stretch tells it, no later -/
theorem lose_cand (ok : OkLd ld) (l1 : 1 ≤ lp.length) (lper : 1 ≤ per ld lp) {n L : Nat} (hn : n0 ld hd + 3 * per ld lp ≤ n) : ∀ t, gl (mend ld hd lp) w (t + 1) = L + 1 →
    ∃ (b : Int) (len : Option Int), (b, len) ∈ rowsM (mend ld hd lp) lp w n ∧ (len = none ∨ ∃ x, len = some x ∧ (L : Int) < x) ∧ b + L ≤ t := by
  intro t
  -- a mending behind t within the window ends the stretch
  have ends : ∀ t, gl (mend ld hd lp) w (t + 1) = L + 1 → (∃ e, t + 1 ≤ e ∧ e < n ∧ mend ld hd lp e = some w) → ∃ (b : Int) (len : Option Int), (b, len) ∈ rowsM (mend ld hd lp) lp w n ∧ (len = none ∨ ∃ x, len = some x ∧ (L : Int) < x) ∧ b + L ≤ t := by
    intro t h ⟨e, e1, e2, e3⟩
    obtain ⟨i, i1, i2, i3⟩ := first_from (m := mend ld hd lp) (w := w) (s := t + 1) (e - (t + 1)) (by rw [show t + 1 + (e - (t + 1)) = e by omega]; exact e3)
    have hg := gl_to i3
    rw [h] at hg
    refine ⟨_, _, List.mem_append_left _ (List.mem_map.mpr ⟨t + 1 + i, mem_mB.mpr ⟨by omega, i2⟩, rfl⟩), .inr ⟨_, rfl, ?_⟩, ?_⟩
    · rw [hg]; omega
    · rw [hg]; omega
  by_cases hw : some w ∈ lp
  · induction t using Nat.strongRecOn with
    | _ t ih =>
      intro h
      by_cases hc : t + 1 < n0 ld hd + 2 * per ld lp
      · refine ends t h ?_
        obtain ⟨e, e1, e2, e3⟩ := mend_meets (hd := hd) ok hw (t := max (t + 1) (n0 ld hd)) (Nat.le_max_right _ _)
        exact ⟨e, by omega, by omega, e3⟩
      · have h2 := gl_per (hd := hd) ok hw (t := t + 1 - per ld lp) (by omega) lper
        rw [show t + 1 - per ld lp + per ld lp = t + 1 by omega, show t + 1 - per ld lp = t - per ld lp + 1 by omega] at h2
        obtain ⟨b, len, b1, b2, b3⟩ := ih (t - per ld lp) (by omega) (by rw [← h2]; exact h)
        exact ⟨b, len, b1, b2, by omega⟩
  · intro h
    by_cases hx : ∃ e, t + 1 ≤ e ∧ e < n ∧ mend ld hd lp e = some w
    · exact ends t h hx
    · have hno : ∀ e, t + 1 ≤ e → mend ld hd lp e ≠ some w := fun e he hm => by
        by_cases hen : e < n
        · exact hx ⟨e, he, hen, hm⟩
        · exact mend_not ok l1 hw (by omega) hm
      refine ⟨_, _, List.mem_append_right _ (by rw [if_neg hw]; exact List.mem_singleton.mpr rfl), .inl rfl, ?_⟩
      have h1 := gl_le (mend ld hd lp) w n
      by_cases hc : t + 1 ≤ n
      · have hg := gl_to (m := mend ld hd lp) (w := w) (s := t + 1) (i := n - (t + 1)) fun j hj => hno _ (by omega)
        rw [show t + 1 + (n - (t + 1)) = n by omega] at hg
        omega
      · have hg := gl_to (m := mend ld hd lp) (w := w) (s := n) (i := t + 1 - n) fun j hj => mend_not ok l1 hw (by omega)
        rw [show n + (t + 1 - n) = t + 1 by omega] at hg
        omega
end
/-! ### limits; the soonest loss -/
def lim (x : W3) : Option Int := if x.1 ≤ x.2.1 then none else some (x.2.1 * x.2.2)
theorem lim_nat {x : W3} (ok : okW x) {L : Int} (h : lim x = some L) : 0 ≤ L ∧ L ≤ 72 := by
  obtain ⟨o1, o2, o3, o4, o5, o6⟩ := ok
  unfold lim at h
  split at h
  · cases h
  · cases h
    refine ⟨Int.mul_nonneg o3 (by omega), ?_⟩
    have h1 : x.2.1 * x.2.2 ≤ 8 * x.2.2 := Int.mul_le_mul_of_nonneg_right o4 (by omega)
    omega
/-- word w can be lost at beat t, no sooner within its stretch -/
def Lose (ws : List W3) (m : Nat → Option Int) (w t : Nat) : Prop := w < ws.length ∧ ∃ L : Int, lim (ws.getD w d3) = some L ∧ ((gl m w (t + 1) : Nat) : Int) = L + 1
def BrkSem (ws : List W3) (m : Nat → Option Int) (o : Option (Nat × Nat)) : Prop := match o with
  | none => ∀ w t, ¬ Lose ws m w t
  | some (t, w) => Lose ws m w t ∧ ∀ v s, Lose ws m v s → t < s ∨ (t = s ∧ w ≤ v)
theorem BrkSem.uniq {ws : List W3} {m : Nat → Option Int} {o p : Option (Nat × Nat)} (h : BrkSem ws m o) (k : BrkSem ws m p) : o = p := by
  match o, p, h, k with
  | none, none, _, _ => rfl
  | none, some (t, w), h, k => exact absurd k.1 (h w t)
  | some (t, w), none, h, k => exact absurd h.1 (k w t)
  | some (t, w), some (s, v), h, k =>
    have h1 := h.2 v s k.1
    have h2 := k.2 w t h.1
    have e1 : t = s := by omega
    have e2 : w = v := by omega
    rw [e1, e2]
end Z
set_option Elab.async false
set_option linter.all false
set_option maxRecDepth 100000
set_option maxHeartbeats 4000000
namespace Z
open PySem PySem.Spec PyProof.Rows L2
/-! ### enumerate, max, None in -/
section
variable {K : PySem.W.Frag} {σ : L2.St} {H : Hp} {Q : VK} {t : TS} {D : Ends}
def ForE (K : PySem.W.Frag) (g : TG) (tb : TS) (D : Ends) (σ : L2.St) (vs : List V) (H : Hp) : Prop := ∃ a xs, vs = [.ref a] ∧ SqL K H a xs ∧ tFor (fun _ H R => R (Ite K a) H) g tb D σ H
theorem i_forE {ta : TA} {g : TG} (q : ta σ H fun x H1 => ForE K g t D σ x H1) : tFor (iEnum K ta) g t D σ H := q
theorem forE {a : Addr} {xs : List V} {g : TG} (h : SqL K H a xs) (Pv : Nat → L2.St → Hp → Prop) (h0 : Pv 0 σ H) (hl : ∀ i σ H, i ≤ xs.length → Pv i σ H → SqL K H a xs)
    (hs : ∀ i x σ H p, xs[i]? = some x → Pv i σ H → H p = none → g (.ref p) σ (upd H p (.tup [.int (i : Nat), x])) fun σ2 H2 => t { D with nx := Pv (i + 1), ct := Pv (i + 1), bk := D.nx } σ2 H2) (hd : ∀ σ H, Pv xs.length σ H → D.nx σ H) : ForE K g t D σ [.ref a] H := by
  refine ⟨a, xs, rfl, h, fun i m σ H => m = xs.length - i ∧ i ≤ xs.length ∧ Pv i σ H, ⟨xs.length, by simp, Nat.zero_le _, h0⟩, ?_⟩
  rintro i m σ H ⟨rfl, hi, p⟩
  have q := hl i σ H hi p
  by_cases hlt : i < xs.length
  · refine .inr ⟨⟨xs, xs[i], q, by simp [hlt]⟩, Pv (i + 1), fun σ' H' p' => ⟨xs.length - (i + 1), by omega, rfl, hlt, p'⟩, fun x H' y => ?_⟩
    obtain ⟨T, z, rfl, nT, rfl, y⟩ := y
    exact hs i z σ H T (y xs q) p nT
  · have e : i = xs.length := by omega
    subst e
    exact .inl ⟨⟨xs, q, Nat.le_refl _⟩, hd σ H p⟩
theorem i_max {a : Addr} {ns : List Int} (h : SqL K H a (ns.map V.int)) (h0 : 0 < ns.length) (q : ∀ m, m ∈ ns → (∀ y, y ∈ ns → y ≤ m) → Q (.int m) H) : rMax K [.ref a] H Q := ⟨a, ns, rfl, h, h0, q⟩
def rMx2 : List V → Hp → VK → Prop := fun xs H Q => ∃ i j, xs = [.int i, .int j] ∧ Q (.int (if j > i then j else i)) H
theorem cl_max2 {X : Cx} (hc : X.calm = true) : CallR X (.builtin "max") rMx2 := call_max2 hc
theorem i_max2 {i j : Int} (q : Q (.int (max i j)) H) : rMx2 [.int i, .int j] H Q := ⟨i, j, rfl, by
  have e : (if j > i then j else i) = max i j := by split <;> omega
  rw [e]; exact q⟩
end
theorem inV_none (os : List (Option Int)) : inV .non (os.map vO) = decide (none ∈ os) := by
  unfold inV
  rw [List.any_map, Bool.eq_iff_iff, List.any_eq_true, decide_eq_true_iff]
  refine ⟨fun ⟨j, hj, e⟩ => ?_, fun h => ⟨none, h, ?_⟩⟩
  · cases j with
    | none => exact hj
    | some j => simp [eqV, vO] at e
  · simp [eqV, vO]
/-! ### promises of the whole runs -/
def nB (ld : List Int) (hd lp : List (Option Int)) : Nat := (hd.length / free ld + 1 + 3 * lp.length) * ld.length
theorem nB_eq (ld : List Int) (hd lp : List (Option Int)) : nB ld hd lp = n0 ld hd + 3 * per ld lp := by
  unfold nB n0 per
  rw [Nat.add_mul (hd.length / free ld + 1), Nat.mul_assoc]
theorem nB_le {ld : List Int} {hd lp : List (Option Int)} {k : Nat} (ok : OkLd ld) (okp : OkPl k hd lp) : nB ld hd lp ≤ 96100 := by
  have h1 := ok.l12
  have h2 := okp.h40
  have h3 := okp.l40
  have h4 : hd.length / free ld ≤ 2000 := Nat.le_trans (Nat.div_le_self _ _) h2
  unfold nB
  exact Nat.le_trans (Nat.mul_le_mul (show hd.length / free ld + 1 + 3 * lp.length ≤ 8001 by omega) h1) (by decide)
theorem per_pos {ld : List Int} {hd lp : List (Option Int)} {k : Nat} (ok : OkLd ld) (okp : OkPl k hd lp) : 1 ≤ per ld lp := Nat.mul_pos okp.l1 ok.l1
def vR (r : Int × Option Int) : List V := [.int r.1, vO r.2]
def RowsAt (K : PySem.W.Frag) (G : Hp) (q : Addr) (m : Nat → Option Int) (lp : List (Option Int)) (n k : Nat) : Prop := ∃ ls : List Addr, G q = some (.lst (ls.map V.ref)) ∧ Paired (fun l w => TupL K G l ((rowsM m lp (w : Nat) n).map vR)) ls (List.range k)
theorem RowsAt.mono {K : PySem.W.Frag} {G G' : Hp} {q : Addr} {m : Nat → Option Int} {lp : List (Option Int)} {n k : Nat} (e : Same G G') (h : RowsAt K G q m lp n k) : RowsAt K G' q m lp n k := by
  obtain ⟨ls, h1, h2⟩ := h
  exact ⟨ls, e _ _ h1, Paired.imp (fun _ _ h => h.mono e) h2⟩
def spLimits (K : PySem.W.Frag) (C : Addr) : Sp := fun vs H Q _ => ∃ (G : Hp) (m : Addr) (ws : List W3), vs = [.ref m] ∧ Same G H ∧ MemAt K C G m ws ∧ ∀ p H', H p = none → Gr No G H G H' → At G H' p (.lst ((ws.map lim).map vO)) → Q (.ref p) H'
def spBeats (K : PySem.W.Frag) : Sp := fun vs H Q _ => ∃ (G : Hp) (a p : Addr) (ld : List Int) (hd lp : List (Option Int)) (k : Nat), vs = [.ref a, .ref p] ∧ Same G H ∧ G a = some (.lst (ld.map V.int)) ∧ OkLd ld ∧ Pl K G p hd lp ∧ OkPl k hd lp ∧ ∀ H', Gr No G H G H' → Q (.int (nB ld hd lp : Nat)) H'
def spStretches (K : PySem.W.Frag) (C : Addr) : Sp := fun vs H Q _ => ∃ (G : Hp) (m a p : Addr) (ws : List W3) (ld : List Int) (hd lp : List (Option Int)), vs = [.ref m, .ref a, .ref p] ∧ Same G H ∧ MemAt K C G m ws ∧
  G a = some (.lst (ld.map V.int)) ∧ OkLd ld ∧ Pl K G p hd lp ∧ OkPl ws.length hd lp ∧ ∀ q G' H', H q = none → Gr No G H G' H' → RowsAt K G' q (mend ld hd lp) lp (nB ld hd lp) ws.length → Q (.ref q) H'
/-- the longest stretch of a word, none where it has no end -/
def GapOf (m : Nat → Option Int) (lp : List (Option Int)) (w : Int) (o : Option Int) : Prop := match o with
  | none => ¬ some w ∈ lp
  | some x => some w ∈ lp ∧ ∃ M : Nat, x = M ∧ Longest m w M
def GapsSem (m : Nat → Option Int) (lp : List (Option Int)) (k : Nat) (gs : List (Option Int)) : Prop := gs.length = k ∧ ∀ w, w < k → GapOf m lp (w : Nat) (gs.getD w none)
theorem GapOf.uniq {m : Nat → Option Int} {lp lp2 : List (Option Int)} {w : Int} {o p : Option Int} (e : some w ∈ lp ↔ some w ∈ lp2) (h : GapOf m lp w o) (k : GapOf m lp2 w p) : o = p := by
  match o, p, h, k with
  | none, none, _, _ => rfl
  | none, some x, h, k => exact absurd (e.mpr k.1) h
  | some x, none, h, k => exact absurd (e.mp h.1) k
  | some x, some y, ⟨_, M, h1, h2⟩, ⟨_, N, k1, k2⟩ => rw [h1, k1, h2.uniq k2]
theorem GapsSem.uniq {m : Nat → Option Int} {lp lp2 : List (Option Int)} {k : Nat} {gs gs2 : List (Option Int)} (e : ∀ w : Int, some w ∈ lp ↔ some w ∈ lp2) (h : GapsSem m lp k gs) (h2 : GapsSem m lp2 k gs2) : gs = gs2 := by
  refine List.ext_getElem (h.1.trans h2.1.symm) fun i h3 h4 => ?_
  have h5 := h.2 i (by rw [← h.1]; exact h3)
  have h6 := h2.2 i (by rw [← h.1]; exact h3)
  rw [List.getD_eq_getElem?_getD, List.getElem?_eq_getElem h3] at h5
  rw [List.getD_eq_getElem?_getD, List.getElem?_eq_getElem h4] at h6
  exact GapOf.uniq (e i) h5 h6
def spGaps (K : PySem.W.Frag) (C : Addr) : Sp := fun vs H Q _ => ∃ (G : Hp) (m a p : Addr) (ws : List W3) (ld : List Int) (hd lp : List (Option Int)), vs = [.ref m, .ref a, .ref p] ∧ Same G H ∧ MemAt K C G m ws ∧
  G a = some (.lst (ld.map V.int)) ∧ OkLd ld ∧ Pl K G p hd lp ∧ OkPl ws.length hd lp ∧ ∀ q gs G' H', H q = none → Gr No G H G' H' → At G' H' q (.lst (gs.map vO)) → GapsSem (mend ld hd lp) lp ws.length gs → Q (.ref q) H'
/-- the strokes by which word w is lost at beat t -/
def strk (ws : List W3) (t w : Nat) : List W3 := (List.range ((ws.getD w d3).2.1.toNat + 1)).map fun (k : Nat) => ((t : Int) - (ws.getD w d3).2.1 * (ws.getD w d3).2.2 + (k : Int) * (ws.getD w d3).2.2, ((w : Int), (k : Int)))
def BrkV (K : PySem.W.Frag) (G H H0 : Hp) (ws : List W3) (v : V) (o : Option (Nat × Nat)) : Prop := match o with
  | none => v = .non
  | some (t, w) => ∃ r l as, v = .ref r ∧ H0 r = none ∧ H0 l = none ∧ SqT K G r [.int (t : Nat), .int (w : Nat), .ref l] ∧ At G H l (.lst (as.map V.ref)) ∧ Paired (fun p t => SqT K G p t) as ((strk ws t w).map vW)
def spBreaking (K : PySem.W.Frag) (C : Addr) : Sp := fun vs H Q _ => ∃ (G : Hp) (m a p : Addr) (ws : List W3) (ld : List Int) (hd lp : List (Option Int)), vs = [.ref m, .ref a, .ref p] ∧ Same G H ∧ MemAt K C G m ws ∧
  G a = some (.lst (ld.map V.int)) ∧ OkLd ld ∧ Pl K G p hd lp ∧ OkPl ws.length hd lp ∧ ∀ o v G' H', Gr No G H G' H' → BrkSem ws (mend ld hd lp) o → BrkV K G' H' H ws v o → Q v H'
section
variable {K : PySem.W.Frag} {C : Addr} {X : Addr → Prop} {G0 H0 G H : Hp} {Q : VK} {E : XK} {m a p : Addr} {ws : List W3} {ld : List Int} {hd lp : List (Option Int)}
theorem i_limits (g : Gr X G0 H0 G H) (M : MemAt K C G m ws) (k : ∀ p H', H p = none → Gr No G H G H' → Gr X G0 H0 G H' → At G H' p (.lst ((ws.map lim).map vO)) → Q (.ref p) H') : spLimits K C ([.ref m] ++ []) H Q E :=
  ⟨G, m, ws, rfl, g.sub, M, fun p H' np s t => k p H' np s (g.seqN s) t⟩
theorem i_beats {j : Nat} (g : Gr X G0 H0 G H) (hl : G a = some (.lst (ld.map V.int))) (okl : OkLd ld) (pl : Pl K G p hd lp) (okp : OkPl j hd lp) (k : ∀ H', Gr No G H G H' → Gr X G0 H0 G H' → Q (.int (nB ld hd lp : Nat)) H') : spBeats K ([.ref a, .ref p] ++ []) H Q E :=
  ⟨G, a, p, ld, hd, lp, j, rfl, g.sub, hl, okl, pl, okp, fun H' s => k H' s (g.seqN s)⟩
theorem i_stretches (g : Gr X G0 H0 G H) (M : MemAt K C G m ws) (hl : G a = some (.lst (ld.map V.int))) (okl : OkLd ld) (pl : Pl K G p hd lp) (okp : OkPl ws.length hd lp)
    (k : ∀ q G' H', H q = none → Gr No G H G' H' → Gr X G0 H0 G' H' → RowsAt K G' q (mend ld hd lp) lp (nB ld hd lp) ws.length → Q (.ref q) H') : spStretches K C ([.ref m, .ref a, .ref p] ++ []) H Q E :=
  ⟨G, m, a, p, ws, ld, hd, lp, rfl, g.sub, M, hl, okl, pl, okp, fun q G' H' nq s r => k q G' H' nq s (g.seqN s) r⟩
theorem i_gaps (g : Gr X G0 H0 G H) (M : MemAt K C G m ws) (hl : G a = some (.lst (ld.map V.int))) (okl : OkLd ld) (pl : Pl K G p hd lp) (okp : OkPl ws.length hd lp)
    (k : ∀ q gs G' H', H q = none → Gr No G H G' H' → Gr X G0 H0 G' H' → At G' H' q (.lst (gs.map vO)) → GapsSem (mend ld hd lp) lp ws.length gs → Q (.ref q) H') : spGaps K C ([.ref m, .ref a, .ref p] ++ []) H Q E :=
  ⟨G, m, a, p, ws, ld, hd, lp, rfl, g.sub, M, hl, okl, pl, okp, fun q gs G' H' nq s t r => k q gs G' H' nq s (g.seqN s) t r⟩
theorem i_breaking (g : Gr X G0 H0 G H) (M : MemAt K C G m ws) (hl : G a = some (.lst (ld.map V.int))) (okl : OkLd ld) (pl : Pl K G p hd lp) (okp : OkPl ws.length hd lp)
    (k : ∀ o v G' H', Gr No G H G' H' → Gr X G0 H0 G' H' → BrkSem ws (mend ld hd lp) o → BrkV K G' H' H ws v o → Q v H') : spBreaking K C ([.ref m, .ref a, .ref p] ++ []) H Q E :=
  ⟨G, m, a, p, ws, ld, hd, lp, rfl, g.sub, M, hl, okl, pl, okp, fun o v G' H' s r b => k o v G' H' s (g.seqN s) r b⟩
end
/-! ### rows, as the program makes them -/
theorem rows_at {m : Nat → Option Int} {lp : List (Option Int)} {w : Int} {n k : Nat} (h : k < (mB m w n).length) : (begs m w n).getD k 0 = (rowB m w ((mB m w n).getD k 0)).1 ∧ some ((begs m w n).getD (k + 1) 0 - (begs m w n).getD k 0) = (rowB m w ((mB m w n).getD k 0)).2 := by
  obtain ⟨h1, h2⟩ := begs_at m w n k h
  exact ⟨h2, by rw [h1]; rfl⟩
theorem begs_len (m : Nat → Option Int) (w : Int) (n : Nat) : (begs m w n).length = (mB m w n).length + 1 := by unfold begs; rw [List.length_cons, List.length_map]
theorem mB_len (m : Nat → Option Int) (w : Int) (n : Nat) : (mB m w n).length ≤ n := by
  refine Nat.le_trans (List.length_filter_le _ _) ?_
  rw [List.length_range]
  exact Nat.le_refl n
theorem begs_lastI (m : Nat → Option Int) (w : Int) (n : Nat) : (begs m w n)[(mB m w n).length]? = some ((n : Int) - gl m w n) := by
  have h := begs_last m w n
  rw [List.getLast?_eq_getElem?, begs_len, Nat.add_sub_cancel] at h
  exact h
theorem free_len (ld : List Int) : free ld = (ld.filter fun x => decide (x = 0)).length := by
  have key : ∀ k, k ≤ ld.length → fr ld k = ((ld.take k).filter fun x => decide (x = 0)).length := by
    intro k
    induction k with
    | zero => intro _; rfl
    | succ k ih =>
      intro hk
      have h : ld[k]? = some (ld.getD k 1) := getD_at (by omega)
      rw [fr, ih (by omega), filter_take h, List.length_append, Nat.mod_eq_of_lt (by omega)]
      congr 1
      by_cases hz : ld.getD k 1 = 0
      · rw [if_pos hz, if_pos (decide_eq_true hz)]; rfl
      · rw [if_neg hz, if_neg (by simpa using hz)]; rfl
  have := key ld.length (Nat.le_refl _)
  rw [List.take_length] at this
  exact this
theorem free_le (ld : List Int) : free ld ≤ ld.length := by
  rw [free_len]
  exact List.length_filter_le _ _
theorem begs_split (m : Nat → Option Int) (w : Int) (n : Nat) : ∃ init, begs m w n = init ++ [(n : Int) - gl m w n] := by
  have h := begs_last m w n
  have hne : begs m w n ≠ [] := by unfold begs; exact List.cons_ne_nil _ _
  rw [List.getLast?_eq_some_getLast hne] at h
  exact ⟨_, by rw [← Option.some.inj h]; exact (List.dropLast_concat_getLast hne).symm⟩
end Z
set_option Elab.async false
set_option linter.all false
set_option maxRecDepth 100000
set_option maxHeartbeats 4000000
namespace Z
open PySem PySem.Spec PyProof.Rows L2
/-! ### the longest stretch, from the rows -/
theorem far_none {m : Nat → Option Int} {lp : List (Option Int)} {w : Int} {n : Nat} : none ∈ (rowsM m lp w n).map Prod.snd ↔ ¬ some w ∈ lp := by
  unfold rowsM
  rw [List.map_append, List.mem_append]
  refine ⟨fun h hw => ?_, fun h => .inr ?_⟩
  · rcases h with h | h
    · obtain ⟨r, hr, e⟩ := List.mem_map.mp h
      obtain ⟨k, _, rfl⟩ := List.mem_map.mp hr
      cases e
    · rw [if_pos hw] at h
      cases h
  · rw [if_neg h]
    exact List.mem_singleton.mpr rfl
theorem far_some {m : Nat → Option Int} {lp : List (Option Int)} {w : Int} {n : Nat} (h : some w ∈ lp) : ((rowsM m lp w n).map Prod.snd).map vO = ((mB m w n).map fun e => ((gl m w e : Nat) : Int)).map V.int := by
  unfold rowsM
  rw [if_pos h, List.append_nil, List.map_map, List.map_map, List.map_map]
  rfl
theorem gap_of {ld : List Int} {hd lp : List (Option Int)} {w : Int} {k : Nat} (ok : OkLd ld) (okp : OkPl k hd lp) (hw : some w ∈ lp) :
    0 < ((mB (mend ld hd lp) w (nB ld hd lp)).map fun e => ((gl (mend ld hd lp) w e : Nat) : Int)).length ∧
    ∀ x, x ∈ ((mB (mend ld hd lp) w (nB ld hd lp)).map fun e => ((gl (mend ld hd lp) w e : Nat) : Int)) → (∀ y, y ∈ ((mB (mend ld hd lp) w (nB ld hd lp)).map fun e => ((gl (mend ld hd lp) w e : Nat) : Int)) → y ≤ x) → GapOf (mend ld hd lp) lp w (some x) := by
  have l1 := per_pos ok okp
  have hn := nB_eq ld hd lp
  constructor
  · obtain ⟨e, e1, e2, e3⟩ := mend_meets (hd := hd) ok hw (Nat.le_refl (n0 ld hd))
    have : e ∈ mB (mend ld hd lp) w (nB ld hd lp) := mem_mB.mpr ⟨by omega, e3⟩
    exact List.length_pos_iff.mpr (List.ne_nil_of_mem (List.mem_map.mpr ⟨e, this, rfl⟩))
  · intro x hx hy
    obtain ⟨e, he, rfl⟩ := List.mem_map.mp hx
    obtain ⟨e1, e2⟩ := mem_mB.mp he
    refine ⟨hw, _, rfl, longest_of (n := nB ld hd lp) ok hw l1 (by omega) ⟨e, e1, e2, rfl⟩ fun f f1 f2 => ?_⟩
    have := hy _ (List.mem_map.mpr ⟨f, mem_mB.mpr ⟨f1, f2⟩, rfl⟩)
    omega
theorem gaps_step {m : Nat → Option Int} {lp gs : List (Option Int)} {o : Option Int} {i : Nat} (h : GapsSem m lp i gs) (h2 : GapOf m lp (i : Nat) o) : GapsSem m lp (i + 1) (gs ++ [o]) := by
  refine ⟨by rw [List.length_append, h.1]; rfl, fun w hw => ?_⟩
  by_cases e : w < i
  · rw [List.getD_eq_getElem?_getD, List.getElem?_append_left (by rw [h.1]; exact e), ← List.getD_eq_getElem?_getD]
    exact h.2 w e
  · have e2 : w = i := by omega
    subst e2
    rw [List.getD_eq_getElem?_getD, List.getElem?_append_right (by rw [h.1]; exact Nat.le_refl _), h.1, Nat.sub_self]
    exact h2
/-! ### the soonest loss, from the rows -/
def CandIn (ws : List W3) (w : Nat) (rs : List (Int × Option Int)) (t : Int) : Prop := ∃ (b : Int) (len : Option Int) (L : Int), (b, len) ∈ rs ∧ lim (ws.getD w d3) = some L ∧ (len = none ∨ ∃ x, len = some x ∧ L < x) ∧ t = b + L
def CandTo (ws : List W3) (rows : Nat → List (Int × Option Int)) (i j : Nat) (t : Int) (w : Nat) : Prop := (w < i ∧ CandIn ws w (rows w) t) ∨ (w = i ∧ CandIn ws i ((rows i).take j) t)
def Best (S : Int → Nat → Prop) (o : Option (Int × Nat)) : Prop := match o with
  | none => ∀ t w, ¬ S t w
  | some (t, w) => S t w ∧ ∀ s v, S s v → t < s ∨ (t = s ∧ w ≤ v)
theorem Best.congr {S S2 : Int → Nat → Prop} {o : Option (Int × Nat)} (e : ∀ t w, S2 t w ↔ S t w) (h : Best S o) : Best S2 o := by
  match o, h with
  | none, h => exact fun t w k => h t w ((e t w).mp k)
  | some (t, w), h => exact ⟨(e t w).mpr h.1, fun s v k => h.2 s v ((e s v).mp k)⟩
theorem Best.keep {S : Int → Nat → Prop} {t t2 : Int} {w w2 : Nat} (h : Best S (some (t, w))) (hw : w ≤ w2) (hl : ¬ t2 < t) : Best (fun s v => S s v ∨ (s = t2 ∧ v = w2)) (some (t, w)) := by
  refine ⟨.inl h.1, fun s v k => ?_⟩
  rcases k with k | ⟨rfl, rfl⟩
  · exact h.2 s v k
  · omega
theorem Best.take {S : Int → Nat → Prop} {o : Option (Int × Nat)} {t2 : Int} {w2 : Nat} (h : Best S o) (hl : ∀ t w, o = some (t, w) → t2 < t) : Best (fun s v => S s v ∨ (s = t2 ∧ v = w2)) (some (t2, w2)) := by
  refine ⟨.inr ⟨rfl, rfl⟩, fun s v k => ?_⟩
  rcases k with k | ⟨rfl, rfl⟩
  · match o, h, hl with
    | none, h, _ => exact absurd k (h s v)
    | some (t, w), h, hl =>
      have h1 := hl t w rfl
      have h2 := h.2 s v k
      omega
  · omega
theorem candIn_snoc {ws : List W3} {w : Nat} {rs : List (Int × Option Int)} {b : Int} {len : Option Int} {t : Int} : CandIn ws w (rs ++ [(b, len)]) t ↔ CandIn ws w rs t ∨ ∃ L, lim (ws.getD w d3) = some L ∧ (len = none ∨ ∃ x, len = some x ∧ L < x) ∧ t = b + L := by
  constructor
  · rintro ⟨b', l', L, h1, h2, h3, h4⟩
    rcases List.mem_append.mp h1 with h1 | h1
    · exact .inl ⟨b', l', L, h1, h2, h3, h4⟩
    · cases List.mem_singleton.mp h1
      exact .inr ⟨L, h2, h3, h4⟩
  · rintro (⟨b', l', L, h1, h2, h3, h4⟩ | ⟨L, h2, h3, h4⟩)
    · exact ⟨b', l', L, List.mem_append_left _ h1, h2, h3, h4⟩
    · exact ⟨b, len, L, List.mem_append_right _ (List.mem_singleton.mpr rfl), h2, h3, h4⟩
section
variable {ws : List W3} {rows : Nat → List (Int × Option Int)} {i j : Nat} {o : Option (Int × Nat)} {b : Int} {len : Option Int}
/-- no candidate -/
theorem best_no (h : Best (CandTo ws rows i j) o) (hr : (rows i)[j]? = some (b, len)) (hn : ∀ L, lim (ws.getD i d3) = some L → ¬ (len = none ∨ ∃ x, len = some x ∧ L < x)) : Best (CandTo ws rows i (j + 1)) o := by
  refine h.congr fun t w => ?_
  unfold CandTo
  rw [List.take_add_one, hr]
  show (_ ∨ (w = i ∧ CandIn ws i ((rows i).take j ++ [(b, len)]) t)) ↔ _
  rw [candIn_snoc]
  constructor
  · rintro (h1 | ⟨h1, h2 | ⟨L, h3, h4, _⟩⟩)
    · exact .inl h1
    · exact .inr ⟨h1, h2⟩
    · exact absurd h4 (hn L h3)
  · rintro (h1 | ⟨h1, h2⟩)
    · exact .inl h1
    · exact .inr ⟨h1, .inl h2⟩
theorem cand_step {L : Int} (hr : (rows i)[j]? = some (b, len)) (hL : lim (ws.getD i d3) = some L) (hc : len = none ∨ ∃ x, len = some x ∧ L < x) (t : Int) (w : Nat) : CandTo ws rows i (j + 1) t w ↔ (CandTo ws rows i j t w ∨ (t = b + L ∧ w = i)) := by
  unfold CandTo
  rw [List.take_add_one, hr]
  show (_ ∨ (w = i ∧ CandIn ws i ((rows i).take j ++ [(b, len)]) t)) ↔ _
  rw [candIn_snoc]
  constructor
  · rintro (h1 | ⟨h1, h2 | ⟨L', h3, h4, h5⟩⟩)
    · exact .inl (.inl h1)
    · exact .inl (.inr ⟨h1, h2⟩)
    · rw [hL] at h3
      cases h3
      exact .inr ⟨h5, h1⟩
  · rintro ((h1 | ⟨h1, h2⟩) | ⟨h1, h2⟩)
    · exact .inl h1
    · exact .inr ⟨h1, .inl h2⟩
    · exact .inr ⟨h2, .inr ⟨L, hL, hc, h1⟩⟩
theorem best_take {L : Int} (h : Best (CandTo ws rows i j) o) (hr : (rows i)[j]? = some (b, len)) (hL : lim (ws.getD i d3) = some L) (hc : len = none ∨ ∃ x, len = some x ∧ L < x) (hl : ∀ t w, o = some (t, w) → b + L < t) : Best (CandTo ws rows i (j + 1)) (some (b + L, i)) :=
  (h.take (w2 := i) hl).congr fun t w => cand_step hr hL hc t w
theorem cand_le {t : Int} {w : Nat} (h : CandTo ws rows i j t w) : w ≤ i := by
  rcases h with h | h
  · exact Nat.le_of_lt h.1
  · exact Nat.le_of_eq h.1
theorem best_keep {L : Int} {t : Int} {w : Nat} (h : Best (CandTo ws rows i j) (some (t, w))) (hr : (rows i)[j]? = some (b, len)) (hL : lim (ws.getD i d3) = some L) (hc : len = none ∨ ∃ x, len = some x ∧ L < x) (hl : ¬ b + L < t) : Best (CandTo ws rows i (j + 1)) (some (t, w)) :=
  (h.keep (w2 := i) (cand_le h.1) hl).congr fun t w => cand_step hr hL hc t w
theorem best_next (h : Best (CandTo ws rows i (rows i).length) o) : Best (CandTo ws rows (i + 1) 0) o := by
  refine h.congr fun t w => ?_
  unfold CandTo
  rw [List.take_length, List.take_zero]
  constructor
  · rintro (⟨h1, h2⟩ | ⟨_, ⟨b, l, L, h3, _⟩⟩)
    · by_cases e : w = i
      · subst e
        exact .inr ⟨rfl, h2⟩
      · exact .inl ⟨by omega, h2⟩
    · cases h3
  · rintro (⟨h1, h2⟩ | ⟨rfl, h2⟩)
    · exact .inl ⟨by omega, h2⟩
    · exact .inl ⟨by omega, h2⟩
theorem best_zero : Best (CandTo ws rows 0 0) none := by
  rintro t w (⟨h1, _⟩ | ⟨_, ⟨b, l, L, h3, _⟩⟩)
  · omega
  · rw [List.take_zero] at h3
    cases h3
end
def BrkOf (ws : List W3) (m : Nat → Option Int) (o : Option (Int × Nat)) : Prop := match o with
  | none => BrkSem ws m none
  | some (t, w) => ∃ n : Nat, t = n ∧ w < ws.length ∧ BrkSem ws m (some (n, w))
/-- the soonest loss -/
theorem best_brk {ws : List W3} {ld : List Int} {hd lp : List (Option Int)} {o : Option (Int × Nat)} (okw : OkWs ws) (ok : OkLd ld) (okp : OkPl ws.length hd lp) (h : Best (CandTo ws (fun w => rowsM (mend ld hd lp) lp (w : Nat) (nB ld hd lp)) ws.length 0) o) : BrkOf ws (mend ld hd lp) o := by
  have lper := per_pos ok okp
  have l1 := okp.l1
  have hn := nB_eq ld hd lp
  have back : ∀ (w : Nat) (s : Nat), Lose ws (mend ld hd lp) w s → ∃ t : Int, CandTo ws (fun w => rowsM (mend ld hd lp) lp (w : Nat) (nB ld hd lp)) ws.length 0 t w ∧ t ≤ s := by
    rintro w s ⟨hw, L, hL, hg⟩
    have hLn := lim_nat (okw.ok _ (getD_mem hw)) hL
    obtain ⟨b, len, h1, h2, h3⟩ := lose_cand (hd := hd) (w := (w : Nat)) ok l1 lper (n := nB ld hd lp) (L := L.toNat) (by omega) s (by omega)
    refine ⟨b + L, .inl ⟨hw, b, len, L, h1, hL, ?_, rfl⟩, by omega⟩
    rcases h2 with h2 | ⟨x, h2, h4⟩
    · exact .inl h2
    · exact .inr ⟨x, h2, by omega⟩
  match o, h with
  | none, h =>
    intro w s hl
    obtain ⟨t, h1, _⟩ := back w s hl
    exact h t w h1
  | some (t, w), h =>
    obtain ⟨h1, h2⟩ := h
    rcases h1 with ⟨hw, b, len, L, r1, hL, r2, rfl⟩ | ⟨_, ⟨b, l, L, h3, _⟩⟩
    · have hLn := lim_nat (okw.ok _ (getD_mem hw)) hL
      obtain ⟨n, hn1, hn2⟩ := cand_lose (hd := hd) (w := (w : Nat)) ok l1 (n := nB ld hd lp) (L := L.toNat) (by omega) r1 (by
        rcases r2 with r2 | ⟨x, r2, r3⟩
        · exact .inl r2
        · exact .inr ⟨x, r2, by omega⟩)
      refine ⟨n, by omega, hw, ⟨hw, L, hL, by rw [hn2]; omega⟩, fun v s hl => ?_⟩
      obtain ⟨t, k1, k2⟩ := back v s hl
      have := h2 t v k1
      omega
    · rw [List.take_zero] at h3
      cases h3
end Z
set_option Elab.async false
set_option linter.all false
set_option maxRecDepth 100000
set_option maxHeartbeats 4000000
namespace Z
open PySem PySem.Spec PyProof.Rows L2
theorem cutV_take {xs : List V} {c : Nat} (h : c ≤ xs.length) : cutV xs none (some (c : Int)) = xs.take c := by
  unfold cutV
  rw [HT.sIx_nat, HT.sIx_none, List.drop_zero, Nat.sub_zero, Nat.min_eq_left h]
theorem cutV_drop {xs : List V} {c : Nat} (h : c ≤ xs.length) : cutV xs (some (c : Int)) none = xs.drop c := by
  unfold cutV
  rw [HT.sIx_nat, HT.sIx_none, Nat.min_eq_left h]
  refine List.take_of_length_le ?_
  rw [List.length_drop]
  exact Nat.le_refl _
/-! ### plans that mean the same -/
section
variable {hd lp : List (Option Int)}
theorem getD_append {α : Type} {xs ys : List α} {d : α} (n : Nat) : (xs ++ ys).getD n d = if n < xs.length then xs.getD n d else ys.getD (n - xs.length) d := by
  rw [List.getD_eq_getElem?_getD, List.getElem?_append]
  split <;> rw [List.getD_eq_getElem?_getD]
theorem thing_head (l1 : 1 ≤ lp.length) (n : Nat) : thing (hd ++ lp) lp n = thing hd lp n := by
  unfold thing
  rw [List.length_append, getD_append]
  by_cases h1 : n < hd.length
  · rw [if_pos (by omega), if_pos h1, if_pos h1]
  · rw [if_neg h1, if_neg h1]
    by_cases h2 : n < hd.length + lp.length
    · rw [if_pos h2, Nat.mod_eq_of_lt (by omega)]
    · rw [if_neg h2]
      congr 1
      rw [show n - hd.length = (n - (hd.length + lp.length)) + lp.length by omega, Nat.add_mod_right]
theorem thing_twice (l1 : 1 ≤ lp.length) (n : Nat) : thing hd (lp ++ lp) n = thing hd lp n := by
  unfold thing
  split
  · rfl
  · generalize n - hd.length = k
    rw [getD_append, List.length_append]
    have h1 : k % (lp.length + lp.length) % lp.length = k % lp.length := by
      refine Nat.mod_mod_of_dvd _ ⟨2, ?_⟩
      omega
    have h2 : k % (lp.length + lp.length) < lp.length + lp.length := Nat.mod_lt _ (by omega)
    by_cases h : k % (lp.length + lp.length) < lp.length
    · rw [if_pos h, ← h1, Nat.mod_eq_of_lt h]
    · have h3 : k % (lp.length + lp.length) % lp.length = k % (lp.length + lp.length) - lp.length := by
        revert h2 h
        generalize k % (lp.length + lp.length) = r
        intro h2 h
        rw [Nat.mod_eq_sub_mod (by omega), Nat.mod_eq_of_lt (by omega)]
      rw [if_neg h, ← h1, h3]
theorem rot_len {c : Nat} : (lp.drop c ++ lp.take c).length = lp.length := by
  rw [List.length_append, List.length_drop, List.length_take]
  omega
theorem rot_getD {c j : Nat} (hc : c ≤ lp.length) (hj : j < lp.length) : (lp.drop c ++ lp.take c).getD j none = lp.getD ((j + c) % lp.length) none := by
  rw [getD_append, List.length_drop]
  by_cases h : j < lp.length - c
  · rw [if_pos h, Nat.mod_eq_of_lt (by omega), List.getD_eq_getElem?_getD, List.getElem?_drop, List.getD_eq_getElem?_getD, Nat.add_comm]
  · rw [if_neg h, Nat.mod_eq_sub_mod (by omega), Nat.mod_eq_of_lt (by omega), List.getD_eq_getElem?_getD, List.getElem?_take, if_pos (by omega), List.getD_eq_getElem?_getD]
    congr 2
    omega
theorem thing_rot (l1 : 1 ≤ lp.length) {c : Nat} (hc : c ≤ lp.length) (n : Nat) : thing (hd ++ lp.take c) (lp.drop c ++ lp.take c) n = thing hd lp n := by
  unfold thing
  rw [rot_len, List.length_append, List.length_take, Nat.min_eq_left hc, getD_append]
  by_cases h1 : n < hd.length
  · rw [if_pos (by omega), if_pos h1, if_pos h1]
  · rw [if_neg h1, if_neg h1]
    by_cases h2 : n < hd.length + c
    · rw [if_pos h2, Nat.mod_eq_of_lt (by omega), List.getD_eq_getElem?_getD, List.getElem?_take, if_pos (by omega), List.getD_eq_getElem?_getD]
    · rw [if_neg h2, rot_getD hc (Nat.mod_lt _ (by omega)), Nat.mod_add_mod]
      congr 2
      omega
theorem mend_congr {ld : List Int} {hd2 lp2 : List (Option Int)} (h : ∀ n, thing hd2 lp2 n = thing hd lp n) : mend ld hd2 lp2 = mend ld hd lp := by
  funext b
  unfold mend
  split
  · exact h _
  · rfl
end
/-! ### what is told, as data -/
def dG (gs : List (Option Int)) : PyData := .list (gs.map dO)
def dB (ws : List W3) (o : Option (Nat × Nat)) : PyData := match o with
  | none => .none
  | some (t, w) => .tuple [.int (t : Nat), .int (w : Nat), .list ((strk ws t w).map dW)]
theorem dk_B (ws : List W3) (o : Option (Nat × Nat)) : Dk 3 (dB ws o) := by
  match o with
  | none => exact dk_non
  | some (t, w) =>
    exact dk_tup fun d hd => by
      simp only [List.mem_cons, List.not_mem_nil, or_false] at hd
      rcases hd with rfl | rfl | rfl
      · exact dk_int
      · exact dk_int
      · exact dk_Ws _
theorem dk_G (gs : List (Option Int)) : Dk 1 (dG gs) := dk_vOs gs
section
variable {K : PySem.W.Frag} {G H H0 : Hp}
theorem dp_brk {ws : List W3} {v : V} {o : Option (Nat × Nat)} (sb : Same G H) (h : BrkV K G H H0 ws v o) : Dp K H v (dB ws o) := by
  match o, h with
  | none, h =>
    have e : v = .non := h
    rw [e]; exact .non
  | some (t, w), ⟨r, l, as, e, _, _, h1, h2, h3⟩ =>
    rw [e]
    exact .tup (sqt sb h1) (.cons (.int _) (.cons (.int _) (.cons (.lst (.inl (.inl h2.h)) (dpAll_W (prt sb h3))) .nil)))
theorem dp_G {q : Addr} {gs : List (Option Int)} (h : SqL K H q (gs.map vO)) : Dp K H (.ref q) (dG gs) := .lst h (dpAll_vO gs)
end
def d3L (gs : List (Option Int)) (ws : List W3) (o : Option (Nat × Nat)) (lost : Option (Nat × Nat)) (tu : List (List Int)) : PyData := .list [dG gs, dB ws o, dR lost tu]
theorem dk_3L (gs : List (Option Int)) (ws : List W3) (o : Option (Nat × Nat)) (lost : Option (Nat × Nat)) (tu : List (List Int)) : Dk 4 (d3L gs ws o lost tu) := dk_list fun d hd => by
  simp only [List.mem_cons, List.not_mem_nil, or_false] at hd
  rcases hd with rfl | rfl | rfl
  · exact (dk_G gs).mono (by decide)
  · exact dk_B ws o
  · exact dk_R lost tu
/-- words without end -/
def ends (lp : List (Option Int)) (n : Nat) : List Int := ((List.range n).filter fun (w : Nat) => !decide (some (w : Int) ∈ lp)).map fun w => ((w : Nat) : Int)
theorem ends_succ (lp : List (Option Int)) (n : Nat) : ends lp (n + 1) = ends lp n ++ (if some (n : Int) ∈ lp then [] else [(n : Int)]) := by
  unfold ends
  rw [List.range_succ, List.filter_append, List.map_append]
  congr 1
  rw [List.filter_cons]
  by_cases h : some (n : Int) ∈ lp
  · rw [if_pos h, decide_eq_true h]; rfl
  · rw [if_neg h, decide_eq_false h]; rfl
theorem ends_len (lp : List (Option Int)) (n : Nat) : (ends lp n).length ≤ n := by
  unfold ends
  rw [List.length_map]
  refine Nat.le_trans (List.length_filter_le _ _) ?_
  rw [List.length_range]
  exact Nat.le_refl n
end Z
set_option Elab.async false
set_option linter.all false
set_option maxRecDepth 100000
set_option maxHeartbeats 4000000
namespace Z
open PySem PySem.Spec PyProof.Rows L2
/-! ### isinstance, for data of None, ints, lists, tuples -/
def Lk : Nat → PyData → Prop
  | 0, d => d = .none ∨ ∃ i, d = .int i
  | n + 1, d => (d = .none ∨ ∃ i, d = .int i) ∨ ∃ ds, (d = .list ds ∨ d = .tuple ds) ∧ ds.length ≤ 100000 ∧ ∀ e ∈ ds, Lk n e
theorem lk_non : ∀ {n : Nat}, Lk n .none
  | 0 => .inl rfl
  | n + 1 => .inl (.inl rfl)
theorem lk_int {i : Int} : ∀ {n : Nat}, Lk n (.int i)
  | 0 => .inr ⟨i, rfl⟩
  | n + 1 => .inl (.inr ⟨i, rfl⟩)
theorem lk_list {n : Nat} {ds : List PyData} (l : ds.length ≤ 100000) (h : ∀ e ∈ ds, Lk n e) : Lk (n + 1) (.list ds) := .inr ⟨ds, .inl rfl, l, h⟩
theorem lk_tup {n : Nat} {ds : List PyData} (l : ds.length ≤ 100000) (h : ∀ e ∈ ds, Lk n e) : Lk (n + 1) (.tuple ds) := .inr ⟨ds, .inr rfl, l, h⟩
theorem lk_vO {n : Nat} (o : Option Int) : Lk n (dO o) := by
  cases o
  · exact lk_non
  · exact lk_int
theorem kit_a (K : PySem.W.Frag) : ∀ a ∈ (["int", "NoneType", "list", "tuple"] : List String), ∀ b ∈ (["bool", "str", "int", "dict", "tuple", "list"] : List String), PySem.W.kitOne K (.type a) (.type b) = some (a == b) := by
  intro a ha b hb
  simp only [List.mem_cons, List.not_mem_nil, or_false] at ha hb
  rcases ha with rfl | rfl | rfl | rfl <;> rcases hb with rfl | rfl | rfl | rfl | rfl | rfl <;> rfl
section
variable {K : PySem.W.Frag} {H : Hp} {Q : VK} {a : Addr} {xs : List V} {c : String} {b : Bool} {i : Int}
theorem ty_L (h : SqL K H a xs) : TyX K H (.ref a) (.type "list") := by
  rcases h with (h | ⟨o, h⟩) | ⟨o, its, n, h1, h2, _⟩
  · exact .base (.lst h)
  · exact .base (.frz h)
  · exact .kList h1 h2
theorem ty_T (h : SqT K H a xs) : TyX K H (.ref a) (.type "tuple") := by
  rcases h with (h | ⟨o, h⟩) | ⟨o, its, n, h1, h2, _⟩
  · exact .base (.tup h)
  · exact .fTuple h
  · exact .kTuple h1 h2
theorem isi_L (h : SqL K H a xs) (hc : c ∈ (["bool", "str", "int", "dict", "tuple", "list"] : List String)) (e : (("list" : String) == c) = b) (q : Q (.bl b) H) : rIsi K [.ref a, .ty c] H Q :=
  ⟨_, _, _, _, b, rfl, .ty c, ty_L h, by rw [kit_a K "list" (by simp) c hc, e], q⟩
theorem isi_T (h : SqT K H a xs) (hc : c ∈ (["bool", "str", "int", "dict", "tuple", "list"] : List String)) (e : (("tuple" : String) == c) = b) (q : Q (.bl b) H) : rIsi K [.ref a, .ty c] H Q :=
  ⟨_, _, _, _, b, rfl, .ty c, ty_T h, by rw [kit_a K "tuple" (by simp) c hc, e], q⟩
theorem isi_I (hc : c ∈ (["bool", "str", "int", "dict", "tuple", "list"] : List String)) (e : (("int" : String) == c) = b) (q : Q (.bl b) H) : rIsi K [.int i, .ty c] H Q :=
  ⟨_, _, _, _, b, rfl, .ty c, .base (.int i), by rw [kit_a K "int" (by simp) c hc, e], q⟩
theorem isi_N (hc : c ∈ (["bool", "str", "int", "dict", "tuple", "list"] : List String)) (e : (("NoneType" : String) == c) = b) (q : Q (.bl b) H) : rIsi K [.non, .ty c] H Q :=
  ⟨_, _, _, _, b, rfl, .ty c, .base .non, by rw [kit_a K "NoneType" (by simp) c hc, e], q⟩
theorem i_neB {x y : Bool} (q : Q (.bl (!decide (x = y))) H) : rNe (.bl x) (.bl y) H Q := ⟨rfl, by
  have e : decide (V.bl x = V.bl y) = decide (x = y) := decide_eq_decide.mpr ⟨fun h => V.bl.inj h, fun h => by rw [h]⟩
  rw [e]; exact q⟩
theorem i_eqB {x y : Bool} (q : Q (.bl (decide (x = y))) H) : rEq (.bl x) (.bl y) H Q := ⟨rfl, by
  have e : decide (V.bl x = V.bl y) = decide (x = y) := decide_eq_decide.mpr ⟨fun h => V.bl.inj h, fun h => by rw [h]⟩
  rw [e]; exact q⟩
theorem i_notV {σ : L2.St} {ta : TE} (q : ta σ H fun x H1 => ∃ k, x = .bl k ∧ Q (.bl (!k)) H1) : tNotV ta σ H Q := q
theorem i_ixSL {v : V} (h : SqL K H a xs) (e : atI xs i = some v) (q : Q v H) : rIx K (.ref a) (.int i) H Q := .inl (i_ixL h e q)
theorem i_ixST {v : V} (h : SqT K H a xs) (e : atI xs i = some v) (q : Q v H) : rIx K (.ref a) (.int i) H Q := .inr (.inl (i_ixT h e q))
end
/-- tells True of what is alike -/
def spLike (n : Nat) (K : PySem.W.Frag) : Sp := fun vs H Q _ => ∃ (x y : V) (d : PyData), vs = [x, y] ∧ Dp K H x d ∧ Dp K H y d ∧ Lk n d ∧ Q (.bl true) H
def spNo : Sp := fun _ _ _ _ => False
theorem i_like {n : Nat} {K : PySem.W.Frag} {H : Hp} {Q : VK} {E : XK} {x y : V} {d : PyData} (h1 : Dp K H x d) (h2 : Dp K H y d) (h3 : Lk n d) (q : Q (.bl true) H) : spLike n K ([x, y] ++ []) H Q E := ⟨x, y, d, rfl, h1, h2, h3, q⟩
theorem dpAll_at {K : PySem.W.Frag} {H : Hp} : ∀ {vs : List V} {ds : List PyData}, DpAll K H vs ds → vs.length = ds.length ∧ ∀ (i : Nat) (v : V), vs[i]? = some v → ∃ d, ds[i]? = some d ∧ Dp K H v d
  | _, _, .nil => ⟨rfl, fun i v h => by simp at h⟩
  | _, _, .cons h t => ⟨by rw [List.length_cons, List.length_cons, (dpAll_at t).1], fun i v e => by
    cases i with
    | zero => cases e; exact ⟨_, rfl, h⟩
    | succ i => exact (dpAll_at t).2 i v e⟩
end Z
set_option Elab.async false
set_option linter.all false
set_option maxRecDepth 100000
set_option maxHeartbeats 4000000
namespace Z
open PySem PySem.Spec PyProof.Rows L2
/-! ### a run, seen by one word -/
def oneAt (mw : Nat → Bool) (bt : Nat → Option Int) : Nat → List Int
  | 0 => []
  | t + 1 => match bt t with
    | none => if mw t then [] else oneAt mw bt t
    | some b => flip b (if mw t then [] else oneAt mw bt t)
def onW (b w : Int) (s : W3) : Bool := decide (s.1 = b ∧ s.2.1 = w)
/-- the bit that is struck of word w at beat b -/
def bitAt (ss : List W3) (w : Int) (b : Nat) : Option Int := (ss.find? (onW b w)).map fun s => s.2.2
theorem flip_len (b : Int) (xs : List Int) : (flip b xs).length ≤ xs.length + 1 := by
  unfold flip
  split
  · exact Nat.le_succ_of_le (List.length_filter_le _ _)
  · rw [(srt_perm _).length_eq, List.length_append]
    exact Nat.le_refl _
theorem strokesAt_len {b : Int} : ∀ (ss : List W3) {tu : List (List Int)}, (strokesAt b ss tu).length = tu.length
  | [], _ => rfl
  | s :: ss, tu => by
    have : (strokeAt b tu s).length = tu.length := by unfold strokeAt; split <;> simp
    show (strokesAt b ss (strokeAt b tu s)).length = _
    rw [strokesAt_len ss, this]
theorem mendAt_len (o : Option Int) (tu : List (List Int)) : (mendAt o tu).length = tu.length := by
  cases o with
  | none => rfl
  | some w => exact List.length_set
theorem tuAt_len {mf : Nat → Option Int} {ss : List W3} {n : Nat} : ∀ t, (tuAt mf ss n t).length = n
  | 0 => List.length_replicate
  | t + 1 => by
    show (strokesAt t ss (mendAt (mf t) (tuAt mf ss n t))).length = n
    rw [strokesAt_len, mendAt_len, tuAt_len t]
theorem getD_set {tu : List (List Int)} {i w : Nat} {xs : List Int} (h : w < tu.length) : (tu.set i xs).getD w [] = if i = w then xs else tu.getD w [] := by
  rw [List.getD_eq_getElem?_getD, List.getElem?_set, List.getD_eq_getElem?_getD]
  split
  · rename_i e
    rw [if_pos (by omega)]
    rfl
  · rfl
/-- strokes of one beat: each word meets one at most -/
theorem strokesAt_one {b w : Nat} : ∀ (ss : List W3) {tu : List (List Int)}, w < tu.length → (∀ s ∈ ss, 0 ≤ s.2.1) → ss.Pairwise (fun s t => ltP (s.1, s.2.1) (t.1, t.2.1)) → (strokesAt (b : Int) ss tu).getD w [] = match bitAt ss (w : Nat) b with
      | none => tu.getD w []
      | some x => flip x (tu.getD w [])
  | [], _, _, _, _ => rfl
  | s :: ss, tu, h, h0, pw => by
    have pw2 := List.pairwise_cons.mp pw
    have hl : w < (strokeAt (b : Int) tu s).length := by
      have : (strokeAt (b : Int) tu s).length = tu.length := by unfold strokeAt; split <;> simp
      omega
    have ih := strokesAt_one (b := b) (w := w) ss (tu := strokeAt (b : Int) tu s) hl (fun t ht => h0 t (List.mem_cons_of_mem _ ht)) pw2.2
    show (strokesAt (b : Int) ss (strokeAt (b : Int) tu s)).getD w [] = _
    rw [ih]
    have hs0 := h0 s List.mem_cons_self
    by_cases hc : s.1 = (b : Int) ∧ s.2.1 = (w : Int)
    · have hno : bitAt ss (w : Nat) b = none := by
        unfold bitAt
        have : ss.find? (onW b (w : Nat)) = none := List.find?_eq_none.mpr fun t ht hq => by
          have h1 := pw2.1 t ht
          have h2 : t.1 = (b : Int) ∧ t.2.1 = (w : Int) := of_decide_eq_true hq
          have h3 : s.1 < t.1 ∨ (s.1 = t.1 ∧ s.2.1 < t.2.1) := h1
          omega
        rw [this]
        rfl
      have hyes : bitAt (s :: ss) (w : Nat) b = some s.2.2 := by
        unfold bitAt
        rw [List.find?_cons_of_pos (by exact decide_eq_true hc)]
        rfl
      rw [hno, hyes]
      show (strokeAt (b : Int) tu s).getD w [] = flip s.2.2 (tu.getD w [])
      unfold strokeAt
      have ew : s.2.1.toNat = w := by omega
      rw [if_pos hc.1, ew, getD_set h, if_pos rfl]
    · have hyes : bitAt (s :: ss) (w : Nat) b = bitAt ss (w : Nat) b := by
        unfold bitAt
        rw [List.find?_cons_of_neg (by rw [onW, decide_eq_true_iff]; exact hc)]
      have e : (strokeAt (b : Int) tu s).getD w [] = tu.getD w [] := by
        unfold strokeAt
        split
        · rename_i h1
          rw [getD_set h, if_neg]
          intro e
          exact hc ⟨h1, by omega⟩
        · rfl
      rw [hyes, e]
theorem mendAt_one {o : Option Int} {tu : List (List Int)} {w : Nat} (h : w < tu.length) (h0 : ∀ v, o = some v → 0 ≤ v) : (mendAt o tu).getD w [] = if decide (o = some (w : Int)) = true then [] else tu.getD w [] := by
  cases o with
  | none => rfl
  | some v =>
    show (tu.set v.toNat []).getD w [] = _
    have := h0 v rfl
    rw [getD_set h]
    by_cases e : v = (w : Int)
    · subst e
      rw [if_pos (by omega), decide_eq_true rfl, if_pos rfl]
    · rw [if_neg (by omega), decide_eq_false (by intro z; exact e (Option.some.inj z)), if_neg Bool.false_ne_true]
theorem tu_one {ws ss : List W3} {mf : Nat → Option Int} {w n : Nat} (oks : OkSt ws ss) (hm : ∀ t v, mf t = some v → 0 ≤ v) (hw : w < n) : ∀ t, (tuAt mf ss n t).getD w [] = oneAt (fun t => decide (mf t = some (w : Int))) (bitAt ss (w : Nat)) t
  | 0 => by
    show (List.replicate n ([] : List Int)).getD w [] = []
    rw [List.getD_eq_getElem?_getD, List.getElem?_replicate, if_pos hw]
    rfl
  | t + 1 => by
    show (strokesAt (t : Int) ss (mendAt (mf t) (tuAt mf ss n t))).getD w [] = _
    rw [strokesAt_one ss (by rw [mendAt_len, tuAt_len]; exact hw) (fun s hs => (oks.rng s hs).2.2.1) (oks.ord.imp fun h => h.1), mendAt_one (by rw [tuAt_len]; exact hw) (hm t), tu_one oks hm hw t]
    rfl
/-- losses by one-word runs -/
theorem lossP_one {ws ss : List W3} {mf : Nat → Option Int} {w t : Nat} (oks : OkSt ws ss) (hm : ∀ t v, mf t = some v → 0 ≤ v) (hw : w < ws.length) : lossP ws (tuAt mf ss ws.length t) w ↔ (ws.getD w d3).2.1 < ((oneAt (fun t => decide (mf t = some (w : Int))) (bitAt ss (w : Nat)) t).length : Int) := by
  unfold lossP
  rw [tu_one oks hm hw]
  exact ⟨fun h => h.2, fun h => ⟨hw, h⟩⟩
end Z
set_option Elab.async false
set_option linter.all false
set_option maxRecDepth 100000
set_option maxHeartbeats 4000000
namespace Z
open PySem PySem.Spec PyProof.Rows L2
/-! ### no strokes lose sooner -/
structure OkN (n : Nat) (xs : List Int) : Prop where
  up : xs.Pairwise (· < ·)
  rg : ∀ x ∈ xs, 0 ≤ x ∧ x < n
theorem okN_nil {n : Nat} : OkN n [] := ⟨.nil, fun _ h => by cases h⟩
theorem rise_len : ∀ (k : Nat) (lo : Int) (xs : List Int), xs.Pairwise (· < ·) → (∀ x ∈ xs, lo ≤ x ∧ x < lo + k) → xs.length ≤ k
  | _, _, [], _, _ => Nat.zero_le _
  | 0, lo, x :: xs, _, h => by have := h x List.mem_cons_self; omega
  | k + 1, lo, x :: xs, u, h => by
    have h1 := List.pairwise_cons.mp u
    have h0 := h x List.mem_cons_self
    refine Nat.succ_le_succ (rise_len k (lo + 1) xs h1.2 fun y hy => ?_)
    have h2 := h1.1 y hy
    have h3 := h y (List.mem_cons_of_mem _ hy)
    omega
theorem OkN.len {n : Nat} {xs : List Int} (h : OkN n xs) : xs.length ≤ n := rise_len n 0 xs h.up fun x hx => by have := h.rg x hx; omega
theorem okN_flip {n : Nat} {b : Int} {xs : List Int} (h : OkN n xs) (h0 : 0 ≤ b) (h8 : b < n) : OkN n (flip b xs) := by
  unfold flip
  split
  · exact ⟨h.up.filter _, fun x hx => h.rg x (List.mem_filter.mp hx).1⟩
  · rename_i hb
    have hp := srt_perm (xs ++ [b])
    refine ⟨?_, fun x hx => ?_⟩
    · have hn : (srt (xs ++ [b])).Nodup := by
        refine hp.nodup_iff.mpr ?_
        rw [List.nodup_append]
        refine ⟨h.up.imp fun h e => by omega, by simp, fun x hx y hy e => ?_⟩
        rw [List.mem_singleton.mp hy] at e
        rw [e] at hx
        exact hb hx
      have hle := srt_le (xs ++ [b])
      exact (hle.and hn).imp fun ⟨h1, h2⟩ => by omega
    · rcases List.mem_append.mp (hp.mem_iff.mp hx) with h1 | h1
      · exact h.rg x h1
      · rw [List.mem_singleton.mp h1]; exact ⟨h0, h8⟩
theorem oneAt_ok {n : Nat} {mw : Nat → Bool} {bt : Nat → Option Int} (h : ∀ t b, bt t = some b → 0 ≤ b ∧ b < n) : ∀ t, OkN n (oneAt mw bt t)
  | 0 => okN_nil
  | t + 1 => by
    have ih := oneAt_ok (mw := mw) h t
    have hy : OkN n (if mw t then [] else oneAt mw bt t) := by
      split
      · exact okN_nil
      · exact ih
    rw [oneAt]
    cases e : bt t with
    | none => exact hy
    | some b => exact okN_flip hy (h t b e).1 (h t b e).2
/-- strokes stand a gap apart -/
def GapB (bt : Nat → Option Int) (gap : Nat) : Prop := ∀ t u x y, t < u → bt t = some x → bt u = some y → t + gap ≤ u
theorem oneAt_gap {m : Nat → Option Int} {w : Int} {bt : Nat → Option Int} {gap : Nat} (h : GapB bt gap) : ∀ t, (oneAt (fun t => decide (m t = some w)) bt t).length = 0 ∨
    ∃ x y, x < t ∧ t ≤ x + gl m w t ∧ bt x = some y ∧ ((oneAt (fun t => decide (m t = some w)) bt t).length - 1) * gap + t ≤ x + gl m w t
  | 0 => .inl rfl
  | t + 1 => by
    have ih := oneAt_gap (m := m) (w := w) h t
    rw [oneAt, gl]
    by_cases hm : m t = some w
    · rw [decide_eq_true hm, if_pos rfl, if_pos hm]
      cases e : bt t with
      | none => exact .inl rfl
      | some b =>
        right
        refine ⟨t, b, Nat.lt_succ_self t, Nat.le_refl _, e, ?_⟩
        have h1 := flip_len b []
        rw [List.length_nil] at h1
        have h2 : (flip b []).length - 1 = 0 := by omega
        show ((flip b []).length - 1) * gap + (t + 1) ≤ t + 1
        rw [h2]
        omega
    · rw [decide_eq_false hm, if_neg Bool.false_ne_true, if_neg hm]
      cases e : bt t with
      | none =>
        show (oneAt _ bt t).length = 0 ∨ _
        rcases ih with ih | ⟨x, y, h1, h2, h3, h4⟩
        · exact .inl ih
        · exact .inr ⟨x, y, by omega, by omega, h3, by show ((oneAt _ bt t).length - 1) * gap + (t + 1) ≤ x + (gl m w t + 1); omega⟩
      | some b =>
        right
        refine ⟨t, b, Nat.lt_succ_self t, by omega, e, ?_⟩
        show ((flip b (oneAt _ bt t)).length - 1) * gap + (t + 1) ≤ t + (gl m w t + 1)
        have h1 := flip_len b (oneAt (fun t => decide (m t = some w)) bt t)
        have h5 : ((flip b (oneAt (fun t => decide (m t = some w)) bt t)).length - 1) * gap ≤ (oneAt (fun t => decide (m t = some w)) bt t).length * gap := Nat.mul_le_mul_right _ (by omega)
        rcases ih with ih | ⟨x, y, h6, h2, h3, h4⟩
        · rw [ih, Nat.zero_mul] at h5
          omega
        · have h7 := h x t y b h6 h3 e
          have h8 : (oneAt (fun t => decide (m t = some w)) bt t).length * gap ≤ ((oneAt (fun t => decide (m t = some w)) bt t).length - 1) * gap + gap := by
            rw [← Nat.succ_mul]
            exact Nat.mul_le_mul_right _ (by omega)
          omega
theorem bitAt_mem {ss : List W3} {w : Int} {t : Nat} {x : Int} (h : bitAt ss w t = some x) : ∃ s ∈ ss, s.1 = (t : Int) ∧ s.2.1 = w ∧ s.2.2 = x := by
  unfold bitAt at h
  cases e : ss.find? (onW t w) with
  | none => rw [e] at h; cases h
  | some s =>
    rw [e] at h
    have h1 : s.1 = (t : Int) ∧ s.2.1 = w := of_decide_eq_true (by have := List.find?_some e; exact this)
    exact ⟨s, List.mem_of_find?_eq_some e, h1.1, h1.2, Option.some.inj h⟩
theorem bitAt_gap {ws ss : List W3} {w : Nat} (oks : OkSt ws ss) : GapB (bitAt ss (w : Nat)) (ws.getD w d3).2.2.toNat := by
  intro t u x y htu hx hy
  obtain ⟨s, hs, s1, s2, _⟩ := bitAt_mem hx
  obtain ⟨r, hr, r1, r2, _⟩ := bitAt_mem hy
  obtain ⟨i, hi, ei⟩ := List.mem_iff_getElem.mp hs
  obtain ⟨j, hj, ej⟩ := List.mem_iff_getElem.mp hr
  have hij : i < j := by
    rcases Nat.lt_trichotomy i j with h | h | h
    · exact h
    · subst h
      rw [ei] at ej
      rw [ej] at s1
      omega
    · have := pw_at oks.ord (i := j) (j := i) (by rw [List.getElem?_eq_getElem hj, ej]) (by rw [List.getElem?_eq_getElem hi, ei]) h
      have h2 : r.1 < s.1 ∨ (r.1 = s.1 ∧ r.2.1 < s.2.1) := this.1
      omega
  have := (pw_at oks.ord (i := i) (j := j) (by rw [List.getElem?_eq_getElem hi, ei]) (by rw [List.getElem?_eq_getElem hj, ej]) hij).2 (by rw [s2, r2])
  rw [r2, Int.toNat_natCast] at this
  omega
/-- where strokes lose a word it could be lost no later -/
theorem loss_lose {ws ss : List W3} {m : Nat → Option Int} {w b : Nat} (okw : OkWs ws) (oks : OkSt ws ss) (hm : ∀ t v, m t = some v → 0 ≤ v) (h : lossP ws (tuAt m ss ws.length (b + 1)) w) : ∃ t, t ≤ b ∧ Lose ws m w t := by
  have hw := h.1
  have h1 := (lossP_one oks hm hw).mp h
  obtain ⟨o1, o2, o3, o4, o5, o6⟩ := okw.ok _ (getD_mem (d := d3) hw)
  have hok := oneAt_ok (n := (ws.getD w d3).1.toNat) (mw := fun t => decide (m t = some (w : Int))) (bt := bitAt ss (w : Nat)) (fun t x hx => by
    obtain ⟨s, hs, s1, s2, s3⟩ := bitAt_mem hx
    have := oks.rng s hs
    rw [s2, Int.toNat_natCast] at this
    omega) (b + 1)
  have hlen := hok.len
  rcases oneAt_gap (m := m) (w := (w : Nat)) (bitAt_gap (w := w) oks) (b + 1) with h2 | ⟨x, y, x1, x2, x3, x4⟩
  · rw [h2] at h1
    omega
  · generalize (oneAt (fun t => decide (m t = some (w : Int))) (bitAt ss (w : Nat)) (b + 1)).length = l at h1 hlen x4
    have hL : lim (ws.getD w d3) = some ((ws.getD w d3).2.1 * (ws.getD w d3).2.2) := by
      unfold lim
      rw [if_neg (by omega)]
    have h3 : (ws.getD w d3).2.1.toNat * (ws.getD w d3).2.2.toNat ≤ (l - 1) * (ws.getD w d3).2.2.toNat := Nat.mul_le_mul_right _ (by omega)
    have h4 : (((ws.getD w d3).2.1.toNat * (ws.getD w d3).2.2.toNat : Nat) : Int) = (ws.getD w d3).2.1 * (ws.getD w d3).2.2 := by
      rw [Int.natCast_mul, Int.toNat_of_nonneg o3, Int.toNat_of_nonneg (by omega)]
    generalize (ws.getD w d3).2.1.toNat * (ws.getD w d3).2.2.toNat = L at h3 h4
    have h5 := gl_le m (w : Nat) (b + 1)
    have h6 : L + 1 ≤ gl m (w : Nat) (b + 1) := by omega
    have h7 : gl m (w : Nat) (b + 1) - (L + 1) < gl m (w : Nat) (b + 1) := by omega
    have h8 := gl_back h7
    refine ⟨b - (gl m (w : Nat) (b + 1) - (L + 1)), by omega, hw, _, hL, ?_⟩
    rw [show b - (gl m (w : Nat) (b + 1) - (L + 1)) + 1 = b + 1 - (gl m (w : Nat) (b + 1) - (L + 1)) by omega, h8, ← h4]
    omega
end Z
set_option Elab.async false
set_option linter.all false
set_option maxRecDepth 100000
set_option maxHeartbeats 4000000
namespace Z
open PySem PySem.Spec PyProof.Rows L2
/-! ### the strokes that breaking tells -/
theorem strk_mem {ws : List W3} {t w : Nat} {s : W3} : s ∈ strk ws t w ↔ ∃ k : Nat, k ≤ (ws.getD w d3).2.1.toNat ∧ s = ((t : Int) - (ws.getD w d3).2.1 * (ws.getD w d3).2.2 + (k : Int) * (ws.getD w d3).2.2, ((w : Int), (k : Int))) := by
  unfold strk
  rw [List.mem_map]
  constructor
  · rintro ⟨k, hk, rfl⟩
    exact ⟨k, Nat.le_of_lt_succ (List.mem_range.mp hk), rfl⟩
  · rintro ⟨k, hk, rfl⟩
    exact ⟨k, List.mem_range.mpr (Nat.lt_succ_of_le hk), rfl⟩
theorem okSt_drop {ws ss : List W3} (h : OkSt ws ss) (k : Nat) : OkSt ws (ss.drop k) :=
  ⟨by rw [List.length_drop]; have := h.few; omega, fun s hs => h.rng s (List.mem_of_mem_drop hs), h.ord.sublist (List.drop_sublist k ss)⟩
theorem lim_of {x : W3} {L : Int} (h : lim x = some L) : x.2.1 < x.1 ∧ L = x.2.1 * x.2.2 := by
  unfold lim at h
  split at h
  · cases h
  · exact ⟨by omega, (Option.some.inj h).symm⟩
theorem okSt_strk {ws : List W3} {m : Nat → Option Int} {t w : Nat} (okw : OkWs ws) (h : Lose ws m w t) (ht : t ≤ 999) : OkSt ws (strk ws t w) := by
  obtain ⟨hw, L, hL, hg⟩ := h
  obtain ⟨o1, o2, o3, o4, o5, o6⟩ := okw.ok _ (getD_mem (d := d3) hw)
  obtain ⟨hb, eL⟩ := lim_of hL
  have h5 := gl_le m (w : Nat) (t + 1)
  have hLt : L ≤ t := by omega
  refine ⟨?_, fun s hs => ?_, ?_⟩
  · unfold strk
    rw [List.length_map, List.length_range]
    omega
  · obtain ⟨k, hk, rfl⟩ := strk_mem.mp hs
    have h6 : (k : Int) * (ws.getD w d3).2.2 ≤ (ws.getD w d3).2.1 * (ws.getD w d3).2.2 := Int.mul_le_mul_of_nonneg_right (by omega) (by omega)
    have h7 : 0 ≤ (k : Int) * (ws.getD w d3).2.2 := Int.mul_nonneg (by omega) (by omega)
    refine ⟨by show 0 ≤ (t : Int) - _ + _; omega, by show (t : Int) - _ + _ ≤ 999; omega, by show (0 : Int) ≤ (w : Int); omega, by show (w : Int) < _; omega, by show (0 : Int) ≤ (k : Int); omega, ?_⟩
    show (k : Int) < (ws.getD (w : Int).toNat d3).1
    rw [Int.toNat_natCast]
    omega
  · unfold strk
    rw [List.pairwise_map]
    refine List.pairwise_lt_range.imp fun {a b} hab => ?_
    have h6 : ((a : Int) + 1) * (ws.getD w d3).2.2 ≤ (b : Int) * (ws.getD w d3).2.2 := Int.mul_le_mul_of_nonneg_right (by omega) (by omega)
    rw [Int.add_mul, Int.one_mul] at h6
    refine ⟨.inl ?_, fun _ => ?_⟩
    · show (t : Int) - _ + (a : Int) * _ < (t : Int) - _ + (b : Int) * _
      omega
    · show (ws.getD (w : Int).toNat d3).2.2 ≤ ((t : Int) - _ + (b : Int) * _) - ((t : Int) - _ + (a : Int) * _)
      rw [Int.toNat_natCast]
      omega
theorem bitAt_none {ss : List W3} {w : Int} {t : Nat} (h : ∀ s ∈ ss, s.1 = (t : Int) → s.2.1 ≠ w) : bitAt ss w t = none := by
  cases e : bitAt ss w t with
  | none => rfl
  | some x =>
    obtain ⟨s, hs, h1, h2, _⟩ := bitAt_mem e
    exact absurd h2 (h s hs h1)
theorem bitAt_of {ws ss : List W3} {w : Int} {t : Nat} {s : W3} (oks : OkSt ws ss) (hs : s ∈ ss) (h1 : s.1 = (t : Int)) (h2 : s.2.1 = w) : bitAt ss w t = some s.2.2 := by
  cases e : bitAt ss w t with
  | none =>
    unfold bitAt at e
    rw [Option.map_eq_none_iff, List.find?_eq_none] at e
    exact absurd (decide_eq_true ⟨h1, h2⟩) (e s hs)
  | some x =>
    obtain ⟨r, hr, r1, r2, r3⟩ := bitAt_mem e
    obtain ⟨i, hi, ei⟩ := List.mem_iff_getElem.mp hs
    obtain ⟨j, hj, ej⟩ := List.mem_iff_getElem.mp hr
    have hij : i = j := by
      rcases Nat.lt_trichotomy i j with h | h | h
      · have h2' : s.1 < r.1 ∨ (s.1 = r.1 ∧ s.2.1 < r.2.1) := (pw_at oks.ord (i := i) (j := j) (by rw [List.getElem?_eq_getElem hi, ei]) (by rw [List.getElem?_eq_getElem hj, ej]) h).1
        omega
      · exact h
      · have h2' : r.1 < s.1 ∨ (r.1 = s.1 ∧ r.2.1 < s.2.1) := (pw_at oks.ord (i := j) (j := i) (by rw [List.getElem?_eq_getElem hj, ej]) (by rw [List.getElem?_eq_getElem hi, ei]) h).1
        omega
    subst hij
    rw [ei] at ej
    rw [ej, r3]
theorem flip_top {b : Int} {xs : List Int} (u : xs.Pairwise (· < ·)) (h : ∀ x ∈ xs, x < b) : flip b xs = xs ++ [b] := by
  unfold flip
  rw [if_neg fun hb => by have := h b hb; omega]
  refine (srt_uniq (List.Perm.refl _) ?_).symm
  rw [List.pairwise_append]
  exact ⟨u.imp Int.le_of_lt, List.pairwise_singleton _ _, fun x hx y hy => by rw [List.mem_singleton.mp hy]; exact Int.le_of_lt (h x hx)⟩
def upTo (k0 n : Nat) : List Int := (List.range' k0 n).map fun (k : Nat) => (k : Int)
theorem upTo_flip {k0 n : Nat} : flip ((k0 + n : Nat) : Int) (upTo k0 n) = upTo k0 (n + 1) := by
  have e : upTo k0 (n + 1) = upTo k0 n ++ [((k0 + n : Nat) : Int)] := by
    unfold upTo
    rw [List.range'_concat, List.map_append, Nat.one_mul]
    rfl
  rw [e]
  refine flip_top ?_ fun x hx => ?_
  · unfold upTo
    rw [List.pairwise_map]
    exact (List.pairwise_lt_range' (s := k0) (n := n)).imp fun h => by omega
  · obtain ⟨k, hk, rfl⟩ := List.mem_map.mp hx
    have := List.mem_range'_1.mp hk
    omega
theorem oneAt_zero {mw : Nat → Bool} {bt : Nat → Option Int} : ∀ t, (∀ s, s < t → bt s = none) → oneAt mw bt t = []
  | 0, _ => rfl
  | t + 1, h => by
    rw [oneAt, h t (Nat.lt_succ_self t), oneAt_zero t fun s hs => h s (Nat.lt_succ_of_lt hs)]
    show (if mw t = true then ([] : List Int) else []) = []
    split <;> rfl
/-- strokes a gap apart from beat B on, without mending behind B -/
theorem oneAt_run {mw : Nat → Bool} {bt : Nat → Option Int} {B gap bears k0 : Nat} (g1 : 1 ≤ gap) (hk0 : k0 ≤ 1) (h0 : ∀ s, s < B → bt s = none) (hm : ∀ s, B < s → s ≤ B + bears * gap → mw s = false)
    (hb : ∀ k, k0 ≤ k → k ≤ bears → bt (B + k * gap) = some ((k : Nat) : Int)) (hn : ∀ s, (∀ k, k0 ≤ k → k ≤ bears → s ≠ B + k * gap) → bt s = none) : ∀ s, s ≤ bears * gap → oneAt mw bt (B + 1 + s) = upTo k0 (s / gap + 1 - k0)
  | 0, _ => by
    have hz := oneAt_zero (mw := mw) B h0
    have hy : (if mw B = true then ([] : List Int) else oneAt mw bt B) = [] := by rw [hz]; split <;> rfl
    show oneAt mw bt (B + 1) = _
    rw [oneAt, Nat.zero_div, hy]
    rcases Nat.le_one_iff_eq_zero_or_eq_one.mp hk0 with rfl | rfl
    · have := hb 0 (Nat.le_refl _) (Nat.zero_le _)
      rw [Nat.zero_mul, Nat.add_zero] at this
      rw [this]
      exact upTo_flip (k0 := 0) (n := 0)
    · have : bt B = none := hn B fun k h1 h2 e => by
        have : gap ≤ k * gap := Nat.le_mul_of_pos_left _ h1
        omega
      rw [this]
      rfl
  | s + 1, hs => by
    have ih := oneAt_run g1 hk0 h0 hm hb hn s (by omega)
    show oneAt mw bt (B + 1 + s + 1) = _
    rw [oneAt, hm (B + 1 + s) (by omega) (by omega), if_neg Bool.false_ne_true, ih]
    by_cases hd : (s + 1) % gap = 0
    · have e1 : (s + 1) / gap = s / gap + 1 := by rw [Nat.succ_div, if_pos (Nat.dvd_of_mod_eq_zero hd)]
      have e2 : (s + 1) / gap * gap = s + 1 := Nat.div_mul_cancel (Nat.dvd_of_mod_eq_zero hd)
      have h3 : (s + 1) / gap ≤ bears := Nat.div_le_of_le_mul (by rw [Nat.mul_comm]; exact hs)
      have h4 := hb ((s + 1) / gap) (by
        rw [e1]
        generalize s / gap = q
        omega) h3
      rw [e2, show B + (s + 1) = B + 1 + s by omega] at h4
      rw [h4]
      rw [e1] at h3 ⊢
      generalize s / gap = q at h3 ⊢
      have h5 := upTo_flip (k0 := k0) (n := q + 1 - k0)
      rw [show k0 + (q + 1 - k0) = q + 1 by omega, show q + 1 - k0 + 1 = q + 1 + 1 - k0 by omega] at h5
      exact h5
    · have e1 : (s + 1) / gap = s / gap := by rw [Nat.succ_div, if_neg fun h => hd (Nat.mod_eq_zero_of_dvd h)]; rfl
      have h4 : bt (B + 1 + s) = none := hn _ fun k h1 h2 e => hd (by
        have : s + 1 = k * gap := by omega
        rw [this, Nat.mul_mod_left])
      rw [h4, e1]
theorem upTo_len {k0 n : Nat} : (upTo k0 n).length = n := by unfold upTo; rw [List.length_map, List.length_range']
/-- how many bits are turned behind beat s, by the told strokes but the first k0 -/
theorem strk_run {ws : List W3} {m : Nat → Option Int} {t w k0 v : Nat} (okw : OkWs ws) (h : Lose ws m w t) (ht : t ≤ 999) (hk0 : k0 ≤ 1) (hm : ∀ t v, m t = some v → 0 ≤ v) (hv : v < ws.length) : ∀ b, b ≤ t → (lossP ws (tuAt m ((strk ws t w).drop k0) ws.length (b + 1)) v ↔ k0 = 0 ∧ v = w ∧ b = t) := by
  intro b hbt
  have oks := okSt_drop (okSt_strk okw h ht) k0
  rw [lossP_one oks hm hv]
  obtain ⟨p1, p2, p3, p4, p5, p6⟩ := okw.ok _ (getD_mem (d := d3) hv)
  by_cases e : v = w
  · subst e
    obtain ⟨hw, L, hL, hg⟩ := h
    obtain ⟨hb, eL⟩ := lim_of hL
    have h5 := gl_le m (v : Nat) (t + 1)
    obtain ⟨bears, eb⟩ : ∃ n : Nat, (ws.getD v d3).2.1 = n := ⟨(ws.getD v d3).2.1.toNat, by omega⟩
    obtain ⟨gap, eg⟩ : ∃ n : Nat, (ws.getD v d3).2.2 = n := ⟨(ws.getD v d3).2.2.toNat, by omega⟩
    have eLn : L = ((bears * gap : Nat) : Int) := by rw [eL, eb, eg, Int.natCast_mul]
    have hLt : bears * gap ≤ t := by omega
    have hmem : ∀ s : W3, s ∈ (strk ws t v).drop k0 ↔ ∃ k : Nat, k0 ≤ k ∧ k ≤ bears ∧ s = (((t - bears * gap + k * gap : Nat) : Int), ((v : Int), (k : Int))) := by
      intro s
      have ed : (strk ws t v).drop k0 = (List.range' k0 (bears + 1 - k0)).map fun (k : Nat) => ((t : Int) - (ws.getD v d3).2.1 * (ws.getD v d3).2.2 + (k : Int) * (ws.getD v d3).2.2, ((v : Int), (k : Int))) := by
        unfold strk
        rw [← List.map_drop, eb, Int.toNat_natCast, List.range_eq_range', List.drop_range']
        congr 2
        omega
      rw [ed, List.mem_map]
      have ev : ∀ k : Nat, (t : Int) - (ws.getD v d3).2.1 * (ws.getD v d3).2.2 + (k : Int) * (ws.getD v d3).2.2 = ((t - bears * gap + k * gap : Nat) : Int) := fun k => by
        rw [eb, eg, Int.natCast_add, Int.natCast_sub hLt, Int.natCast_mul, Int.natCast_mul]
      constructor
      · rintro ⟨k, hk, rfl⟩
        have := List.mem_range'_1.mp hk
        exact ⟨k, by omega, by omega, by rw [ev]⟩
      · rintro ⟨k, k1, k2, rfl⟩
        exact ⟨k, List.mem_range'_1.mpr ⟨k1, by omega⟩, by rw [ev]⟩
    have run := oneAt_run (mw := fun t => decide (m t = some (v : Int))) (bt := bitAt ((strk ws t v).drop k0) (v : Nat)) (B := t - bears * gap) (gap := gap) (bears := bears) (k0 := k0) (by omega) hk0
      (fun s hs => bitAt_none fun r hr h1 => by
        obtain ⟨k, _, _, rfl⟩ := (hmem r).mp hr
        have h1 : ((t - bears * gap + k * gap : Nat) : Int) = s := h1
        omega)
      (fun s h1 h2 => decide_eq_false (gl_none (m := m) (w := (v : Nat)) (s := s) (t := t + 1) (by omega) (by omega)))
      (fun k h1 h2 => bitAt_of oks ((hmem _).mpr ⟨k, h1, h2, rfl⟩) rfl rfl)
      (fun s hs => bitAt_none fun r hr h1 => by
        obtain ⟨k, k1, k2, rfl⟩ := (hmem r).mp hr
        have h1 : ((t - bears * gap + k * gap : Nat) : Int) = s := h1
        exact absurd (by omega) (hs k k1 k2))
    by_cases hB : b < t - bears * gap
    · have hz := oneAt_zero (mw := fun t => decide (m t = some (v : Int))) (bt := bitAt ((strk ws t v).drop k0) (v : Nat)) (b + 1) fun s hs => bitAt_none fun r hr h1 => by
        obtain ⟨k, _, _, rfl⟩ := (hmem r).mp hr
        have h1 : ((t - bears * gap + k * gap : Nat) : Int) = s := h1
        omega
      rw [hz]
      constructor
      · intro h
        rw [List.length_nil] at h
        omega
      · rintro ⟨_, _, rfl⟩
        omega
    · have hr := run (b - (t - bears * gap)) (by omega)
      rw [show t - bears * gap + 1 + (b - (t - bears * gap)) = b + 1 by omega] at hr
      rw [hr, upTo_len, eb]
      by_cases hbt2 : b = t
      · subst hbt2
        rw [show b - (b - bears * gap) = bears * gap by omega, Nat.mul_div_cancel _ (show 0 < gap by omega)]
        constructor
        · intro h
          exact ⟨by omega, rfl, rfl⟩
        · rintro ⟨rfl, _, _⟩
          omega
      · have hlt : (b - (t - bears * gap)) / gap < bears := Nat.div_lt_of_lt_mul (by rw [Nat.mul_comm gap bears]; omega)
        generalize (b - (t - bears * gap)) / gap = q at hlt
        constructor
        · intro h
          omega
        · rintro ⟨_, _, h⟩
          exact absurd h hbt2
  · have hz := oneAt_zero (mw := fun t => decide (m t = some (v : Int))) (bt := bitAt ((strk ws t w).drop k0) (v : Nat)) (b + 1) fun s hs => bitAt_none fun r hr h1 h2 => by
      obtain ⟨k, _, rfl⟩ := strk_mem.mp (List.mem_of_mem_drop hr)
      have h2 : (w : Int) = (v : Int) := h2
      omega
    rw [hz]
    constructor
    · intro h
      rw [List.length_nil] at h
      omega
    · rintro ⟨_, h, _⟩
      exact absurd h e
/-- the told strokes lose just that word just then -/
theorem strk_told {ws : List W3} {m : Nat → Option Int} {t w : Nat} (okw : OkWs ws) (h : Lose ws m w t) (ht : t ≤ 999) (hm : ∀ t v, m t = some v → 0 ≤ v) : ∃ tu, RunRes ws m (strk ws t w) (t + 1) (some (t, w)) tu := by
  have key := fun v hv b hb => strk_run (k0 := 0) (v := v) okw h ht (Nat.zero_le _) hm hv b hb
  rw [List.drop_zero] at key
  refine ⟨_, Nat.lt_succ_self t, rfl, ⟨(key w h.1 t (Nat.le_refl t)).mpr ⟨rfl, rfl, rfl⟩, fun v hv hl => ?_⟩, fun c hc v hl => ?_⟩
  · have := (key v hl.1 t (Nat.le_refl t)).mp hl
    omega
  · have := (key v hl.1 c (Nat.le_of_lt hc)).mp hl
    omega
theorem strk_ahead {ws : List W3} {m : Nat → Option Int} {t w : Nat} (okw : OkWs ws) (h : Lose ws m w t) (ht : t ≤ 999) (hm : ∀ t v, m t = some v → 0 ≤ v) : ∃ tu, RunRes ws m (strk ws t w) t none tu := by
  have key := fun v hv b hb => strk_run (k0 := 0) (v := v) okw h ht (Nat.zero_le _) hm hv b hb
  rw [List.drop_zero] at key
  refine ⟨_, rfl, fun c hc v hl => ?_⟩
  have := (key v hl.1 c (Nat.le_of_lt hc)).mp hl
  omega
theorem strk_fewer {ws : List W3} {m : Nat → Option Int} {t w : Nat} (okw : OkWs ws) (h : Lose ws m w t) (ht : t ≤ 999) (hm : ∀ t v, m t = some v → 0 ≤ v) : ∃ tu, RunRes ws m ((strk ws t w).drop 1) (t + 1) none tu := by
  refine ⟨_, rfl, fun c hc v hl => ?_⟩
  have := (strk_run (k0 := 1) (v := v) okw h ht (Nat.le_refl _) hm hl.1 c (Nat.le_of_lt_succ hc)).mp hl
  omega
end Z
set_option Elab.async false
set_option linter.all false
set_option maxRecDepth 100000
set_option maxHeartbeats 4000000
namespace Z
open PySem PySem.Spec PyProof.Rows L2
/-! ### the law's own soonest loss -/
def Late (ws : List W3) (m : Nat → Option Int) (w t : Nat) : Prop := (ws.getD w d3).2.1 < (ws.getD w d3).1 ∧ (ws.getD w d3).2.1 * (ws.getD w d3).2.2 + 1 ≤ ((gl m (w : Nat) (t + 1) : Nat) : Int)
def SoonSem (ws : List W3) (m : Nat → Option Int) (N : Nat) (o : Option (Nat × Nat)) : Prop := match o with
  | none => ∀ w t, t < N → ¬ Lose ws m w t
  | some (t, w) => t < N ∧ BrkSem ws m (some (t, w))
theorem lose_late {ws : List W3} {m : Nat → Option Int} {w t : Nat} (h : Lose ws m w t) : Late ws m w t := by
  obtain ⟨_, L, hL, hg⟩ := h
  obtain ⟨h1, h2⟩ := lim_of hL
  exact ⟨h1, by rw [← h2]; omega⟩
theorem late_lose {ws : List W3} {m : Nat → Option Int} {w t : Nat} (okw : OkWs ws) (hw : w < ws.length) (h : Late ws m w t) (hn : ∀ s, s < t → ¬ Late ws m w s) : Lose ws m w t := by
  obtain ⟨h1, h2⟩ := h
  obtain ⟨o1, o2, o3, o4, o5, o6⟩ := okw.ok _ (getD_mem (d := d3) hw)
  have h3 : 0 ≤ (ws.getD w d3).2.1 * (ws.getD w d3).2.2 := Int.mul_nonneg o3 (by omega)
  refine ⟨hw, _, by unfold lim; rw [if_neg (by omega)], ?_⟩
  obtain ⟨L, hL⟩ : ∃ L, (ws.getD w d3).2.1 * (ws.getD w d3).2.2 = L := ⟨_, rfl⟩
  rw [hL] at h2 h3 ⊢
  by_cases e : ((gl m (w : Nat) (t + 1) : Nat) : Int) = L + 1
  · exact e
  · exfalso
    cases t with
    | zero =>
      have h4 : gl m (w : Nat) (0 + 1) ≤ 1 := gl_le m (w : Nat) 1
      omega
    | succ t =>
      refine hn t (Nat.lt_succ_self t) ⟨h1, ?_⟩
      rw [hL]
      rw [gl] at h2 e
      by_cases hm : m (t + 1) = some (w : Int)
      · rw [if_pos hm] at h2 e
        omega
      · rw [if_neg hm] at h2 e
        omega
/-- where w is not lost ahead of t, nor a lesser one at t -/
theorem soon_some {ws : List W3} {m : Nat → Option Int} {w t : Nat} (okw : OkWs ws) (hw : w < ws.length) (h : Late ws m w t) (hn : ∀ s, s < t → ∀ v, v < ws.length → ¬ Late ws m v s) (hl : ∀ v, v < w → ¬ Late ws m v t) : BrkSem ws m (some (t, w)) := by
  refine ⟨late_lose okw hw h fun s hs => hn s hs w hw, fun v s hv => ?_⟩
  have h1 := lose_late hv
  rcases Nat.lt_trichotomy s t with h2 | h2 | h2
  · exact absurd h1 (hn s h2 v hv.1)
  · subst h2
    right
    refine ⟨rfl, Nat.le_of_not_lt fun h3 => hl v h3 h1⟩
  · exact .inl h2
theorem soon_none {ws : List W3} {m : Nat → Option Int} {N : Nat} (hn : ∀ s, s < N → ∀ v, v < ws.length → ¬ Late ws m v s) : SoonSem ws m N none := fun w t ht hl => hn t ht w hl.1 (lose_late hl)
/-- the test of the law -/
theorem late_iff {ws : List W3} {m : Nat → Option Int} {w t : Nat} (okw : OkWs ws) (hw : w < ws.length) : ((ws.getD w d3).2.1 < (((gl m (w : Nat) (t + 1) : Nat) : Int) - 1) / (ws.getD w d3).2.2 + 1 ∧ (ws.getD w d3).2.1 < (ws.getD w d3).1) ↔ Late ws m w t := by
  obtain ⟨o1, o2, o3, o4, o5, o6⟩ := okw.ok _ (getD_mem (d := d3) hw)
  have h := Int.le_ediv_iff_mul_le (a := (ws.getD w d3).2.1) (b := ((gl m (w : Nat) (t + 1) : Nat) : Int) - 1) (c := (ws.getD w d3).2.2) (by omega)
  unfold Late
  constructor
  · rintro ⟨h1, h2⟩
    have := h.mp (by omega)
    exact ⟨h2, by omega⟩
  · rintro ⟨h1, h2⟩
    have := h.mpr (by omega)
    exact ⟨by omega, h1⟩
/-- the ages within beat t, words ahead of j being seen to -/
def ages (m : Nat → Option Int) (n t j : Nat) : List Int := (List.range n).map fun (i : Nat) => if i < j then ((gl m (i : Nat) (t + 1) : Nat) : Int) - 1 else ((gl m (i : Nat) t : Nat) : Int)
theorem ages_len (m : Nat → Option Int) (n t j : Nat) : (ages m n t j).length = n := by unfold ages; rw [List.length_map, List.length_range]
theorem ages_at {m : Nat → Option Int} {n t j i : Nat} (h : i < n) : (ages m n t j)[i]? = some (if i < j then ((gl m (i : Nat) (t + 1) : Nat) : Int) - 1 else ((gl m (i : Nat) t : Nat) : Int)) := by
  unfold ages
  rw [List.getElem?_map, List.getElem?_range h]
  rfl
theorem ages_zero (m : Nat → Option Int) (n : Nat) : ages m n 0 0 = List.replicate n 0 := by
  unfold ages
  refine List.ext_getElem? fun i => ?_
  rw [List.getElem?_map, List.getElem?_replicate]
  by_cases h : i < n
  · rw [List.getElem?_range h, if_pos h]
    rfl
  · rw [if_neg h, List.getElem?_eq_none (by rw [List.length_range]; omega)]
    rfl
theorem ages_next (m : Nat → Option Int) (n t : Nat) : (ages m n t n).map (fun x => x + 1) = ages m n (t + 1) 0 := by
  unfold ages
  rw [List.map_map]
  refine List.map_congr_left fun i hi => ?_
  have := List.mem_range.mp hi
  show (if i < n then ((gl m (i : Nat) (t + 1) : Nat) : Int) - 1 else _) + 1 = if i < 0 then _ else ((gl m (i : Nat) (t + 1) : Nat) : Int)
  rw [if_pos this, if_neg (Nat.not_lt_zero i)]
  omega
theorem ages_yes {m : Nat → Option Int} {n t j : Nat} (h : m t = some (j : Int)) : (ages m n t j).set j 0 = ages m n t (j + 1) := by
  refine List.ext_getElem? fun i => ?_
  rw [List.getElem?_set, ages_len]
  by_cases hi : i < n
  · rw [ages_at hi, ages_at hi]
    by_cases e : j = i
    · subst e
      rw [if_pos rfl, if_pos hi, if_pos (Nat.lt_succ_self j), gl, if_pos h]
      rfl
    · rw [if_neg e]
      by_cases h2 : i < j
      · rw [if_pos h2, if_pos (Nat.lt_succ_of_lt h2)]
      · rw [if_neg h2, if_neg (by omega)]
  · rw [List.getElem?_eq_none (show (ages m n t j).length ≤ i by rw [ages_len]; omega), List.getElem?_eq_none (show (ages m n t (j + 1)).length ≤ i by rw [ages_len]; omega)]
    split
    · rw [if_neg (by omega)]
    · rfl
theorem ages_no {m : Nat → Option Int} {n t j : Nat} (h : m t ≠ some (j : Int)) : ages m n t j = ages m n t (j + 1) := by
  unfold ages
  refine List.map_congr_left fun i hi => ?_
  by_cases e : i = j
  · subst e
    rw [if_neg (Nat.lt_irrefl i), if_pos (Nat.lt_succ_self i), gl, if_neg h]
    omega
  · by_cases h2 : i < j
    · rw [if_pos h2, if_pos (Nat.lt_succ_of_lt h2)]
    · rw [if_neg h2, if_neg (by omega)]
def spSoonest (K : PySem.W.Frag) : Sp := fun vs H Q _ => ∃ (G : Hp) (m a p : Addr) (n : Int) (ws : List W3) (ld : List Int) (hd lp : List (Option Int)), vs = [.ref m, .ref a, .ref p, .int n] ∧ Same G H ∧ TupL K G m (ws.map vW) ∧ OkWs ws ∧
  G a = some (.lst (ld.map V.int)) ∧ OkLd ld ∧ Pl K G p hd lp ∧ OkPl ws.length hd lp ∧ 0 ≤ n ∧ n ≤ 100000 ∧
  ∀ o v G' H', SoonSem ws (mend ld hd lp) n.toNat o → Gr No G H G' H' → LostV K G' v o → Q v H'
theorem i_soonest {K : PySem.W.Frag} {X : Addr → Prop} {G0 H0 G H : Hp} {Q : VK} {E : XK} {m a p : Addr} {n : Int} {ws : List W3} {ld : List Int} {hd lp : List (Option Int)} (g : Gr X G0 H0 G H) (hw : TupL K G m (ws.map vW)) (okw : OkWs ws) (hl : G a = some (.lst (ld.map V.int))) (okl : OkLd ld) (pl : Pl K G p hd lp) (okp : OkPl ws.length hd lp) (n0 : 0 ≤ n) (n1 : n ≤ 100000)
    (k : ∀ o v G' H', SoonSem ws (mend ld hd lp) n.toNat o → Gr No G H G' H' → Gr X G0 H0 G' H' → LostV K G' v o → Q v H') : spSoonest K ([.ref m, .ref a, .ref p, .int n] ++ []) H Q E :=
  ⟨G, m, a, p, n, ws, ld, hd, lp, rfl, g.sub, hw, okw, hl, okl, pl, okp, n0, n1, fun o v G' H' h s l => k o v G' H' h s (g.seqN s) l⟩
end Z
set_option Elab.async false
set_option linter.all false
set_option maxRecDepth 100000
set_option maxHeartbeats 4000000
namespace Z
open PySem PySem.Spec PyProof.Rows L2
/-! ### strokes drawn beat by beat (k03, k04) -/
theorem getI_set {xs : List Int} {i v : Nat} {x : Int} (h : v < xs.length) : (xs.set i x).getD v 0 = if i = v then x else xs.getD v 0 := by
  rw [List.getD_eq_getElem?_getD, List.getElem?_set, List.getD_eq_getElem?_getD]
  split
  · rename_i e
    rw [if_pos (by omega)]
    rfl
  · rfl
structure Drw (ws ss : List W3) (ns bs : List Int) (b w : Nat) : Prop where
  nl : ns.length = ws.length
  bl : bs.length = ws.length
  b0 : ∀ x ∈ bs, 0 ≤ x
  few : ss.length ≤ 100
  rng : ∀ s ∈ ss, 0 ≤ s.1 ∧ ltP (s.1, s.2.1) ((b : Int), (w : Int)) ∧ 0 ≤ s.2.1 ∧ s.2.1 < ws.length ∧ 0 ≤ s.2.2 ∧ s.2.2 < (ws.getD s.2.1.toNat d3).1
  ord : ss.Pairwise fun s t => ltP (s.1, s.2.1) (t.1, t.2.1) ∧ (s.2.1 = t.2.1 → (ws.getD t.2.1.toNat d3).2.2 ≤ t.1 - s.1)
  nx : ∀ s ∈ ss, s.1 + (ws.getD s.2.1.toNat d3).2.2 ≤ ns.getD s.2.1.toNat 0
theorem drw_nil {ws : List W3} {ns bs : List Int} (h1 : ns.length = ws.length) (h2 : bs.length = ws.length) (h3 : ∀ x ∈ bs, 0 ≤ x) : Drw ws [] ns bs 0 0 := ⟨h1, h2, h3, Nat.zero_le _, fun _ h => (by cases h), .nil, fun _ h => (by cases h)⟩
theorem Drw.up {ws ss : List W3} {ns bs : List Int} {b w c v : Nat} (h : Drw ws ss ns bs b w) (l : leP ((b : Int), (w : Int)) ((c : Int), (v : Int))) : Drw ws ss ns bs c v := by
  refine ⟨h.nl, h.bl, h.b0, h.few, fun s hs => ?_, h.ord, h.nx⟩
  obtain ⟨r1, r2, r3⟩ := h.rng s hs
  refine ⟨r1, ?_, r3⟩
  have r2 : s.1 < (b : Int) ∨ (s.1 = (b : Int) ∧ s.2.1 < (w : Int)) := r2
  have l : (b : Int) < c ∨ ((b : Int) = c ∧ (w : Int) ≤ v) := l
  show s.1 < (c : Int) ∨ (s.1 = (c : Int) ∧ s.2.1 < (v : Int))
  omega
theorem Drw.more {ws ss : List W3} {ns bs : List Int} {b w : Nat} {x t : Int} (h : Drw ws ss ns bs b w) (hw : w < ws.length) (hn : ns.getD w 0 ≤ (b : Int)) (hf : ss.length < 100) (x0 : 0 ≤ x) (t0 : 0 ≤ t) (t1 : t < (ws.getD w d3).1) (hg : 0 ≤ (ws.getD w d3).2.2) :
    Drw ws (ss ++ [((b : Int), ((w : Int), t))]) (ns.set w ((b : Int) + (ws.getD w d3).2.2)) (bs.set w x) b (w + 1) := by
  refine ⟨by rw [List.length_set]; exact h.nl, by rw [List.length_set]; exact h.bl, fun y hy => (List.mem_or_eq_of_mem_set hy).elim (h.b0 y) fun e => by rw [e]; exact x0, by rw [List.length_append, List.length_singleton]; omega, fun s hs => ?_, ?_, fun s hs => ?_⟩
  · rcases List.mem_append.mp hs with h1 | h1
    · obtain ⟨r1, r2, r3⟩ := h.rng s h1
      refine ⟨r1, ?_, r3⟩
      have r2 : s.1 < (b : Int) ∨ (s.1 = (b : Int) ∧ s.2.1 < (w : Int)) := r2
      show s.1 < (b : Int) ∨ (s.1 = (b : Int) ∧ s.2.1 < ((w + 1 : Nat) : Int))
      omega
    · rw [List.mem_singleton.mp h1]
      refine ⟨by show (0 : Int) ≤ (b : Int); omega, ?_, by show (0 : Int) ≤ (w : Int); omega, by show (w : Int) < _; omega, t0, ?_⟩
      · show (b : Int) < b ∨ ((b : Int) = b ∧ (w : Int) < ((w + 1 : Nat) : Int))
        omega
      · show t < (ws.getD (w : Int).toNat d3).1
        rw [Int.toNat_natCast]
        exact t1
  · rw [List.pairwise_append]
    refine ⟨h.ord, List.pairwise_singleton _ _, fun s hs y hy => ?_⟩
    rw [List.mem_singleton.mp hy]
    obtain ⟨r1, r2, r3⟩ := h.rng s hs
    refine ⟨r2, fun e => ?_⟩
    have e : s.2.1 = (w : Int) := e
    have h2 := h.nx s hs
    show (ws.getD (w : Int).toNat d3).2.2 ≤ (b : Int) - s.1
    rw [e, Int.toNat_natCast] at h2
    rw [Int.toNat_natCast]
    omega
  · rcases List.mem_append.mp hs with h1 | h1
    · obtain ⟨r1, r2, r3, r4, _⟩ := h.rng s h1
      have h2 := h.nx s h1
      rw [getI_set (by rw [h.nl]; omega)]
      split
      · rename_i e
        rw [← e] at h2 ⊢
        omega
      · exact h2
    · rw [List.mem_singleton.mp h1]
      show (b : Int) + (ws.getD (w : Int).toNat d3).2.2 ≤ (ns.set w _).getD (w : Int).toNat 0
      rw [Int.toNat_natCast, getI_set (by rw [h.nl]; exact hw), if_pos rfl]
      exact Int.le_refl _
theorem Drw.ok {ws ss : List W3} {ns bs : List Int} {b : Nat} (h : Drw ws ss ns bs b 0) (hb : b ≤ 1000) : OkSt ws ss := by
  refine ⟨by have := h.few; omega, fun s hs => ?_, h.ord⟩
  obtain ⟨r1, r2, r3⟩ := h.rng s hs
  have r2 : s.1 < (b : Int) ∨ (s.1 = (b : Int) ∧ s.2.1 < ((0 : Nat) : Int)) := r2
  exact ⟨r1, by omega, r3⟩
def spStrokes2 (K : PySem.W.Frag) : Sp := fun vs H Q _ => ∃ (G : Hp) (d a : Addr) (m : Int) (ws : List W3), vs = [.ref d, .ref a, .int m] ∧ Same G H ∧ Dice K G H d ∧ TupL K G a (ws.map vW) ∧ OkWs ws ∧ 0 ≤ m ∧ m ≤ 100 ∧
  ∀ ss p G' H', Gr (· = d) G H G' H' → Dice K G' H' d → TupL K G' p (ss.map vW) → OkSt ws ss → ss.length ≤ 100 → (∀ s ∈ ss, s.1 < m) → Q (.ref p) H'
theorem i_strokes2 {K : PySem.W.Frag} {X : Addr → Prop} {G0 H0 G H : Hp} {Q : VK} {E : XK} {d a : Addr} {m : Int} {ws : List W3} (g : Gr X G0 H0 G H) (D : Dice K G H d) (hd : X d ∨ H0 d = none) (hw : TupL K G a (ws.map vW)) (okw : OkWs ws) (h0 : 0 ≤ m) (h1 : m ≤ 100)
    (k : ∀ ss p G' H', Gr (· = d) G H G' H' → Gr X G0 H0 G' H' → Dice K G' H' d → TupL K G' p (ss.map vW) → OkSt ws ss → ss.length ≤ 100 → (∀ s ∈ ss, s.1 < m) → Q (.ref p) H') : spStrokes2 K ([.ref d, .ref a, .int m] ++ []) H Q E :=
  ⟨G, d, a, m, ws, rfl, g.sub, D, hw, okw, h0, h1, fun ss p G' H' s => k ss p G' H' s (g.seq s fun c e => by rw [e]; exact hd)⟩
end Z
set_option Elab.async false
set_option linter.all false
set_option maxRecDepth 100000
set_option maxHeartbeats 4000000
namespace Z
open PySem PySem.Spec PyProof.Rows L2
/-! ### xs.count, t[1:]; a bit is flipped by counting (k03, k04) -/
theorem i_cntI {K : PySem.W.Frag} {H : Hp} {Q : VK} {p : Addr} {ns : List Int} {k : Int} (h : SqL K H p (ns.map V.int)) (q : Q (.int (ns.count k : Nat)) H) : rCntI K (.ref p) [.int k] H Q := ⟨p, ns, k, rfl, rfl, h, q⟩
theorem i_sl31 {K : PySem.W.Frag} {H : Hp} {Q : VK} {p : Addr} {a b c : V} (h : SqT K H p [a, b, c]) (q : NewT [b, c] H Q) : rSlT K (.ref p) (some 1) none H Q := i_slT h (by show ¬ (HT.sIx 3 0 (some 1) = 0 ∧ HT.sIx 3 3 none = 3); decide) q
theorem cnt_not : ∀ {xs : List Int} {o : Int}, ¬ o ∈ xs → xs.count o = 0 := fun h => List.count_eq_zero.mpr h
theorem cnt_rise : ∀ {xs : List Int} {o : Int}, xs.Pairwise (· < ·) → o ∈ xs → xs.count o = 1
  | [], _, _, h => by cases h
  | x :: xs, o, pw, h => by
    have pw1 := List.pairwise_cons.mp pw
    by_cases e : o = x
    · subst e
      have hn : ¬ o ∈ xs := fun h => by have := pw1.1 o h; omega
      rw [List.count_cons_self, cnt_not hn]
    · have h2 : o ∈ xs := (List.mem_cons.mp h).resolve_left e
      rw [List.count_cons_of_ne (fun z => e z.symm), cnt_rise pw1.2 h2]
theorem cnt_one {xs : List Int} {b o : Int} : (xs ++ [b]).count o = xs.count o + (if o = b then 1 else 0) := by
  rw [List.count_append]
  congr 1
  by_cases h : o = b
  · rw [if_pos h, h]; simp
  · rw [if_neg h]; simp [List.count_cons, Ne.symm h]
theorem flip_cnt {xs : List Int} (u : xs.Pairwise (· < ·)) (b : Int) : srt ((xs ++ [b]).filter fun o => decide (((xs ++ [b]).count o : Nat) = (1 : Nat))) = flip b xs := by
  rw [List.filter_append]
  unfold flip
  by_cases hb : b ∈ xs
  · rw [if_pos hb]
    have e1 : xs.filter (fun o => decide (((xs ++ [b]).count o : Nat) = (1 : Nat))) = xs.filter (fun o => !decide (o = b)) := by
      refine List.filter_congr fun o ho => ?_
      rw [cnt_one, cnt_rise u ho]
      by_cases e : o = b
      · rw [if_pos e]; simp [e]
      · rw [if_neg e]; simp [e]
    have e2 : [b].filter (fun o => decide (((xs ++ [b]).count o : Nat) = (1 : Nat))) = [] := by
      rw [List.filter_cons_of_neg]
      · rfl
      · rw [cnt_one, cnt_rise u hb, if_pos rfl]; decide
    rw [e1, e2, List.append_nil]
    exact (srt_uniq (List.Perm.refl _) ((u.filter _).imp Int.le_of_lt)).symm
  · rw [if_neg hb]
    have e1 : xs.filter (fun o => decide (((xs ++ [b]).count o : Nat) = (1 : Nat))) = xs := by
      refine List.filter_eq_self.mpr fun o ho => ?_
      rw [cnt_one, cnt_rise u ho, if_neg fun e => hb (by rw [← e]; exact ho)]
      rfl
    have e2 : [b].filter (fun o => decide (((xs ++ [b]).count o : Nat) = (1 : Nat))) = [b] := by
      rw [List.filter_cons_of_pos]
      · rfl
      · rw [cnt_one, cnt_not hb, if_pos rfl]; rfl
    rw [e1, e2]
def strokeOn (tu : List (List Int)) (s : W3) : List (List Int) := tu.set s.2.1.toNat (flip s.2.2 (tu.getD s.2.1.toNat []))
def onB (b : Int) (ss : List W3) : List W3 := ss.filter fun s => decide (s.1 = b)
theorem strokesAt_onB (b : Int) : ∀ (ss : List W3) (tu : List (List Int)), strokesAt b ss tu = (onB b ss).foldl strokeOn tu
  | [], _ => rfl
  | s :: ss, tu => by
    show strokesAt b ss (strokeAt b tu s) = _
    unfold onB
    by_cases h : s.1 = b
    · rw [List.filter_cons_of_pos (by exact decide_eq_true h), List.foldl_cons]
      have e : strokeAt b tu s = strokeOn tu s := if_pos h
      rw [e]
      exact strokesAt_onB b ss _
    · rw [List.filter_cons_of_neg (by simpa using h)]
      have e : strokeAt b tu s = tu := if_neg h
      rw [e]
      exact strokesAt_onB b ss tu
theorem onB_take {b : Int} {ss : List W3} {j : Nat} {s : W3} (h : ss[j]? = some s) : onB b (ss.take (j + 1)) = onB b (ss.take j) ++ (if s.1 = b then [s] else []) := by
  unfold onB
  rw [filter_take h]
  congr 1
  by_cases e : s.1 = b
  · rw [if_pos (decide_eq_true e), if_pos e]
  · rw [if_neg (by simpa using e), if_neg e]
theorem onB_len {b : Int} {ss : List W3} {j : Nat} : (onB b (ss.take j)).length ≤ j := by
  unfold onB
  refine Nat.le_trans (List.length_filter_le _ _) ?_
  rw [List.length_take]
  exact Nat.min_le_left _ _
theorem onB_mem {b : Int} {ss : List W3} {s : W3} (h : s ∈ onB b ss) : s ∈ ss := (List.mem_filter.mp h).1
theorem fold_take {fs : List W3} {j : Nat} {s : W3} (tu : List (List Int)) (h : fs[j]? = some s) : (fs.take (j + 1)).foldl strokeOn tu = strokeOn ((fs.take j).foldl strokeOn tu) s := by
  rw [List.take_add_one, h, List.foldl_append]
  rfl
theorem okTu_on {n : Nat} : ∀ (fs : List W3) {tu : List (List Int)}, OkTu n tu → (∀ s ∈ fs, 0 ≤ s.2.2 ∧ s.2.2 < 8) → OkTu n (fs.foldl strokeOn tu)
  | [], _, h, _ => h
  | s :: fs, tu, h, hs => okTu_on fs (okTu_set h _ (okX_flip (okTu_getD h _) (hs s List.mem_cons_self).1 (hs s List.mem_cons_self).2)) fun t ht => hs t (List.mem_cons_of_mem _ ht)
def vWB (s : W3) : List V := [.int s.2.1, .int s.2.2]
end Z
namespace Z
open PySem PySem.Spec PyProof.Rows L2
theorem At.down {G0 G H : Hp} {p : Addr} {o : HO} (t : At G H p o) (s : Same G0 G) : At G0 H p o := ⟨t.h, by
  cases e : G0 p with
  | none => rfl
  | some u => have := s _ _ e; rw [t.g] at this; cases this⟩
theorem TuAt.down {G0 G H H0 : Hp} {t : Addr} {ls : List Addr} {tu : List (List Int)} (T : TuAt G H H0 t ls tu) (s : Same G0 G) : TuAt G0 H H0 t ls tu := ⟨T.tt.down s, Paired.imp (fun _ _ h => ⟨h.1.down s, h.2⟩) T.pr, T.nd, T.nt, T.n0⟩
end Z
namespace Z
open PySem PySem.Spec PyProof.Rows L2
theorem okTu_run {ws ss : List W3} {mf : Nat → Option Int} {n : Nat} {lost : Option (Nat × Nat)} {tu : List (List Int)} (okw : OkWs ws) (oks : OkSt ws ss) (R : RunRes ws mf ss n lost tu) : OkTu ws.length tu := by
  match lost, R with
  | none, R => rw [R.1]; exact okTu_at mf (bits_of okw oks) n
  | some (b, w), R => rw [R.2.1]; exact okTu_at mf (bits_of okw oks) (b + 1)
theorem lk_R {n : Nat} {lost : Option (Nat × Nat)} {tu : List (List Int)} (h : OkTu n tu) (hn : n ≤ 4) : Lk 3 (dR lost tu) := by
  refine lk_tup (by show 2 ≤ 100000; decide) fun e he => ?_
  simp only [List.mem_cons, List.not_mem_nil, or_false] at he
  rcases he with rfl | rfl
  · match lost with
    | none => exact lk_non
    | some (b, w) =>
      refine lk_tup (by show 2 ≤ 100000; decide) fun e he => ?_
      simp only [List.mem_cons, List.not_mem_nil, or_false] at he
      rcases he with rfl | rfl <;> exact lk_int
  · refine lk_list (by rw [List.length_map, h.len]; omega) fun e he => ?_
    obtain ⟨xs, hx, rfl⟩ := List.mem_map.mp he
    refine lk_list (by rw [List.length_map]; have := (h.ok xs hx).len; omega) fun e he => ?_
    obtain ⟨i, _, rfl⟩ := List.mem_map.mp he
    exact lk_int
theorem okSt_join {ws ss : List W3} (okw : OkWs ws) (oks : OkSt ws ss) (few : ss.length ≤ 100) (h : ∀ s ∈ ss, s.1 < 90) : OkSt ws (ss ++ ss.map (late 900)) := by
  have ol := okSt_late oks (k := 900) (by omega) fun s hs => by have := h s hs; omega
  refine ⟨by rw [List.length_append, List.length_map]; omega, fun s hs => (List.mem_append.mp hs).elim (oks.rng s) (ol.rng s), ?_⟩
  rw [List.pairwise_append]
  refine ⟨oks.ord, ol.ord, fun a ha b hb => ?_⟩
  have hb2 := ol.rng b hb
  obtain ⟨c, hc, rfl⟩ := List.mem_map.mp hb
  have h1 := h a ha
  have h2 := oks.rng a ha
  have h3 := oks.rng c hc
  have h4 := (okw.ok _ (getD_mem (d := d3) (show c.2.1.toNat < ws.length by omega))).2.2.2.2.2
  refine ⟨.inl (by show a.1 < c.1 + 900; omega), fun _ => ?_⟩
  show (ws.getD c.2.1.toNat d3).2.2 ≤ c.1 + 900 - a.1
  omega
end Z
namespace Z
open PySem PySem.Spec PyProof.Rows L2
theorem Paired.app {α β : Type} {R : α → β → Prop} : ∀ {xs ys : List α} {us vs : List β}, Paired R xs us → Paired R ys vs → Paired R (xs ++ ys) (us ++ vs)
  | _, _, _, _, .nil, h => h
  | _, _, _, _, .cons r t, h => .cons r (Paired.app t h)
end Z
namespace Z
open PySem PySem.Spec PyProof.Rows L2
theorem rows_of {P : Addr → List Int → Prop} : ∀ {ls : List Addr} {tu : List (List Int)}, Paired P ls tu → (∀ xs ∈ tu, OkX xs) → ∀ q ∈ ls, ∃ xs, P q xs ∧ xs.length ≤ 8
  | _, _, .nil, _, q, h => by cases h
  | _, _, .cons (b := y) r t, ok, q, h => by
    rcases List.mem_cons.mp h with e | h
    · rw [e]; exact ⟨y, r, (ok y List.mem_cons_self).len⟩
    · exact rows_of t (fun xs hx => ok xs (List.mem_cons_of_mem _ hx)) q h
theorem TuAt.rows {G H H0 : Hp} {t : Addr} {ls : List Addr} {tu : List (List Int)} {n : Nat} (T : TuAt G H H0 t ls tu) (ok : OkTu n tu) : ∀ q ∈ ls, (∃ xs : List V, At G H q (.lst xs) ∧ xs.length ≤ 8) ∧ H0 q = none := fun q hq => by
  obtain ⟨xs, h1, h2⟩ := rows_of T.pr ok.ok q hq
  exact ⟨⟨_, h1.1, by rw [List.length_map]; exact h2⟩, h1.2⟩
def dHd (ld : List Int) (hd lp : List (Option Int)) (ss : List W3) : PyData := .list [.list (ld.map PyData.int), .tuple [.list (hd.map dO), .list (lp.map dO)], .list (ss.map dW)]
theorem dk_Hd (ld : List Int) (hd lp : List (Option Int)) (ss : List W3) : Dk 3 (dHd ld hd lp ss) := dk_list fun d h => by
  simp only [List.mem_cons, List.not_mem_nil, or_false] at h
  rcases h with rfl | rfl | rfl
  · exact dk_ints ld
  · exact dk_tup fun d h => by
      simp only [List.mem_cons, List.not_mem_nil, or_false] at h
      rcases h with rfl | rfl <;> exact dk_vOs _
  · exact dk_Ws ss
end Z
set_option Elab.async false
set_option linter.all false
set_option maxRecDepth 100000
set_option maxHeartbeats 4000000
namespace Z
open PySem PySem.Spec PyProof.Rows L2
/-! ### the window of the soonest loss (k04) -/
theorem soon_early {ws : List W3} {ld : List Int} {hd lp : List (Option Int)} {t w : Nat} (okw : OkWs ws) (ok : OkLd ld) (okp : OkPl ws.length hd lp) (h : BrkSem ws (mend ld hd lp) (some (t, w))) : t < ld.length * (hd.length + 2 * lp.length + 2) + 100 := by
  obtain ⟨⟨hw, L, hL, hg⟩, hmin⟩ := h
  have hLn := lim_nat (okw.ok _ (getD_mem (d := d3) hw)) hL
  have lper := per_pos ok okp
  have e0 : n0 ld hd ≤ ld.length * (hd.length + 1) := by
    unfold n0
    rw [Nat.mul_comm]
    exact Nat.mul_le_mul_left _ (Nat.succ_le_succ (Nat.div_le_self _ _))
  have e1 : 2 * per ld lp = ld.length * (2 * lp.length) := by
    unfold per
    rw [Nat.mul_comm lp.length, Nat.mul_left_comm]
  have e2 : ld.length * (hd.length + 2 * lp.length + 2) = ld.length * (hd.length + 1) + ld.length * (2 * lp.length) + ld.length := by
    rw [show hd.length + 2 * lp.length + 2 = (hd.length + 1) + 2 * lp.length + 1 by omega, Nat.mul_add, Nat.mul_add, Nat.mul_one]
  by_cases hlp : some (w : Int) ∈ lp
  · by_cases hc : t + 1 < n0 ld hd + 2 * per ld lp
    · omega
    · exfalso
      have h2 := gl_per (hd := hd) ok hlp (t := t + 1 - per ld lp) (by omega) lper
      rw [show t + 1 - per ld lp + per ld lp = t + 1 by omega, show t + 1 - per ld lp = t - per ld lp + 1 by omega] at h2
      have := hmin w (t - per ld lp) ⟨hw, L, hL, by rw [← h2]; exact hg⟩
      omega
  · by_cases hc : t < n0 ld hd + 73
    · omega
    · exfalso
      have h1 := gl_begin (mend ld hd lp) (w : Nat) (t + 1) (by omega)
      rcases h1 with h1 | h1
      · exact mend_not (hd := hd) ok okp.l1 hlp (t := t + 1 - gl (mend ld hd lp) (w : Nat) (t + 1)) (by omega) h1
      · omega
/-- the law's own look agrees with what breaking tells -/
theorem soon_brk {ws : List W3} {ld : List Int} {hd lp : List (Option Int)} {o p : Option (Nat × Nat)} {N : Nat} (okw : OkWs ws) (ok : OkLd ld) (okp : OkPl ws.length hd lp) (hN : ld.length * (hd.length + 2 * lp.length + 2) + 60 + 40 ≤ N) (h : BrkSem ws (mend ld hd lp) o) (k : SoonSem ws (mend ld hd lp) N p) : p = o := by
  match o, p, h, k with
  | none, none, _, _ => rfl
  | some (t, w), none, h, k =>
    have := soon_early okw ok okp h
    exact absurd h.1 (k w t (by omega))
  | o, some (t, w), h, k => exact k.2.uniq h
theorem Gr.down {X : Addr → Prop} {G G1 G2 H H' : Hp} (s : Gr X G1 H G2 H') (e : Same G G1) : Gr X G H G H' := ⟨Same.refl G, (e.trans s.gg).trans s.sub, s.old, s.dom, fun _ _ _ h => h⟩
theorem i_clear {H : Hp} {Q : VK} {l : Addr} {xs : List V} (h : H l = some (.lst xs)) (q : Q .non (upd H l (.lst []))) : rClear (.ref l) [] H Q := ⟨l, xs, rfl, rfl, h, q⟩
theorem i_sl31N {K : PySem.W.Frag} {H : Hp} {Q : VK} {p : Addr} {a b c : V} (h : SqT K H p [a, b, c]) (q : NewT [b, c] H Q) : rSlT K (.ref p) (some 1) none H Q := i_sl31 h q
theorem lk_W {n : Nat} (w : W3) : Lk (n + 1) (dW w) := lk_tup (by show 3 ≤ 100000; decide) fun e he => by
  simp only [List.mem_cons, List.not_mem_nil, or_false] at he
  rcases he with rfl | rfl | rfl <;> exact lk_int
theorem lk_Ws {n : Nat} {ws : List W3} (h : ws.length ≤ 100000) : Lk (n + 2) (.list (ws.map dW)) := lk_list (by rw [List.length_map]; exact h) fun e he => by
  obtain ⟨w, _, rfl⟩ := List.mem_map.mp he
  exact lk_W w
/-- whether what breaks is told in its form -/
def spIsRight (K : PySem.W.Frag) : Sp := fun vs H Q _ => ∃ (G : Hp) (m r l u : Addr) (ws : List W3) (mf : Nat → Option Int) (t w : Nat), vs = [.ref m, .ref r, .ref u] ∧ Same G H ∧ TupL K G m (ws.map vW) ∧ OkWs ws ∧ SqT K H r [.int (t : Nat), .int (w : Nat), .ref l] ∧ Dp K H (.ref l) (.list ((strk ws t w).map dW)) ∧ SqT K G u [.int (t : Nat), .int (w : Nat)] ∧ Lose ws mf w t ∧ t ≤ 999 ∧
  ∀ H', Gr No G H G H' → Q (.bl true) H'
theorem i_is_right {K : PySem.W.Frag} {X : Addr → Prop} {G0 H0 G H : Hp} {Q : VK} {E : XK} {m r l u : Addr} {ws : List W3} {mf : Nat → Option Int} {t w : Nat} (g : Gr X G0 H0 G H) (hw : TupL K G m (ws.map vW)) (okw : OkWs ws) (h1 : SqT K H r [.int (t : Nat), .int (w : Nat), .ref l]) (h2 : Dp K H (.ref l) (.list ((strk ws t w).map dW))) (h3 : SqT K G u [.int (t : Nat), .int (w : Nat)]) (hl : Lose ws mf w t) (ht : t ≤ 999)
    (k : ∀ H', Gr No G H G H' → Gr X G0 H0 G H' → Q (.bl true) H') : spIsRight K ([.ref m, .ref r, .ref u] ++ []) H Q E := ⟨G, m, r, l, u, ws, mf, t, w, rfl, g.sub, hw, okw, h1, h2, h3, hl, ht, fun H' s => k H' s (g.seqN s)⟩
end Z
namespace Z
open PySem PySem.Spec PyProof.Rows L2
theorem least_nat {P : Nat → Prop} : ∀ n, P n → ∃ m, P m ∧ ∀ k, k < m → ¬ P k := by
  intro n
  induction n using Nat.strongRecOn with
  | _ n ih =>
    intro h
    by_cases hx : ∃ k, k < n ∧ P k
    · obtain ⟨k, hk, hp⟩ := hx
      exact ih k hk hp
    · exact ⟨n, h, fun k hk hp => hx ⟨k, hk, hp⟩⟩
theorem brk_ex (ws : List W3) (m : Nat → Option Int) : ∃ o, BrkSem ws m o := by
  by_cases h : ∃ t, ∃ w, Lose ws m w t
  · obtain ⟨t0, h0⟩ := h
    obtain ⟨t, ⟨w0, h1⟩, h2⟩ := least_nat (P := fun t => ∃ w, Lose ws m w t) t0 h0
    obtain ⟨w, h3, h4⟩ := least_nat (P := fun w => Lose ws m w t) w0 h1
    refine ⟨some (t, w), h3, fun v s hs => ?_⟩
    rcases Nat.lt_trichotomy s t with h5 | h5 | h5
    · exact absurd ⟨v, hs⟩ (h2 s h5)
    · subst h5
      exact .inr ⟨rfl, Nat.le_of_not_lt fun h6 => h4 v h6 hs⟩
    · exact .inl h5
  · exact ⟨none, fun w t hl => h ⟨t, w, hl⟩⟩
theorem soon_sem {ws : List W3} {ld : List Int} {hd lp : List (Option Int)} {p : Option (Nat × Nat)} {N : Nat} (okw : OkWs ws) (ok : OkLd ld) (okp : OkPl ws.length hd lp) (hN : ld.length * (hd.length + 2 * lp.length + 2) + 100 ≤ N) (k : SoonSem ws (mend ld hd lp) N p) : BrkSem ws (mend ld hd lp) p := by
  obtain ⟨o, ho⟩ := brk_ex ws (mend ld hd lp)
  rw [soon_brk okw ok okp (by omega) ho k]
  exact ho
end Z
set_option Elab.async false
set_option linter.all false
set_option maxRecDepth 100000
set_option maxHeartbeats 4000000
namespace Z
open PySem PySem.Spec PyProof.Rows L2
local macro_rules | `(tactic| walk_at "zrd") => `(tactic| (repeat (first | ((with_reducible apply i_var); (· exact rfl)) | with_reducible refine i_c ?_ | with_reducible refine i_op ?_ | with_reducible refine i_I0 ?_ | with_reducible refine i_eqI ?_ | with_reducible refine i_neI ?_ | with_reducible refine i_test ?_ | with_reducible refine i_cons ?_ | with_reducible refine i_nil ?_ | with_reducible refine i_seq ?_ | with_reducible refine i_nx ?_ | with_reducible refine i_rt ?_ | with_reducible refine i_pass ?_ | with_reducible refine i_asg ?_ | with_reducible refine i_gname ?_ | with_reducible refine i_ret ?_ | with_reducible refine i_drop ?_ | with_reducible refine i_ifS ?_ | with_reducible refine i_if ?_ | with_reducible refine i_not ?_ | with_reducible refine i_and ?_ | with_reducible refine i_or ?_ | with_reducible refine i_lst ?_ | with_reducible refine i_tup ?_ | with_reducible refine i_cb ?_ | with_reducible refine i_call ?_ | with_reducible refine i_gsub ?_ | with_reducible refine i_B ?_ | with_reducible refine i_un ?_ | with_reducible refine i_U ?_ | with_reducible refine i_eqOI ?_ | with_reducible refine i_eqIO ?_ | with_reducible refine i_forL ?_ | with_reducible refine i_forT ?_ | with_reducible refine i_forR ?_ | with_reducible refine i_forR2 ?_ | with_reducible refine i_forR3 ?_ | with_reducible refine i_forE ?_ | with_reducible refine i_lcL ?_ | with_reducible refine i_lcT ?_ | with_reducible refine i_lcR ?_ | with_reducible refine i_yes ?_ | with_reducible refine i_lce ?_ | with_reducible refine i_lcf ?_ | with_reducible refine i_gcons ?_ | with_reducible refine i_gnil ?_ | with_reducible refine i_chain ?_ | with_reducible refine i_t ?_ | with_reducible refine i_f ?_ | with_reducible refine i_nt ?_ | with_reducible refine i_nf ?_ | with_reducible refine i_bm ?_ | with_reducible refine i_bm0 ?_ | with_reducible refine i_and2 ?_ | with_reducible refine i_or2 ?_ | with_reducible refine i_intI ?_ | with_reducible refine i_intB ?_ | with_reducible refine i_sl ?_ | with_reducible refine i_part ?_ | with_reducible refine i_nopart ?_ | with_reducible refine i_cut ?_ | with_reducible refine i_lrg ?_ | with_reducible refine i_make ?_ | with_reducible refine i_meth ?_ | with_reducible refine i_fld ?_ | with_reducible refine i_sfld ?_ | with_reducible refine i_dnew ?_ | with_reducible refine i_par3 ?_ | with_reducible refine i_par3e ?_ | with_reducible refine i_par2 ?_ | with_reducible refine i_par2e ?_ | with_reducible refine i_dput ?_ | with_reducible refine i_dget2 ?_ | with_reducible refine i_din ?_ | with_reducible refine i_dget ?_ | with_reducible refine i_isO ?_ | with_reducible refine i_isR ?_ | with_reducible refine i_isN ?_ | with_reducible refine i_isI ?_ | with_reducible refine i_noO ?_ | with_reducible refine i_noR ?_ | with_reducible refine i_noN ?_ | with_reducible refine i_noI ?_ | with_reducible refine (show ∃ k, V.bl _ = V.bl k ∧ _ from ⟨_, rfl, ?_⟩) | with_reducible refine (show ∃ k, V.int _ = V.int k ∧ _ from ⟨_, rfl, ?_⟩) | ((with_reducible apply i_ixL); (· assumption); (· exact rfl)) | ((with_reducible apply i_ixT); (· assumption); (· exact rfl)) | ((with_reducible apply i_lenL); (· assumption)) | ((with_reducible apply i_lenT); (· assumption)) | ((with_reducible apply i_I); (· (first | omega | (dsimp only; omega) | exact ⟨by omega, by omega⟩ | exact Or.inr ⟨by omega, by omega⟩ | exact Or.inl ⟨by omega, by omega⟩ | exact ⟨by decide, by decide, by decide⟩))) | ((with_reducible apply i_gtup); (· assumption); (· rfl)) | ((with_reducible apply i_p); (· omega)) | ((with_reducible apply i_n); (· omega)) | ((with_reducible apply i_np); (· omega)) | ((with_reducible apply i_nn); (· omega)) | ((with_reducible apply i_lcP); (· omega)) | ((with_reducible apply i_lcN); (· omega)) | ((with_reducible apply i_lcnP); (· omega)) | ((with_reducible apply i_lcnN); (· omega)))))
def topS (i : Nat) : Stmt := PySem.Challenge.pw_scrubround_k04_whole_lost_as_soon_as_can.main.body.getD i (.Pass ⟨0, 0, 0, 0⟩)
structure Txt (K : PySem.W.Frag) (mg : Str → Option Value) : Prop where
  b_len : mg "len" = none
  b_int : mg "int" = none
  b_range : mg "range" = none
  b_list : mg "list" = none
  b_tuple : mg "tuple" = none
  b_sorted : mg "sorted" = none
  b_max : mg "max" = none
  b_min : mg "min" = none
  b_enumerate : mg "enumerate" = none
  b_isinstance : mg "isinstance" = none
  b_str : mg "str" = none
  b_bool : mg "bool" = none
  b_dict : mg "dict" = none
  c_MOST_WORDS : ∃ t, mg "MOST_WORDS" = some (.int 4 t)
  c_MOST_WIDE : ∃ t, mg "MOST_WIDE" = some (.int 8 t)
  c_MOST_GAP : ∃ t, mg "MOST_GAP" = some (.int 9 t)
  c_MOST_LOAD : ∃ t, mg "MOST_LOAD" = some (.int 12 t)
  c_MOST_PLAN : ∃ t, mg "MOST_PLAN" = some (.int 2000 t)
  c_MOST_BEAT : ∃ t, mg "MOST_BEAT" = some (.int 999 t)
section
variable {P : Program} {w : World} {K : PySem.W.Frag} {mg : Str → Option Value} {base : Heap} {f : Addr} {fd : FuncData}
abbrev s_law_dice : Stmt := topS 25
theorem sc_law_dice : FnScope ["_law_script", "_law_mixed", "_law_cell"] ["_law_script"] (defScope s_law_dice) := ⟨rfl, rfl, rfl, by decide +kernel, rfl, by decide +kernel, by decide +kernel⟩
abbrev s_law_next : Stmt := topS 26
theorem sc_law_next : FnScope ["_law_dice_here", "_law_many", "_law_found", "_law_cell"] ["_law_dice_here", "_law_many"] (defScope s_law_next) := ⟨rfl, rfl, rfl, by decide +kernel, rfl, by decide +kernel, by decide +kernel⟩
theorem ok_next (T : Txt K mg) (F : Fun K "_law_next" "_law_next" s_law_next f fd) : FnOk P w K mg base CX0 1 f fd ["_law_dice_here", "_law_many"] (spNext K) := by
  refine F.ok sc_law_next (fun vs H Q E h => ?_) (fun cdv A outer s H vs Q E hr h => ?_)
  · obtain ⟨G, d, m, rfl, _⟩ := h
    rfl
  · obtain ⟨G, d, m, rfl, sb, ⟨sa, ns, i, x, r, t, hS, hi⟩, hm, hm2, k⟩ := h
    refine ⟨_, (pss_cons (ps_if (pt_cmpR op_gt (pe_ix (r := rIxL K) ix_list (pv 0) pe_int (fun _ _ => rfl)) pe_int (nomark _)) (pss_cons (ps_set (i := 2) sc_law_next.nd rfl (Or.inl rfl) (pe_op op_mod (pe_ix (r := rIxL K) ix_list (pv 0) pe_int (fun _ _ => rfl)) (pv 1)))
      (pss_cons (ps_asg (pe_op op_fdiv (pe_ix (r := rIxL K) ix_list (pv 0) pe_int (fun _ _ => rfl)) (pv 1)) (pg_sub (pv 0) pe_int set_list))
      (pss_one (ps_ret (pv 2))))) pss_nil)
      (pss_cons (ps_asg (pe_op op_add (pe_ix (r := rIxL K) ix_list (pv 0) pe_int (fun _ _ => rfl)) pe_int) (pg_sub (pv 0) pe_int set_list))
      (pss_cons (ps_if (pt_cmpR op_le (pe_ix (r := rIxL K) ix_list (pv 0) pe_int (fun _ _ => rfl)) (pe_callB (r := rLen K) cl_len (by rfl) T.b_len (by decide +kernel) (pa_cons (pe_ix (r := rIxL K) ix_list (pv 0) pe_int (fun _ _ => rfl)) pa_nil)) (nomark _)) (pss_cons (ps_set (i := 3) sc_law_next.nd rfl (Or.inl rfl) (pe_ix (r := rIxL K) ix_list (pe_ix (r := rIxL K) ix_list (pv 0) pe_int (fun _ _ => rfl)) (pe_op op_sub (pe_ix (r := rIxL K) ix_list (pv 0) pe_int (fun _ _ => rfl)) pe_int) (fun _ _ => rfl)))
      (pss_cons (ps_asg (pe_ifExp (pt_cmpR op_ge (pv 3) (pe_op op_pow pe_int pe_int) (nomark _)) (pe_op op_fdiv (pv 3) (pv 1)) pe_int) (pg_sub (pv 0) pe_int set_list))
      (pss_one (ps_ret (pe_op op_mod (pv 3) (pv 1)))))) pss_nil)
      (pss_cons (ps_asg (pe_op op_mod (pe_op op_mul (pe_ix (r := rIxL K) ix_list (pv 0) pe_int (fun _ _ => rfl)) pe_int) pe_int) (pg_sub (pv 0) pe_int set_list))
      (pss_one (ps_ret (pe_op op_mod (pe_op op_fdiv (pe_ix (r := rIxL K) ix_list (pv 0) pe_int (fun _ _ => rfl)) pe_int) (pv 1)))))))), ?_⟩
    try dsimp only [cxOf, L2.Cx.nox, L2.Cx.wish]
    refine i_start (σ' := [some (.ref d), some (.int m), none, none]) rfl ?_
    have hd : SqL K H d [.ref sa, .int i, .int x, .int r] := .inl (.inl t.h)
    have hsa : SqL K H sa (ns.map V.int) := sql sb hS
    walk_at "zrd"
    refine i_ite (fun h1 => ?_) (fun h1 => ?_)
    · walk_at "zrd"
      refine i_setL [.ref sa, .int i, .int x, .int (r / m)] t.h rfl rfl ?_
      walk_at "zrd"
      exact k _ _ (Gr.mut (Gr.refl sb) t (Or.inl rfl)) ⟨sa, ns, i, x, _, t.put, hS, hi⟩ (Int.emod_nonneg _ (by omega)) (Int.emod_lt_of_pos _ hm)
    · walk_at "zrd"
      refine i_setL [.ref sa, .int (i + 1), .int x, .int r] t.h rfl rfl ?_
      have g1 := Gr.mut (u := .lst [.ref sa, .int (i + 1), .int x, .int r]) (X := (· = d)) (Gr.refl sb) t (Or.inl rfl)
      have t1 := t.put (u := .lst [.ref sa, .int (i + 1), .int x, .int r])
      revert g1 t1
      generalize upd H d (.lst [.ref sa, .int (i + 1), .int x, .int r]) = H1
      intro g1 t1
      have hd : SqL K H1 d [.ref sa, .int (i + 1), .int x, .int r] := .inl (.inl t1.h)
      have hsa : SqL K H1 sa (ns.map V.int) := sql g1.sub hS
      walk_at "zrd"
      refine i_ite (fun h2 => ?_) (fun h2 => ?_)
      · rw [List.length_map] at h2
        have hlt : i.toNat < ns.length := by omega
        walk_at "zrd"
        refine i_ixL hsa (atN (k := i.toNat) (by omega) (by rw [List.getElem?_map, List.getElem?_eq_getElem hlt]; rfl)) ?_
        walk_at "zrd"
        refine i_ite (fun h3 => ?_) (fun h3 => ?_)
        · walk_at "zrd"
          refine i_setL [.ref sa, .int (i + 1), .int x, .int (ns[i.toNat] / m)] t1.h rfl rfl ?_
          walk_at "zrd"
          exact k _ _ (g1.mut t1 (Or.inl rfl)) ⟨sa, ns, _, x, _, t1.put, hS, by omega⟩ (Int.emod_nonneg _ (by omega)) (Int.emod_lt_of_pos _ hm)
        · walk_at "zrd"
          refine i_setL [.ref sa, .int (i + 1), .int x, .int 0] t1.h rfl rfl ?_
          walk_at "zrd"
          exact k _ _ (g1.mut t1 (Or.inl rfl)) ⟨sa, ns, _, x, _, t1.put, hS, by omega⟩ (Int.emod_nonneg _ (by omega)) (Int.emod_lt_of_pos _ hm)
      · walk_at "zrd"
        refine i_setL [.ref sa, .int (i + 1), .int (x * 48271 % 2147483647), .int r] t1.h rfl rfl ?_
        have hd : SqL K (upd H1 d (.lst [.ref sa, .int (i + 1), .int (x * 48271 % 2147483647), .int r])) d [.ref sa, .int (i + 1), .int (x * 48271 % 2147483647), .int r] := .inl (.inl upd_same)
        walk_at "zrd"
        exact k _ _ (g1.mut t1 (Or.inl rfl)) ⟨sa, ns, _, _, _, t1.put, hS, by omega⟩ (Int.emod_nonneg _ (by omega)) (Int.emod_lt_of_pos _ hm)
theorem ok_dice (T : Txt K mg) (F : Fun K "_law_dice" "_law_dice" s_law_dice f fd) : FnOk P w K mg base CX0 1 f fd ["_law_script"] (spDice K) := by
  refine F.ok sc_law_dice (fun vs H Q E h => ?_) (fun cdv A outer s H vs Q E hr h => ?_)
  · obtain ⟨s, ns, G, rfl, _⟩ := h
    rfl
  · obtain ⟨sa, ns, G, rfl, sb, hS, k⟩ := h
    refine ⟨_, (pss_cons (ps_set (i := 1) sc_law_dice.nd rfl (Or.inl rfl) pe_int)
      (pss_cons (ps_for PassesOwn.never rfl (pi_list (pv 0)) (pg_name (i := 2) sc_law_dice.nd rfl (Or.inl rfl)) (pss_one (ps_set (i := 1) sc_law_dice.nd rfl (Or.inl rfl) (pe_op op_mod (pe_op op_add (pe_op op_add (pe_op op_mul (pv 1) pe_int) (pe_op op_mul (pe_op op_mod (pv 2) pe_int) pe_int)) pe_int) pe_int))))
      (pss_one (ps_ret (pe_lst (pa_cons (pv 0) (pa_cons pe_int (pa_cons (pe_op op_mul (pv 1) (pe_callTy cl_int (by rfl) T.b_int (by decide +kernel) (pa_cons (pe_cmpR op_gt (pe_callB (r := rLen K) cl_len (by rfl) T.b_len (by decide +kernel) (pa_cons (pv 0) pa_nil)) pe_int (nomark _)) pa_nil))) (pa_cons pe_int pa_nil))))))))), ?_⟩
    try dsimp only [cxOf, L2.Cx.nox, L2.Cx.wish]
    refine i_start (σ' := [some (.ref sa), none, none]) rfl ?_
    have hs : SqL K H sa (ns.map V.int) := sql sb hS
    walk_at "zrd"
    refine forL hs (fun i σ H' => ∃ (m : Int) (v : Option V), σ = [some (.ref sa), some (.int m), v] ∧ H' = H) ⟨0, none, rfl, rfl⟩ (fun i σ H' _ ⟨_, _, _, e⟩ => by rw [e]; exact hs) ?_ ?_
    · rintro i y σ H' hi ⟨m, v, rfl, rfl⟩
      obtain ⟨z, hz, rfl⟩ := map_at hi
      walk_at "zrd"
      exact ⟨_, _, rfl, rfl⟩
    · rintro σ H' ⟨m, v, rfl, rfl⟩
      walk_at "zrd"
      refine newL (X0 := No) (Gr.refl sb) (by simp) fun p H2 np _ s g t => ?_
      walk_at "zrd"
      exact k p _ g ⟨sa, ns, 0, _, 0, t, hS, Int.le_refl 0⟩ np
end
end Z
set_option Elab.async false
set_option linter.all false
set_option maxRecDepth 100000
set_option maxHeartbeats 4000000
namespace Z
open PySem PySem.Spec PyProof.Rows L2
local macro_rules | `(tactic| walk_at "zrd") => `(tactic| (repeat (first | ((with_reducible apply i_var); (· exact rfl)) | with_reducible refine i_c ?_ | with_reducible refine i_op ?_ | with_reducible refine i_I0 ?_ | with_reducible refine i_eqI ?_ | with_reducible refine i_neI ?_ | with_reducible refine i_test ?_ | with_reducible refine i_cons ?_ | with_reducible refine i_nil ?_ | with_reducible refine i_seq ?_ | with_reducible refine i_nx ?_ | with_reducible refine i_rt ?_ | with_reducible refine i_pass ?_ | with_reducible refine i_asg ?_ | with_reducible refine i_gname ?_ | with_reducible refine i_ret ?_ | with_reducible refine i_drop ?_ | with_reducible refine i_ifS ?_ | with_reducible refine i_if ?_ | with_reducible refine i_not ?_ | with_reducible refine i_and ?_ | with_reducible refine i_or ?_ | with_reducible refine i_lst ?_ | with_reducible refine i_tup ?_ | with_reducible refine i_cb ?_ | with_reducible refine i_call ?_ | with_reducible refine i_gsub ?_ | with_reducible refine i_B ?_ | with_reducible refine i_un ?_ | with_reducible refine i_U ?_ | with_reducible refine i_eqOI ?_ | with_reducible refine i_eqIO ?_ | with_reducible refine i_forL ?_ | with_reducible refine i_forT ?_ | with_reducible refine i_forR ?_ | with_reducible refine i_forR2 ?_ | with_reducible refine i_forR3 ?_ | with_reducible refine i_forE ?_ | with_reducible refine i_lcL ?_ | with_reducible refine i_lcT ?_ | with_reducible refine i_lcR ?_ | with_reducible refine i_yes ?_ | with_reducible refine i_lce ?_ | with_reducible refine i_lcf ?_ | with_reducible refine i_gcons ?_ | with_reducible refine i_gnil ?_ | with_reducible refine i_chain ?_ | with_reducible refine i_t ?_ | with_reducible refine i_f ?_ | with_reducible refine i_nt ?_ | with_reducible refine i_nf ?_ | with_reducible refine i_bm ?_ | with_reducible refine i_bm0 ?_ | with_reducible refine i_and2 ?_ | with_reducible refine i_or2 ?_ | with_reducible refine i_intI ?_ | with_reducible refine i_intB ?_ | with_reducible refine i_sl ?_ | with_reducible refine i_part ?_ | with_reducible refine i_nopart ?_ | with_reducible refine i_cut ?_ | with_reducible refine i_lrg ?_ | with_reducible refine i_make ?_ | with_reducible refine i_meth ?_ | with_reducible refine i_fld ?_ | with_reducible refine i_sfld ?_ | with_reducible refine i_dnew ?_ | with_reducible refine i_par3 ?_ | with_reducible refine i_par3e ?_ | with_reducible refine i_par2 ?_ | with_reducible refine i_par2e ?_ | with_reducible refine i_dput ?_ | with_reducible refine i_dget2 ?_ | with_reducible refine i_din ?_ | with_reducible refine i_dget ?_ | with_reducible refine i_isO ?_ | with_reducible refine i_isR ?_ | with_reducible refine i_isN ?_ | with_reducible refine i_isI ?_ | with_reducible refine i_noO ?_ | with_reducible refine i_noR ?_ | with_reducible refine i_noN ?_ | with_reducible refine i_noI ?_ | with_reducible refine (show ∃ k, V.bl _ = V.bl k ∧ _ from ⟨_, rfl, ?_⟩) | with_reducible refine (show ∃ k, V.int _ = V.int k ∧ _ from ⟨_, rfl, ?_⟩) | ((with_reducible apply i_ixL); (· assumption); (· exact rfl)) | ((with_reducible apply i_ixT); (· assumption); (· exact rfl)) | ((with_reducible apply i_lenL); (· assumption)) | ((with_reducible apply i_lenT); (· assumption)) | ((with_reducible apply i_I); (· (first | omega | (dsimp only; omega) | exact ⟨by omega, by omega⟩ | exact Or.inr ⟨by omega, by omega⟩ | exact Or.inl ⟨by omega, by omega⟩ | exact ⟨by decide, by decide, by decide⟩))) | ((with_reducible apply i_gtup); (· assumption); (· rfl)) | ((with_reducible apply i_p); (· omega)) | ((with_reducible apply i_n); (· omega)) | ((with_reducible apply i_np); (· omega)) | ((with_reducible apply i_nn); (· omega)) | ((with_reducible apply i_lcP); (· omega)) | ((with_reducible apply i_lcN); (· omega)) | ((with_reducible apply i_lcnP); (· omega)) | ((with_reducible apply i_lcnN); (· omega)))))
section
variable {P : Program} {w : World} {K : PySem.W.Frag} {mg : Str → Option Value} {base : Heap} {f : Addr} {fd : FuncData}
abbrev s_law_memory : Stmt := topS 28
theorem sc_law_memory : FnScope ["_law_d", "_law_most", "_law_words", "_law_k", "_law_wide", "_law_bears"] ["_law_d", "_law_most"] (defScope s_law_memory) := ⟨rfl, rfl, rfl, by decide +kernel, rfl, by decide +kernel, by decide +kernel⟩
theorem ok_memory (T : Txt K mg) (C__law_next : Cal P w K mg base "_law_next" 1 ["_law_dice_here", "_law_many"] (spNext K)) (F : Fun K "_law_memory" "_law_memory" s_law_memory f fd) : FnOk P w K mg base CX0 2 f fd ["_law_d", "_law_most"] (spMemory K) := by
  refine F.ok sc_law_memory (fun vs H Q E h => ?_) (fun cdv A outer s H0 vs Q E hr h => ?_)
  · obtain ⟨G, d, m, rfl, _⟩ := h
    rfl
  · obtain ⟨G0, d, m, rfl, sb, D, hm0, hm4, k⟩ := h
    refine ⟨_, (pss_cons (ps_set (i := 2) sc_law_memory.nd rfl (Or.inl rfl) (pe_lst pa_nil))
      (pss_cons (ps_for PassesOwn.never rfl (pi_range1 (by rfl) T.b_range (pa_cons (pe_op op_add pe_int (pc C__law_next (hr.mono (by decide)) (pa_cons (pv 0) (pa_cons (pv 1) pa_nil)))) pa_nil)) (pg_name (i := 3) sc_law_memory.nd rfl (Or.inl rfl)) (pss_cons (ps_set (i := 4) sc_law_memory.nd rfl (Or.inl rfl) (pe_op op_add pe_int (pc C__law_next (hr.mono (by decide)) (pa_cons (pv 0) (pa_cons pe_int pa_nil)))))
      (pss_cons (ps_set (i := 5) sc_law_memory.nd rfl (Or.inl rfl) (pe_ix (r := rIxL K) ix_list (pe_lst (pa_cons pe_int (pa_cons pe_int (pa_cons pe_int (pa_cons (pc C__law_next (hr.mono (by decide)) (pa_cons (pv 0) (pa_cons pe_int pa_nil))) pa_nil))))) (pc C__law_next (hr.mono (by decide)) (pa_cons (pv 0) (pa_cons pe_int pa_nil))) (fun _ _ => rfl)))
      (pss_one (ps_expr (pe_bm PySem.F.plainAttrs_list PySem.F.slot_list_append PySem.F.type_list_append mt_append (pv 2) (pa_cons (pe_tup (pa_cons (pv 4) (pa_cons (pv 5) (pa_cons (pe_op op_add pe_int (pc C__law_next (hr.mono (by decide)) (pa_cons (pv 0) (pa_cons (pe_ix (r := rIxL K) ix_list (pe_lst (pa_cons pe_int (pa_cons pe_int pa_nil))) (pc C__law_next (hr.mono (by decide)) (pa_cons (pv 0) (pa_cons pe_int pa_nil))) (fun _ _ => rfl)) pa_nil)))) pa_nil)))) pa_nil)))))))
      (pss_one (ps_ret (pv 2))))), ?_⟩
    try dsimp only [cxOf, L2.Cx.nox, L2.Cx.wish]
    refine i_start (σ' := [some (.ref d), some (.int m), none, none, none, none]) rfl ?_
    have g : Gr (· = d) G0 H0 G0 H0 := Gr.refl sb
    walk_at "zrd"
    refine newL g (by first | omega | (simp; done) | (simp; omega)) fun l H1 nl zl s g tl => ?_
    have ndl := D.ne nl
    have D := D.monoN s
    walk_at "zrd"
    refine i_next g D (by first | exact Or.inl rfl | exact Or.inr (by assumption)) (by omega) (by omega) fun n1 H2 s g D hn10 hn11 => ?_
    have tl := tl.mono s ndl
    walk_at "zrd"
    refine forR (by omega) (by omega) (fun i σ H' => ∃ (v3 v4 v5 : Option V) (G' : Hp) (as : List Addr) (ws : List (Int × Int × Int)), σ = [some (.ref d), some (.int m), some (.ref l), v3, v4, v5] ∧ Gr (· = d) G0 H0 G' H' ∧ Dice K G' H' d ∧ At G' H' l (.lst (as.map V.ref)) ∧ Paired (fun p t => SqT K G' p t) as (ws.map vW) ∧ ws.length = i ∧ ∀ w ∈ ws, okW w)
      ⟨none, none, none, G0, [], [], rfl, g, D, tl, .nil, rfl, by simp⟩ ?_ ?_
    · rintro i σ H' hi ⟨v3, v4, v5, G, as, ws, rfl, g, D, tl, pr, el, ok⟩
      have hlen : as.length = ws.length := by rw [Paired.len pr, List.length_map]
      walk_at "zrd"
      refine i_next g D (by first | exact Or.inl rfl | exact Or.inr (by assumption)) (by omega) (by omega) fun a H3 s g D ha0 ha1 => ?_
      have tl := tl.mono s ndl
      walk_at "zrd"
      refine i_next g D (by first | exact Or.inl rfl | exact Or.inr (by assumption)) (by omega) (by omega) fun b H4 s g D hb0 hb1 => ?_
      have tl := tl.mono s ndl
      walk_at "zrd"
      refine newL g (by first | omega | (simp; done) | (simp; omega)) fun q H5 nq zq s g tq => ?_
      have ndq := D.ne nq
      have nlq := ne_of_none tl.h nq
      have D := D.monoN s
      have tl := tl.monoN s
      walk_at "zrd"
      refine i_next g D (by first | exact Or.inl rfl | exact Or.inr (by assumption)) (by omega) (by omega) fun c H6 s g D hc0 hc1 => ?_
      have tl := tl.mono s ndl
      have tq := tq.mono s ndq
      walk_at "zrd"
      obtain ⟨v, hv, ha⟩ := atPick (xs := [V.int 1, V.int 1, V.int 2, V.int b]) hc0 (by simpa using hc1)
      obtain ⟨e, rfl, he0, he8⟩ : ∃ e, v = V.int e ∧ 0 ≤ e ∧ e ≤ 8 := by
        simp only [List.mem_cons, List.not_mem_nil, or_false] at hv
        rcases hv with rfl | rfl | rfl | rfl <;> exact ⟨_, rfl, by omega, by omega⟩
      refine i_ixL (.inl (.inl tq.h)) ha ?_
      walk_at "zrd"
      refine ⟨tyL tl.h, ?_⟩
      walk_at "zrd"
      refine newL g (by first | omega | (simp; done) | (simp; omega)) fun r H7 nr zr s g tr => ?_
      have ndr := D.ne nr
      have nlr := ne_of_none tl.h nr
      have D := D.monoN s
      have tl := tl.monoN s
      walk_at "zrd"
      refine i_next g D (by first | exact Or.inl rfl | exact Or.inr (by assumption)) (by omega) (by omega) fun y H8 s g D hy0 hy1 => ?_
      have tl := tl.mono s ndl
      have tr := tr.mono s ndr
      walk_at "zrd"
      obtain ⟨v, hv, ha⟩ := atPick (xs := [V.int 4, V.int 9]) hy0 (by simpa using hy1)
      obtain ⟨e2, rfl, he20, he28⟩ : ∃ e, v = V.int e ∧ 4 ≤ e ∧ e ≤ 9 := by
        simp only [List.mem_cons, List.not_mem_nil, or_false] at hv
        rcases hv with rfl | rfl <;> exact ⟨_, rfl, by omega, by omega⟩
      refine i_ixL (.inl (.inl tr.h)) ha ?_
      walk_at "zrd"
      refine i_next g D (by first | exact Or.inl rfl | exact Or.inr (by assumption)) (by omega) (by omega) fun z H9 s g D hz0 hz1 => ?_
      have tl := tl.mono s ndl
      walk_at "zrd"
      refine newT (K := K) g (by first | omega | (simp; done) | (simp; omega)) fun t G2 H10 nt zt s g tt => ?_
      have ndt := D.ne nt
      have nlt := ne_of_none tl.h nt
      have D := D.monoN s
      have tl := tl.monoN s
      have pr := prt s.gg pr
      walk_at "zrd"
      refine i_append tl.h (by simp; omega) ?_
      walk_at "zrd"
      refine ⟨_, _, _, G2, as ++ [t], ws ++ [(1 + a, e, 1 + z)], rfl, g.mut tl (.inr nl), D.off ndl, ?_, ?_, by simp [el], ?_⟩
      · rw [List.map_append]
        exact tl.put
      · rw [List.map_append]
        exact Paired.snoc tt pr
      · intro w hw
        rcases List.mem_append.mp hw with h | h
        · exact ok w h
        · rw [List.mem_singleton.mp h]
          exact ⟨by show 1 ≤ 1 + a; omega, by show 1 + a ≤ 8; omega, he0, he8, by show 1 ≤ 1 + z; omega, by show 1 + z ≤ 9; omega⟩
    · rintro σ H' ⟨v3, v4, v5, G, as, ws, rfl, g, D, tl, pr, el, ok⟩
      walk_at "zrd"
      exact k ws l _ H' (g.close tl nl) (D.close tl ndl) nl ⟨as, upd_same, prt (same_close tl) pr⟩ ⟨by omega, by omega, ok⟩ (by omega)
abbrev s_law_load : Stmt := topS 29
theorem sc_law_load : FnScope ["_law_d", "_law_most", "_law_load_here", "_law_k"] ["_law_d", "_law_most"] (defScope s_law_load) := ⟨rfl, rfl, rfl, by decide +kernel, rfl, by decide +kernel, by decide +kernel⟩
theorem ok_load (T : Txt K mg) (C__law_next : Cal P w K mg base "_law_next" 1 ["_law_dice_here", "_law_many"] (spNext K)) (F : Fun K "_law_load" "_law_load" s_law_load f fd) : FnOk P w K mg base CX0 2 f fd ["_law_d", "_law_most"] (spLoad K) := by
  refine F.ok sc_law_load (fun vs H Q E h => ?_) (fun cdv A outer s H0 vs Q E hr h => ?_)
  · obtain ⟨G, d, m, rfl, _⟩ := h
    rfl
  · obtain ⟨G0, d, m, rfl, sb, D, hm0, hm4, k⟩ := h
    refine ⟨_, (pss_cons (ps_setLc (i := 2) (own := [("_law_k", 3)]) (g := gName 3) rfl sc_law_load.nd rfl rfl (sw_true rfl rfl rfl (by decide +kernel)) (pi_range1 (by rfl) T.b_range (pa_cons (pe_op op_add pe_int (pc C__law_next (hr.mono (by decide)) (pa_cons (pv 0) (pa_cons (pv 1) pa_nil)))) pa_nil)) (blkOk_by (own := [("_law_k", 3)]) (N := ["_law_d", "_law_most", "_law_load_here", "_law_k"]) (sc := defScope s_law_load) (by decide +kernel)) (fun _ _ _ _ _ => (pg_name (i := 3) sc_law_load.nd rfl (Or.inl rfl))) (fun _ _ _ _ _ => pts_nil) (fun _ _ _ _ _ => (pe_callTy cl_int (by rfl) T.b_int (by decide +kernel) (pa_cons (pe_cmpR op_eq (pc C__law_next (hr.mono (by decide)) (pa_cons (pv 0) (pa_cons pe_int pa_nil))) pe_int (nomark _)) pa_nil))))
      (pss_cons (ps_asg pe_int (pg_sub (pv 2) (pc C__law_next (hr.mono (by decide)) (pa_cons (pv 0) (pa_cons (pe_callB (r := rLen K) cl_len (by rfl) T.b_len (by decide +kernel) (pa_cons (pv 2) pa_nil)) pa_nil))) set_list))
      (pss_one (ps_ret (pv 2))))), ?_⟩
    try dsimp only [cxOf, L2.Cx.nox, L2.Cx.wish]
    refine i_start (σ' := [some (.ref d), some (.int m), none, none]) rfl ?_
    have g : Gr (· = d) G0 H0 G0 H0 := Gr.refl sb
    walk_at "zrd"
    refine i_next g D (by first | exact Or.inl rfl | exact Or.inr (by assumption)) (by omega) (by omega) fun n1 H2 s g D hn10 hn11 => ?_
    walk_at "zrd"
    have gA := g
    refine lcR (by omega) (by omega) (fun C i H' => ∃ (ld : List Int), Gr (· = d) G0 H0 G0 H' ∧ Dice K G0 H' d ∧ At G0 H' C (.lst (ld.map V.int)) ∧ ld.length = i ∧ ∀ x ∈ ld, x = 0 ∨ x = 1) ?_ ?_ ?_
    · intro C nC
      exact ⟨[], g.new nC, D.monoN (Gr.new (Gr.refl g.sub) nC), At.of g nC, rfl, by simp⟩
    · rintro C i H' nC hi ⟨ld, g, D, tC, el, ok⟩
      have ndC := Dice.ne (by assumption) nC
      walk_at "zrd"
      refine i_lcw rfl ?_
      walk_at "zrd"
      refine i_next g D (by first | exact Or.inl rfl | exact Or.inr (by assumption)) (by omega) (by omega) fun a H3 s g D ha0 ha1 => ?_
      have tC := tC.mono s ndC
      walk_at "zrd"
      refine lcp tC (by simp; omega) ?_
      refine ⟨ld ++ [if decide (a = 2) = true then 1 else 0], g.mut tC (.inr (gA.fresh nC)), D.off ndC, ?_, by simp [el], ?_⟩
      · rw [List.map_append]
        exact tC.put
      · intro x hx
        rcases List.mem_append.mp hx with h | h
        · exact ok x h
        · rw [List.mem_singleton.mp h]
          split
          · exact .inr rfl
          · exact .inl rfl
    · rintro C H' nC ⟨ld, g, D, tC, el, ok⟩
      have ndC := Dice.ne (by assumption) nC
      have hC : SqL K H' C (ld.map V.int) := .inl (.inl tC.h)
      have hlen : (ld.map V.int).length = ld.length := List.length_map _
      walk_at "zrd"
      refine i_next g D (by first | exact Or.inl rfl | exact Or.inr (by assumption)) (by omega) (by omega) fun a H3 s g D ha0 ha1 => ?_
      have tC := tC.mono s ndC
      walk_at "zrd"
      have ha : a.toNat < ld.length := by omega
      refine i_setL ((ld.set a.toNat 0).map V.int) tC.h (ixN_nat (k := a.toNat) (by omega) (by omega)) (by rw [List.map_set]) ?_
      walk_at "zrd"
      refine k (ld.set a.toNat 0) C _ _ ((g.mut tC (.inr (gA.fresh nC))).close tC.put (gA.fresh nC)) ((D.off ndC).close tC.put ndC) (gA.fresh nC) upd_same ⟨by rw [List.length_set]; omega, by rw [List.length_set]; omega, fun x hx => ?_, ?_⟩ (by rw [List.length_set]; omega)
      · rcases List.mem_or_eq_of_mem_set hx with h | h
        · exact ok x h
        · exact .inl h
      · exact List.mem_of_getElem? (List.getElem?_set_self ha)
abbrev s_law_plan : Stmt := topS 31
theorem sc_law_plan : FnScope ["_law_d", "_law_many", "_law_size", "_law_head", "_law_loop", "_law_k"] ["_law_d", "_law_many"] (defScope s_law_plan) := ⟨rfl, rfl, rfl, by decide +kernel, rfl, by decide +kernel, by decide +kernel⟩
theorem ok_plan (T : Txt K mg) (C__law_next : Cal P w K mg base "_law_next" 1 ["_law_dice_here", "_law_many"] (spNext K)) (F : Fun K "_law_plan" "_law_plan" s_law_plan f fd) : FnOk P w K mg base CX0 2 f fd ["_law_d", "_law_many"] (spPlan K) := by
  refine F.ok sc_law_plan (fun vs H Q E h => ?_) (fun cdv A outer s H0 vs Q E hr h => ?_)
  · obtain ⟨G, d, m, rfl, _⟩ := h
    rfl
  · obtain ⟨G0, d, m, rfl, sb, D, hm0, hm4, k⟩ := h
    refine ⟨_, (pss_cons (ps_set (i := 2) sc_law_plan.nd rfl (Or.inl rfl) (pc C__law_next (hr.mono (by decide)) (pa_cons (pv 0) (pa_cons (pe_ix (r := rIxL K) ix_list (pe_lst (pa_cons pe_int (pa_cons pe_int (pa_cons pe_int (pa_cons pe_int pa_nil))))) (pc C__law_next (hr.mono (by decide)) (pa_cons (pv 0) (pa_cons pe_int pa_nil))) (fun _ _ => rfl)) pa_nil))))
      (pss_cons (ps_setLc (i := 3) (own := [("_law_k", 5)]) (g := gName 5) rfl sc_law_plan.nd rfl rfl (sw_true rfl rfl rfl (by decide +kernel)) (pi_range1 (by rfl) T.b_range (pa_cons (pv 2) pa_nil)) (blkOk_by (own := [("_law_k", 5)]) (N := ["_law_d", "_law_many", "_law_size", "_law_head", "_law_loop", "_law_k"]) (sc := defScope s_law_plan) (by decide +kernel)) (fun _ _ _ _ _ => (pg_name (i := 5) sc_law_plan.nd rfl (Or.inl rfl))) (fun _ _ _ _ _ => pts_nil) (fun _ _ _ _ _ => (pe_ix (r := rIxL K) ix_list (pe_lst (pa_cons pe_non (pa_cons (pc C__law_next (hr.mono (by decide)) (pa_cons (pv 0) (pa_cons (pv 1) pa_nil))) pa_nil))) (pe_callTy cl_int (by rfl) T.b_int (by decide +kernel) (pa_cons (pe_cmpR op_gt (pc C__law_next (hr.mono (by decide)) (pa_cons (pv 0) (pa_cons pe_int pa_nil))) pe_int (nomark _)) pa_nil)) (fun _ _ => rfl))))
      (pss_cons (ps_set (i := 2) sc_law_plan.nd rfl (Or.inl rfl) (pe_op op_add pe_int (pc C__law_next (hr.mono (by decide)) (pa_cons (pv 0) (pa_cons (pe_ix (r := rIxL K) ix_list (pe_lst (pa_cons pe_int (pa_cons pe_int (pa_cons pe_int (pa_cons pe_int pa_nil))))) (pc C__law_next (hr.mono (by decide)) (pa_cons (pv 0) (pa_cons pe_int pa_nil))) (fun _ _ => rfl)) pa_nil)))))
      (pss_cons (ps_setLc (i := 4) (own := [("_law_k", 5)]) (g := gName 5) rfl sc_law_plan.nd rfl rfl (sw_true rfl rfl rfl (by decide +kernel)) (pi_range1 (by rfl) T.b_range (pa_cons (pv 2) pa_nil)) (blkOk_by (own := [("_law_k", 5)]) (N := ["_law_d", "_law_many", "_law_size", "_law_head", "_law_loop", "_law_k"]) (sc := defScope s_law_plan) (by decide +kernel)) (fun _ _ _ _ _ => (pg_name (i := 5) sc_law_plan.nd rfl (Or.inl rfl))) (fun _ _ _ _ _ => pts_nil) (fun _ _ _ _ _ => (pe_ix (r := rIxL K) ix_list (pe_lst (pa_cons pe_non (pa_cons (pc C__law_next (hr.mono (by decide)) (pa_cons (pv 0) (pa_cons (pv 1) pa_nil))) pa_nil))) (pe_callTy cl_int (by rfl) T.b_int (by decide +kernel) (pa_cons (pe_cmpR op_gt (pc C__law_next (hr.mono (by decide)) (pa_cons (pv 0) (pa_cons pe_int pa_nil))) pe_int (nomark _)) pa_nil)) (fun _ _ => rfl))))
      (pss_cons (ps_if (pt_cmpR op_eq (pc C__law_next (hr.mono (by decide)) (pa_cons (pv 0) (pa_cons pe_int pa_nil))) pe_int (nomark _)) (pss_one (ps_set (i := 4) sc_law_plan.nd rfl (Or.inl rfl) (pe_op op_cat (pe_listRg rfl (by rfl) T.b_list (prg_1 (by rfl) T.b_range (pv 1))) (pe_op op_rep (pe_lst (pa_cons pe_non pa_nil)) (pc C__law_next (hr.mono (by decide)) (pa_cons (pv 0) (pa_cons pe_int pa_nil))))))) pss_nil)
      (pss_one (ps_ret (pe_tup (pa_cons (pv 3) (pa_cons (pv 4) pa_nil)))))))))), ?_⟩
    try dsimp only [cxOf, L2.Cx.nox, L2.Cx.wish]
    refine i_start (σ' := [some (.ref d), some (.int m), none, none, none, none]) rfl ?_
    have g : Gr (· = d) G0 H0 G0 H0 := Gr.refl sb
    walk_at "zrd"
    refine newL g (by first | omega | (simp; done) | (simp; omega)) fun q1 H1 nq1 zq1 s g tq1 => ?_
    have ndq1 := D.ne nq1
    have D := D.monoN s
    walk_at "zrd"
    refine i_next g D (by first | exact Or.inl rfl | exact Or.inr (by assumption)) (by omega) (by omega) fun x1 H2 s g D hx10 hx11 => ?_
    have tq1 := tq1.mono s ndq1
    walk_at "zrd"
    obtain ⟨v, hv, ha⟩ := atPick (xs := [V.int 7, V.int 7, V.int 7, V.int 41]) hx10 (by simpa using hx11)
    obtain ⟨e, rfl, he0, he8⟩ : ∃ e, v = V.int e ∧ 1 ≤ e ∧ e ≤ 41 := by
      simp only [List.mem_cons, List.not_mem_nil, or_false] at hv
      rcases hv with rfl | rfl | rfl | rfl <;> exact ⟨_, rfl, by omega, by omega⟩
    refine i_ixL (.inl (.inl tq1.h)) ha ?_
    walk_at "zrd"
    refine i_next g D (by first | exact Or.inl rfl | exact Or.inr (by assumption)) (by omega) (by omega) fun n1 H3 s g D hn10 hn11 => ?_
    walk_at "zrd"
    have gA := g
    have DA := D
    refine lcR (by omega) (by omega) (fun C i H' => ∃ (os : List (Option Int)), Gr (· = d) G0 H0 G0 H' ∧ Dice K G0 H' d ∧ At G0 H' C (.lst (os.map vO)) ∧ os.length = i ∧ ∀ o ∈ os, okT m.toNat o) ?_ ?_ ?_
    · intro C nC
      exact ⟨[], g.new nC, D.monoN (Gr.new (Gr.refl g.sub) nC), At.of g nC, rfl, by simp⟩
    · rintro C i H' nC hi ⟨os, g, D, tC, el, ok⟩
      have ndC := DA.ne nC
      walk_at "zrd"
      refine i_lcw rfl ?_
      walk_at "zrd"
      refine i_next g D (by first | exact Or.inl rfl | exact Or.inr (by assumption)) (by omega) (by omega) fun a H4 s g D ha0 ha1 => ?_
      have tC := tC.mono s ndC
      walk_at "zrd"
      refine newL g (by first | omega | (simp; done) | (simp; omega)) fun q H5 nq zq s g tq => ?_
      have ndq := D.ne nq
      have nCq := ne_of_none tC.h nq
      have D := D.monoN s
      have tC := tC.monoN s
      walk_at "zrd"
      refine i_next g D (by first | exact Or.inl rfl | exact Or.inr (by assumption)) (by omega) (by omega) fun c H6 s g D hc0 hc1 => ?_
      have tC := tC.mono s ndC
      have tq := tq.mono s ndq
      walk_at "zrd"
      have nCz := gA.fresh nC
      obtain ⟨v, hv, ha⟩ := atPick (xs := [V.non, V.int a]) (n := if decide (0 < c) = true then 1 else 0) (by split <;> omega) (by split <;> simp)
      obtain ⟨o, rfl, ho⟩ : ∃ o, v = vO o ∧ okT m.toNat o := by
        simp only [List.mem_cons, List.not_mem_nil, or_false] at hv
        rcases hv with rfl | rfl
        · exact ⟨none, rfl, fun i e => by cases e⟩
        · exact ⟨some a, rfl, fun i e => by cases e; omega⟩
      refine i_ixL (.inl (.inl tq.h)) ha ?_
      walk_at "zrd"
      refine lcp tC (by simp; omega) ?_
      refine ⟨os ++ [o], g.mut tC (.inr nCz), D.off ndC, ?_, by simp [el], ?_⟩
      · rw [List.map_append]
        exact tC.put
      · intro x hx
        rcases List.mem_append.mp hx with h | h
        · exact ok x h
        · rw [List.mem_singleton.mp h]
          exact ho
    · rintro C H' nC ⟨os, g, D, tC, el, ok⟩
      have ndC := DA.ne nC
      have nCz := gA.fresh nC
      walk_at "zrd"
      have gB := g
      obtain ⟨G1, g, D, lC, hGG⟩ : ∃ G1, Gr (· = d) G0 H0 G1 H' ∧ Dice K G1 H' d ∧ G1 C = some (.lst (os.map vO)) ∧ Same G0 G1 := ⟨_, g.close tC nCz, D.close tC ndC, upd_same, same_close tC⟩
      refine newL g (by first | omega | (simp; done) | (simp; omega)) fun q2 H4 nq2 zq2 s g tq2 => ?_
      have ndq2 := D.ne nq2
      have D := D.monoN s
      walk_at "zrd"
      refine i_next g D (by first | exact Or.inl rfl | exact Or.inr (by assumption)) (by omega) (by omega) fun x2 H5 s g D hx20 hx21 => ?_
      have tq2 := tq2.mono s ndq2
      walk_at "zrd"
      obtain ⟨v, hv, ha⟩ := atPick (xs := [V.int 9, V.int 9, V.int 9, V.int 40]) hx20 (by simpa using hx21)
      obtain ⟨e2, rfl, he20, he28⟩ : ∃ e, v = V.int e ∧ 1 ≤ e ∧ e ≤ 40 := by
        simp only [List.mem_cons, List.not_mem_nil, or_false] at hv
        rcases hv with rfl | rfl | rfl | rfl <;> exact ⟨_, rfl, by omega, by omega⟩
      refine i_ixL (.inl (.inl tq2.h)) ha ?_
      walk_at "zrd"
      refine i_next g D (by first | exact Or.inl rfl | exact Or.inr (by assumption)) (by omega) (by omega) fun n2 H6 s g D hn20 hn21 => ?_
      walk_at "zrd"
      have gC := g
      have DC := D
      refine lcR (by omega) (by omega) (fun C2 i H' => ∃ (os2 : List (Option Int)), Gr (· = d) G0 H0 G1 H' ∧ Dice K G1 H' d ∧ At G1 H' C2 (.lst (os2.map vO)) ∧ os2.length = i ∧ ∀ o ∈ os2, okT m.toNat o) ?_ ?_ ?_
      · intro C nC
        exact ⟨[], g.new nC, D.monoN (Gr.new (Gr.refl g.sub) nC), At.of g nC, rfl, by simp⟩
      · rintro C2 i H' nC hi ⟨os2, g, D, tC, el, ok⟩
        have ndC := DC.ne nC
        walk_at "zrd"
        refine i_lcw rfl ?_
        walk_at "zrd"
        refine i_next g D (by first | exact Or.inl rfl | exact Or.inr (by assumption)) (by omega) (by omega) fun a H4 s g D ha0 ha1 => ?_
        have tC := tC.mono s ndC
        walk_at "zrd"
        refine newL g (by first | omega | (simp; done) | (simp; omega)) fun q H5 nq zq s g tq => ?_
        have ndq := D.ne nq
        have nCq := ne_of_none tC.h nq
        have D := D.monoN s
        have tC := tC.monoN s
        walk_at "zrd"
        refine i_next g D (by first | exact Or.inl rfl | exact Or.inr (by assumption)) (by omega) (by omega) fun c H6 s g D hc0 hc1 => ?_
        have tC := tC.mono s ndC
        have tq := tq.mono s ndq
        walk_at "zrd"
        have nCz := gC.fresh nC
        obtain ⟨v, hv, ha⟩ := atPick (xs := [V.non, V.int a]) (n := if decide (0 < c) = true then 1 else 0) (by split <;> omega) (by split <;> simp)
        obtain ⟨o, rfl, ho⟩ : ∃ o, v = vO o ∧ okT m.toNat o := by
          simp only [List.mem_cons, List.not_mem_nil, or_false] at hv
          rcases hv with rfl | rfl
          · exact ⟨none, rfl, fun i e => by cases e⟩
          · exact ⟨some a, rfl, fun i e => by cases e; omega⟩
        refine i_ixL (.inl (.inl tq.h)) ha ?_
        walk_at "zrd"
        refine lcp tC (by simp; omega) ?_
        refine ⟨os2 ++ [o], g.mut tC (.inr nCz), D.off ndC, ?_, by simp [el], ?_⟩
        · rw [List.map_append]
          exact tC.put
        · intro x hx
          rcases List.mem_append.mp hx with h | h
          · exact ok x h
          · rw [List.mem_singleton.mp h]
            exact ho
      · rintro C2 H' nC2 ⟨os2, g, D, tC2, el2, ok2⟩
        have ndC2 := DC.ne nC2
        have nCz2 := gC.fresh nC2
        walk_at "zrd"
        obtain ⟨G2, g, D, lC2, hGG2⟩ : ∃ G2, Gr (· = d) G0 H0 G2 H' ∧ Dice K G2 H' d ∧ G2 C2 = some (.lst (os2.map vO)) ∧ Same G1 G2 := ⟨_, g.close tC2 nCz2, D.close tC2 ndC2, upd_same, same_close tC2⟩
        have lC := hGG2 _ _ lC
        refine i_next g D (by first | exact Or.inl rfl | exact Or.inr (by assumption)) (by omega) (by omega) fun y H7 s g D hy0 hy1 => ?_
        walk_at "zrd"
        refine i_ite (fun hy => ?_) (fun hy => ?_)
        · walk_at "zrd"
          have hrg : (rgV 0 m).length = m.toNat := by rw [rgV_length, Int.sub_zero]
          refine lrg (by omega) (by omega) ?_
          refine newL g (by first | omega | (simp; done) | (simp; omega)) fun q3 H8 nq3 zq3 s g tq3 => ?_
          have ndq3 := D.ne nq3
          have D := D.monoN s
          walk_at "zrd"
          refine newL g (by first | omega | (simp; done) | (simp; omega)) fun q4 H9 nq4 zq4 s g tq4 => ?_
          have ndq4 := D.ne nq4
          have nq3q4 := ne_of_none tq3.h nq4
          have D := D.monoN s
          have tq3 := tq3.monoN s
          walk_at "zrd"
          refine i_next g D (by first | exact Or.inl rfl | exact Or.inr (by assumption)) (by omega) (by omega) fun z H10 s g D hz0 hz1 => ?_
          have tq3 := tq3.mono s ndq3
          have tq4 := tq4.mono s ndq4
          walk_at "zrd"
          refine i_rep tq4.h (by omega) (by omega) (by show 1 * z.toNat ≤ 100000; omega) ?_
          refine newL g (by first | omega | (simp; done) | (simp; omega)) fun q5 H11 nq5 zq5 s g tq5 => ?_
          have ndq5 := D.ne nq5
          have nq3q5 := ne_of_none tq3.h nq5
          have D := D.monoN s
          have tq3 := tq3.monoN s
          walk_at "zrd"
          refine i_cat tq3.h tq5.h ?_
          have e : rgV 0 m ++ (List.replicate z.toNat [V.non]).flatten = ((List.range m.toNat).map (fun i => some ((i : Nat) : Int)) ++ List.replicate z.toNat none).map vO := by
            rw [List.map_append, List.map_map, List.map_replicate, List.flatten_replicate_singleton]
            congr 1
            unfold rgV
            rw [Int.sub_zero]
            refine List.map_congr_left fun i _ => ?_
            show V.int (0 + (i : Nat)) = vO (some ((i : Nat) : Int))
            rw [Int.zero_add]
            rfl
          rw [e]
          refine newLC g (by first | omega | (simp; done) | (simp; omega)) fun q6 G3 H12 nq6 zq6 s g tq6 => ?_
          have ndq6 := D.ne nq6
          have D := D.monoN s
          have lC := s.gg _ _ lC
          walk_at "zrd"
          refine newT (K := K) g (by first | omega | (simp; done) | (simp; omega)) fun p G4 H13 np zp s g tp => ?_
          have ndp := D.ne np
          have D := D.monoN s
          have lC := s.gg _ _ lC
          have tq6 := s.gg _ _ tq6
          walk_at "zrd"
          refine k _ _ p _ _ g D ⟨C, q6, tp, lC, tq6⟩ ⟨by omega, by simp; omega, by simp; omega, ok, fun o ho => ?_⟩ (by omega) (by simp; omega)
          rcases List.mem_append.mp ho with h | h
          · obtain ⟨i, hi, rfl⟩ := List.mem_map.mp h
            intro j ej
            cases ej
            have := List.mem_range.mp hi
            omega
          · rw [(List.mem_replicate.mp h).2]
            intro j ej
            cases ej
        · walk_at "zrd"
          refine newT (K := K) g (by first | omega | (simp; done) | (simp; omega)) fun p G4 H13 np zp s g tp => ?_
          have ndp := D.ne np
          have D := D.monoN s
          have lC := s.gg _ _ lC
          have lC2 := s.gg _ _ lC2
          walk_at "zrd"
          exact k _ _ p _ _ g D ⟨C, C2, tp, lC, lC2⟩ ⟨by omega, by omega, by omega, ok, ok2⟩ (by omega) (by omega)
end
end Z
set_option Elab.async false
set_option linter.all false
set_option maxRecDepth 100000
set_option maxHeartbeats 4000000
namespace Z
open PySem PySem.Spec PyProof.Rows L2
local macro_rules | `(tactic| walk_at "zrd") => `(tactic| (repeat (first | ((with_reducible apply i_var); (· exact rfl)) | with_reducible refine i_c ?_ | with_reducible refine i_op ?_ | with_reducible refine i_I0 ?_ | with_reducible refine i_eqI ?_ | with_reducible refine i_neI ?_ | with_reducible refine i_test ?_ | with_reducible refine i_cons ?_ | with_reducible refine i_nil ?_ | with_reducible refine i_seq ?_ | with_reducible refine i_nx ?_ | with_reducible refine i_rt ?_ | with_reducible refine i_pass ?_ | with_reducible refine i_asg ?_ | with_reducible refine i_gname ?_ | with_reducible refine i_ret ?_ | with_reducible refine i_drop ?_ | with_reducible refine i_ifS ?_ | with_reducible refine i_if ?_ | with_reducible refine i_not ?_ | with_reducible refine i_and ?_ | with_reducible refine i_or ?_ | with_reducible refine i_lst ?_ | with_reducible refine i_tup ?_ | with_reducible refine i_cb ?_ | with_reducible refine i_call ?_ | with_reducible refine i_gsub ?_ | with_reducible refine i_B ?_ | with_reducible refine i_un ?_ | with_reducible refine i_U ?_ | with_reducible refine i_eqOI ?_ | with_reducible refine i_eqIO ?_ | with_reducible refine i_forL ?_ | with_reducible refine i_forT ?_ | with_reducible refine i_forR ?_ | with_reducible refine i_forR2 ?_ | with_reducible refine i_forR3 ?_ | with_reducible refine i_forE ?_ | with_reducible refine i_lcL ?_ | with_reducible refine i_lcT ?_ | with_reducible refine i_lcR ?_ | with_reducible refine i_yes ?_ | with_reducible refine i_lce ?_ | with_reducible refine i_lcf ?_ | with_reducible refine i_gcons ?_ | with_reducible refine i_gnil ?_ | with_reducible refine i_chain ?_ | with_reducible refine i_t ?_ | with_reducible refine i_f ?_ | with_reducible refine i_nt ?_ | with_reducible refine i_nf ?_ | with_reducible refine i_bm ?_ | with_reducible refine i_bm0 ?_ | with_reducible refine i_and2 ?_ | with_reducible refine i_or2 ?_ | with_reducible refine i_intI ?_ | with_reducible refine i_intB ?_ | with_reducible refine i_sl ?_ | with_reducible refine i_part ?_ | with_reducible refine i_nopart ?_ | with_reducible refine i_cut ?_ | with_reducible refine i_lrg ?_ | with_reducible refine i_make ?_ | with_reducible refine i_meth ?_ | with_reducible refine i_fld ?_ | with_reducible refine i_sfld ?_ | with_reducible refine i_dnew ?_ | with_reducible refine i_par3 ?_ | with_reducible refine i_par3e ?_ | with_reducible refine i_par2 ?_ | with_reducible refine i_par2e ?_ | with_reducible refine i_dput ?_ | with_reducible refine i_dget2 ?_ | with_reducible refine i_din ?_ | with_reducible refine i_dget ?_ | with_reducible refine i_isO ?_ | with_reducible refine i_isR ?_ | with_reducible refine i_isN ?_ | with_reducible refine i_isI ?_ | with_reducible refine i_noO ?_ | with_reducible refine i_noR ?_ | with_reducible refine i_noN ?_ | with_reducible refine i_noI ?_ | with_reducible refine (show ∃ k, V.bl _ = V.bl k ∧ _ from ⟨_, rfl, ?_⟩) | with_reducible refine (show ∃ k, V.int _ = V.int k ∧ _ from ⟨_, rfl, ?_⟩) | ((with_reducible apply i_ixL); (· assumption); (· exact rfl)) | ((with_reducible apply i_ixT); (· assumption); (· exact rfl)) | ((with_reducible apply i_lenL); (· assumption)) | ((with_reducible apply i_lenT); (· assumption)) | ((with_reducible apply i_I); (· (first | omega | (dsimp only; omega) | exact ⟨by omega, by omega⟩ | exact Or.inr ⟨by omega, by omega⟩ | exact Or.inl ⟨by omega, by omega⟩ | exact ⟨by decide, by decide, by decide⟩))) | ((with_reducible apply i_gtup); (· assumption); (· rfl)) | ((with_reducible apply i_p); (· omega)) | ((with_reducible apply i_n); (· omega)) | ((with_reducible apply i_np); (· omega)) | ((with_reducible apply i_nn); (· omega)) | ((with_reducible apply i_lcP); (· omega)) | ((with_reducible apply i_lcN); (· omega)) | ((with_reducible apply i_lcnP); (· omega)) | ((with_reducible apply i_lcnN); (· omega)))))
section
variable {P : Program} {w : World} {K : PySem.W.Frag} {mg : Str → Option Value} {base : Heap} {f : Addr} {fd : FuncData} {C : Addr}
abbrev sMemory___init__ : Stmt := inClass (topS 13) 0
theorem scMemory___init__ : FnScope ["self", "words", "number", "wide", "bears", "gap"] ["self", "words"] (defScope sMemory___init__) := ⟨rfl, rfl, rfl, by decide +kernel, rfl, by decide +kernel, by decide +kernel⟩
abbrev sMemory_words : Stmt := inClass (topS 13) 1
theorem scMemory_words : FnScope ["self"] ["self"] (defScope sMemory_words) := ⟨rfl, rfl, rfl, by decide +kernel, rfl, by decide +kernel, by decide +kernel⟩
theorem ok_init (T : Txt K mg) (cl : Cls K C) (na : NoAttr K C "kept") (F : Fun K "__init__" "Memory.__init__" sMemory___init__ f fd) : FnOk P w K mg base CX0 1 f fd ["self", "words"] (spInit K C) := by
  refine F.ok scMemory___init__ (fun vs H Q E h => ?_) (fun cdv A outer s H0 vs Q E hr h => ?_)
  · obtain ⟨G, p, dx, l, ws, rfl, _⟩ := h
    rfl
  · obtain ⟨G0, p, dx, l, ws, rfl, sb, tp, hw, ok, k⟩ := h
    refine ⟨_, (pss_cons (ps_if (pt_not (pt_chain op_le op_le pe_int (pe_callB (r := rLen K) cl_len (by rfl) T.b_len (by decide +kernel) (pa_cons (pv 1) pa_nil)) (pgc T.c_MOST_WORDS))) (pss_one ps_never) pss_nil)
      (pss_cons (ps_for PassesOwn.never rfl (pi_range1 (by rfl) T.b_range (pa_cons (pe_callB (r := rLen K) cl_len (by rfl) T.b_len (by decide +kernel) (pa_cons (pv 1) pa_nil)) pa_nil)) (pg_name (i := 2) scMemory___init__.nd rfl (Or.inl rfl)) (pss_cons (ps_asg (pe_ix (r := rIxL K) ix_list (pv 1) (pv 2) (fun _ _ => rfl)) (pg_tup rfl (pgs_cons (pg_name (i := 3) scMemory___init__.nd rfl (Or.inl rfl)) (pgs_cons (pg_name (i := 4) scMemory___init__.nd rfl (Or.inl rfl)) (pgs_cons (pg_name (i := 5) scMemory___init__.nd rfl (Or.inl rfl)) pgs_nil)))))
      (pss_one (ps_if (PW.pt (pw_or (pt_not (pt_chain op_le op_le pe_int (pv 3) (pgc T.c_MOST_WIDE))) (pw_or (pt_not (pt_chain op_le op_le pe_int (pv 4) (pgc T.c_MOST_WIDE))) (pw_or1 (pt_not (pt_chain op_le op_le pe_int (pv 5) (pgc T.c_MOST_GAP))))))) (pss_one ps_never) pss_nil))))
      (pss_one (ps_fld (pv 0) (pe_callTy (r := rList K) cl_list (by rfl) T.b_list (by decide +kernel) (pa_cons (pv 1) pa_nil)) rfl)))), ?_⟩
    try dsimp only [cxOf, L2.Cx.nox, L2.Cx.wish]
    refine i_start (σ' := [some (.ref p), some (.ref l), none, none, none, none]) rfl ?_
    have g : Gr (· = p) G0 H0 G0 H0 := Gr.refl sb
    obtain ⟨as, hl, pr⟩ := id hw
    have hl1 : SqL K H0 l (as.map V.ref) := ls hl g.sub
    have e1 : (as.map V.ref).length = ws.length := by rw [List.length_map, Paired.len pr, List.length_map]
    have l1 := ok.l1
    have l4 := ok.l4
    walk_at "zrd"
    refine forR (by omega) (by omega) (fun i σ H' => ∃ (v2 v3 v4 v5 : Option V), σ = [some (.ref p), some (.ref l), v2, v3, v4, v5] ∧ H' = H0) ⟨none, none, none, none, rfl, rfl⟩ ?_ ?_
    · rintro i σ H' hi ⟨v2, v3, v4, v5, rfl, rfl⟩
      have hi2 : i < ws.length := by omega
      obtain ⟨a, ha, ht⟩ := word_at pr (List.getElem?_eq_getElem hi2)
      have ht := sqt g.sub ht
      obtain ⟨o1, o2, o3, o4, o5, o6⟩ := ok.ok ws[i] (List.getElem_mem hi2)
      walk_at "zrd"
      refine i_ixL hl1 (atN (k := i) rfl ha) ?_
      walk_at "zrd"
      exact ⟨_, _, _, _, rfl, rfl⟩
    · rintro σ H' ⟨v2, v3, v4, v5, rfl, rfl⟩
      walk_at "zrd"
      refine i_listL hl1 (by rw [e1]; exact Nat.le_of_lt (small1000 (by omega))) ?_
      refine newLC g (by first | omega | (simp; done) | (simp; omega)) fun l2 G2 H2 nl2 zl2 s g tl2 => ?_
      have npl2 := ne_of_none tp.h nl2
      have tp := tp.monoN s
      walk_at "zrd"
      refine sfld tp cl na (by show 0 < 1000; decide) ?_
      walk_at "zrd"
      exact k l2 G2 _ (g.mut tp (.inl rfl)) tp.put ⟨as, tl2, prt s.gg pr⟩
theorem ok_words (T : Txt K mg) (cl : Cls K C) (na : NoAttr K C "kept") (F : Fun K "words" "Memory.words" sMemory_words f fd) : FnOk P w K mg base CX0 1 f fd ["self"] (spWords K C) := by
  refine F.ok scMemory_words (fun vs H Q E h => ?_) (fun cdv A outer s H0 vs Q E hr h => ?_)
  · obtain ⟨G, m, ws, rfl, _⟩ := h
    rfl
  · obtain ⟨G0, m, ws, rfl, sb, ⟨dx, l, hm, ⟨as, hl, pr⟩, ok⟩, k⟩ := h
    refine ⟨_, (pss_one (ps_ret (pe_callTy (r := rList K) cl_list (by rfl) T.b_list (by decide +kernel) (pa_cons (pe_fld (pv 0) rfl) pa_nil)))), ?_⟩
    try dsimp only [cxOf, L2.Cx.nox, L2.Cx.wish]
    refine i_start (σ' := [some (.ref m)]) rfl ?_
    have g : Gr No G0 H0 G0 H0 := Gr.refl sb
    walk_at "zrd"
    refine fld (g.sub _ _ hm) cl na (fK_look l) ?_
    walk_at "zrd"
    have e1 : (as.map V.ref).length = ws.length := by rw [List.length_map, Paired.len pr, List.length_map]
    have l4 := ok.l4
    refine i_listL (ls (K := K) hl g.sub) (by rw [e1]; exact Nat.le_of_lt (small1000 (by omega))) ?_
    refine newL g (by first | omega | (simp; done) | (simp; omega)) fun p H2 np zp s g tp => ?_
    walk_at "zrd"
    exact k p as H2 np g tp pr
end
end Z
set_option Elab.async false
set_option linter.all false
set_option maxRecDepth 100000
set_option maxHeartbeats 4000000
namespace Z
open PySem PySem.Spec PyProof.Rows L2
local macro_rules | `(tactic| walk_at "zrd") => `(tactic| (repeat (first | ((with_reducible apply i_var); (· exact rfl)) | with_reducible refine i_c ?_ | with_reducible refine i_op ?_ | with_reducible refine i_I0 ?_ | with_reducible refine i_eqI ?_ | with_reducible refine i_neI ?_ | with_reducible refine i_test ?_ | with_reducible refine i_cons ?_ | with_reducible refine i_nil ?_ | with_reducible refine i_seq ?_ | with_reducible refine i_nx ?_ | with_reducible refine i_rt ?_ | with_reducible refine i_pass ?_ | with_reducible refine i_asg ?_ | with_reducible refine i_gname ?_ | with_reducible refine i_ret ?_ | with_reducible refine i_drop ?_ | with_reducible refine i_ifS ?_ | with_reducible refine i_if ?_ | with_reducible refine i_not ?_ | with_reducible refine i_and ?_ | with_reducible refine i_or ?_ | with_reducible refine i_lst ?_ | with_reducible refine i_tup ?_ | with_reducible refine i_cb ?_ | with_reducible refine i_call ?_ | with_reducible refine i_gsub ?_ | with_reducible refine i_B ?_ | with_reducible refine i_un ?_ | with_reducible refine i_U ?_ | with_reducible refine i_eqOI ?_ | with_reducible refine i_eqIO ?_ | with_reducible refine i_forL ?_ | with_reducible refine i_forT ?_ | with_reducible refine i_forR ?_ | with_reducible refine i_forR2 ?_ | with_reducible refine i_forR3 ?_ | with_reducible refine i_forE ?_ | with_reducible refine i_lcL ?_ | with_reducible refine i_lcT ?_ | with_reducible refine i_lcR ?_ | with_reducible refine i_yes ?_ | with_reducible refine i_lce ?_ | with_reducible refine i_lcf ?_ | with_reducible refine i_gcons ?_ | with_reducible refine i_gnil ?_ | with_reducible refine i_chain ?_ | with_reducible refine i_t ?_ | with_reducible refine i_f ?_ | with_reducible refine i_nt ?_ | with_reducible refine i_nf ?_ | with_reducible refine i_bm ?_ | with_reducible refine i_bm0 ?_ | with_reducible refine i_and2 ?_ | with_reducible refine i_or2 ?_ | with_reducible refine i_intI ?_ | with_reducible refine i_intB ?_ | with_reducible refine i_sl ?_ | with_reducible refine i_part ?_ | with_reducible refine i_nopart ?_ | with_reducible refine i_cut ?_ | with_reducible refine i_lrg ?_ | with_reducible refine i_make ?_ | with_reducible refine i_meth ?_ | with_reducible refine i_fld ?_ | with_reducible refine i_sfld ?_ | with_reducible refine i_dnew ?_ | with_reducible refine i_par3 ?_ | with_reducible refine i_par3e ?_ | with_reducible refine i_par2 ?_ | with_reducible refine i_par2e ?_ | with_reducible refine i_dput ?_ | with_reducible refine i_dget2 ?_ | with_reducible refine i_din ?_ | with_reducible refine i_dget ?_ | with_reducible refine i_isO ?_ | with_reducible refine i_isR ?_ | with_reducible refine i_isN ?_ | with_reducible refine i_isI ?_ | with_reducible refine i_noO ?_ | with_reducible refine i_noR ?_ | with_reducible refine i_noN ?_ | with_reducible refine i_noI ?_ | with_reducible refine (show ∃ k, V.bl _ = V.bl k ∧ _ from ⟨_, rfl, ?_⟩) | with_reducible refine (show ∃ k, V.int _ = V.int k ∧ _ from ⟨_, rfl, ?_⟩) | ((with_reducible apply i_ixL); (· assumption); (· exact rfl)) | ((with_reducible apply i_ixT); (· assumption); (· exact rfl)) | ((with_reducible apply i_lenL); (· assumption)) | ((with_reducible apply i_lenT); (· assumption)) | ((with_reducible apply i_I); (· (first | omega | (dsimp only; omega) | exact ⟨by omega, by omega⟩ | exact Or.inr ⟨by omega, by omega⟩ | exact Or.inl ⟨by omega, by omega⟩ | exact ⟨by decide, by decide, by decide⟩))) | ((with_reducible apply i_gtup); (· assumption); (· rfl)) | ((with_reducible apply i_p); (· omega)) | ((with_reducible apply i_n); (· omega)) | ((with_reducible apply i_np); (· omega)) | ((with_reducible apply i_nn); (· omega)) | ((with_reducible apply i_lcP); (· omega)) | ((with_reducible apply i_lcN); (· omega)) | ((with_reducible apply i_lcnP); (· omega)) | ((with_reducible apply i_lcnN); (· omega)))))
section
variable {P : Program} {w : World} {K : PySem.W.Frag} {mg : Str → Option Value} {base : Heap} {f : Addr} {fd : FuncData} {C : Addr}
abbrev sneed_load : Stmt := topS 15
theorem scneed_load : FnScope ["load", "one"] ["load"] (defScope sneed_load) := ⟨rfl, rfl, rfl, by decide +kernel, rfl, by decide +kernel, by decide +kernel⟩
abbrev sneed_plan : Stmt := topS 16
theorem scneed_plan : FnScope ["memory", "plan", "head", "loop", "word"] ["memory", "plan"] (defScope sneed_plan) := ⟨rfl, rfl, rfl, by decide +kernel, rfl, by decide +kernel, by decide +kernel⟩
abbrev smended_at : Stmt := topS 19
theorem scmended_at : FnScope ["load", "plan", "beats", "head", "loop", "found", "at", "beat", "word"] ["load", "plan", "beats"] (defScope smended_at) := ⟨rfl, rfl, rfl, by decide +kernel, rfl, by decide +kernel, by decide +kernel⟩
theorem ok_need_load (T : Txt K mg) (F : Fun K "need_load" "need_load" sneed_load f fd) : FnOk P w K mg base CX0 1 f fd ["load"] (spNeedLoad K) := by
  refine F.ok scneed_load (fun vs H Q E h => ?_) (fun cdv A outer s H0 vs Q E hr h => ?_)
  · obtain ⟨G, a, ld, rfl, _⟩ := h
    rfl
  · obtain ⟨G0, a, ld, rfl, sb, hl, ok, k⟩ := h
    refine ⟨_, (pss_one (ps_if (PW.pt (pw_or (pt_not (pt_chain op_le op_le pe_int (pe_callB (r := rLen K) cl_len (by rfl) T.b_len (by decide +kernel) (pa_cons (pv 0) pa_nil)) (pgc T.c_MOST_LOAD))) (pw_or (pt_cmpR (r := rNeD K) (op_neD hr.units) (pe_lc (own := [("one", 1)]) (g := gName 1) rfl scneed_load.nd (pi_list (pv 0)) (blkOk_by (own := [("one", 1)]) (N := ["load", "one"]) (sc := defScope sneed_load) (by decide +kernel)) (fun _ _ _ _ _ => (pg_name (i := 1) scneed_load.nd rfl (Or.inl rfl))) (fun _ _ _ _ _ => (pts_one (pt_cmpR (r := rIn K true) op_notIn_seq (pv 1) (pe_tup (pa_cons pe_int (pa_cons pe_int pa_nil))) rfl))) (fun _ _ _ _ _ => (pv 1))) (pe_lst pa_nil) (nomark _)) (pw_or1 (pt_cmpR (r := rIn K true) op_notIn_seq pe_int (pv 0) rfl))))) (pss_one ps_never) pss_nil)), ?_⟩
    try dsimp only [cxOf, L2.Cx.nox, L2.Cx.wish]
    refine i_start (σ' := [some (.ref a), none]) rfl ?_
    have g : Gr No G0 H0 G0 H0 := Gr.refl sb
    have l1 := ok.l1
    have l12 := ok.l12
    have hlen : (ld.map V.int).length = ld.length := List.length_map _
    have hL : SqL K H0 a (ld.map V.int) := ls hl g.sub
    walk_at "zrd"
    refine lcL hL (fun D i H' => Gr No G0 H0 G0 H' ∧ At G0 H' D (.lst [])) ?_ ?_ ?_ ?_
    · intro D nD
      exact ⟨g.new nD, At.of g nD⟩
    · rintro D i H' nD ⟨g, tD⟩
      exact ls hl g.sub
    · rintro D i x H' nD hx ⟨g, tD⟩
      obtain ⟨z, hz, rfl⟩ := map_at hx
      walk_at "zrd"
      refine i_lcw rfl ?_
      walk_at "zrd"
      refine newTO g (by first | omega | (simp; done) | (simp; omega)) fun t H2 nt zt s g tt => ?_
      have nDt := ne_of_none tD.h nt
      have tD := tD.monoN s
      walk_at "zrd"
      refine i_niT1 (.inl (.inl tt.h)) rfl rfl ?_ ?_
      · rcases ok.bit z (List.mem_of_getElem? hz) with rfl | rfl <;> rfl
      walk_at "zrd"
      exact ⟨g, tD⟩
    · rintro D H' nD ⟨g, tD⟩
      walk_at "zrd"
      refine newL g (by first | omega | (simp; done) | (simp; omega)) fun e H2 ne ze s g te => ?_
      have nDe := ne_of_none tD.h ne
      have tD := tD.monoN s
      walk_at "zrd"
      refine i_neD1 (dp_nil (.inl (.inl tD.h))) (dp_nil (.inl (.inl te.h))) (dk_ints (k := 0) []) (by decide) ?_
      walk_at "zrd"
      refine i_niL1 (ls hl g.sub) rfl (flat_ints ld) (by rw [inV_ints]; exact decide_eq_true ok.free) ?_
      walk_at "zrd"
      exact k _ g
theorem ok_need_plan (T : Txt K mg) (C_words : CalMt P w K mg base C "words" 1 ["self"] (spWords K C)) (F : Fun K "need_plan" "need_plan" sneed_plan f fd) : FnOk P w K mg base CX0 2 f fd ["memory", "plan"] (spNeedPlan K C) := by
  refine F.ok scneed_plan (fun vs H Q E h => ?_) (fun cdv A outer s H0 vs Q E hr h => ?_)
  · obtain ⟨G, m, p, ws, hd, lp, rfl, _⟩ := h
    rfl
  · obtain ⟨G0, m, p, ws, hd, lp, rfl, sb, M, ⟨a, b, hp, ha, hb⟩, ok, k⟩ := h
    refine ⟨_, (pss_cons (ps_asg (pv 1) (pg_tup rfl (pgs_cons (pg_name (i := 2) scneed_plan.nd rfl (Or.inl rfl)) (pgs_cons (pg_name (i := 3) scneed_plan.nd rfl (Or.inl rfl)) pgs_nil))))
      (pss_cons (ps_if (PW.pt (pw_or (pt_cmpR op_eq (pe_callB (r := rLen K) cl_len (by rfl) T.b_len (by decide +kernel) (pa_cons (pv 3) pa_nil)) pe_int (nomark _)) (pw_or (pt_cmpR op_gt (pe_callB (r := rLen K) cl_len (by rfl) T.b_len (by decide +kernel) (pa_cons (pv 2) pa_nil)) (pgc T.c_MOST_PLAN) (nomark _)) (pw_or1 (pt_cmpR op_gt (pe_callB (r := rLen K) cl_len (by rfl) T.b_len (by decide +kernel) (pa_cons (pv 3) pa_nil)) (pgc T.c_MOST_PLAN) (nomark _)))))) (pss_one ps_never) pss_nil)
      (pss_one (ps_if (pt_cmpR (r := rNeD K) (op_neD hr.units) (pe_lc (own := [("word", 4)]) (g := gName 4) rfl scneed_plan.nd (pi_list (pe_op op_cat (pv 2) (pv 3))) (blkOk_by (own := [("word", 4)]) (N := ["memory", "plan", "head", "loop", "word"]) (sc := defScope sneed_plan) (by decide +kernel)) (fun _ _ _ _ _ => (pg_name (i := 4) scneed_plan.nd rfl (Or.inl rfl))) (fun _ _ _ _ _ => (pts_one (PW.pt (pw_and (pt_cmpR op_notNz (pv 4) pe_non (nomark _)) (pw_and1 (pt_not (pt_chain op_le op_lt pe_int (pv 4) (pe_callB (r := rLen K) cl_len (by rfl) T.b_len (by decide +kernel) (pa_cons (pmt C_words (hr.mono (by decide)) (pv 0)) pa_nil))))))))) (fun _ _ _ _ _ => (pv 4))) (pe_lst pa_nil) (nomark _)) (pss_one ps_never) pss_nil)))), ?_⟩
    try dsimp only [cxOf, L2.Cx.nox, L2.Cx.wish]
    refine i_start (σ' := [some (.ref m), some (.ref p), none, none, none]) rfl ?_
    have g : Gr No G0 H0 G0 H0 := Gr.refl sb
    obtain ⟨h40, l1, l40, hok, lok⟩ := id ok
    have e1 : (hd.map vO).length = hd.length := List.length_map _
    have e2 : (lp.map vO).length = lp.length := List.length_map _
    have hp1 := sqt (K := K) g.sub hp
    have ha1 : SqL K H0 a (hd.map vO) := ls ha g.sub
    have hb1 : SqL K H0 b (lp.map vO) := ls hb g.sub
    walk_at "zrd"
    refine i_cat (g.sub _ _ ha) (g.sub _ _ hb) ?_
    rw [← List.map_append]
    refine newL g (by first | omega | (simp; done) | (simp; omega)) fun c H1 nc zc s g tc => ?_
    walk_at "zrd"
    have gA := g
    have ec : ((hd ++ lp).map vO).length = hd.length + lp.length := by rw [List.length_map, List.length_append]
    refine lcL (.inl (.inl tc.h)) (fun D i H' => Gr No G0 H0 G0 H' ∧ At G0 H' D (.lst []) ∧ At G0 H' c (.lst ((hd ++ lp).map vO))) ?_ ?_ ?_ ?_
    · intro D nD
      exact ⟨g.new nD, At.of g nD, tc.new nD⟩
    · rintro D i H' nD ⟨g, tD, tc⟩
      exact .inl (.inl tc.h)
    · rintro D i x H' nD hx ⟨g, tD, tc⟩
      obtain ⟨o, ho, rfl⟩ := map_at hx
      have hok2 : okT ws.length o := by
        rcases List.mem_append.mp (List.mem_of_getElem? ho) with h | h
        · exact hok o h
        · exact lok o h
      walk_at "zrd"
      refine i_lcw rfl ?_
      walk_at "zrd"
      cases o with
      | none =>
        refine i_np rfl ?_
        walk_at "zrd"
        exact ⟨g, tD, tc⟩
      | some j =>
        refine i_nn (by simp) ?_
        obtain ⟨j0, j1⟩ := hok2 j rfl
        dsimp only [vO]
        walk_at "zrd"
        refine i_words g (M.mono (fun _ _ h => h)) fun q as H5 nq s g tq pr => ?_
        have tD := tD.monoN s
        have tc := tc.monoN s
        have e5 : (as.map V.ref).length = ws.length := by rw [List.length_map, Paired.len pr, List.length_map]
        have hq : SqL K H5 q (as.map V.ref) := .inl (.inl tq.h)
        walk_at "zrd"
        exact ⟨g, tD, tc⟩
    · rintro D H' nD ⟨g, tD, tc⟩
      walk_at "zrd"
      refine newL g (by first | omega | (simp; done) | (simp; omega)) fun e H2 ne ze s g te => ?_
      have nDe := ne_of_none tD.h ne
      have tD := tD.monoN s
      walk_at "zrd"
      refine i_neD1 (dp_nil (.inl (.inl tD.h))) (dp_nil (.inl (.inl te.h))) (dk_ints (k := 0) []) (by decide) ?_
      walk_at "zrd"
      exact k _ g
theorem ok_mended (T : Txt K mg) (F : Fun K "mended_at" "mended_at" smended_at f fd) : FnOk P w K mg base CX0 1 f fd ["load", "plan", "beats"] (spMended K) := by
  refine F.ok scmended_at (fun vs H Q E h => ?_) (fun cdv A outer s H0 vs Q E hr h => ?_)
  · obtain ⟨G, a, p, n, ld, hd, lp, j, rfl, _⟩ := h
    rfl
  · obtain ⟨G0, l, p, n, ld, hd, lp, j, rfl, sb, hl, okl, ⟨a, b, hp, ha, hb⟩, ok, n0, n1, k⟩ := h
    refine ⟨_, (pss_cons (ps_asg (pv 1) (pg_tup rfl (pgs_cons (pg_name (i := 3) scmended_at.nd rfl (Or.inl rfl)) (pgs_cons (pg_name (i := 4) scmended_at.nd rfl (Or.inl rfl)) pgs_nil))))
      (pss_cons (ps_set (i := 5) scmended_at.nd rfl (Or.inl rfl) (pe_lst pa_nil))
      (pss_cons (ps_set (i := 6) scmended_at.nd rfl (Or.inl rfl) pe_int)
      (pss_cons (ps_for PassesOwn.never rfl (pi_range1 (by rfl) T.b_range (pa_cons (pv 2) pa_nil)) (pg_name (i := 7) scmended_at.nd rfl (Or.inl rfl)) (pss_cons (ps_set (i := 8) scmended_at.nd rfl (Or.inl rfl) pe_non)
      (C8.pss_cut (ps_if (pt_cmpR op_eq (pe_ix (r := rIxL K) ix_list (pv 0) (pe_op op_mod (pv 7) (pe_callB (r := rLen K) cl_len (by rfl) T.b_len (by decide +kernel) (pa_cons (pv 0) pa_nil))) (fun _ _ => rfl)) pe_int (nomark _)) (pss_cons (ps_set (i := 8) scmended_at.nd rfl (Or.inl rfl) (pe_ifExp (pt_cmpR op_lt (pv 6) (pe_callB (r := rLen K) cl_len (by rfl) T.b_len (by decide +kernel) (pa_cons (pv 3) pa_nil)) (nomark _)) (pe_ix (r := rIxL K) ix_list (pv 3) (pv 6) (fun _ _ => rfl)) (pe_ix (r := rIxL K) ix_list (pv 4) (pe_op op_mod (pe_op op_sub (pv 6) (pe_callB (r := rLen K) cl_len (by rfl) T.b_len (by decide +kernel) (pa_cons (pv 3) pa_nil))) (pe_callB (r := rLen K) cl_len (by rfl) T.b_len (by decide +kernel) (pa_cons (pv 4) pa_nil))) (fun _ _ => rfl))))
      (pss_one (ps_set (i := 6) scmended_at.nd rfl (Or.inl rfl) (pe_op op_add (pv 6) pe_int)))) pss_nil)
      (pss_one (ps_expr (pe_bm PySem.F.plainAttrs_list PySem.F.slot_list_append PySem.F.type_list_append mt_append (pv 5) (pa_cons (pv 8) pa_nil)))))))
      (pss_one (ps_ret (pv 5))))))), ?_⟩
    try dsimp only [cxOf, L2.Cx.nox, L2.Cx.wish]
    refine i_start (σ' := [some (.ref l), some (.ref p), some (.int n), none, none, none, none, none, none]) rfl ?_
    have g : Gr No G0 H0 G0 H0 := Gr.refl sb
    obtain ⟨h40, l1, l40, hok, lok⟩ := id ok
    have L1 := okl.l1
    have L12 := okl.l12
    have e0 : (ld.map V.int).length = ld.length := List.length_map _
    have e1 : (hd.map vO).length = hd.length := List.length_map _
    have e2 : (lp.map vO).length = lp.length := List.length_map _
    have hp1 := sqt (K := K) g.sub hp
    walk_at "zrd"
    refine newL g (by first | omega | (simp; done) | (simp; omega)) fun q H1 nq zq s g tq => ?_
    walk_at "zrd"
    refine forR n0 (by omega) (fun i σ H' => ∃ (v7 v8 : Option V), σ = [some (.ref l), some (.ref p), some (.int n), some (.ref a), some (.ref b), some (.ref q), some (.int (fr ld i : Nat)), v7, v8] ∧ Gr No G0 H0 G0 H' ∧ At G0 H' q (.lst ((mends ld hd lp i).map vO))) ⟨none, none, rfl, g, tq⟩ ?_ ?_
    · rintro i σ H' hi ⟨v7, v8, rfl, g, tq⟩
      have hl1 : SqL K H' l (ld.map V.int) := ls hl g.sub
      have ha1 : SqL K H' a (hd.map vO) := ls ha g.sub
      have hb1 : SqL K H' b (lp.map vO) := ls hb g.sub
      have hm : i % ld.length < ld.length := Nat.mod_lt _ (by omega)
      have eml := mends_len ld hd lp i
      walk_at "zrd"
      refine ⟨fun σ H2 => H2 = H' ∧ σ = [some (.ref l), some (.ref p), some (.int n), some (.ref a), some (.ref b), some (.ref q), some (.int (fr ld (i + 1) : Nat)), some (.int i), some (vO (mend ld hd lp i))], ?_, ?_⟩
      · walk_at "zrd"
        refine i_ixL hl1 (atN (k := i % ld.length) (by rw [e0]; rfl) (map_getD (d := 1) hm)) ?_
        walk_at "zrd"
        refine i_ite (fun hz => ?_) (fun hz => ?_)
        · have em : mend ld hd lp i = thing hd lp (fr ld i) := by unfold mend; rw [if_pos hz]
          have ef : fr ld (i + 1) = fr ld i + 1 := by rw [fr, if_pos hz]
          rw [em, ef]
          walk_at "zrd"
          refine i_ite (fun hlt => ?_) (fun hlt => ?_)
          · have hlt2 : fr ld i < hd.length := by omega
            have et : thing hd lp (fr ld i) = hd.getD (fr ld i) none := by unfold thing; rw [if_pos hlt2]
            rw [et]
            walk_at "zrd"
            refine i_ixL ha1 (atN (k := fr ld i) rfl (map_getD (d := none) hlt2)) ?_
            walk_at "zrd"
            exact ⟨rfl, rfl⟩
          · have hlt2 : ¬ fr ld i < hd.length := by omega
            have et : thing hd lp (fr ld i) = lp.getD ((fr ld i - hd.length) % lp.length) none := by unfold thing; rw [if_neg hlt2]
            rw [et]
            walk_at "zrd"
            refine i_ixL hb1 (atN (k := (fr ld i - hd.length) % lp.length) (by rw [e1, e2, Int.natCast_emod, Int.natCast_sub (by omega)]) (map_getD (d := none) (Nat.mod_lt _ (by omega)))) ?_
            walk_at "zrd"
            exact ⟨rfl, rfl⟩
        · have em : mend ld hd lp i = none := by unfold mend; rw [if_neg hz]
          have ef : fr ld (i + 1) = fr ld i := by rw [fr, if_neg hz, Nat.add_zero]
          rw [em, ef]
          walk_at "zrd"
          exact ⟨rfl, rfl⟩
      · rintro σ H2 ⟨rfl, rfl⟩
        walk_at "zrd"
        refine ⟨tyL tq.h, ?_⟩
        walk_at "zrd"
        refine i_append tq.h (by rw [List.length_map, eml]; omega) ?_
        walk_at "zrd"
        refine ⟨_, _, rfl, g.mut tq (.inr nq), ?_⟩
        rw [mends_succ, List.map_append]
        exact tq.put
    · rintro σ H' ⟨v7, v8, rfl, g, tq⟩
      walk_at "zrd"
      exact k q H' nq g tq
end
end Z
set_option Elab.async false
set_option linter.all false
set_option maxRecDepth 100000
set_option maxHeartbeats 4000000
namespace Z
open PySem PySem.Spec PyProof.Rows L2
local macro_rules | `(tactic| walk_at "zrd") => `(tactic| (repeat (first | ((with_reducible apply i_var); (· exact rfl)) | with_reducible refine i_c ?_ | with_reducible refine i_op ?_ | with_reducible refine i_I0 ?_ | with_reducible refine i_eqI ?_ | with_reducible refine i_neI ?_ | with_reducible refine i_test ?_ | with_reducible refine i_cons ?_ | with_reducible refine i_nil ?_ | with_reducible refine i_seq ?_ | with_reducible refine i_nx ?_ | with_reducible refine i_rt ?_ | with_reducible refine i_pass ?_ | with_reducible refine i_asg ?_ | with_reducible refine i_gname ?_ | with_reducible refine i_ret ?_ | with_reducible refine i_drop ?_ | with_reducible refine i_ifS ?_ | with_reducible refine i_if ?_ | with_reducible refine i_not ?_ | with_reducible refine i_and ?_ | with_reducible refine i_or ?_ | with_reducible refine i_lst ?_ | with_reducible refine i_tup ?_ | with_reducible refine i_cb ?_ | with_reducible refine i_call ?_ | with_reducible refine i_gsub ?_ | with_reducible refine i_B ?_ | with_reducible refine i_un ?_ | with_reducible refine i_U ?_ | with_reducible refine i_eqOI ?_ | with_reducible refine i_eqIO ?_ | with_reducible refine i_forL ?_ | with_reducible refine i_forT ?_ | with_reducible refine i_forR ?_ | with_reducible refine i_forR2 ?_ | with_reducible refine i_forR3 ?_ | with_reducible refine i_forE ?_ | with_reducible refine i_lcL ?_ | with_reducible refine i_lcT ?_ | with_reducible refine i_lcR ?_ | with_reducible refine i_yes ?_ | with_reducible refine i_lce ?_ | with_reducible refine i_lcf ?_ | with_reducible refine i_gcons ?_ | with_reducible refine i_gnil ?_ | with_reducible refine i_chain ?_ | with_reducible refine i_t ?_ | with_reducible refine i_f ?_ | with_reducible refine i_nt ?_ | with_reducible refine i_nf ?_ | with_reducible refine i_bm ?_ | with_reducible refine i_bm0 ?_ | with_reducible refine i_and2 ?_ | with_reducible refine i_or2 ?_ | with_reducible refine i_intI ?_ | with_reducible refine i_intB ?_ | with_reducible refine i_sl ?_ | with_reducible refine i_part ?_ | with_reducible refine i_nopart ?_ | with_reducible refine i_cut ?_ | with_reducible refine i_lrg ?_ | with_reducible refine i_make ?_ | with_reducible refine i_meth ?_ | with_reducible refine i_fld ?_ | with_reducible refine i_sfld ?_ | with_reducible refine i_dnew ?_ | with_reducible refine i_par3 ?_ | with_reducible refine i_par3e ?_ | with_reducible refine i_par2 ?_ | with_reducible refine i_par2e ?_ | with_reducible refine i_dput ?_ | with_reducible refine i_dget2 ?_ | with_reducible refine i_din ?_ | with_reducible refine i_dget ?_ | with_reducible refine i_isO ?_ | with_reducible refine i_isR ?_ | with_reducible refine i_isN ?_ | with_reducible refine i_isI ?_ | with_reducible refine i_noO ?_ | with_reducible refine i_noR ?_ | with_reducible refine i_noN ?_ | with_reducible refine i_noI ?_ | with_reducible refine (show ∃ k, V.bl _ = V.bl k ∧ _ from ⟨_, rfl, ?_⟩) | with_reducible refine (show ∃ k, V.int _ = V.int k ∧ _ from ⟨_, rfl, ?_⟩) | ((with_reducible apply i_ixL); (· assumption); (· exact rfl)) | ((with_reducible apply i_ixT); (· assumption); (· exact rfl)) | ((with_reducible apply i_lenL); (· assumption)) | ((with_reducible apply i_lenT); (· assumption)) | ((with_reducible apply i_I); (· (first | omega | (dsimp only; omega) | exact ⟨by omega, by omega⟩ | exact Or.inr ⟨by omega, by omega⟩ | exact Or.inl ⟨by omega, by omega⟩ | exact ⟨by decide, by decide, by decide⟩))) | ((with_reducible apply i_gtup); (· assumption); (· rfl)) | ((with_reducible apply i_p); (· omega)) | ((with_reducible apply i_n); (· omega)) | ((with_reducible apply i_np); (· omega)) | ((with_reducible apply i_nn); (· omega)) | ((with_reducible apply i_lcP); (· omega)) | ((with_reducible apply i_lcN); (· omega)) | ((with_reducible apply i_lcnP); (· omega)) | ((with_reducible apply i_lcnN); (· omega)))))
section
variable {P : Program} {w : World} {K : PySem.W.Frag} {mg : Str → Option Value} {base : Heap} {f : Addr} {fd : FuncData} {C : Addr}
abbrev sneed_strokes : Stmt := topS 17
theorem scneed_strokes : FnScope ["memory", "strokes", "last", "ahead", "number", "beat", "word", "bit", "wide", "bears", "gap"] ["memory", "strokes"] (defScope sneed_strokes) := ⟨rfl, rfl, rfl, by decide +kernel, rfl, by decide +kernel, by decide +kernel⟩
theorem ok_need_strokes (T : Txt K mg) (C_words : CalMt P w K mg base C "words" 1 ["self"] (spWords K C)) (F : Fun K "need_strokes" "need_strokes" sneed_strokes f fd) : FnOk P w K mg base CX0 2 f fd ["memory", "strokes"] (spNeedStrokes K C) := by
  refine F.ok scneed_strokes (fun vs H Q E h => ?_) (fun cdv A outer s H0 vs Q E hr h => ?_)
  · obtain ⟨G, m, p, ws, ss, rfl, _⟩ := h
    rfl
  · obtain ⟨G0, m, p, ws, ss, rfl, sb, M, ⟨sa, hsl, spr⟩, ok, k⟩ := h
    refine ⟨_, (pss_cons (ps_set (i := 2) scneed_strokes.nd rfl (Or.inl rfl) pe_dnewK)
      (pss_cons (ps_set (i := 3) scneed_strokes.nd rfl (Or.inl rfl) (pe_tup (pa_cons (pe_un un_neg pe_int) (pa_cons (pe_un un_neg pe_int) pa_nil))))
      (pss_one (ps_for PassesOwn.never rfl (pi_range1 (by rfl) T.b_range (pa_cons (pe_callB (r := rLen K) cl_len (by rfl) T.b_len (by decide +kernel) (pa_cons (pv 1) pa_nil)) pa_nil)) (pg_name (i := 4) scneed_strokes.nd rfl (Or.inl rfl)) (pss_cons (ps_asg (pe_ix (r := rIxL K) ix_list (pv 1) (pv 4) (fun _ _ => rfl)) (pg_tup rfl (pgs_cons (pg_name (i := 5) scneed_strokes.nd rfl (Or.inl rfl)) (pgs_cons (pg_name (i := 6) scneed_strokes.nd rfl (Or.inl rfl)) (pgs_cons (pg_name (i := 7) scneed_strokes.nd rfl (Or.inl rfl)) pgs_nil)))))
      (pss_cons (ps_if (PW.pt (pw_or (pt_not (pt_chain op_le op_le pe_int (pv 5) (pgc T.c_MOST_BEAT))) (pw_or1 (pt_not (pt_chain op_le op_lt pe_int (pv 6) (pe_callB (r := rLen K) cl_len (by rfl) T.b_len (by decide +kernel) (pa_cons (pmt C_words (hr.mono (by decide)) (pv 0)) pa_nil))))))) (pss_one ps_never) pss_nil)
      (pss_cons (ps_asg (pe_ix (r := rIxL K) ix_list (pmt C_words (hr.mono (by decide)) (pv 0)) (pv 6) (fun _ _ => rfl)) (pg_tup rfl (pgs_cons (pg_name (i := 8) scneed_strokes.nd rfl (Or.inl rfl)) (pgs_cons (pg_name (i := 9) scneed_strokes.nd rfl (Or.inl rfl)) (pgs_cons (pg_name (i := 10) scneed_strokes.nd rfl (Or.inl rfl)) pgs_nil)))))
      (pss_cons (ps_if (PW.pt (pw_or (pt_not (pt_chain op_le op_lt pe_int (pv 7) (pv 8))) (pw_or (pt_cmpR (r := rLeT K) (op_leT hr.units0) (pe_tup (pa_cons (pv 5) (pa_cons (pv 6) pa_nil))) (pv 3) (nomark _)) (pw_or1 (pt_cmpR op_lt (pe_op op_sub (pv 5) (pe_dget2 (hu_of hr) (pv 2) (pv 6) (pe_op op_sub pe_int (pv 10)) ⟨rfl, by rfl, rfl, by rfl⟩)) (pv 10) (nomark _)))))) (pss_one ps_never) pss_nil)
      (pss_cons (ps_dput (hu_of hr) (pv 2) (pv 6) (pv 5) rfl)
      (pss_one (ps_set (i := 3) scneed_strokes.nd rfl (Or.inl rfl) (pe_tup (pa_cons (pv 5) (pa_cons (pv 6) pa_nil)))))))))))))), ?_⟩
    try dsimp only [cxOf, L2.Cx.nox, L2.Cx.wish]
    refine i_start (σ' := [some (.ref m), some (.ref p), none, none, none, none, none, none, none, none, none]) rfl ?_
    have g : Gr No G0 H0 G0 H0 := Gr.refl sb
    have okm := M.ok
    have es : (sa.map V.ref).length = ss.length := by rw [List.length_map, Paired.len spr, List.length_map]
    have hs1 : SqL K H0 p (sa.map V.ref) := ls hsl g.sub
    have few := ok.few
    walk_at "zrd"
    refine newD g fun l H1 nl _ s g tl => ?_
    have hs1 : SqL K H1 p (sa.map V.ref) := ls hsl g.sub
    walk_at "zrd"
    refine newT (K := K) g (by first | omega | (simp; done) | (simp; omega)) fun t G1 H2 nt zt s g tt => ?_
    have nlt := ne_of_none tl.h nt
    have tl := tl.monoN s
    walk_at "zrd"
    have hs1 : SqL K H2 p (sa.map V.ref) := ls hsl (s.gg.trans g.sub)
    walk_at "zrd"
    refine forR (by omega) (by omega) (fun i σ H' => ∃ (v4 v5 v6 v7 v8 v9 v10 : Option V) (G : Hp) (kvs : List (Key × V)) (ap : Addr) (a1 a2 : Int), σ = [some (.ref m), some (.ref p), some (.ref l), some (.ref ap), v4, v5, v6, v7, v8, v9, v10] ∧ Gr No G0 H0 G H' ∧ At G H' l (.dK kvs) ∧ LastOf ss i kvs ∧ SqT K G ap [.int a1, .int a2] ∧ (∀ s : W3, ss[i]? = some s → ltP (a1, a2) (s.1, s.2.1)))
      ⟨none, none, none, none, none, none, none, G1, [], t, -1, -1, rfl, g, tl, lastOf_nil ss, tt, ?_⟩ ?_ ?_
    · intro s hs
      have := ok.rng s (List.mem_of_getElem? hs)
      exact .inl (by show (-1 : Int) < s.1; omega)
    · rintro i σ H' hi ⟨v4, v5, v6, v7, v8, v9, v10, G, kvs, ap, a1, a2, rfl, g, tl, la, hap, hlt⟩
      have hi2 : i < ss.length := by omega
      have hgi := List.getElem?_eq_getElem hi2
      obtain ⟨a, ha, ht⟩ := word_at spr hgi
      obtain ⟨r1, r2, r3, r4, r5, r6⟩ := ok.rng _ (List.mem_of_getElem? hgi)
      have hlt1 := hlt _ hgi
      obtain ⟨b, wd, bt, eS⟩ : ∃ b wd bt, ss[i] = (b, wd, bt) := ⟨_, _, _, rfl⟩
      rw [eS] at r1 r2 r3 r4 r5 r6 ht hlt1 hgi
      dsimp only at r1 r2 r3 r4 r5 r6 ht hlt1
      have hp1 : SqL K H' p (sa.map V.ref) := ls hsl (g.gg.trans g.sub)
      have ht1 := sqt (g.gg.trans g.sub) ht
      walk_at "zrd"
      refine i_ixL hp1 (atN (k := i) rfl ha) ?_
      walk_at "zrd"
      refine i_words g (M.mono g.gg) fun q as H5 nq s g tq pr => ?_
      have tl := tl.monoN s
      have e5 : (as.map V.ref).length = ws.length := by rw [List.length_map, Paired.len pr, List.length_map]
      have hq : SqL K H5 q (as.map V.ref) := .inl (.inl tq.h)
      walk_at "zrd"
      refine i_words g (M.mono g.gg) fun q2 as2 H6 nq2 s g tq2 pr2 => ?_
      have tl := tl.monoN s
      have hwd : wd.toNat < ws.length := by omega
      obtain ⟨c, hc, hct⟩ := word_at pr2 (getD_at (d := d3) hwd)
      obtain ⟨o1, o2, o3, o4, o5, o6⟩ := okm.ok _ (getD_mem (d := d3) hwd)
      walk_at "zrd"
      refine i_ixL (.inl (.inl tq2.h)) (atN (k := wd.toNat) (by omega) hc) ?_
      have hct1 := sqt g.sub hct
      walk_at "zrd"
      refine newT (K := K) g (by first | omega | (simp; done) | (simp; omega)) fun u G7 H7 nu zu s g tu => ?_
      have nlu := ne_of_none tl.h nu
      have tl := tl.monoN s
      have hap := sqt s.gg hap
      walk_at "zrd"
      have hap1 := sqt g.sub hap
      have tu1 := sqt g.sub tu
      refine i_leT tu1 hap1 ?_
      have hnle : ¬ leP (b, wd) (a1, a2) := by
        intro h
        have h1 : a1 < b ∨ (a1 = b ∧ a2 < wd) := hlt1
        have h2 : b < a1 ∨ (b = a1 ∧ wd ≤ a2) := h
        omega
      rw [decide_eq_false hnle]
      walk_at "zrd"
      refine dget2 tl ?_
      walk_at "zrd"
      refine dg2 tl ?_
      obtain ⟨x, hx, hgap⟩ : ∃ x : Int, (valV kvs (Sum.inl wd)).getD (.int (0 - (ws.getD wd.toNat d3).2.2)) = .int x ∧ (ws.getD wd.toNat d3).2.2 ≤ b - x := by
        cases e : valV kvs (Sum.inl wd) with
        | none => exact ⟨_, rfl, by omega⟩
        | some v =>
          obtain ⟨j, s, hj, hs, h1, rfl⟩ := la.2 wd v e
          refine ⟨_, rfl, ?_⟩
          have := (pw_at ok.ord hs hgi hj).2 h1
          exact this
      rw [hx]
      walk_at "zrd"
      refine dputI tl (by have := la.1; omega) ?_
      have g := g.mut (u := .dK (putK kvs (Sum.inl wd) (.int b))) tl (.inr nl)
      have tl := tl.put (u := .dK (putK kvs (Sum.inl wd) (.int b)))
      walk_at "zrd"
      refine newT (K := K) g (by first | omega | (simp; done) | (simp; omega)) fun u2 G8 H8 nu2 zu2 s g tu2 => ?_
      have nlu2 := ne_of_none tl.h nu2
      have tl := tl.monoN s
      walk_at "zrd"
      refine ⟨_, _, _, _, _, _, _, G8, _, u2, b, wd, rfl, g, tl, lastOf_put la hgi, tu2, ?_⟩
      intro s hs
      exact (pw_at ok.ord hgi hs (by omega)).1
    · rintro σ H' ⟨v4, v5, v6, v7, v8, v9, v10, G, kvs, ap, a1, a2, rfl, g, tl, la, hap, hlt⟩
      walk_at "zrd"
      exact k _ g.back
end
end Z
set_option Elab.async false
set_option linter.all false
set_option maxRecDepth 100000
set_option maxHeartbeats 4000000
namespace Z
open PySem PySem.Spec PyProof.Rows L2
local macro_rules | `(tactic| walk_at "zrd") => `(tactic| (repeat (first | ((with_reducible apply i_var); (· exact rfl)) | with_reducible refine i_c ?_ | with_reducible refine i_op ?_ | with_reducible refine i_I0 ?_ | with_reducible refine i_eqI ?_ | with_reducible refine i_neI ?_ | with_reducible refine i_test ?_ | with_reducible refine i_cons ?_ | with_reducible refine i_nil ?_ | with_reducible refine i_seq ?_ | with_reducible refine i_nx ?_ | with_reducible refine i_rt ?_ | with_reducible refine i_pass ?_ | with_reducible refine i_asg ?_ | with_reducible refine i_gname ?_ | with_reducible refine i_ret ?_ | with_reducible refine i_drop ?_ | with_reducible refine i_ifS ?_ | with_reducible refine i_if ?_ | with_reducible refine i_not ?_ | with_reducible refine i_and ?_ | with_reducible refine i_or ?_ | with_reducible refine i_lst ?_ | with_reducible refine i_tup ?_ | with_reducible refine i_cb ?_ | with_reducible refine i_call ?_ | with_reducible refine i_gsub ?_ | with_reducible refine i_B ?_ | with_reducible refine i_un ?_ | with_reducible refine i_U ?_ | with_reducible refine i_eqOI ?_ | with_reducible refine i_eqIO ?_ | with_reducible refine i_forL ?_ | with_reducible refine i_forT ?_ | with_reducible refine i_forR ?_ | with_reducible refine i_forR2 ?_ | with_reducible refine i_forR3 ?_ | with_reducible refine i_forE ?_ | with_reducible refine i_lcL ?_ | with_reducible refine i_lcT ?_ | with_reducible refine i_lcR ?_ | with_reducible refine i_yes ?_ | with_reducible refine i_lce ?_ | with_reducible refine i_lcf ?_ | with_reducible refine i_gcons ?_ | with_reducible refine i_gnil ?_ | with_reducible refine i_chain ?_ | with_reducible refine i_t ?_ | with_reducible refine i_f ?_ | with_reducible refine i_nt ?_ | with_reducible refine i_nf ?_ | with_reducible refine i_bm ?_ | with_reducible refine i_bm0 ?_ | with_reducible refine i_and2 ?_ | with_reducible refine i_or2 ?_ | with_reducible refine i_intI ?_ | with_reducible refine i_intB ?_ | with_reducible refine i_sl ?_ | with_reducible refine i_part ?_ | with_reducible refine i_nopart ?_ | with_reducible refine i_cut ?_ | with_reducible refine i_lrg ?_ | with_reducible refine i_make ?_ | with_reducible refine i_meth ?_ | with_reducible refine i_fld ?_ | with_reducible refine i_sfld ?_ | with_reducible refine i_dnew ?_ | with_reducible refine i_par3 ?_ | with_reducible refine i_par3e ?_ | with_reducible refine i_par2 ?_ | with_reducible refine i_par2e ?_ | with_reducible refine i_dput ?_ | with_reducible refine i_dget2 ?_ | with_reducible refine i_din ?_ | with_reducible refine i_dget ?_ | with_reducible refine i_isO ?_ | with_reducible refine i_isR ?_ | with_reducible refine i_isN ?_ | with_reducible refine i_isI ?_ | with_reducible refine i_noO ?_ | with_reducible refine i_noR ?_ | with_reducible refine i_noN ?_ | with_reducible refine i_noI ?_ | with_reducible refine (show ∃ k, V.bl _ = V.bl k ∧ _ from ⟨_, rfl, ?_⟩) | with_reducible refine (show ∃ k, V.int _ = V.int k ∧ _ from ⟨_, rfl, ?_⟩) | ((with_reducible apply i_ixL); (· assumption); (· exact rfl)) | ((with_reducible apply i_ixT); (· assumption); (· exact rfl)) | ((with_reducible apply i_lenL); (· assumption)) | ((with_reducible apply i_lenT); (· assumption)) | ((with_reducible apply i_I); (· (first | omega | (dsimp only; omega) | exact ⟨by omega, by omega⟩ | exact Or.inr ⟨by omega, by omega⟩ | exact Or.inl ⟨by omega, by omega⟩ | exact ⟨by decide, by decide, by decide⟩))) | ((with_reducible apply i_gtup); (· assumption); (· rfl)) | ((with_reducible apply i_p); (· omega)) | ((with_reducible apply i_n); (· omega)) | ((with_reducible apply i_np); (· omega)) | ((with_reducible apply i_nn); (· omega)) | ((with_reducible apply i_lcP); (· omega)) | ((with_reducible apply i_lcN); (· omega)) | ((with_reducible apply i_lcnP); (· omega)) | ((with_reducible apply i_lcnN); (· omega)))))
section
variable {P : Program} {w : World} {K : PySem.W.Frag} {mg : Str → Option Value} {base : Heap} {f : Addr} {fd : FuncData} {C : Addr}
abbrev srun : Stmt := topS 20
theorem scrun : FnScope ["memory", "load", "plan", "strokes", "beats", "words", "word", "turned", "mends", "beat", "when", "bit", "one"] ["memory", "load", "plan", "strokes", "beats"] (defScope srun) := ⟨rfl, rfl, rfl, by decide +kernel, rfl, by decide +kernel, by decide +kernel⟩
theorem ok_run (T : Txt K mg) (C_words : CalMt P w K mg base C "words" 1 ["self"] (spWords K C)) (C_need_load : Cal P w K mg base "need_load" 1 ["load"] (spNeedLoad K)) (C_need_plan : Cal P w K mg base "need_plan" 2 ["memory", "plan"] (spNeedPlan K C)) (C_need_strokes : Cal P w K mg base "need_strokes" 2 ["memory", "strokes"] (spNeedStrokes K C)) (C_mended_at : Cal P w K mg base "mended_at" 1 ["load", "plan", "beats"] (spMended K))
    (F : Fun K "run" "run" srun f fd) : FnOk P w K mg base CX0 3 f fd ["memory", "load", "plan", "strokes", "beats"] (spRun K C) := by
  refine F.ok scrun (fun vs H Q E h => ?_) (fun cdv A outer s H0 vs Q E hr h => ?_)
  · obtain ⟨G, m, a, p, s, n, ws, ss, ld, hd, lp, rfl, _⟩ := h
    rfl
  · obtain ⟨G0, m, a, p, sp, n, ws, ss, ld, hd, lp, rfl, sb, M, hl, okl, pl, okp, ⟨sa, hsl, spr⟩, oks, n0, n1, k⟩ := h
    refine ⟨_, (pss_cons (ps_expr (pc C_need_load (hr.mono (by decide)) (pa_cons (pv 1) pa_nil)))
      (pss_cons (ps_expr (pc C_need_plan (hr.mono (by decide)) (pa_cons (pv 0) (pa_cons (pv 2) pa_nil))))
      (pss_cons (ps_expr (pc C_need_strokes (hr.mono (by decide)) (pa_cons (pv 0) (pa_cons (pv 3) pa_nil))))
      (pss_cons (ps_set (i := 5) scrun.nd rfl (Or.inl rfl) (pmt C_words (hr.mono (by decide)) (pv 0)))
      (pss_cons (ps_setLc (i := 7) (own := [("word", 6)]) (g := gName 6) rfl scrun.nd rfl rfl (sw_true rfl rfl rfl (by decide +kernel)) (pi_list (pv 5)) (blkOk_by (own := [("word", 6)]) (N := ["memory", "load", "plan", "strokes", "beats", "words", "word", "turned", "mends", "beat", "when", "bit", "one"]) (sc := defScope srun) (by decide +kernel)) (fun _ _ _ _ _ => (pg_name (i := 6) scrun.nd rfl (Or.inl rfl))) (fun _ _ _ _ _ => pts_nil) (fun _ _ _ _ _ => (pe_lst pa_nil)))
      (pss_cons (ps_set (i := 8) scrun.nd rfl (Or.inl rfl) (pc C_mended_at (hr.mono (by decide)) (pa_cons (pv 1) (pa_cons (pv 2) (pa_cons (pv 4) pa_nil)))))
      (pss_cons (ps_for PassesOwn.never rfl (pi_range1 (by rfl) T.b_range (pa_cons (pv 4) pa_nil)) (pg_name (i := 9) scrun.nd rfl (Or.inl rfl)) (C8.pss_cut (ps_if (pt_cmpR op_notNz (pe_ix (r := rIxL K) ix_list (pv 8) (pv 9) (fun _ _ => rfl)) pe_non (nomark _)) (pss_one (ps_asg (pe_lst pa_nil) (pg_sub (pv 7) (pe_ix (r := rIxL K) ix_list (pv 8) (pv 9) (fun _ _ => rfl)) set_list))) pss_nil)
      (pss_cons (ps_for PassesOwn.never rfl (pi_list (pv 3)) (pg_tup rfl (pgs_cons (pg_name (i := 10) scrun.nd rfl (Or.inl rfl)) (pgs_cons (pg_name (i := 6) scrun.nd rfl (Or.inl rfl)) (pgs_cons (pg_name (i := 11) scrun.nd rfl (Or.inr rfl)) pgs_nil)))) (pss_one (ps_if (pt_cmpR op_eq (pv 10) (pv 9) (nomark _)) (pss_one (ps_if (pt_cmpR (r := rIn K false) op_in_seq (pv 11) (pe_ix (r := rIxL K) ix_list (pv 7) (pv 6) (fun _ _ => rfl)) rfl) (pss_one (ps_asg (pe_lc (own := [("one", 12)]) (g := gName 12) rfl scrun.nd (pi_list (pe_ix (r := rIxL K) ix_list (pv 7) (pv 6) (fun _ _ => rfl))) (blkOk_by (own := [("one", 12)]) (N := ["memory", "load", "plan", "strokes", "beats", "words", "word", "turned", "mends", "beat", "when", "bit", "one"]) (sc := defScope srun) (by decide +kernel)) (fun _ _ _ _ _ => (pg_name (i := 12) scrun.nd rfl (Or.inl rfl))) (fun _ _ _ _ _ => (pts_one (pt_cmpR op_ne (pv 12) (pv 11) (nomark _)))) (fun _ _ _ _ _ => (pv 12))) (pg_sub (pv 7) (pv 6) set_list))) (pss_one (ps_asg (pe_callB (r := rSortedI K) cr_sortedI (by rfl) T.b_sorted (by decide +kernel) (pa_cons (pe_op op_cat (pe_ix (r := rIxL K) ix_list (pv 7) (pv 6) (fun _ _ => rfl)) (pe_lst (pa_cons (pv 11) pa_nil))) pa_nil)) (pg_sub (pv 7) (pv 6) set_list))))) pss_nil)))
      (pss_one (ps_for PassesOwn.never rfl (pi_range1 (by rfl) T.b_range (pa_cons (pe_callB (r := rLen K) cl_len (by rfl) T.b_len (by decide +kernel) (pa_cons (pv 5) pa_nil)) pa_nil)) (pg_name (i := 6) scrun.nd rfl (Or.inl rfl)) (pss_one (ps_if (pt_cmpR op_gt (pe_callB (r := rLen K) cl_len (by rfl) T.b_len (by decide +kernel) (pa_cons (pe_ix (r := rIxL K) ix_list (pv 7) (pv 6) (fun _ _ => rfl)) pa_nil)) (pe_ix (r := rIxT K) ix_tup (pe_ix (r := rIxL K) ix_list (pv 5) (pv 6) (fun _ _ => rfl)) pe_int (fun _ _ => rfl)) (nomark _)) (pss_one (ps_ret (pe_tup (pa_cons (pe_tup (pa_cons (pv 9) (pa_cons (pv 6) pa_nil))) (pa_cons (pv 7) pa_nil))))) pss_nil)))))))
      (pss_one (ps_ret (pe_tup (pa_cons pe_non (pa_cons (pv 7) pa_nil)))))))))))), ?_⟩
    try dsimp only [cxOf, L2.Cx.nox, L2.Cx.wish]
    refine i_start (σ' := [some (.ref m), some (.ref a), some (.ref p), some (.ref sp), some (.int n), none, none, none, none, none, none, none, none]) rfl ?_
    have g : Gr No G0 H0 G0 H0 := Gr.refl sb
    have okm := M.ok
    have hbit := bits_of okm oks
    have es : (sa.map V.ref).length = ss.length := by rw [List.length_map, Paired.len spr, List.length_map]
    walk_at "zrd"
    refine i_needLoad g hl okl fun H1 s g => ?_
    walk_at "zrd"
    refine i_needPlan g M pl okp fun H2 s g => ?_
    walk_at "zrd"
    refine i_needStrokes g M ⟨sa, hsl, spr⟩ oks fun H3 s g => ?_
    walk_at "zrd"
    refine i_words g M fun q as H4 nq s g tq pr => ?_
    have e5 : (as.map V.ref).length = ws.length := by rw [List.length_map, Paired.len pr, List.length_map]
    have gA := g
    walk_at "zrd"
    have tq4 := tq
    refine lcL (.inl (.inl tq.h)) (fun D i H' => ∃ ls, Gr No G0 H0 G0 H' ∧ At G0 H' q (.lst (as.map V.ref)) ∧ TuAt G0 H' H0 D ls (List.replicate i [])) ?_ ?_ ?_ ?_
    · intro D nD
      exact ⟨[], g.new nD, tq.new nD, At.of g nD, .nil, List.nodup_nil, by simp, gA.fresh nD⟩
    · rintro D i H' nD ⟨ls, g, tq, tu⟩
      exact .inl (.inl tq.h)
    · rintro D i x H' nD hx ⟨ls, g, tq, tu⟩
      have nqD : q ≠ D := ne_of_none tq4.h nD
      walk_at "zrd"
      refine i_lcw rfl ?_
      walk_at "zrd"
      have gy := g
      refine newL g (by first | omega | (simp; done) | (simp; omega)) fun y H5 ny zy s g ty => ?_
      have nqy := ne_of_none tq.h ny
      have tq := tq.monoN s
      walk_at "zrd"
      have tu2 := tu.mono s
      obtain ⟨nyl, nyt⟩ := tu.fresh ny
      have hls : ls.length = i := by rw [tu.len, List.length_replicate]
      have hil : i < (as.map V.ref).length := (List.getElem?_eq_some_iff.mp hx).1
      have l4 := okm.l4
      refine lcp tu2.tt (by rw [List.length_map]; omega) ?_
      refine ⟨ls ++ [y], g.mut tu2.tt (.inr tu2.n0), tq.off nqD, ?_⟩
      rw [List.replicate_succ']
      exact tu2.push (xs := []) ty nyl nyt (gy.fresh ny)
    · rintro D H' nD ⟨ls, g, tq, tu⟩
      have nqD : q ≠ D := ne_of_none tq4.h nD
      walk_at "zrd"
      have gB := g
      refine i_mended g hl okl pl okp n0 (by omega) fun ms H5 nms s g tm => ?_
      have nqm := ne_of_none tq.h nms
      have nDm := (tu.fresh nms).2
      have tq := tq.monoN s
      have tu := tu.mono s
      walk_at "zrd"
      rw [e5] at tu
      have eml := mends_len ld hd lp n.toNat
      refine forR n0 (by omega) (fun b σ H' => ∃ (v6 v9 v10 v11 v12 : Option V) (ls : List Addr), σ = [some (.ref m), some (.ref a), some (.ref p), some (.ref sp), some (.int n), some (.ref q), v6, some (.ref D), some (.ref ms), v9, v10, v11, v12] ∧ Gr No G0 H0 G0 H' ∧ At G0 H' q (.lst (as.map V.ref)) ∧ At G0 H' ms (.lst ((mends ld hd lp n.toNat).map vO)) ∧ TuAt G0 H' H0 D ls (tuAt (mend ld hd lp) ss ws.length b) ∧ ∀ c, c < b → LossAt ws (tuAt (mend ld hd lp) ss ws.length (c + 1)) none)
        ⟨none, none, none, none, none, ls, rfl, g, tq, tm, tu, fun c h => absurd h (Nat.not_lt_zero c)⟩ ?_ ?_
      · rintro b σ H' hb ⟨v6, v9, v10, v11, v12, ls, rfl, g, tq, tm, tu, hno⟩
        have okt := okTu_at (ws := ws) (ss := ss) (mend ld hd lp) hbit b
        walk_at "zrd"
        refine ⟨fun σ H2 => ∃ ls, σ = [some (.ref m), some (.ref a), some (.ref p), some (.ref sp), some (.int n), some (.ref q), v6, some (.ref D), some (.ref ms), some (.int b), v10, v11, v12] ∧ Gr No G0 H0 G0 H2 ∧ At G0 H2 q (.lst (as.map V.ref)) ∧ At G0 H2 ms (.lst ((mends ld hd lp n.toNat).map vO)) ∧ TuAt G0 H2 H0 D ls (mendAt (mend ld hd lp b) (tuAt (mend ld hd lp) ss ws.length b)), ?_, ?_⟩
        · have em : ((mends ld hd lp n.toNat).map vO)[b]? = some (vO (mend ld hd lp b)) := by rw [List.getElem?_map, mends_at ld hd lp hb]; rfl
          walk_at "zrd"
          refine i_ixL (.inl (.inl tm.h)) (atN (k := b) rfl em) ?_
          walk_at "zrd"
          refine i_iteN (fun h => ?_) (fun h => ?_)
          · obtain ⟨wd, ew⟩ := Option.ne_none_iff_exists'.mp h
            obtain ⟨w0, w1⟩ := mend_ok okp b wd ew
            have hlt : wd.toNat < (tuAt (mend ld hd lp) ss ws.length b).length := by rw [okt.len]; omega
            walk_at "zrd"
            have gy := g
            refine newL g (by first | omega | (simp; done) | (simp; omega)) fun y H6 ny zy s g ty => ?_
            have nqy := ne_of_none tq.h ny
            have nmy := ne_of_none tm.h ny
            have tq := tq.monoN s
            have tm := tm.monoN s
            walk_at "zrd"
            obtain ⟨nyl, nyt⟩ := tu.fresh ny
            have tu := tu.mono s
            refine i_ixL (.inl (.inl tm.h)) (atN (k := b) rfl em) ?_
            rw [ew]
            dsimp only [vO]
            refine i_setL _ tu.tt.h (ixN_nat (k := wd.toNat) (by omega) (by rw [List.length_map, tu.len]; exact hlt)) rfl ?_
            walk_at "zrd"
            exact ⟨_, rfl, g.mut tu.tt (.inr tu.n0), tq.off nqD, tm.off nDm, tu.set (xs := []) ty nyl nyt (gy.fresh ny) _⟩
          · walk_at "zrd"
            rw [h]
            exact ⟨ls, rfl, g, tq, tm, tu⟩
        · rintro σ H2 ⟨ls, rfl, g, tq, tm, tu⟩
          have okt1 := okTu_mend okt (mend ld hd lp b)
          have hs1 : SqL K H2 sp (sa.map V.ref) := Z.ls hsl g.sub
          walk_at "zrd"
          refine forL hs1 (fun j σ H' => ∃ (v6 v10 v11 v12 : Option V) (ls : List Addr), σ = [some (.ref m), some (.ref a), some (.ref p), some (.ref sp), some (.int n), some (.ref q), v6, some (.ref D), some (.ref ms), some (.int b), v10, v11, v12] ∧ Gr No G0 H0 G0 H' ∧ At G0 H' q (.lst (as.map V.ref)) ∧ At G0 H' ms (.lst ((mends ld hd lp n.toNat).map vO)) ∧ TuAt G0 H' H0 D ls (strokesAt b (ss.take j) (mendAt (mend ld hd lp b) (tuAt (mend ld hd lp) ss ws.length b))))
            ⟨_, _, _, _, ls, rfl, g, tq, tm, tu⟩ ?_ ?_ ?_
          · rintro j σ H3 hj ⟨v6, v10, v11, v12, ls, rfl, g, tq, tm, tu⟩
            exact Z.ls hsl g.sub
          · rintro j x σ H3 hx ⟨v6, v10, v11, v12, ls, rfl, g, tq, tm, tu⟩
            have hj : j < ss.length := by rw [← es]; exact (List.getElem?_eq_some_iff.mp hx).1
            have hgj := List.getElem?_eq_getElem hj
            obtain ⟨ap, hap, hat⟩ := word_at spr hgj
            obtain ⟨r1, r2, r3, r4, r5, r6⟩ := oks.rng _ (List.mem_of_getElem? hgj)
            rw [hap] at hx
            cases hx
            have okt2 := okTu_strokes (b : Int) (ss.take j) okt1 fun s hs => hbit s (List.mem_of_mem_take hs)
            have est := strokesAt_take (b := (b : Int)) (tu := mendAt (mend ld hd lp b) (tuAt (mend ld hd lp) ss ws.length b)) hgj
            obtain ⟨bb, wd, bt, eS⟩ : ∃ bb wd bt, ss[j] = (bb, wd, bt) := ⟨_, _, _, rfl⟩
            rw [eS] at r1 r2 r3 r4 r5 r6 hat hgj est
            dsimp only at r1 r2 r3 r4 r5 r6 hat
            rw [est]
            generalize hTU : strokesAt (b : Int) (ss.take j) (mendAt (mend ld hd lp b) (tuAt (mend ld hd lp) ss ws.length b)) = TU at tu okt2 ⊢
            have hat1 := sqt g.sub hat
            have hwl : wd.toNat < TU.length := by rw [okt2.len]; omega
            have okx := (okTu_getD okt2 wd.toNat).len
            walk_at "zrd"
            refine i_ite (fun he => ?_) (fun he => ?_)
            · have es2 : strokeAt (b : Int) TU (bb, wd, bt) = TU.set wd.toNat (flip bt (TU.getD wd.toNat [])) := if_pos he
              rw [es2]
              obtain ⟨y, hy, ty⟩ := tu.get hwl
              walk_at "zrd"
              refine i_ixL (.inl (.inl tu.tt.h)) (atN (k := wd.toNat) (by omega) hy) ?_
              walk_at "zrd"
              refine i_inL (.inl (.inl ty.h)) rfl (flat_ints _) (inV_ints _ _) ?_
              walk_at "zrd"
              refine i_ite (fun hin => ?_) (fun hin => ?_)
              · have ef : flip bt (TU.getD wd.toNat []) = (TU.getD wd.toNat []).filter (fun o => !decide (o = bt)) := if_pos hin
                rw [ef]
                walk_at "zrd"
                refine i_ixL (.inl (.inl tu.tt.h)) (atN (k := wd.toNat) (by omega) hy) ?_
                walk_at "zrd"
                have g3 := g
                have tu3 := tu
                have tq3 := tq
                have tm3 := tm
                have ty3 := ty
                refine lcL (.inl (.inl ty.h)) (fun E i H' => Gr No G0 H0 G0 H' ∧ At G0 H' q (.lst (as.map V.ref)) ∧ At G0 H' ms (.lst ((mends ld hd lp n.toNat).map vO)) ∧ TuAt G0 H' H0 D ls TU ∧ At G0 H' y (.lst ((TU.getD wd.toNat []).map V.int)) ∧ At G0 H' E (.lst ((((TU.getD wd.toNat []).take i).filter (fun o => !decide (o = bt))).map V.int))) ?_ ?_ ?_ ?_
                · intro E nE
                  have s : Gr No G0 H3 G0 (upd H3 E (.lst [])) := Gr.new (Gr.refl g.sub) nE
                  exact ⟨g.new nE, tq.new nE, tm.new nE, tu.mono s, ty.new nE, At.of g nE⟩
                · rintro E i H' nE ⟨g, tq, tm, tu, ty, tE⟩
                  exact .inl (.inl ty.h)
                · rintro E i x H' nE hx ⟨g, tq, tm, tu, ty, tE⟩
                  obtain ⟨o, ho, rfl⟩ := map_at hx
                  obtain ⟨nEl, nEt⟩ := tu3.fresh nE
                  have nqE := ne_of_none tq3.h nE
                  have nmE := ne_of_none tm3.h nE
                  walk_at "zrd"
                  refine i_lcw rfl ?_
                  walk_at "zrd"
                  rw [filter_take ho]
                  refine i_lcnd (fun h => ?_) (fun h => ?_)
                  · walk_at "zrd"
                    have nyE : y ≠ E := ne_of_none ty3.h nE
                    refine lcp tE (by rw [List.length_map]; refine Nat.le_trans (List.length_filter_le _ _) ?_; rw [List.length_take]; omega) ?_
                    rw [if_pos (by simpa using h), List.map_append]
                    refine ⟨g.mut tE (.inr (g3.fresh nE)), tq.off nqE, tm.off nmE, tu.off nEl nEt, ty.off nyE, tE.put⟩
                  · rw [if_neg (by simpa using h), List.append_nil]
                    exact ⟨g, tq, tm, tu, ty, tE⟩
                · rintro E H' nE ⟨g, tq, tm, tu, ty, tE⟩
                  obtain ⟨nEl, nEt⟩ := tu3.fresh nE
                  rw [List.length_map, List.take_length] at tE
                  walk_at "zrd"
                  refine i_setL _ tu.tt.h (ixN_nat (k := wd.toNat) (by omega) (by rw [List.length_map, tu.len]; exact hwl)) rfl ?_
                  walk_at "zrd"
                  exact ⟨_, _, _, _, _, rfl, g.mut tu.tt (.inr tu.n0), tq.off nqD, tm.off nDm, tu.set tE nEl nEt (g3.fresh nE) _⟩
              · have ef : flip bt (TU.getD wd.toNat []) = srt (TU.getD wd.toNat [] ++ [bt]) := if_neg hin
                rw [ef]
                walk_at "zrd"
                refine i_ixL (.inl (.inl tu.tt.h)) (atN (k := wd.toNat) (by omega) hy) ?_
                walk_at "zrd"
                refine newL g (by first | omega | (simp; done) | (simp; omega)) fun z H4 nz zz s g tz => ?_
                have nqz := ne_of_none tq.h nz
                have nmz := ne_of_none tm.h nz
                have nyz := ne_of_none ty.h nz
                have tq := tq.monoN s
                have tm := tm.monoN s
                have ty := ty.monoN s
                walk_at "zrd"
                have tu := tu.mono s
                refine i_cat ty.h tz.h ?_
                have ec : (TU.getD wd.toNat []).map V.int ++ [V.int bt] = (TU.getD wd.toNat [] ++ [bt]).map V.int := by rw [List.map_append]; rfl
                rw [ec]
                have ecl : ((TU.getD wd.toNat [] ++ [bt]).map V.int).length = (TU.getD wd.toNat []).length + 1 := by rw [List.length_map, List.length_append]; rfl
                refine newL g (by first | omega | (simp; done) | (simp; omega)) fun c H5 nc zc s g tc => ?_
                have nqc := ne_of_none tq.h nc
                have nmc := ne_of_none tm.h nc
                have tq := tq.monoN s
                have tm := tm.monoN s
                walk_at "zrd"
                have tu := tu.mono s
                refine i_sortedI (.inl (.inl tc.h)) ?_
                have esl : ((srt (TU.getD wd.toNat [] ++ [bt])).map V.int).length ≤ 100000 := by
                  rw [List.length_map, (srt_perm _).length_eq, List.length_append, List.length_singleton]
                  omega
                have gy := g
                refine newL g (by first | omega | (simp; done) | (simp; omega)) fun e H6 ne ze s g te => ?_
                have nqe := ne_of_none tq.h ne
                have nme := ne_of_none tm.h ne
                have tq := tq.monoN s
                have tm := tm.monoN s
                walk_at "zrd"
                obtain ⟨nel, net⟩ := tu.fresh ne
                have tu := tu.mono s
                refine i_setL _ tu.tt.h (ixN_nat (k := wd.toNat) (by omega) (by rw [List.length_map, tu.len]; exact hwl)) rfl ?_
                walk_at "zrd"
                exact ⟨_, _, _, _, _, rfl, g.mut tu.tt (.inr tu.n0), tq.off nqD, tm.off nDm, tu.set te nel net (gy.fresh ne) _⟩
            · have es2 : strokeAt (b : Int) TU (bb, wd, bt) = TU := if_neg he
              rw [es2]
              walk_at "zrd"
              exact ⟨_, _, _, _, ls, rfl, g, tq, tm, tu⟩
          · rintro σ H3 ⟨v6, v10, v11, v12, ls, rfl, g, tq, tm, tu⟩
            rw [es, List.take_length] at tu
            have etu : strokesAt (b : Int) ss (mendAt (mend ld hd lp b) (tuAt (mend ld hd lp) ss ws.length b)) = tuAt (mend ld hd lp) ss ws.length (b + 1) := rfl
            rw [etu] at tu
            have okt3 := okTu_at (ws := ws) (ss := ss) (mend ld hd lp) hbit (b + 1)
            generalize hTU : tuAt (mend ld hd lp) ss ws.length (b + 1) = TU at tu okt3
            have hq1 : SqL K H3 q (as.map V.ref) := .inl (.inl tq.h)
            have l4 := okm.l4
            walk_at "zrd"
            refine forR (by omega) (by omega) (fun v σ H' => ∃ (v6 : Option V), σ = [some (.ref m), some (.ref a), some (.ref p), some (.ref sp), some (.int n), some (.ref q), v6, some (.ref D), some (.ref ms), some (.int b), v10, v11, v12] ∧ H' = H3 ∧ ∀ u, u < v → ¬ lossP ws TU u)
              ⟨_, rfl, rfl, fun u h => absurd h (Nat.not_lt_zero u)⟩ ?_ ?_
            · rintro v σ H4 hv ⟨v6, rfl, rfl, hn⟩
              have hvw : v < ws.length := by omega
              obtain ⟨y, hy, ty⟩ := tu.get (i := v) (by rw [okt3.len]; exact hvw)
              obtain ⟨wa, hwa, hwt⟩ := word_at pr (getD_at (d := d3) hvw)
              have hwt1 := sqt g.sub hwt
              have hy1 : SqL K H4 y ((TU.getD v []).map V.int) := .inl (.inl ty.h)
              have ely : ((TU.getD v []).map V.int).length = (TU.getD v []).length := List.length_map _
              walk_at "zrd"
              refine i_ixL (.inl (.inl tu.tt.h)) (atN (k := v) rfl hy) ?_
              walk_at "zrd"
              refine i_ixL hq1 (atN (k := v) rfl hwa) ?_
              walk_at "zrd"
              refine i_ite (fun hl => ?_) (fun hl => ?_)
              · walk_at "zrd"
                have gy := g
                refine newT (K := K) g (by first | omega | (simp; done) | (simp; omega)) fun pr1 G5 H5 npr1 zpr1 s g tpr1 => ?_
                walk_at "zrd"
                have gy1 := g
                have tu := tu.mono s
                refine newT (K := K) g (by first | omega | (simp; done) | (simp; omega)) fun r G6 H6 nr zr s g tr => ?_
                have tpr1 := sqt s.gg tpr1
                walk_at "zrd"
                have tu := tu.mono s
                refine k (some (b, v)) TU r D (.ref pr1) ls G6 H6 ⟨by omega, hTU.symm, ⟨⟨hvw, by rw [ely] at hl; exact hl⟩, hn⟩, hno⟩ g (gy1.fresh nr) tr ⟨pr1, rfl, tpr1⟩ tu
              · walk_at "zrd"
                refine ⟨_, rfl, rfl, fun u hu => ?_⟩
                rcases Nat.lt_succ_iff_lt_or_eq.mp hu with h | h
                · exact hn u h
                · rw [h]
                  intro hp
                  apply hl
                  rw [ely]
                  exact hp.2
            · rintro σ H4 ⟨v6, rfl, rfl, hn⟩
              walk_at "zrd"
              refine ⟨_, _, _, _, _, ls, rfl, g, tq, tm, by first | exact tu | (rw [hTU]; exact tu), fun c hc => ?_⟩
              rcases Nat.lt_succ_iff_lt_or_eq.mp hc with h | h
              · exact hno c h
              · rw [h]
                show LossAt ws (tuAt _ _ _ (b + 1)) none
                rw [hTU]
                intro u hu
                exact hn u (by rw [e5, Int.toNat_natCast]; exact hu.1) hu
      · rintro σ H' ⟨v6, v9, v10, v11, v12, ls, rfl, g, tq, tm, tu, hno⟩
        walk_at "zrd"
        have gy := g
        refine newT (K := K) g (by first | omega | (simp; done) | (simp; omega)) fun r G6 H6 nr zr s g tr => ?_
        walk_at "zrd"
        have tu := tu.mono s
        exact k none _ r D .non ls G6 H6 ⟨rfl, hno⟩ g (gy.fresh nr) tr rfl tu
end
end Z
set_option Elab.async false
set_option linter.all false
set_option maxRecDepth 100000
set_option maxHeartbeats 4000000
namespace Z
open PySem PySem.Spec PyProof.Rows L2
local macro_rules | `(tactic| walk_at "zrd") => `(tactic| (repeat (first | ((with_reducible apply i_var); (· exact rfl)) | with_reducible refine i_c ?_ | with_reducible refine i_op ?_ | with_reducible refine i_I0 ?_ | with_reducible refine i_eqI ?_ | with_reducible refine i_neI ?_ | with_reducible refine i_test ?_ | with_reducible refine i_cons ?_ | with_reducible refine i_nil ?_ | with_reducible refine i_seq ?_ | with_reducible refine i_nx ?_ | with_reducible refine i_rt ?_ | with_reducible refine i_pass ?_ | with_reducible refine i_asg ?_ | with_reducible refine i_gname ?_ | with_reducible refine i_ret ?_ | with_reducible refine i_drop ?_ | with_reducible refine i_ifS ?_ | with_reducible refine i_if ?_ | with_reducible refine i_not ?_ | with_reducible refine i_and ?_ | with_reducible refine i_or ?_ | with_reducible refine i_lst ?_ | with_reducible refine i_tup ?_ | with_reducible refine i_cb ?_ | with_reducible refine i_call ?_ | with_reducible refine i_gsub ?_ | with_reducible refine i_B ?_ | with_reducible refine i_un ?_ | with_reducible refine i_U ?_ | with_reducible refine i_eqOI ?_ | with_reducible refine i_eqIO ?_ | with_reducible refine i_forL ?_ | with_reducible refine i_forT ?_ | with_reducible refine i_forR ?_ | with_reducible refine i_forR2 ?_ | with_reducible refine i_forR3 ?_ | with_reducible refine i_forE ?_ | with_reducible refine i_lcL ?_ | with_reducible refine i_lcT ?_ | with_reducible refine i_lcR ?_ | with_reducible refine i_yes ?_ | with_reducible refine i_lce ?_ | with_reducible refine i_lcf ?_ | with_reducible refine i_gcons ?_ | with_reducible refine i_gnil ?_ | with_reducible refine i_chain ?_ | with_reducible refine i_t ?_ | with_reducible refine i_f ?_ | with_reducible refine i_nt ?_ | with_reducible refine i_nf ?_ | with_reducible refine i_bm ?_ | with_reducible refine i_bm0 ?_ | with_reducible refine i_and2 ?_ | with_reducible refine i_or2 ?_ | with_reducible refine i_intI ?_ | with_reducible refine i_intB ?_ | with_reducible refine i_sl ?_ | with_reducible refine i_part ?_ | with_reducible refine i_nopart ?_ | with_reducible refine i_cut ?_ | with_reducible refine i_lrg ?_ | with_reducible refine i_make ?_ | with_reducible refine i_meth ?_ | with_reducible refine i_fld ?_ | with_reducible refine i_sfld ?_ | with_reducible refine i_dnew ?_ | with_reducible refine i_par3 ?_ | with_reducible refine i_par3e ?_ | with_reducible refine i_par2 ?_ | with_reducible refine i_par2e ?_ | with_reducible refine i_dput ?_ | with_reducible refine i_dget2 ?_ | with_reducible refine i_din ?_ | with_reducible refine i_dget ?_ | with_reducible refine i_isO ?_ | with_reducible refine i_isR ?_ | with_reducible refine i_isN ?_ | with_reducible refine i_isI ?_ | with_reducible refine i_noO ?_ | with_reducible refine i_noR ?_ | with_reducible refine i_noN ?_ | with_reducible refine i_noI ?_ | with_reducible refine (show ∃ k, V.bl _ = V.bl k ∧ _ from ⟨_, rfl, ?_⟩) | with_reducible refine (show ∃ k, V.int _ = V.int k ∧ _ from ⟨_, rfl, ?_⟩) | ((with_reducible apply i_ixL); (· assumption); (· exact rfl)) | ((with_reducible apply i_ixT); (· assumption); (· exact rfl)) | ((with_reducible apply i_lenL); (· assumption)) | ((with_reducible apply i_lenT); (· assumption)) | ((with_reducible apply i_I); (· (first | omega | (dsimp only; omega) | exact ⟨by omega, by omega⟩ | exact Or.inr ⟨by omega, by omega⟩ | exact Or.inl ⟨by omega, by omega⟩ | exact ⟨by decide, by decide, by decide⟩))) | ((with_reducible apply i_gtup); (· assumption); (· rfl)) | ((with_reducible apply i_p); (· omega)) | ((with_reducible apply i_n); (· omega)) | ((with_reducible apply i_np); (· omega)) | ((with_reducible apply i_nn); (· omega)) | ((with_reducible apply i_lcP); (· omega)) | ((with_reducible apply i_lcN); (· omega)) | ((with_reducible apply i_lcnP); (· omega)) | ((with_reducible apply i_lcnN); (· omega)))))
section
variable {P : Program} {w : World} {K : PySem.W.Frag} {mg : Str → Option Value} {base : Heap} {f : Addr} {fd : FuncData} {C : Addr}
abbrev s_law_mends : Stmt := topS 32
theorem sc_law_mends : FnScope ["_law_load_here", "_law_plan_here", "_law_beats", "_law_left", "_law_found", "_law_beat", "_law_word"] ["_law_load_here", "_law_plan_here", "_law_beats"] (defScope s_law_mends) := ⟨rfl, rfl, rfl, by decide +kernel, rfl, by decide +kernel, by decide +kernel⟩
theorem ok_mends (T : Txt K mg) (F : Fun K "_law_mends" "_law_mends" s_law_mends f fd) : FnOk P w K mg base CX0 1 f fd ["_law_load_here", "_law_plan_here", "_law_beats"] (spMends K) := by
  refine F.ok sc_law_mends (fun vs H Q E h => ?_) (fun cdv A outer s H0 vs Q E hr h => ?_)
  · obtain ⟨G, a, p, n, ld, hd, lp, j, rfl, _⟩ := h
    rfl
  · obtain ⟨G0, l, p, n, ld, hd, lp, j, rfl, sb, hl, okl, ⟨a, b, hp, ha, hb⟩, ok, n0, n1, k⟩ := h
    refine ⟨_, (pss_cons (ps_set (i := 3) sc_law_mends.nd rfl (Or.inl rfl) (pe_callTy (r := rList K) cl_list (by rfl) T.b_list (by decide +kernel) (pa_cons (pe_ix (r := rIxT K) ix_tup (pv 1) pe_int (fun _ _ => rfl)) pa_nil)))
      (pss_cons (ps_set (i := 4) sc_law_mends.nd rfl (Or.inl rfl) (pe_lst pa_nil))
      (pss_cons (ps_for PassesOwn.never rfl (pi_range1 (by rfl) T.b_range (pa_cons (pv 2) pa_nil)) (pg_name (i := 5) sc_law_mends.nd rfl (Or.inl rfl)) (pss_cons (ps_set (i := 6) sc_law_mends.nd rfl (Or.inl rfl) pe_non)
      (C8.pss_cut (ps_if (pt_cmpR op_eq (pe_ix (r := rIxL K) ix_list (pv 0) (pe_op op_mod (pv 5) (pe_callB (r := rLen K) cl_len (by rfl) T.b_len (by decide +kernel) (pa_cons (pv 0) pa_nil))) (fun _ _ => rfl)) pe_int (nomark _)) (C8.pss_cut (ps_if (pt_cmpR (r := rEqD K) (op_eqD hr.units) (pv 3) (pe_lst pa_nil) (nomark _)) (pss_one (ps_set (i := 3) sc_law_mends.nd rfl (Or.inl rfl) (pe_callTy (r := rList K) cl_list (by rfl) T.b_list (by decide +kernel) (pa_cons (pe_ix (r := rIxT K) ix_tup (pv 1) pe_int (fun _ _ => rfl)) pa_nil)))) pss_nil)
      (pss_one (ps_set (i := 6) sc_law_mends.nd rfl (Or.inl rfl) (pe_bm PySem.F.plainAttrs_list PySem.F.slot_list_pop PySem.F.type_list_pop mt_popAt (pv 3) (pa_cons pe_int pa_nil))))) pss_nil)
      (pss_one (ps_expr (pe_bm PySem.F.plainAttrs_list PySem.F.slot_list_append PySem.F.type_list_append mt_append (pv 4) (pa_cons (pv 6) pa_nil)))))))
      (pss_one (ps_ret (pv 4)))))), ?_⟩
    try dsimp only [cxOf, L2.Cx.nox, L2.Cx.wish]
    refine i_start (σ' := [some (.ref l), some (.ref p), some (.int n), none, none, none, none]) rfl ?_
    have g : Gr No G0 H0 G0 H0 := Gr.refl sb
    obtain ⟨h40, l1, l40, hok, lok⟩ := id ok
    have L1 := okl.l1
    have L12 := okl.l12
    have e0 : (ld.map V.int).length = ld.length := List.length_map _
    have e1 : (hd.map vO).length = hd.length := List.length_map _
    have e2 : (lp.map vO).length = lp.length := List.length_map _
    have hp1 := sqt (K := K) g.sub hp
    walk_at "zrd"
    refine i_listL (Z.ls ha g.sub) (by rw [e1]; exact Nat.le_trans h40 (by decide)) ?_
    refine newL g (by first | omega | (simp; done) | (simp; omega)) fun lf H1 nlf zlf s g tlf => ?_
    walk_at "zrd"
    refine newL g (by first | omega | (simp; done) | (simp; omega)) fun q H2 nq zq s g tq => ?_
    have nlfq := ne_of_none tlf.h nq
    have tlf := tlf.monoN s
    walk_at "zrd"
    refine forR n0 (by omega) (fun i σ H' => ∃ (v5 v6 : Option V) (lf : Addr) (L : List (Option Int)), σ = [some (.ref l), some (.ref p), some (.int n), some (.ref lf), some (.ref q), v5, v6] ∧ Gr No G0 H0 G0 H' ∧ At G0 H' q (.lst ((mends ld hd lp i).map vO)) ∧ At G0 H' lf (.lst (L.map vO)) ∧ lf ≠ q ∧ H0 lf = none ∧ Left hd lp (fr ld i) L) ⟨none, none, lf, hd, rfl, g, tq, tlf, nlfq, zlf, left_zero hd lp⟩ ?_ ?_
    · rintro i σ H' hi ⟨v5, v6, lf, L, rfl, g, tq, tlf, nlq, zlf, lft⟩
      have hl1 : SqL K H' l (ld.map V.int) := Z.ls hl g.sub
      have hm : i % ld.length < ld.length := Nat.mod_lt _ (by omega)
      have eml := mends_len ld hd lp i
      walk_at "zrd"
      refine ⟨fun σ H2 => ∃ (lf : Addr) (L : List (Option Int)), σ = [some (.ref l), some (.ref p), some (.int n), some (.ref lf), some (.ref q), some (.int i), some (vO (mend ld hd lp i))] ∧ Gr No G0 H0 G0 H2 ∧ At G0 H2 q (.lst ((mends ld hd lp i).map vO)) ∧ At G0 H2 lf (.lst (L.map vO)) ∧ lf ≠ q ∧ H0 lf = none ∧ Left hd lp (fr ld (i + 1)) L, ?_, ?_⟩
      · walk_at "zrd"
        refine i_ixL hl1 (atN (k := i % ld.length) (by rw [e0]; rfl) (map_getD (d := 1) hm)) ?_
        walk_at "zrd"
        refine i_ite (fun hz => ?_) (fun hz => ?_)
        · have em : mend ld hd lp i = thing hd lp (fr ld i) := by unfold mend; rw [if_pos hz]
          have ef : fr ld (i + 1) = fr ld i + 1 := by rw [fr, if_pos hz]
          rw [em, ef]
          walk_at "zrd"
          refine ⟨fun σ H2 => ∃ (lf : Addr) (o : Option Int) (L : List (Option Int)), σ = [some (.ref l), some (.ref p), some (.int n), some (.ref lf), some (.ref q), some (.int i), some .non] ∧ Gr No G0 H0 G0 H2 ∧ At G0 H2 q (.lst ((mends ld hd lp i).map vO)) ∧ At G0 H2 lf (.lst ((o :: L).map vO)) ∧ lf ≠ q ∧ H0 lf = none ∧ Left hd lp (fr ld i) (o :: L), ?_, ?_⟩
          · walk_at "zrd"
            refine newL g (by first | omega | (simp; done) | (simp; omega)) fun e H3 ne ze s g te => ?_
            have nqe := ne_of_none tq.h ne
            have nlfe := ne_of_none tlf.h ne
            have tq := tq.monoN s
            have tlf := tlf.monoN s
            walk_at "zrd"
            refine i_eqNil (k := 1) (.lst (.inl (.inl tlf.h)) (dpAll_vO L)) (dp_nil (.inl (.inl te.h))) (dk_vOs L) (by decide) ?_
            walk_at "zrd"
            refine i_b (fun hb0 => ?_) (fun hb0 => ?_)
            · have eL : L = [] := by simpa using hb0
              subst eL
              have hp2 := sqt (K := K) g.sub hp
              walk_at "zrd"
              refine i_listL (Z.ls hb g.sub) (by rw [e2]; exact Nat.le_trans l40 (by decide)) ?_
              refine newL g (by first | omega | (simp; done) | (simp; omega)) fun l2 H4 nl2 zl2 s g tl2 => ?_
              have nql2 := ne_of_none tq.h nl2
              have tq := tq.monoN s
              walk_at "zrd"
              obtain ⟨o, lr, elp⟩ : ∃ o lr, lp = o :: lr := by
                cases lp with
                | nil => exact absurd l1 (by simp)
                | cons o lr => exact ⟨o, lr, rfl⟩
              exact ⟨l2, o, lr, rfl, g, tq, by rw [← elp]; exact tl2, nql2.symm, zl2, by rw [← elp]; exact left_new lft l1⟩
            · obtain ⟨o, L2, eL⟩ : ∃ o lr, L = o :: lr := by
                cases L with
                | nil => exact absurd hb0 (by simp)
                | cons o lr => exact ⟨o, lr, rfl⟩
              subst eL
              walk_at "zrd"
              exact ⟨lf, o, L2, rfl, g, tq, tlf, nlq, zlf, lft⟩
          · rintro σ H2 ⟨lf, o, L, rfl, g, tq, tlf, nlq, zlf, lft⟩
            obtain ⟨eo, lft⟩ := left_pop lft
            walk_at "zrd"
            refine ⟨tyL tlf.h, ?_⟩
            walk_at "zrd"
            refine i_pop0 tlf.h ?_
            walk_at "zrd"
            exact ⟨lf, L, by rw [← eo]; rfl, g.mut tlf (.inr zlf), tq.off nlq.symm, tlf.put, nlq, zlf, lft⟩
        · have em : mend ld hd lp i = none := by unfold mend; rw [if_neg hz]
          have ef : fr ld (i + 1) = fr ld i := by rw [fr, if_neg hz, Nat.add_zero]
          rw [em, ef]
          walk_at "zrd"
          exact ⟨lf, L, rfl, g, tq, tlf, nlq, zlf, lft⟩
      · rintro σ H2 ⟨lf, L, rfl, g, tq, tlf, nlq, zlf, lft⟩
        walk_at "zrd"
        refine ⟨tyL tq.h, ?_⟩
        walk_at "zrd"
        refine i_append tq.h (by rw [List.length_map, eml]; omega) ?_
        walk_at "zrd"
        refine ⟨_, _, lf, L, rfl, g.mut tq (.inr zq), ?_, tlf.off nlq, nlq, zlf, lft⟩
        rw [mends_succ, List.map_append]
        exact tq.put
    · rintro σ H' ⟨v5, v6, lf, L, rfl, g, tq, tlf, nlq, zlf, lft⟩
      walk_at "zrd"
      exact k q H' zq g tq
end
end Z
set_option Elab.async false
set_option linter.all false
set_option maxRecDepth 100000
set_option maxHeartbeats 4000000
namespace Z
open PySem PySem.Spec PyProof.Rows L2
local macro_rules | `(tactic| walk_at "zrd") => `(tactic| (repeat (first | ((with_reducible apply i_var); (· exact rfl)) | with_reducible refine i_c ?_ | with_reducible refine i_op ?_ | with_reducible refine i_I0 ?_ | with_reducible refine i_eqI ?_ | with_reducible refine i_neI ?_ | with_reducible refine i_test ?_ | with_reducible refine i_cons ?_ | with_reducible refine i_nil ?_ | with_reducible refine i_seq ?_ | with_reducible refine i_nx ?_ | with_reducible refine i_rt ?_ | with_reducible refine i_pass ?_ | with_reducible refine i_asg ?_ | with_reducible refine i_gname ?_ | with_reducible refine i_ret ?_ | with_reducible refine i_drop ?_ | with_reducible refine i_ifS ?_ | with_reducible refine i_if ?_ | with_reducible refine i_not ?_ | with_reducible refine i_and ?_ | with_reducible refine i_or ?_ | with_reducible refine i_lst ?_ | with_reducible refine i_tup ?_ | with_reducible refine i_cb ?_ | with_reducible refine i_call ?_ | with_reducible refine i_gsub ?_ | with_reducible refine i_B ?_ | with_reducible refine i_un ?_ | with_reducible refine i_U ?_ | with_reducible refine i_eqOI ?_ | with_reducible refine i_eqIO ?_ | with_reducible refine i_forL ?_ | with_reducible refine i_forT ?_ | with_reducible refine i_forR ?_ | with_reducible refine i_forR2 ?_ | with_reducible refine i_forR3 ?_ | with_reducible refine i_forE ?_ | with_reducible refine i_lcL ?_ | with_reducible refine i_lcT ?_ | with_reducible refine i_lcR ?_ | with_reducible refine i_yes ?_ | with_reducible refine i_lce ?_ | with_reducible refine i_lcf ?_ | with_reducible refine i_gcons ?_ | with_reducible refine i_gnil ?_ | with_reducible refine i_chain ?_ | with_reducible refine i_t ?_ | with_reducible refine i_f ?_ | with_reducible refine i_nt ?_ | with_reducible refine i_nf ?_ | with_reducible refine i_bm ?_ | with_reducible refine i_bm0 ?_ | with_reducible refine i_and2 ?_ | with_reducible refine i_or2 ?_ | with_reducible refine i_intI ?_ | with_reducible refine i_intB ?_ | with_reducible refine i_sl ?_ | with_reducible refine i_part ?_ | with_reducible refine i_nopart ?_ | with_reducible refine i_cut ?_ | with_reducible refine i_lrg ?_ | with_reducible refine i_make ?_ | with_reducible refine i_meth ?_ | with_reducible refine i_fld ?_ | with_reducible refine i_sfld ?_ | with_reducible refine i_dnew ?_ | with_reducible refine i_par3 ?_ | with_reducible refine i_par3e ?_ | with_reducible refine i_par2 ?_ | with_reducible refine i_par2e ?_ | with_reducible refine i_dput ?_ | with_reducible refine i_dget2 ?_ | with_reducible refine i_din ?_ | with_reducible refine i_dget ?_ | with_reducible refine i_isO ?_ | with_reducible refine i_isR ?_ | with_reducible refine i_isN ?_ | with_reducible refine i_isI ?_ | with_reducible refine i_noO ?_ | with_reducible refine i_noR ?_ | with_reducible refine i_noN ?_ | with_reducible refine i_noI ?_ | with_reducible refine (show ∃ k, V.bl _ = V.bl k ∧ _ from ⟨_, rfl, ?_⟩) | with_reducible refine (show ∃ k, V.int _ = V.int k ∧ _ from ⟨_, rfl, ?_⟩) | ((with_reducible apply i_ixL); (· assumption); (· exact rfl)) | ((with_reducible apply i_ixT); (· assumption); (· exact rfl)) | ((with_reducible apply i_lenL); (· assumption)) | ((with_reducible apply i_lenT); (· assumption)) | ((with_reducible apply i_I); (· (first | omega | (dsimp only; omega) | exact ⟨by omega, by omega⟩ | exact Or.inr ⟨by omega, by omega⟩ | exact Or.inl ⟨by omega, by omega⟩ | exact ⟨by decide, by decide, by decide⟩))) | ((with_reducible apply i_gtup); (· assumption); (· rfl)) | ((with_reducible apply i_p); (· omega)) | ((with_reducible apply i_n); (· omega)) | ((with_reducible apply i_np); (· omega)) | ((with_reducible apply i_nn); (· omega)) | ((with_reducible apply i_lcP); (· omega)) | ((with_reducible apply i_lcN); (· omega)) | ((with_reducible apply i_lcnP); (· omega)) | ((with_reducible apply i_lcnN); (· omega)))))
section
variable {P : Program} {w : World} {K : PySem.W.Frag} {mg : Str → Option Value} {base : Heap} {f : Addr} {fd : FuncData} {C : Addr}
abbrev s_law_fall : Stmt := topS 34
theorem sc_law_fall : FnScope ["_law_words", "_law_strokes_here", "_law_last", "_law_k", "_law_beat", "_law_word", "_law_bit"] ["_law_words", "_law_strokes_here"] (defScope s_law_fall) := ⟨rfl, rfl, rfl, by decide +kernel, rfl, by decide +kernel, by decide +kernel⟩
theorem ok_fall (T : Txt K mg) (F : Fun K "_law_fall" "_law_fall" s_law_fall f fd) : FnOk P w K mg base CX0 1 f fd ["_law_words", "_law_strokes_here"] (spFall K) := by
  refine F.ok sc_law_fall (fun vs H Q E h => ?_) (fun cdv A outer s H0 vs Q E hr h => ?_)
  · obtain ⟨G, a, p, ws, ss, rfl, _⟩ := h
    rfl
  · obtain ⟨G0, a, p, ws, ss, rfl, sb, ⟨wa, hwa, wpr⟩, okw, ⟨sa, hsa, spr⟩, ok, k⟩ := h
    refine ⟨_, (pss_cons (ps_set (i := 2) sc_law_fall.nd rfl (Or.inl rfl) pe_dnewK)
      (pss_cons (ps_for PassesOwn.never rfl (pi_range1 (by rfl) T.b_range (pa_cons (pe_callB (r := rLen K) cl_len (by rfl) T.b_len (by decide +kernel) (pa_cons (pv 1) pa_nil)) pa_nil)) (pg_name (i := 3) sc_law_fall.nd rfl (Or.inl rfl)) (pss_cons (ps_asg (pe_ix (r := rIxL K) ix_list (pv 1) (pv 3) (fun _ _ => rfl)) (pg_tup rfl (pgs_cons (pg_name (i := 4) sc_law_fall.nd rfl (Or.inl rfl)) (pgs_cons (pg_name (i := 5) sc_law_fall.nd rfl (Or.inl rfl)) (pgs_cons (pg_name (i := 6) sc_law_fall.nd rfl (Or.inl rfl)) pgs_nil)))))
      (C8.pss_cut (ps_if (PW.pt (pw_or (PW.pt (pw_and (pt_cmpR op_gt (pv 3) pe_int (nomark _)) (pw_and1 (pt_cmpR (r := rLeT K) (op_leT hr.units0) (pe_slice (r := rSlT K) sl_tup (pe_ix (r := rIxL K) ix_list (pv 1) (pv 3) (fun _ _ => rfl)) po_none (po_some pe_int)) (pe_slice (r := rSlT K) sl_tup (pe_ix (r := rIxL K) ix_list (pv 1) (pe_op op_sub (pv 3) pe_int) (fun _ _ => rfl)) po_none (po_some pe_int)) (nomark _))))) (pw_or (pt_not (pt_chain op_le op_lt pe_int (pv 6) (pe_ix (r := rIxT K) ix_tup (pe_ix (r := rIxL K) ix_list (pv 0) (pv 5) (fun _ _ => rfl)) pe_int (fun _ _ => rfl)))) (pw_or1 (pt_not (pt_chain op_le op_lt pe_int (pv 4) pe_int)))))) (pss_one (ps_ret pe_bl)) pss_nil)
      (pss_cons (ps_if (PW.pt (pw_and (pt_cmp (pc_din (hu_of hr) (pv 5) (pv 2))) (pw_and1 (pt_cmpR op_lt (pe_op op_sub (pv 4) (pe_dget (hu_of hr) (pv 2) (pv 5) (fun _ _ => rfl))) (pe_ix (r := rIxT K) ix_tup (pe_ix (r := rIxL K) ix_list (pv 0) (pv 5) (fun _ _ => rfl)) pe_int (fun _ _ => rfl)) (nomark _))))) (pss_one (ps_ret pe_bl)) pss_nil)
      (pss_one (ps_dput (hu_of hr) (pv 2) (pv 5) (pv 4) rfl))))))
      (pss_one (ps_ret pe_bl)))), ?_⟩
    try dsimp only [cxOf, L2.Cx.nox, L2.Cx.wish]
    refine i_start (σ' := [some (.ref a), some (.ref p), none, none, none, none, none]) rfl ?_
    have g : Gr No G0 H0 G0 H0 := Gr.refl sb
    have es : (sa.map V.ref).length = ss.length := by rw [List.length_map, Paired.len spr, List.length_map]
    have ew : (wa.map V.ref).length = ws.length := by rw [List.length_map, Paired.len wpr, List.length_map]
    have few := ok.few
    walk_at "zrd"
    refine newD g fun l H1 nl _ s g tl => ?_
    have hs1 : SqL K H1 p (sa.map V.ref) := Z.ls hsa g.sub
    walk_at "zrd"
    refine forR (by omega) (by omega) (fun i σ H' => ∃ (v3 v4 v5 v6 : Option V) (kvs : List (Key × V)), σ = [some (.ref a), some (.ref p), some (.ref l), v3, v4, v5, v6] ∧ Gr No G0 H0 G0 H' ∧ At G0 H' l (.dK kvs) ∧ LastOf ss i kvs) ⟨none, none, none, none, [], rfl, g, tl, lastOf_nil ss⟩ ?_ ?_
    · rintro i σ H' hi ⟨v3, v4, v5, v6, kvs, rfl, g, tl, la⟩
      have hi2 : i < ss.length := by omega
      have hgi := List.getElem?_eq_getElem hi2
      obtain ⟨ap, hap, hat⟩ := word_at spr hgi
      obtain ⟨r1, r2, r3, r4, r5, r6⟩ := ok.rng _ (List.mem_of_getElem? hgi)
      obtain ⟨b, wd, bt, eS⟩ : ∃ b wd bt, ss[i] = (b, wd, bt) := ⟨_, _, _, rfl⟩
      rw [eS] at r1 r2 r3 r4 r5 r6 hat hgi
      dsimp only at r1 r2 r3 r4 r5 r6 hat
      have hwd : wd.toNat < ws.length := by omega
      obtain ⟨wp, hwp, hwt⟩ := word_at wpr (getD_at (d := d3) hwd)
      have hp1 : SqL K H' p (sa.map V.ref) := Z.ls hsa g.sub
      have hat1 := sqt g.sub hat
      walk_at "zrd"
      refine i_ixL hp1 (atN (k := i) rfl hap) ?_
      walk_at "zrd"
      refine ⟨fun σ H2 => σ = [some (.ref a), some (.ref p), some (.ref l), some (.int i), some (.int b), some (.int wd), some (.int bt)] ∧ Gr No G0 H0 G0 H2 ∧ At G0 H2 l (.dK kvs), ?_, ?_⟩
      · walk_at "zrd"
        refine i_ite (fun hk => ?_) (fun hk => ?_)
        · walk_at "zrd"
          refine i_ixL hp1 (atN (k := i) rfl hap) ?_
          walk_at "zrd"
          refine i_sl32 hat1 ?_
          refine newTO g (by first | omega | (simp; done) | (simp; omega)) fun t1 H3 nt1 zt1 s g tt1 => ?_
          have nlt1 := ne_of_none tl.h nt1
          have tl := tl.monoN s
          walk_at "zrd"
          have hi3 : i - 1 < ss.length := by omega
          have hgj := List.getElem?_eq_getElem hi3
          obtain ⟨ap2, hap2, hat2⟩ := word_at spr hgj
          have hat3 := sqt g.sub hat2
          refine i_ixL (Z.ls hsa g.sub) (atN (k := i - 1) (by omega) hap2) ?_
          walk_at "zrd"
          refine i_sl32 hat3 ?_
          refine newTO g (by first | omega | (simp; done) | (simp; omega)) fun t2 H4 nt2 zt2 s g tt2 => ?_
          have nlt2 := ne_of_none tl.h nt2
          have nt1t2 := ne_of_none tt1.h nt2
          have tl := tl.monoN s
          have tt1 := tt1.monoN s
          walk_at "zrd"
          refine i_leT (.inl (.inl tt1.h)) (.inl (.inl tt2.h)) ?_
          have hlt := (pw_at ok.ord hgj hgi (by omega)).1
          have hnle : ¬ leP (b, wd) (ss[i - 1].1, ss[i - 1].2.1) := by
            intro h
            have h1 : ss[i - 1].1 < b ∨ (ss[i - 1].1 = b ∧ ss[i - 1].2.1 < wd) := hlt
            have h2 : b < ss[i - 1].1 ∨ (b = ss[i - 1].1 ∧ wd ≤ ss[i - 1].2.1) := h
            omega
          rw [decide_eq_false hnle]
          have hwt1 := sqt g.sub hwt
          walk_at "zrd"
          refine i_ixL (Z.ls hwa g.sub) (atN (k := wd.toNat) (by omega) hwp) ?_
          walk_at "zrd"
          exact ⟨rfl, g, tl⟩
        · have hwt1 := sqt g.sub hwt
          walk_at "zrd"
          refine i_ixL (Z.ls hwa g.sub) (atN (k := wd.toNat) (by omega) hwp) ?_
          walk_at "zrd"
          exact ⟨rfl, g, tl⟩
      · rintro σ H2 ⟨rfl, g, tl⟩
        have hwt1 := sqt g.sub hwt
        walk_at "zrd"
        refine dinI tl ?_
        walk_at "zrd"
        refine i_b (fun hd => ?_) (fun hd => ?_)
        · obtain ⟨v, hv⟩ := Option.isSome_iff_exists.mp hd
          obtain ⟨j, s, hj, hs, h1, rfl⟩ := la.2 wd v hv
          have hgap := (pw_at ok.ord hs hgi hj).2 h1
          dsimp only at hgap
          walk_at "zrd"
          refine dgetI tl hv ?_
          walk_at "zrd"
          refine i_ixL (Z.ls hwa g.sub) (atN (k := wd.toNat) (by omega) hwp) ?_
          walk_at "zrd"
          refine dputI tl (by have := la.1; omega) ?_
          walk_at "zrd"
          exact ⟨_, _, _, _, _, rfl, g.mut tl (.inr nl), tl.put, lastOf_put la hgi⟩
        · walk_at "zrd"
          refine dputI tl (by have := la.1; omega) ?_
          walk_at "zrd"
          exact ⟨_, _, _, _, _, rfl, g.mut tl (.inr nl), tl.put, lastOf_put la hgi⟩
    · rintro σ H' ⟨v3, v4, v5, v6, kvs, rfl, g, tl, la⟩
      walk_at "zrd"
      exact k _ g
end
end Z
set_option Elab.async false
set_option linter.all false
set_option maxRecDepth 100000
set_option maxHeartbeats 4000000
namespace Z
open PySem PySem.Spec PyProof.Rows L2
local macro_rules | `(tactic| walk_at "zrd") => `(tactic| (repeat (first | ((with_reducible apply i_var); (· exact rfl)) | with_reducible refine i_c ?_ | with_reducible refine i_op ?_ | with_reducible refine i_I0 ?_ | with_reducible refine i_eqI ?_ | with_reducible refine i_neI ?_ | with_reducible refine i_test ?_ | with_reducible refine i_cons ?_ | with_reducible refine i_nil ?_ | with_reducible refine i_seq ?_ | with_reducible refine i_nx ?_ | with_reducible refine i_rt ?_ | with_reducible refine i_pass ?_ | with_reducible refine i_asg ?_ | with_reducible refine i_gname ?_ | with_reducible refine i_ret ?_ | with_reducible refine i_drop ?_ | with_reducible refine i_ifS ?_ | with_reducible refine i_if ?_ | with_reducible refine i_not ?_ | with_reducible refine i_and ?_ | with_reducible refine i_or ?_ | with_reducible refine i_lst ?_ | with_reducible refine i_tup ?_ | with_reducible refine i_cb ?_ | with_reducible refine i_call ?_ | with_reducible refine i_gsub ?_ | with_reducible refine i_B ?_ | with_reducible refine i_un ?_ | with_reducible refine i_U ?_ | with_reducible refine i_eqOI ?_ | with_reducible refine i_eqIO ?_ | with_reducible refine i_forL ?_ | with_reducible refine i_forT ?_ | with_reducible refine i_forR ?_ | with_reducible refine i_forR2 ?_ | with_reducible refine i_forR3 ?_ | with_reducible refine i_forE ?_ | with_reducible refine i_lcL ?_ | with_reducible refine i_lcT ?_ | with_reducible refine i_lcR ?_ | with_reducible refine i_yes ?_ | with_reducible refine i_lce ?_ | with_reducible refine i_lcf ?_ | with_reducible refine i_gcons ?_ | with_reducible refine i_gnil ?_ | with_reducible refine i_chain ?_ | with_reducible refine i_t ?_ | with_reducible refine i_f ?_ | with_reducible refine i_nt ?_ | with_reducible refine i_nf ?_ | with_reducible refine i_bm ?_ | with_reducible refine i_bm0 ?_ | with_reducible refine i_and2 ?_ | with_reducible refine i_or2 ?_ | with_reducible refine i_intI ?_ | with_reducible refine i_intB ?_ | with_reducible refine i_sl ?_ | with_reducible refine i_part ?_ | with_reducible refine i_nopart ?_ | with_reducible refine i_cut ?_ | with_reducible refine i_lrg ?_ | with_reducible refine i_make ?_ | with_reducible refine i_meth ?_ | with_reducible refine i_fld ?_ | with_reducible refine i_sfld ?_ | with_reducible refine i_dnew ?_ | with_reducible refine i_par3 ?_ | with_reducible refine i_par3e ?_ | with_reducible refine i_par2 ?_ | with_reducible refine i_par2e ?_ | with_reducible refine i_dput ?_ | with_reducible refine i_dget2 ?_ | with_reducible refine i_din ?_ | with_reducible refine i_dget ?_ | with_reducible refine i_isO ?_ | with_reducible refine i_isR ?_ | with_reducible refine i_isN ?_ | with_reducible refine i_isI ?_ | with_reducible refine i_noO ?_ | with_reducible refine i_noR ?_ | with_reducible refine i_noN ?_ | with_reducible refine i_noI ?_ | with_reducible refine (show ∃ k, V.bl _ = V.bl k ∧ _ from ⟨_, rfl, ?_⟩) | with_reducible refine (show ∃ k, V.int _ = V.int k ∧ _ from ⟨_, rfl, ?_⟩) | ((with_reducible apply i_ixL); (· assumption); (· exact rfl)) | ((with_reducible apply i_ixT); (· assumption); (· exact rfl)) | ((with_reducible apply i_lenL); (· assumption)) | ((with_reducible apply i_lenT); (· assumption)) | ((with_reducible apply i_I); (· (first | omega | (dsimp only; omega) | exact ⟨by omega, by omega⟩ | exact Or.inr ⟨by omega, by omega⟩ | exact Or.inl ⟨by omega, by omega⟩ | exact ⟨by decide, by decide, by decide⟩))) | ((with_reducible apply i_gtup); (· assumption); (· rfl)) | ((with_reducible apply i_p); (· omega)) | ((with_reducible apply i_n); (· omega)) | ((with_reducible apply i_np); (· omega)) | ((with_reducible apply i_nn); (· omega)) | ((with_reducible apply i_lcP); (· omega)) | ((with_reducible apply i_lcN); (· omega)) | ((with_reducible apply i_lcnP); (· omega)) | ((with_reducible apply i_lcnN); (· omega)))))
section
variable {P : Program} {w : World} {K : PySem.W.Frag} {mg : Str → Option Value} {base : Heap} {f : Addr} {fd : FuncData} {C : Addr}
abbrev slimits : Stmt := topS 14
theorem sclimits : FnScope ["memory", "wide", "bears", "gap"] ["memory"] (defScope slimits) := ⟨rfl, rfl, rfl, by decide +kernel, rfl, by decide +kernel, by decide +kernel⟩
abbrev sbeats_of : Stmt := topS 21
theorem scbeats_of : FnScope ["load", "plan", "free", "turns", "one"] ["load", "plan"] (defScope sbeats_of) := ⟨rfl, rfl, rfl, by decide +kernel, rfl, by decide +kernel, by decide +kernel⟩
abbrev sstretches : Stmt := topS 22
theorem scstretches : FnScope ["memory", "load", "plan", "many", "mends", "found", "word", "begins", "rows", "k", "beat"] ["memory", "load", "plan"] (defScope sstretches) := ⟨rfl, rfl, rfl, by decide +kernel, rfl, by decide +kernel, by decide +kernel⟩
theorem ok_limits (T : Txt K mg) (C_words : CalMt P w K mg base C "words" 1 ["self"] (spWords K C)) (F : Fun K "limits" "limits" slimits f fd) : FnOk P w K mg base CX0 2 f fd ["memory"] (spLimits K C) := by
  refine F.ok sclimits (fun vs H Q E h => ?_) (fun cdv A outer s H0 vs Q E hr h => ?_)
  · obtain ⟨G, m, ws, rfl, _⟩ := h
    rfl
  · obtain ⟨G0, m, ws, rfl, sb, M, k⟩ := h
    refine ⟨_, (pss_one (ps_ret (pe_lc (own := [("wide", 1), ("bears", 2), ("gap", 3)]) (g := gTup K 3 (gCons (gName 1) (gCons (gName 2) (gCons (gName 3) gNil)))) rfl sclimits.nd (pi_list (pmt C_words (hr.mono (by decide)) (pv 0))) (blkOk_by (own := [("wide", 1), ("bears", 2), ("gap", 3)]) (N := ["memory", "wide", "bears", "gap"]) (sc := defScope slimits) (by decide +kernel)) (fun _ _ _ _ _ => (pg_tup rfl (pgs_cons (pg_name (i := 1) sclimits.nd rfl (Or.inl rfl)) (pgs_cons (pg_name (i := 2) sclimits.nd rfl (Or.inl rfl)) (pgs_cons (pg_name (i := 3) sclimits.nd rfl (Or.inl rfl)) pgs_nil))))) (fun _ _ _ _ _ => pts_nil) (fun _ _ _ _ _ => (pe_ifExp (pt_cmpR op_ge (pv 2) (pv 1) (nomark _)) pe_non (pe_op op_mul (pv 2) (pv 3))))))), ?_⟩
    try dsimp only [cxOf, L2.Cx.nox, L2.Cx.wish]
    refine i_start (σ' := [some (.ref m), none, none, none]) rfl ?_
    have g : Gr No G0 H0 G0 H0 := Gr.refl sb
    have okm := M.ok
    have l4 := okm.l4
    walk_at "zrd"
    refine i_words g M fun q as H1 nq s g tq pr => ?_
    have gA := g
    have tqA := tq
    have eq : (as.map V.ref).length = ws.length := by rw [List.length_map, Paired.len pr, List.length_map]
    walk_at "zrd"
    refine lcL (.inl (.inl tq.h)) (fun D i H' => Gr No G0 H0 G0 H' ∧ At G0 H' q (.lst (as.map V.ref)) ∧ At G0 H' D (.lst (((ws.take i).map lim).map vO))) ?_ ?_ ?_ ?_
    · intro D nD
      exact ⟨g.new nD, tq.new nD, At.of g nD⟩
    · rintro D i H' nD ⟨g, tq, tD⟩
      exact .inl (.inl tq.h)
    · rintro D i x H' nD hx ⟨g, tq, tD⟩
      have nqD : q ≠ D := ne_of_none tqA.h nD
      have hi2 : i < ws.length := by rw [← eq]; exact (List.getElem?_eq_some_iff.mp hx).1
      have hgi := List.getElem?_eq_getElem hi2
      obtain ⟨ap, hap, hat⟩ := word_at pr hgi
      rw [hap] at hx
      cases hx
      have hat1 := sqt g.sub hat
      obtain ⟨o1, o2, o3, o4, o5, o6⟩ := okm.ok ws[i] (List.getElem_mem hi2)
      have hlen : (((ws.take i).map lim).map vO).length ≤ 4 := by rw [List.length_map, List.length_map, List.length_take]; omega
      have el : (ws.take (i + 1)).map lim = (ws.take i).map lim ++ [lim ws[i]] := by rw [List.take_add_one, hgi, List.map_append]; rfl
      rw [el, List.map_append]
      walk_at "zrd"
      refine i_lcw rfl ?_
      walk_at "zrd"
      refine i_ite (fun hc => ?_) (fun hc => ?_)
      · have e : lim ws[i] = none := by unfold lim; rw [if_pos hc]
        rw [e]
        walk_at "zrd"
        refine lcp tD (by omega) ?_
        exact ⟨g.mut tD (.inr (gA.fresh nD)), tq.off nqD, tD.put⟩
      · have e : lim ws[i] = some (ws[i].2.1 * ws[i].2.2) := by unfold lim; rw [if_neg hc]
        rw [e]
        walk_at "zrd"
        refine lcp tD (by omega) ?_
        exact ⟨g.mut tD (.inr (gA.fresh nD)), tq.off nqD, tD.put⟩
    · rintro D H' nD ⟨g, tq, tD⟩
      rw [eq, List.take_length] at tD
      walk_at "zrd"
      exact k D H' (gA.fresh nD) g tD
theorem ok_beats_of (T : Txt K mg) (F : Fun K "beats_of" "beats_of" sbeats_of f fd) : FnOk P w K mg base CX0 1 f fd ["load", "plan"] (spBeats K) := by
  refine F.ok scbeats_of (fun vs H Q E h => ?_) (fun cdv A outer s H0 vs Q E hr h => ?_)
  · obtain ⟨G, a, p, ld, hd, lp, j, rfl, _⟩ := h
    rfl
  · obtain ⟨G0, l, p, ld, hd, lp, j, rfl, sb, hl, okl, ⟨a, b, hp, ha, hb⟩, okp, k⟩ := h
    refine ⟨_, (pss_cons (ps_set (i := 2) scbeats_of.nd rfl (Or.inl rfl) (pe_callB (r := rLen K) cl_len (by rfl) T.b_len (by decide +kernel) (pa_cons (pe_lc (own := [("one", 4)]) (g := gName 4) rfl scbeats_of.nd (pi_list (pv 0)) (blkOk_by (own := [("one", 4)]) (N := ["load", "plan", "free", "turns", "one"]) (sc := defScope sbeats_of) (by decide +kernel)) (fun _ _ _ _ _ => (pg_name (i := 4) scbeats_of.nd rfl (Or.inl rfl))) (fun _ _ _ _ _ => (pts_one (pt_cmpR op_eq (pv 4) pe_int (nomark _)))) (fun _ _ _ _ _ => (pv 4))) pa_nil)))
      (pss_cons (ps_set (i := 3) scbeats_of.nd rfl (Or.inl rfl) (pe_op op_add (pe_op op_add (pe_op op_fdiv (pe_callB (r := rLen K) cl_len (by rfl) T.b_len (by decide +kernel) (pa_cons (pe_ix (r := rIxT K) ix_tup (pv 1) pe_int (fun _ _ => rfl)) pa_nil)) (pv 2)) pe_int) (pe_op op_mul pe_int (pe_callB (r := rLen K) cl_len (by rfl) T.b_len (by decide +kernel) (pa_cons (pe_ix (r := rIxT K) ix_tup (pv 1) pe_int (fun _ _ => rfl)) pa_nil)))))
      (pss_one (ps_ret (pe_op op_mul (pv 3) (pe_callB (r := rLen K) cl_len (by rfl) T.b_len (by decide +kernel) (pa_cons (pv 0) pa_nil))))))), ?_⟩
    try dsimp only [cxOf, L2.Cx.nox, L2.Cx.wish]
    refine i_start (σ' := [some (.ref l), some (.ref p), none, none, none]) rfl ?_
    have g : Gr No G0 H0 G0 H0 := Gr.refl sb
    have fp := free_pos okl
    have L12 := okl.l12
    have fl := free_le ld
    have h40 := okp.h40
    have l40 := okp.l40
    have eh : (hd.map vO).length = hd.length := List.length_map _
    have elp : (lp.map vO).length = lp.length := List.length_map _
    walk_at "zrd"
    refine lcL (ls hl g.sub) (fun D i H' => Gr No G0 H0 G0 H' ∧ At G0 H' D (.lst (((ld.take i).filter fun x => decide (x = 0)).map V.int))) ?_ ?_ ?_ ?_
    · intro D nD
      exact ⟨g.new nD, At.of g nD⟩
    · rintro D i H' nD ⟨g, tD⟩
      exact ls hl g.sub
    · rintro D i x H' nD hx ⟨g, tD⟩
      obtain ⟨z, hz, rfl⟩ := map_at hx
      have hlen : (((ld.take i).filter fun x => decide (x = 0)).map V.int).length ≤ 12 := by
        rw [List.length_map]
        have := List.length_filter_le (fun x => decide (x = 0)) (ld.take i)
        rw [List.length_take] at this
        omega
      rw [filter_take hz]
      walk_at "zrd"
      refine i_lcw rfl ?_
      walk_at "zrd"
      refine i_lcd (fun h0 => ?_) (fun h0 => ?_)
      · walk_at "zrd"
        refine lcp tD (by omega) ?_
        refine ⟨g.mut tD (.inr nD), ?_⟩
        rw [if_pos (decide_eq_true h0), List.map_append]
        exact tD.put
      · refine ⟨g, ?_⟩
        rw [if_neg (by simpa using h0), List.append_nil]
        exact tD
    · rintro D H' nD ⟨g, tD⟩
      have ef : ((ld.filter fun x => decide (x = 0)).map V.int).length = free ld := by rw [List.length_map, free_len]
      rw [List.length_map, List.take_length] at tD
      have hD : SqL K H' D ((ld.filter fun x => decide (x = 0)).map V.int) := .inl (.inl tD.h)
      have hl1 : SqL K H' l (ld.map V.int) := ls hl g.sub
      have hp1 := sqt (K := K) g.sub hp
      have ha1 : SqL K H' a (hd.map vO) := ls ha g.sub
      have hb1 : SqL K H' b (lp.map vO) := ls hb g.sub
      walk_at "zrd"
      rw [ef]
      walk_at "zrd"
      have e1 : (((hd.map vO).length : Nat) : Int) / ((free ld : Nat) : Int) + 1 + 3 * (((lp.map vO).length : Nat) : Int) = ((hd.length / free ld + 1 + 3 * lp.length : Nat) : Int) := by
        rw [List.length_map, List.length_map, Int.natCast_add, Int.natCast_add, Int.natCast_ediv, Int.natCast_mul]
        rfl
      have e2 : ((hd.length / free ld + 1 + 3 * lp.length : Nat) : Int) * (((ld.map V.int).length : Nat) : Int) = (nB ld hd lp : Nat) := by
        rw [List.length_map, ← Int.natCast_mul]
        rfl
      have ell : (ld.map V.int).length = ld.length := List.length_map _
      rw [e1]
      walk_at "zrd"
      rw [e2]
      exact k _ g
theorem ok_stretches (T : Txt K mg) (C_words : CalMt P w K mg base C "words" 1 ["self"] (spWords K C)) (C_mended_at : Cal P w K mg base "mended_at" 1 ["load", "plan", "beats"] (spMended K)) (C_beats_of : Cal P w K mg base "beats_of" 1 ["load", "plan"] (spBeats K))
    (F : Fun K "stretches" "stretches" sstretches f fd) : FnOk P w K mg base CX0 2 f fd ["memory", "load", "plan"] (spStretches K C) := by
  refine F.ok scstretches (fun vs H Q E h => ?_) (fun cdv A outer s H0 vs Q E hr h => ?_)
  · obtain ⟨G, m, a, p, ws, ld, hd, lp, rfl, _⟩ := h
    rfl
  · obtain ⟨G0, m, a, p, ws, ld, hd, lp, rfl, sb, M, hl, okl, pl, okp, k⟩ := h
    refine ⟨_, (pss_cons (ps_set (i := 3) scstretches.nd rfl (Or.inl rfl) (pc C_beats_of (hr.mono (by decide)) (pa_cons (pv 1) (pa_cons (pv 2) pa_nil))))
      (pss_cons (ps_set (i := 4) scstretches.nd rfl (Or.inr rfl) (pc C_mended_at (hr.mono (by decide)) (pa_cons (pv 1) (pa_cons (pv 2) (pa_cons (pv 3) pa_nil)))))
      (pss_cons (ps_set (i := 5) scstretches.nd rfl (Or.inl rfl) (pe_lst pa_nil))
      (pss_cons (ps_for PassesOwn.never rfl (pi_range1 (by rfl) T.b_range (pa_cons (pe_callB (r := rLen K) cl_len (by rfl) T.b_len (by decide +kernel) (pa_cons (pmt C_words (hr.mono (by decide)) (pv 0)) pa_nil)) pa_nil)) (pg_name (i := 6) scstretches.nd rfl (Or.inr rfl)) (pss_cons (ps_set (i := 7) scstretches.nd rfl (Or.inr rfl) (pe_op op_cat (pe_lst (pa_cons pe_int pa_nil)) (pe_lc (own := [("beat", 10)]) (g := gName 10) rfl scstretches.nd (pi_range1 (by rfl) T.b_range (pa_cons (pv 3) pa_nil)) (blkOk_by (own := [("beat", 10)]) (N := ["memory", "load", "plan", "many", "mends", "found", "word", "begins", "rows", "k", "beat"]) (sc := defScope sstretches) (by decide +kernel)) (fun _ _ _ _ _ => (pg_name (i := 10) scstretches.nd rfl (Or.inl rfl))) (fun _ _ _ _ _ => (pts_one (pt_cmpR op_eq (pe_ix (r := rIxL K) ix_list (pv 4) (pv 10) (fun _ _ => rfl)) (pv 6) (nomark _)))) (fun _ _ _ _ _ => (pv 10)))))
      (pss_cons (ps_setLc (i := 8) (own := [("k", 9)]) (g := gName 9) rfl scstretches.nd rfl rfl (sw_true rfl rfl rfl (by decide +kernel)) (pi_range1 (by rfl) T.b_range (pa_cons (pe_op op_sub (pe_callB (r := rLen K) cl_len (by rfl) T.b_len (by decide +kernel) (pa_cons (pv 7) pa_nil)) pe_int) pa_nil)) (blkOk_by (own := [("k", 9)]) (N := ["memory", "load", "plan", "many", "mends", "found", "word", "begins", "rows", "k", "beat"]) (sc := defScope sstretches) (by decide +kernel)) (fun _ _ _ _ _ => (pg_name (i := 9) scstretches.nd rfl (Or.inl rfl))) (fun _ _ _ _ _ => pts_nil) (fun _ _ _ _ _ => (pe_tup (pa_cons (pe_ix (r := rIxL K) ix_list (pv 7) (pv 9) (fun _ _ => rfl)) (pa_cons (pe_op op_sub (pe_ix (r := rIxL K) ix_list (pv 7) (pe_op op_add (pv 9) pe_int) (fun _ _ => rfl)) (pe_ix (r := rIxL K) ix_list (pv 7) (pv 9) (fun _ _ => rfl))) pa_nil)))))
      (C8.pss_cut (ps_if (pt_cmpR (r := rIn K true) op_notIn_seq (pv 6) (pe_ix (r := rIxT K) ix_tup (pv 2) pe_int (fun _ _ => rfl)) rfl) (pss_one (ps_expr (pe_bm PySem.F.plainAttrs_list PySem.F.slot_list_append PySem.F.type_list_append mt_append (pv 8) (pa_cons (pe_tup (pa_cons (pe_ix (r := rIxL K) ix_list (pv 7) (pe_un un_neg pe_int) (fun _ _ => rfl)) (pa_cons pe_non pa_nil))) pa_nil)))) pss_nil)
      (pss_one (ps_expr (pe_bm PySem.F.plainAttrs_list PySem.F.slot_list_append PySem.F.type_list_append mt_append (pv 5) (pa_cons (pv 8) pa_nil))))))))
      (pss_one (ps_ret (pv 5))))))), ?_⟩
    try dsimp only [cxOf, L2.Cx.nox, L2.Cx.wish]
    refine i_start (σ' := [some (.ref m), some (.ref a), some (.ref p), none, none, none, none, none, none, none, none]) rfl ?_
    have g : Gr No G0 H0 G0 H0 := Gr.refl sb
    have okm := M.ok
    have l4 := okm.l4
    have nb := nB_le okl okp
    obtain ⟨pa, pb, hp, hpa, hpb⟩ := id pl
    walk_at "zrd"
    refine i_beats g hl okl pl okp fun H1 s g => ?_
    walk_at "zrd"
    generalize hN : nB ld hd lp = N at nb k ⊢
    refine i_mended g hl okl pl okp (by omega) (by omega) fun ms H2 nms s g tm => ?_
    rw [Int.toNat_natCast] at tm
    have zms := Gr.fresh (by assumption) nms
    have eml := mends_len ld hd lp N
    walk_at "zrd"
    refine newL g (by first | omega | (simp; done) | (simp; omega)) fun q H3 nq zq s g tq => ?_
    have nmq := ne_of_none tm.h nq
    have tm := tm.monoN s
    walk_at "zrd"
    walk_at "zrd"
    refine i_words g M fun qw as H4 nqw s g tw pr => ?_
    have zqw := Gr.fresh (by assumption) nqw
    have tm := tm.monoN s
    have tq := tq.monoN s
    have ew : (as.map V.ref).length = ws.length := by rw [List.length_map, Paired.len pr, List.length_map]
    have hqw : SqL K H4 qw (as.map V.ref) := .inl (.inl tw.h)
    clear tw
    walk_at "zrd"
    rw [ew]
    refine forR (by omega) (by omega) (fun i σ H' => ∃ (v6 v7 v8 : Option V) (G : Hp) (fs : List Addr), σ = [some (.ref m), some (.ref a), some (.ref p), some (.int (N : Nat)), some (.ref ms), some (.ref q), v6, v7, v8, none, none] ∧ Gr No G0 H0 G H' ∧ At G H' ms (.lst ((mends ld hd lp N).map vO)) ∧ At G H' q (.lst (fs.map V.ref)) ∧ Paired (fun l w => TupL K G l ((rowsM (mend ld hd lp) lp (w : Nat) N).map vR)) fs (List.range i))
      ⟨none, none, none, G0, [], rfl, g, tm, tq, .nil⟩ ?_ ?_
    · rintro i σ H' hi ⟨v6, v7, v8, G, fs, rfl, g, tm, tq, pfs⟩
      rw [Int.toNat_natCast] at hi
      walk_at "zrd"
      refine newL g (by first | omega | (simp; done) | (simp; omega)) fun b0 H5 nb0 zb0 s g tb0 => ?_
      have nmb0 := ne_of_none tm.h nb0
      have nqb0 := ne_of_none tq.h nb0
      have tm := tm.monoN s
      have tq := tq.monoN s
      walk_at "zrd"
      have gA := g
      have tmA := tm
      have tqA := tq
      have tbA := tb0
      refine lcR (by omega) (by omega) (fun D j H' => Gr No G0 H0 G H' ∧ At G H' ms (.lst ((mends ld hd lp N).map vO)) ∧ At G H' q (.lst (fs.map V.ref)) ∧ At G H' b0 (.lst [.int 0]) ∧ At G H' D (.lst (((mB (mend ld hd lp) (i : Nat) j).map fun b => ((b : Nat) : Int)).map V.int))) ?_ ?_ ?_
      · intro D nD
        exact ⟨g.new nD, tm.new nD, tq.new nD, tb0.new nD, At.of g nD⟩
      · rintro D j H' nD hj ⟨g, tm, tq, tb0, tD⟩
        rw [Int.toNat_natCast] at hj
        have nmD : ms ≠ D := ne_of_none tmA.h nD
        have nqD : q ≠ D := ne_of_none tqA.h nD
        have nbD : b0 ≠ D := ne_of_none tbA.h nD
        have em : ((mends ld hd lp N).map vO)[j]? = some (vO (mend ld hd lp j)) := by rw [List.getElem?_map, mends_at ld hd lp hj]; rfl
        have hlen : (((mB (mend ld hd lp) (i : Nat) j).map fun b => ((b : Nat) : Int)).map V.int).length ≤ j := by rw [List.length_map, List.length_map]; exact mB_len _ _ _
        rw [mB_succ]
        walk_at "zrd"
        refine i_lcw rfl ?_
        walk_at "zrd"
        refine i_ixL (.inl (.inl tm.h)) (atN (k := j) rfl em) ?_
        walk_at "zrd"
        refine i_lcd (fun h0 => ?_) (fun h0 => ?_)
        · walk_at "zrd"
          refine lcp tD (by omega) ?_
          refine ⟨g.mut tD (.inr (gA.fresh nD)), tm.off nmD, tq.off nqD, tb0.off nbD, ?_⟩
          rw [if_pos h0, List.map_append, List.map_append]
          exact tD.put
        · refine ⟨g, tm, tq, tb0, ?_⟩
          rw [if_neg h0, List.append_nil]
          exact tD
      · rintro D H' nD ⟨g, tm, tq, tb0, tD⟩
        have zD := gA.fresh nD
        rw [Int.toNat_natCast] at tD
        have hml := mB_len (mend ld hd lp) (i : Nat) N
        walk_at "zrd"
        refine i_cat tb0.h tD.h ?_
        have eb : [V.int 0] ++ ((mB (mend ld hd lp) (i : Nat) N).map fun b => ((b : Nat) : Int)).map V.int = (begs (mend ld hd lp) (i : Nat) N).map V.int := rfl
        rw [eb]
        have hbl := begs_len (mend ld hd lp) (i : Nat) N
        have ebl : ((begs (mend ld hd lp) (i : Nat) N).map V.int).length = (mB (mend ld hd lp) (i : Nat) N).length + 1 := by rw [List.length_map, hbl]
        refine newL g (by first | omega | (simp; done) | (simp; omega)) fun bg H6 nbg zbg s g tbg => ?_
        have nmbg := ne_of_none tm.h nbg
        have nqbg := ne_of_none tq.h nbg
        have tm := tm.monoN s
        have tq := tq.monoN s
        walk_at "zrd"
        have hbg : SqL K H6 bg ((begs (mend ld hd lp) (i : Nat) N).map V.int) := .inl (.inl tbg.h)
        walk_at "zrd"
        rw [ebl, show (((mB (mend ld hd lp) (i : Nat) N).length + 1 : Nat) : Int) - 1 = (((mB (mend ld hd lp) (i : Nat) N).length : Nat) : Int) by omega]
        have gB := g
        have tmB := tm
        have tqB := tq
        have tbB := tbg
        refine lcR (by omega) (by omega) (fun E j H' => ∃ (G2 : Hp) (fa : List Addr), Gr No G H6 G2 H' ∧ At G2 H' ms (.lst ((mends ld hd lp N).map vO)) ∧ At G2 H' q (.lst (fs.map V.ref)) ∧ At G2 H' bg (.lst ((begs (mend ld hd lp) (i : Nat) N).map V.int)) ∧ At G2 H' E (.lst (fa.map V.ref)) ∧ Paired (fun p t => SqT K G2 p t) fa ((((mB (mend ld hd lp) (i : Nat) N).take j).map (rowB (mend ld hd lp) (i : Nat))).map vR)) ?_ ?_ ?_
        · intro E nE
          exact ⟨G, [], (Gr.refl g.sub).new nE, tm.new nE, tq.new nE, tbg.new nE, At.of g nE, .nil⟩
        · rintro E j H' nE hj ⟨G2, fa, g2, tm, tq, tbg, tE, pr2⟩
          rw [Int.toNat_natCast] at hj
          have g := g2
          have nmE : ms ≠ E := ne_of_none tmB.h nE
          have nqE : q ≠ E := ne_of_none tqB.h nE
          have nbE : bg ≠ E := ne_of_none tbB.h nE
          have hbg : SqL K H' bg ((begs (mend ld hd lp) (i : Nat) N).map V.int) := .inl (.inl tbg.h)
          have hfl : (fa.map V.ref).length = j := by
            rw [List.length_map, Paired.len pr2, List.length_map, List.length_map, List.length_take]
            omega
          obtain ⟨r1, r2⟩ := rows_at (lp := lp) hj
          walk_at "zrd"
          refine i_lcw rfl ?_
          walk_at "zrd"
          refine i_ixL hbg (atN (k := j) rfl (map_getD (d := 0) (by omega))) ?_
          walk_at "zrd"
          refine i_ixL hbg (atN (k := j + 1) (by omega) (map_getD (d := 0) (by omega))) ?_
          walk_at "zrd"
          refine i_ixL hbg (atN (k := j) rfl (map_getD (d := 0) (by omega))) ?_
          walk_at "zrd"
          refine newT (K := K) g (by first | omega | (simp; done) | (simp; omega)) fun u G3 H7 nu zu s g tu => ?_
          have nmu := ne_of_none tm.h nu
          have nqu := ne_of_none tq.h nu
          have nbgu := ne_of_none tbg.h nu
          have nEu := ne_of_none tE.h nu
          have tm := tm.monoN s
          have tq := tq.monoN s
          have tbg := tbg.monoN s
          have tE := tE.monoN s
          have pr2 := prt s.gg pr2
          walk_at "zrd"
          refine lcp tE (by omega) ?_
          refine ⟨G3, fa ++ [u], g.mut tE (.inr nE), tm.off nmE, tq.off nqE, tbg.off nbE, ?_, ?_⟩
          · rw [List.map_append]
            exact tE.put
          · rw [List.take_add_one, getD_at (d := 0) hj, List.map_append, List.map_append]
            refine Paired.snoc ?_ pr2
            show SqT K G3 u [V.int _, vO _]
            rw [← r1, ← r2]
            exact tu
        · rintro E H' nE ⟨G2, fa, g2, tm, tq, tbg, tE, pr2⟩
          rw [Int.toNat_natCast, List.take_length] at pr2
          have zE := gB.fresh nE
          have nqE : q ≠ E := ne_of_none tqB.h nE
          have nmE : ms ≠ E := ne_of_none tmB.h nE
          have pfs := Paired.imp (fun _ _ h => TupL.mono g2.gg h) pfs
          have g := g.seqN g2
          have hp1 := sqt (K := K) (g.gg.trans g.sub) hp
          have hb1 : SqL K H' pb (lp.map vO) := ls hpb (g.gg.trans g.sub)
          have hbg : SqL K H' bg ((begs (mend ld hd lp) (i : Nat) N).map V.int) := .inl (.inl tbg.h)
          have hfl : (fa.map V.ref).length ≤ N := by
            rw [List.length_map, Paired.len pr2, List.length_map, List.length_map]
            exact hml
          walk_at "zrd"
          refine ⟨fun σ H2 => ∃ (G3 : Hp) (fa : List Addr), σ = [some (.ref m), some (.ref a), some (.ref p), some (.int (N : Nat)), some (.ref ms), some (.ref q), some (.int (i : Nat)), some (.ref bg), some (.ref E), none, none] ∧ Gr No G0 H0 G3 H2 ∧ At G3 H2 ms (.lst ((mends ld hd lp N).map vO)) ∧ At G3 H2 q (.lst (fs.map V.ref)) ∧ Paired (fun l w => TupL K G3 l ((rowsM (mend ld hd lp) lp (w : Nat) N).map vR)) fs (List.range i) ∧ At G3 H2 E (.lst (fa.map V.ref)) ∧ Paired (fun p t => SqT K G3 p t) fa ((rowsM (mend ld hd lp) lp (i : Nat) N).map vR), ?_, ?_⟩
          · walk_at "zrd"
            refine i_niL hb1 rfl (flat_vOs lp) (inV_vOs _ lp) ?_
            walk_at "zrd"
            refine i_iteN (fun hn => ?_) (fun hn => ?_)
            · have er : rowsM (mend ld hd lp) lp (i : Nat) N = (mB (mend ld hd lp) (i : Nat) N).map (rowB (mend ld hd lp) (i : Nat)) ++ [((N : Int) - gl (mend ld hd lp) (i : Nat) N, none)] := by unfold rowsM; rw [if_neg hn]
              obtain ⟨ini, eini⟩ := begs_split (mend ld hd lp) (i : Nat) N
              rw [eini, List.map_append] at hbg
              walk_at "zrd"
              refine ⟨tyL tE.h, ?_⟩
              walk_at "zrd"
              refine i_ixL hbg (atI_last _ _) ?_
              walk_at "zrd"
              refine newT (K := K) g (by first | omega | (simp; done) | (simp; omega)) fun u G3 H7 nu zu s g tu => ?_
              have nmu := ne_of_none tm.h nu
              have nqu := ne_of_none tq.h nu
              have nEu := ne_of_none tE.h nu
              have tm := tm.monoN s
              have tq := tq.monoN s
              have tE := tE.monoN s
              have pr2 := prt s.gg pr2
              walk_at "zrd"
              have pfs := Paired.imp (fun _ _ h => TupL.mono s.gg h) pfs
              refine i_append tE.h (by omega) ?_
              walk_at "zrd"
              refine ⟨G3, fa ++ [u], rfl, g.mut tE (.inr zE), tm.off nmE, tq.off nqE, pfs, ?_, ?_⟩
              · rw [List.map_append]
                exact tE.put
              · rw [er, List.map_append]
                exact Paired.snoc tu pr2
            · have er : rowsM (mend ld hd lp) lp (i : Nat) N = (mB (mend ld hd lp) (i : Nat) N).map (rowB (mend ld hd lp) (i : Nat)) := by unfold rowsM; rw [if_pos (by simpa using hn), List.append_nil]
              walk_at "zrd"
              refine ⟨G2, fa, rfl, g, tm, tq, pfs, tE, ?_⟩
              rw [er]
              exact pr2
          · rintro σ H2 ⟨G3, fa, rfl, g, tm, tq, pfs, tE, pr2⟩
            have hfs : (fs.map V.ref).length = i := by rw [List.length_map, Paired.len pfs, List.length_range]
            walk_at "zrd"
            refine ⟨tyL tq.h, ?_⟩
            walk_at "zrd"
            refine i_append tq.h (by omega) ?_
            walk_at "zrd"
            have g := g.close tE zE
            have sE := same_close tE
            refine ⟨_, _, _, _, fs ++ [E], rfl, g.mut (tq.close nqE) (.inr zq), (tm.close nmE).off nmq, ?_, ?_⟩
            · rw [List.map_append]
              exact (tq.close nqE).put
            · rw [List.range_succ]
              exact Paired.snoc ⟨fa, upd_same, prt sE pr2⟩ (Paired.imp (fun _ _ h => TupL.mono sE h) pfs)
    · rintro σ H' ⟨v6, v7, v8, G, fs, rfl, g, tm, tq, pfs⟩
      rw [Int.toNat_natCast] at pfs
      walk_at "zrd"
      exact k q _ H' zq (g.close tq zq) ⟨fs, upd_same, Paired.imp (fun _ _ h => TupL.mono (same_close tq) h) pfs⟩
end
end Z
set_option Elab.async false
set_option linter.all false
set_option maxRecDepth 100000
set_option maxHeartbeats 4000000
namespace Z
open PySem PySem.Spec PyProof.Rows L2
local macro_rules | `(tactic| walk_at "zrd") => `(tactic| (repeat (first | ((with_reducible apply i_var); (· exact rfl)) | with_reducible refine i_c ?_ | with_reducible refine i_op ?_ | with_reducible refine i_I0 ?_ | with_reducible refine i_eqI ?_ | with_reducible refine i_neI ?_ | with_reducible refine i_test ?_ | with_reducible refine i_cons ?_ | with_reducible refine i_nil ?_ | with_reducible refine i_seq ?_ | with_reducible refine i_nx ?_ | with_reducible refine i_rt ?_ | with_reducible refine i_pass ?_ | with_reducible refine i_asg ?_ | with_reducible refine i_gname ?_ | with_reducible refine i_ret ?_ | with_reducible refine i_drop ?_ | with_reducible refine i_ifS ?_ | with_reducible refine i_if ?_ | with_reducible refine i_not ?_ | with_reducible refine i_and ?_ | with_reducible refine i_or ?_ | with_reducible refine i_lst ?_ | with_reducible refine i_tup ?_ | with_reducible refine i_cb ?_ | with_reducible refine i_call ?_ | with_reducible refine i_gsub ?_ | with_reducible refine i_B ?_ | with_reducible refine i_un ?_ | with_reducible refine i_U ?_ | with_reducible refine i_eqOI ?_ | with_reducible refine i_eqIO ?_ | with_reducible refine i_forL ?_ | with_reducible refine i_forT ?_ | with_reducible refine i_forR ?_ | with_reducible refine i_forR2 ?_ | with_reducible refine i_forR3 ?_ | with_reducible refine i_forE ?_ | with_reducible refine i_lcL ?_ | with_reducible refine i_lcT ?_ | with_reducible refine i_lcR ?_ | with_reducible refine i_yes ?_ | with_reducible refine i_lce ?_ | with_reducible refine i_lcf ?_ | with_reducible refine i_gcons ?_ | with_reducible refine i_gnil ?_ | with_reducible refine i_chain ?_ | with_reducible refine i_t ?_ | with_reducible refine i_f ?_ | with_reducible refine i_nt ?_ | with_reducible refine i_nf ?_ | with_reducible refine i_bm ?_ | with_reducible refine i_bm0 ?_ | with_reducible refine i_and2 ?_ | with_reducible refine i_or2 ?_ | with_reducible refine i_intI ?_ | with_reducible refine i_intB ?_ | with_reducible refine i_sl ?_ | with_reducible refine i_part ?_ | with_reducible refine i_nopart ?_ | with_reducible refine i_cut ?_ | with_reducible refine i_lrg ?_ | with_reducible refine i_make ?_ | with_reducible refine i_meth ?_ | with_reducible refine i_fld ?_ | with_reducible refine i_sfld ?_ | with_reducible refine i_dnew ?_ | with_reducible refine i_par3 ?_ | with_reducible refine i_par3e ?_ | with_reducible refine i_par2 ?_ | with_reducible refine i_par2e ?_ | with_reducible refine i_dput ?_ | with_reducible refine i_dget2 ?_ | with_reducible refine i_din ?_ | with_reducible refine i_dget ?_ | with_reducible refine i_isO ?_ | with_reducible refine i_isR ?_ | with_reducible refine i_isN ?_ | with_reducible refine i_isI ?_ | with_reducible refine i_noO ?_ | with_reducible refine i_noR ?_ | with_reducible refine i_noN ?_ | with_reducible refine i_noI ?_ | with_reducible refine (show ∃ k, V.bl _ = V.bl k ∧ _ from ⟨_, rfl, ?_⟩) | with_reducible refine (show ∃ k, V.int _ = V.int k ∧ _ from ⟨_, rfl, ?_⟩) | ((with_reducible apply i_ixL); (· assumption); (· exact rfl)) | ((with_reducible apply i_ixT); (· assumption); (· exact rfl)) | ((with_reducible apply i_lenL); (· assumption)) | ((with_reducible apply i_lenT); (· assumption)) | ((with_reducible apply i_I); (· (first | omega | (dsimp only; omega) | exact ⟨by omega, by omega⟩ | exact Or.inr ⟨by omega, by omega⟩ | exact Or.inl ⟨by omega, by omega⟩ | exact ⟨by decide, by decide, by decide⟩))) | ((with_reducible apply i_gtup); (· assumption); (· rfl)) | ((with_reducible apply i_p); (· omega)) | ((with_reducible apply i_n); (· omega)) | ((with_reducible apply i_np); (· omega)) | ((with_reducible apply i_nn); (· omega)) | ((with_reducible apply i_lcP); (· omega)) | ((with_reducible apply i_lcN); (· omega)) | ((with_reducible apply i_lcnP); (· omega)) | ((with_reducible apply i_lcnN); (· omega)))))
section
variable {P : Program} {w : World} {K : PySem.W.Frag} {mg : Str → Option Value} {base : Heap} {f : Addr} {fd : FuncData} {C : Addr}
abbrev sbreaking : Stmt := topS 23
theorem scbreaking : FnScope ["memory", "load", "plan", "best", "rows", "word", "limit", "begin", "length", "beat", "wide", "bears", "gap", "k"] ["memory", "load", "plan"] (defScope sbreaking) := ⟨rfl, rfl, rfl, by decide +kernel, rfl, by decide +kernel, by decide +kernel⟩
def BestV (K : PySem.W.Frag) (G : Hp) (ws : List W3) (v : V) (o : Option (Int × Nat)) : Prop := match o with
  | none => v = .non
  | some (t, w) => ∃ p L, v = .ref p ∧ w < ws.length ∧ lim (ws.getD w d3) = some L ∧ SqT K G p [.int t, .int (w : Nat), .int (t - L)]
theorem BestV.mono {G G' : Hp} {ws : List W3} {v : V} {o : Option (Int × Nat)} (e : Same G G') (h : BestV K G ws v o) : BestV K G' ws v o := by
  match o, h with
  | none, h => exact h
  | some (t, w), ⟨p, L, h1, h2, h3, h4⟩ => exact ⟨p, L, h1, h2, h3, sqt e h4⟩
theorem ok_breaking (T : Txt K mg) (C_words : CalMt P w K mg base C "words" 1 ["self"] (spWords K C)) (C_need_load : Cal P w K mg base "need_load" 1 ["load"] (spNeedLoad K)) (C_need_plan : Cal P w K mg base "need_plan" 2 ["memory", "plan"] (spNeedPlan K C)) (C_stretches : Cal P w K mg base "stretches" 2 ["memory", "load", "plan"] (spStretches K C)) (C_limits : Cal P w K mg base "limits" 2 ["memory"] (spLimits K C))
    (F : Fun K "breaking" "breaking" sbreaking f fd) : FnOk P w K mg base CX0 3 f fd ["memory", "load", "plan"] (spBreaking K C) := by
  refine F.ok scbreaking (fun vs H Q E h => ?_) (fun cdv A outer s H0 vs Q E hr h => ?_)
  · obtain ⟨G, m, a, p, ws, ld, hd, lp, rfl, _⟩ := h
    rfl
  · obtain ⟨G0, m, a, p, ws, ld, hd, lp, rfl, sb, M, hl, okl, pl, okp, k⟩ := h
    refine ⟨_, (pss_cons (ps_expr (pc C_need_load (hr.mono (by decide)) (pa_cons (pv 1) pa_nil)))
      (pss_cons (ps_expr (pc C_need_plan (hr.mono (by decide)) (pa_cons (pv 0) (pa_cons (pv 2) pa_nil))))
      (pss_cons (ps_set (i := 3) scbreaking.nd rfl (Or.inl rfl) pe_non)
      (pss_cons (ps_set (i := 4) scbreaking.nd rfl (Or.inl rfl) (pc C_stretches (hr.mono (by decide)) (pa_cons (pv 0) (pa_cons (pv 1) (pa_cons (pv 2) pa_nil)))))
      (pss_cons (ps_for PassesOwn.never rfl (pi_enum (by rfl) T.b_enumerate (pa_cons (pc C_limits (hr.mono (by decide)) (pa_cons (pv 0) pa_nil)) pa_nil)) (pg_tup rfl (pgs_cons (pg_name (i := 5) scbreaking.nd rfl (Or.inr rfl)) (pgs_cons (pg_name (i := 6) scbreaking.nd rfl (Or.inl rfl)) pgs_nil))) (pss_one (ps_for PassesOwn.never rfl (pi_list (pe_ix (r := rIxL K) ix_list (pv 4) (pv 5) (fun _ _ => rfl))) (pg_tup rfl (pgs_cons (pg_name (i := 7) scbreaking.nd rfl (Or.inr rfl)) (pgs_cons (pg_name (i := 8) scbreaking.nd rfl (Or.inl rfl)) pgs_nil))) (pss_one (ps_if (PW.pt (pw_and (pt_cmpR op_notNz (pv 6) pe_non (nomark _)) (pw_and1 (PW.pt (pw_or (pt_cmpR op_isNz (pv 8) pe_non (nomark _)) (pw_or1 (pt_cmpR op_gt (pv 8) (pv 6) (nomark _)))))))) (pss_one (ps_if (PW.pt (pw_or (pt_cmpR op_isNz (pv 3) pe_non (nomark _)) (pw_or1 (pt_cmpR op_lt (pe_op op_add (pv 7) (pv 6)) (pe_ix (r := rIxT K) ix_tup (pv 3) pe_int (fun _ _ => rfl)) (nomark _))))) (pss_one (ps_set (i := 3) scbreaking.nd rfl (Or.inl rfl) (pe_tup (pa_cons (pe_op op_add (pv 7) (pv 6)) (pa_cons (pv 5) (pa_cons (pv 7) pa_nil)))))) pss_nil)) pss_nil)))))
      (pss_cons (ps_if (pt_cmpR op_isNz (pv 3) pe_non (nomark _)) (pss_one (ps_ret pe_non)) pss_nil)
      (pss_cons (ps_asg (pv 3) (pg_tup rfl (pgs_cons (pg_name (i := 9) scbreaking.nd rfl (Or.inl rfl)) (pgs_cons (pg_name (i := 5) scbreaking.nd rfl (Or.inr rfl)) (pgs_cons (pg_name (i := 7) scbreaking.nd rfl (Or.inr rfl)) pgs_nil)))))
      (pss_cons (ps_asg (pe_ix (r := rIxL K) ix_list (pmt C_words (hr.mono (by decide)) (pv 0)) (pv 5) (fun _ _ => rfl)) (pg_tup rfl (pgs_cons (pg_name (i := 10) scbreaking.nd rfl (Or.inl rfl)) (pgs_cons (pg_name (i := 11) scbreaking.nd rfl (Or.inl rfl)) (pgs_cons (pg_name (i := 12) scbreaking.nd rfl (Or.inr rfl)) pgs_nil)))))
      (pss_one (ps_ret (pe_tup (pa_cons (pv 9) (pa_cons (pv 5) (pa_cons (pe_lc (own := [("k", 13)]) (g := gName 13) rfl scbreaking.nd (pi_range1 (by rfl) T.b_range (pa_cons (pe_op op_add (pv 11) pe_int) pa_nil)) (blkOk_by (own := [("k", 13)]) (N := ["memory", "load", "plan", "best", "rows", "word", "limit", "begin", "length", "beat", "wide", "bears", "gap", "k"]) (sc := defScope sbreaking) (by decide +kernel)) (fun _ _ _ _ _ => (pg_name (i := 13) scbreaking.nd rfl (Or.inl rfl))) (fun _ _ _ _ _ => pts_nil) (fun _ _ _ _ _ => (pe_tup (pa_cons (pe_op op_add (pv 7) (pe_op op_mul (pv 13) (pv 12))) (pa_cons (pv 5) (pa_cons (pv 13) pa_nil)))))) pa_nil)))))))))))))), ?_⟩
    try dsimp only [cxOf, L2.Cx.nox, L2.Cx.wish]
    refine i_start (σ' := [some (.ref m), some (.ref a), some (.ref p), none, none, none, none, none, none, none, none, none, none, none]) rfl ?_
    have g : Gr No G0 H0 G0 H0 := Gr.refl sb
    have okm := M.ok
    have l4 := okm.l4
    walk_at "zrd"
    refine i_needLoad g hl okl fun H1 s g => ?_
    walk_at "zrd"
    refine i_needPlan g M pl okp fun H2 s g => ?_
    walk_at "zrd"
    refine i_stretches g M hl okl pl okp fun r G H4 nr s g hrows => ?_
    obtain ⟨rl, hrl, prr⟩ := hrows
    have erl : (rl.map V.ref).length = ws.length := by rw [List.length_map, Paired.len prr, List.length_range]
    have M := M.mono g.gg
    walk_at "zrd"
    refine i_limits g M fun q H5 nq s g tq => ?_
    have zq := Gr.fresh (by assumption) nq
    have eq : ((ws.map lim).map vO).length = ws.length := by rw [List.length_map, List.length_map]
    walk_at "zrd"
    refine forE (.inl (.inl tq.h)) (fun i σ H' => ∃ (v5 v6 v7 v8 : Option V) (bv : V) (G2 : Hp) (o : Option (Int × Nat)), σ = [some (.ref m), some (.ref a), some (.ref p), some bv, some (.ref r), v5, v6, v7, v8, none, none, none, none, none] ∧ Same G G2 ∧ Gr No G0 H0 G2 H' ∧ At G2 H' q (.lst ((ws.map lim).map vO)) ∧ BestV K G2 ws bv o ∧ Best (CandTo ws (fun w => rowsM (mend ld hd lp) lp (w : Nat) (nB ld hd lp)) i 0) o)
      ⟨none, none, none, none, .non, G, none, rfl, Same.refl G, g, tq, rfl, best_zero⟩ ?_ ?_ ?_
    · rintro i σ H' hi ⟨v5, v6, v7, v8, bv, G2, o, rfl, sG, g, tq, hbv, hb⟩
      exact .inl (.inl tq.h)
    · rintro i x σ H' pe hx ⟨v5, v6, v7, v8, bv, G2, o, rfl, sG, g, tq, hbv, hb⟩ npe
      have hi2 : i < ws.length := by rw [← eq]; exact (List.getElem?_eq_some_iff.mp hx).1
      have hx2 : x = vO (lim (ws.getD i d3)) := by
        rw [List.getElem?_map, List.getElem?_map, getD_at (d := d3) hi2] at hx
        exact (Option.some.inj hx).symm
      subst hx2
      obtain ⟨ra, hra⟩ : ∃ ra, rl[i]? = some ra := ⟨_, List.getElem?_eq_getElem (by rw [← erl, List.length_map] at hi2; exact hi2)⟩
      obtain ⟨fa, hfa, pfa⟩ := Paired.at prr hra (List.getElem?_range hi2)
      have g := g.new (o := .tup [.int (i : Nat), vO (lim (ws.getD i d3))]) npe
      have tq := tq.new (u := .tup [.int (i : Nat), vO (lim (ws.getD i d3))]) npe
      have hpe : SqT K (upd H' pe (.tup [.int (i : Nat), vO (lim (ws.getD i d3))])) pe [.int (i : Nat), vO (lim (ws.getD i d3))] := .inl (.inl upd_same)
      revert g tq hpe
      generalize upd H' pe (.tup [.int (i : Nat), vO (lim (ws.getD i d3))]) = H6
      intro g tq hpe
      have erw : (fa.map V.ref).length = (rowsM (mend ld hd lp) lp (i : Nat) (nB ld hd lp)).length := by rw [List.length_map, Paired.len pfa, List.length_map]
      walk_at "zrd"
      refine i_ixL (ls hrl (sG.trans g.sub)) (atN (k := i) rfl (by rw [List.getElem?_map, hra]; rfl)) ?_
      walk_at "zrd"
      refine forL (ls hfa (sG.trans g.sub)) (fun j σ H' => ∃ (v7 v8 : Option V) (bv : V) (G2 : Hp) (o : Option (Int × Nat)), σ = [some (.ref m), some (.ref a), some (.ref p), some bv, some (.ref r), some (.int (i : Nat)), some (vO (lim (ws.getD i d3))), v7, v8, none, none, none, none, none] ∧ Same G G2 ∧ Gr No G0 H0 G2 H' ∧ At G2 H' q (.lst ((ws.map lim).map vO)) ∧ BestV K G2 ws bv o ∧ Best (CandTo ws (fun w => rowsM (mend ld hd lp) lp (w : Nat) (nB ld hd lp)) i j) o)
        ⟨_, _, bv, G2, o, rfl, sG, g, tq, hbv, hb⟩ ?_ ?_ ?_
      · rintro j σ H' hj ⟨v7, v8, bv, G2, o, rfl, sG, g, tq, hbv, hb⟩
        exact ls hfa (sG.trans g.sub)
      · rintro j x σ H' hx ⟨v7, v8, bv, G2, o, rfl, sG, g, tq, hbv, hb⟩
        have hj : j < (rowsM (mend ld hd lp) lp (i : Nat) (nB ld hd lp)).length := by rw [← erw]; exact (List.getElem?_eq_some_iff.mp hx).1
        have hRj := List.getElem?_eq_getElem hj
        obtain ⟨pa, hpa, hat⟩ := tup_at (t := vR (rowsM (mend ld hd lp) lp (i : Nat) (nB ld hd lp))[j]) pfa (by rw [List.getElem?_map, hRj]; rfl)
        rw [List.getElem?_map, hpa] at hx
        cases hx
        have hat1 := sqt (sG.trans g.sub) hat
        obtain ⟨b, len, eR⟩ : ∃ b len, (rowsM (mend ld hd lp) lp (i : Nat) (nB ld hd lp))[j] = (b, len) := ⟨_, _, rfl⟩
        rw [eR] at hat1 hRj
        dsimp only [vR] at hat1
        cases hL : lim (ws.getD i d3) with
        | none =>
          walk_at "zrd"
          refine ⟨_, _, bv, G2, o, rfl, sG, g, tq, hbv, best_no hb hRj fun L h => ?_⟩
          rw [hL] at h
          cases h
        | some L =>
          dsimp only [vO]
          have hLn := lim_nat (okm.ok _ (getD_mem hi2)) hL
          cases len with
          | none =>
            have hc : (none : Option Int) = none ∨ ∃ x, (none : Option Int) = some x ∧ L < x := .inl rfl
            dsimp only [vO] at hat1
            walk_at "zrd"
            match o, hbv, hb with
            | none, hbv, hb =>
              have e : bv = .non := hbv
              subst e
              walk_at "zrd"
              refine newT (K := K) g (by first | omega | (simp; done) | (simp; omega)) fun u G3 H8 nu zu s g tu => ?_
              have nqu := ne_of_none tq.h nu
              have tq := tq.monoN s
              walk_at "zrd"
              exact ⟨_, _, .ref u, G3, some (b + L, i), rfl, sG.trans s.gg, g, tq, ⟨u, L, rfl, hi2, hL, by rw [Int.add_sub_cancel]; exact tu⟩, best_take hb hRj hL hc (fun t w e => by cases e)⟩
            | some (t, w), ⟨pb, L2, e, hw2, hL2, hpb⟩, hb =>
              subst e
              have hpb1 := sqt g.sub hpb
              walk_at "zrd"
              refine i_ite (fun hlt => ?_) (fun hlt => ?_)
              · walk_at "zrd"
                refine newT (K := K) g (by first | omega | (simp; done) | (simp; omega)) fun u G3 H8 nu zu s g tu => ?_
                have nqu := ne_of_none tq.h nu
                have tq := tq.monoN s
                walk_at "zrd"
                exact ⟨_, _, .ref u, G3, some (b + L, i), rfl, sG.trans s.gg, g, tq, ⟨u, L, rfl, hi2, hL, by rw [Int.add_sub_cancel]; exact tu⟩, best_take hb hRj hL hc (fun t' w' e => by cases e; exact hlt)⟩
              · walk_at "zrd"
                exact ⟨_, _, .ref pb, G2, some (t, w), rfl, sG, g, tq, ⟨pb, L2, rfl, hw2, hL2, hpb⟩, best_keep hb hRj hL hc hlt⟩
          | some x =>
            dsimp only [vO] at hat1
            walk_at "zrd"
            refine i_ite (fun hx => ?_) (fun hx => ?_)
            · have hc : some x = none ∨ ∃ y, some x = some y ∧ L < y := .inr ⟨x, rfl, hx⟩
              walk_at "zrd"
              match o, hbv, hb with
              | none, hbv, hb =>
                have e : bv = .non := hbv
                subst e
                walk_at "zrd"
                refine newT (K := K) g (by first | omega | (simp; done) | (simp; omega)) fun u G3 H8 nu zu s g tu => ?_
                have nqu := ne_of_none tq.h nu
                have tq := tq.monoN s
                walk_at "zrd"
                exact ⟨_, _, .ref u, G3, some (b + L, i), rfl, sG.trans s.gg, g, tq, ⟨u, L, rfl, hi2, hL, by rw [Int.add_sub_cancel]; exact tu⟩, best_take hb hRj hL hc (fun t w e => by cases e)⟩
              | some (t, w), ⟨pb, L2, e, hw2, hL2, hpb⟩, hb =>
                subst e
                have hpb1 := sqt g.sub hpb
                walk_at "zrd"
                refine i_ite (fun hlt => ?_) (fun hlt => ?_)
                · walk_at "zrd"
                  refine newT (K := K) g (by first | omega | (simp; done) | (simp; omega)) fun u G3 H8 nu zu s g tu => ?_
                  have nqu := ne_of_none tq.h nu
                  have tq := tq.monoN s
                  walk_at "zrd"
                  exact ⟨_, _, .ref u, G3, some (b + L, i), rfl, sG.trans s.gg, g, tq, ⟨u, L, rfl, hi2, hL, by rw [Int.add_sub_cancel]; exact tu⟩, best_take hb hRj hL hc (fun t' w' e => by cases e; exact hlt)⟩
                · walk_at "zrd"
                  exact ⟨_, _, .ref pb, G2, some (t, w), rfl, sG, g, tq, ⟨pb, L2, rfl, hw2, hL2, hpb⟩, best_keep hb hRj hL hc hlt⟩
            · walk_at "zrd"
              refine ⟨_, _, bv, G2, o, rfl, sG, g, tq, hbv, best_no hb hRj fun L2 h h2 => ?_⟩
              rw [hL] at h
              cases h
              rcases h2 with h2 | ⟨y, h2, h3⟩
              · cases h2
              · cases h2
                exact hx h3
      · rintro σ H' ⟨v7, v8, bv, G2, o, rfl, sG, g, tq, hbv, hb⟩
        rw [erw] at hb
        walk_at "zrd"
        exact ⟨_, _, _, _, bv, G2, o, rfl, sG, g, tq, hbv, best_next hb⟩
    · rintro σ H' ⟨v5, v6, v7, v8, bv, G2, o, rfl, sG, g, tq, hbv, hb⟩
      rw [eq] at hb
      have hfin := best_brk okm okl okp hb
      match o, hbv, hfin with
      | none, hbv, hfin =>
        have e : bv = .non := hbv
        subst e
        walk_at "zrd"
        exact k none .non G2 H' g hfin rfl
      | some (t, w), ⟨pb, L, e, hw, hL, hpb⟩, ⟨n, hn, _, hbrk⟩ =>
        subst e hn
        have hpb1 := sqt g.sub hpb
        have M2 := M.mono sG
        obtain ⟨o1, o2, o3, o4, o5, o6⟩ := okm.ok _ (getD_mem (d := d3) hw)
        have eL : L = (ws.getD w d3).2.1 * (ws.getD w d3).2.2 := by
          unfold lim at hL
          split at hL
          · cases hL
          · exact (Option.some.inj hL).symm
        walk_at "zrd"
        refine i_words g M2 fun qw as H6 nqw s g tw prw => ?_
        obtain ⟨ap, hap, hat⟩ := word_at prw (getD_at (d := d3) hw)
        have hat1 := sqt g.sub hat
        walk_at "zrd"
        refine i_ixL (.inl (.inl tw.h)) (atN (k := w) rfl hap) ?_
        walk_at "zrd"
        have gB := g
        refine lcR (by omega) (by omega) (fun D j H' => ∃ (G3 : Hp) (fa : List Addr), Gr No G2 H6 G3 H' ∧ At G3 H' D (.lst (fa.map V.ref)) ∧ Paired (fun p t => SqT K G3 p t) fa (((List.range j).map fun (k : Nat) => ((n : Int) - (ws.getD w d3).2.1 * (ws.getD w d3).2.2 + (k : Int) * (ws.getD w d3).2.2, ((w : Int), (k : Int)))).map vW)) ?_ ?_ ?_
        · intro D nD
          exact ⟨G2, [], (Gr.refl g.sub).new nD, At.of g nD, .nil⟩
        · rintro D j H' nD hj ⟨G3, fa, g, tD, pr⟩
          have hfl : (fa.map V.ref).length = j := by
            rw [List.length_map, Paired.len pr, List.length_map, List.length_map, List.length_range]
          walk_at "zrd"
          refine i_lcw rfl ?_
          walk_at "zrd"
          refine newT (K := K) g (by first | omega | (simp; done) | (simp; omega)) fun u G4 H8 nu zu s g tu => ?_
          have nDu := ne_of_none tD.h nu
          have tD := tD.monoN s
          have pr := prt s.gg pr
          walk_at "zrd"
          refine lcp tD (by omega) ?_
          refine ⟨G4, fa ++ [u], g.mut tD (.inr nD), ?_, ?_⟩
          · rw [List.map_append]
            exact tD.put
          · rw [List.range_succ, List.map_append, List.map_append]
            refine Paired.snoc ?_ pr
            rw [← eL]
            exact tu
        · rintro D H' nD ⟨G3, fa, g2, tD, pr⟩
          have zD := gB.fresh nD
          have g := gB.seqN g2
          rw [show ((ws.getD w d3).2.1 + 1).toNat = (ws.getD w d3).2.1.toNat + 1 by omega] at pr
          walk_at "zrd"
          refine newT (K := K) g (by first | omega | (simp; done) | (simp; omega)) fun r4 G4 H8 nr4 zr4 s g tr4 => ?_
          have nDr4 := ne_of_none tD.h nr4
          have tD := tD.monoN s
          have pr := prt s.gg pr
          walk_at "zrd"
          exact k (some (n, w)) (.ref r4) G4 _ g hbrk ⟨r4, D, fa, rfl, zr4, zD, tr4, tD, pr⟩
end
end Z
set_option Elab.async false
set_option linter.all false
set_option maxRecDepth 100000
set_option maxHeartbeats 4000000
namespace Z
open PySem PySem.Spec PyProof.Rows L2
local macro_rules | `(tactic| walk_at "zrd") => `(tactic| (repeat (first | ((with_reducible apply i_var); (· exact rfl)) | with_reducible refine i_c ?_ | with_reducible refine i_op ?_ | with_reducible refine i_I0 ?_ | with_reducible refine i_eqI ?_ | with_reducible refine i_neI ?_ | with_reducible refine i_test ?_ | with_reducible refine i_cons ?_ | with_reducible refine i_nil ?_ | with_reducible refine i_seq ?_ | with_reducible refine i_nx ?_ | with_reducible refine i_rt ?_ | with_reducible refine i_pass ?_ | with_reducible refine i_asg ?_ | with_reducible refine i_gname ?_ | with_reducible refine i_ret ?_ | with_reducible refine i_drop ?_ | with_reducible refine i_ifS ?_ | with_reducible refine i_if ?_ | with_reducible refine i_not ?_ | with_reducible refine i_and ?_ | with_reducible refine i_or ?_ | with_reducible refine i_lst ?_ | with_reducible refine i_tup ?_ | with_reducible refine i_cb ?_ | with_reducible refine i_call ?_ | with_reducible refine i_gsub ?_ | with_reducible refine i_B ?_ | with_reducible refine i_un ?_ | with_reducible refine i_U ?_ | with_reducible refine i_eqOI ?_ | with_reducible refine i_eqIO ?_ | with_reducible refine i_forL ?_ | with_reducible refine i_forT ?_ | with_reducible refine i_forR ?_ | with_reducible refine i_forR2 ?_ | with_reducible refine i_forR3 ?_ | with_reducible refine i_forE ?_ | with_reducible refine i_lcL ?_ | with_reducible refine i_lcT ?_ | with_reducible refine i_lcR ?_ | with_reducible refine i_yes ?_ | with_reducible refine i_lce ?_ | with_reducible refine i_lcf ?_ | with_reducible refine i_gcons ?_ | with_reducible refine i_gnil ?_ | with_reducible refine i_chain ?_ | with_reducible refine i_t ?_ | with_reducible refine i_f ?_ | with_reducible refine i_nt ?_ | with_reducible refine i_nf ?_ | with_reducible refine i_bm ?_ | with_reducible refine i_bm0 ?_ | with_reducible refine i_and2 ?_ | with_reducible refine i_or2 ?_ | with_reducible refine i_intI ?_ | with_reducible refine i_intB ?_ | with_reducible refine i_sl ?_ | with_reducible refine i_part ?_ | with_reducible refine i_nopart ?_ | with_reducible refine i_cut ?_ | with_reducible refine i_lrg ?_ | with_reducible refine i_make ?_ | with_reducible refine i_meth ?_ | with_reducible refine i_fld ?_ | with_reducible refine i_sfld ?_ | with_reducible refine i_dnew ?_ | with_reducible refine i_par3 ?_ | with_reducible refine i_par3e ?_ | with_reducible refine i_par2 ?_ | with_reducible refine i_par2e ?_ | with_reducible refine i_dput ?_ | with_reducible refine i_dget2 ?_ | with_reducible refine i_din ?_ | with_reducible refine i_dget ?_ | with_reducible refine i_isO ?_ | with_reducible refine i_isR ?_ | with_reducible refine i_isN ?_ | with_reducible refine i_isI ?_ | with_reducible refine i_noO ?_ | with_reducible refine i_noR ?_ | with_reducible refine i_noN ?_ | with_reducible refine i_noI ?_ | with_reducible refine (show ∃ k, V.bl _ = V.bl k ∧ _ from ⟨_, rfl, ?_⟩) | with_reducible refine (show ∃ k, V.int _ = V.int k ∧ _ from ⟨_, rfl, ?_⟩) | ((with_reducible apply i_ixL); (· assumption); (· exact rfl)) | ((with_reducible apply i_ixT); (· assumption); (· exact rfl)) | ((with_reducible apply i_lenL); (· assumption)) | ((with_reducible apply i_lenT); (· assumption)) | ((with_reducible apply i_I); (· (first | omega | (dsimp only; omega) | exact ⟨by omega, by omega⟩ | exact Or.inr ⟨by omega, by omega⟩ | exact Or.inl ⟨by omega, by omega⟩ | exact ⟨by decide, by decide, by decide⟩))) | ((with_reducible apply i_gtup); (· assumption); (· rfl)) | ((with_reducible apply i_p); (· omega)) | ((with_reducible apply i_n); (· omega)) | ((with_reducible apply i_np); (· omega)) | ((with_reducible apply i_nn); (· omega)) | ((with_reducible apply i_lcP); (· omega)) | ((with_reducible apply i_lcN); (· omega)) | ((with_reducible apply i_lcnP); (· omega)) | ((with_reducible apply i_lcnN); (· omega)))))
section
variable {P : Program} {w : World} {K : PySem.W.Frag} {mg : Str → Option Value} {base : Heap} {f : Addr} {fd : FuncData}
abbrev s_law_soonest : Stmt := topS 33
theorem sc_law_soonest : FnScope ["_law_words", "_law_load_here", "_law_plan_here", "_law_beats", "_law_mends_here", "_law_word", "_law_ages", "_law_beat", "_law_wide", "_law_bears", "_law_gap", "_law_age"] ["_law_words", "_law_load_here", "_law_plan_here", "_law_beats"] (defScope s_law_soonest) := ⟨rfl, rfl, rfl, by decide +kernel, rfl, by decide +kernel, by decide +kernel⟩
theorem ok_soonest (T : Txt K mg) (C__law_mends : Cal P w K mg base "_law_mends" 1 ["_law_load_here", "_law_plan_here", "_law_beats"] (spMends K)) (F : Fun K "_law_soonest" "_law_soonest" s_law_soonest f fd) : FnOk P w K mg base CX0 2 f fd ["_law_words", "_law_load_here", "_law_plan_here", "_law_beats"] (spSoonest K) := by
  refine F.ok sc_law_soonest (fun vs H Q E h => ?_) (fun cdv A outer s H0 vs Q E hr h => ?_)
  · obtain ⟨G, m, a, p, n, ws, ld, hd, lp, rfl, _⟩ := h
    rfl
  · obtain ⟨G0, m, a, p, n, ws, ld, hd, lp, rfl, sb, ⟨wa, hwa, wpr⟩, okw, hl, okl, pl, okp, n0, n1, k⟩ := h
    refine ⟨_, (pss_cons (ps_set (i := 4) sc_law_soonest.nd rfl (Or.inl rfl) (pc C__law_mends (hr.mono (by decide)) (pa_cons (pv 1) (pa_cons (pv 2) (pa_cons (pv 3) pa_nil)))))
      (pss_cons (ps_setLc (i := 6) (own := [("_law_word", 5)]) (g := gName 5) rfl sc_law_soonest.nd rfl rfl (sw_true rfl rfl rfl (by decide +kernel)) (pi_list (pv 0)) (blkOk_by (own := [("_law_word", 5)]) (N := ["_law_words", "_law_load_here", "_law_plan_here", "_law_beats", "_law_mends_here", "_law_word", "_law_ages", "_law_beat", "_law_wide", "_law_bears", "_law_gap", "_law_age"]) (sc := defScope s_law_soonest) (by decide +kernel)) (fun _ _ _ _ _ => (pg_name (i := 5) sc_law_soonest.nd rfl (Or.inl rfl))) (fun _ _ _ _ _ => pts_nil) (fun _ _ _ _ _ => pe_int))
      (pss_cons (ps_for PassesOwn.never rfl (pi_range1 (by rfl) T.b_range (pa_cons (pv 3) pa_nil)) (pg_name (i := 7) sc_law_soonest.nd rfl (Or.inl rfl)) (pss_cons (ps_for PassesOwn.never rfl (pi_range1 (by rfl) T.b_range (pa_cons (pe_callB (r := rLen K) cl_len (by rfl) T.b_len (by decide +kernel) (pa_cons (pv 0) pa_nil)) pa_nil)) (pg_name (i := 5) sc_law_soonest.nd rfl (Or.inl rfl)) (pss_cons (ps_asg (pe_ix (r := rIxL K) ix_list (pv 0) (pv 5) (fun _ _ => rfl)) (pg_tup rfl (pgs_cons (pg_name (i := 8) sc_law_soonest.nd rfl (Or.inl rfl)) (pgs_cons (pg_name (i := 9) sc_law_soonest.nd rfl (Or.inl rfl)) (pgs_cons (pg_name (i := 10) sc_law_soonest.nd rfl (Or.inl rfl)) pgs_nil)))))
      (C8.pss_cut (ps_if (pt_cmpR op_eq (pe_ix (r := rIxL K) ix_list (pv 4) (pv 7) (fun _ _ => rfl)) (pv 5) (nomark _)) (pss_one (ps_asg pe_int (pg_sub (pv 6) (pv 5) set_list))) pss_nil)
      (pss_one (ps_if (PW.pt (pw_and (pt_cmpR op_gt (pe_op op_add (pe_op op_fdiv (pe_ix (r := rIxL K) ix_list (pv 6) (pv 5) (fun _ _ => rfl)) (pv 10)) pe_int) (pv 9) (nomark _)) (pw_and1 (pt_cmpR op_lt (pv 9) (pv 8) (nomark _))))) (pss_one (ps_ret (pe_tup (pa_cons (pv 7) (pa_cons (pv 5) pa_nil))))) pss_nil)))))
      (pss_one (ps_setLc (i := 6) (own := [("_law_age", 11)]) (g := gName 11) rfl sc_law_soonest.nd rfl rfl (sw_true rfl rfl rfl (by decide +kernel)) (pi_list (pv 6)) (blkOk_by (own := [("_law_age", 11)]) (N := ["_law_words", "_law_load_here", "_law_plan_here", "_law_beats", "_law_mends_here", "_law_word", "_law_ages", "_law_beat", "_law_wide", "_law_bears", "_law_gap", "_law_age"]) (sc := defScope s_law_soonest) (by decide +kernel)) (fun _ _ _ _ _ => (pg_name (i := 11) sc_law_soonest.nd rfl (Or.inl rfl))) (fun _ _ _ _ _ => pts_nil) (fun _ _ _ _ _ => (pe_op op_add (pv 11) pe_int))))))
      (pss_one (ps_ret pe_non))))), ?_⟩
    try dsimp only [cxOf, L2.Cx.nox, L2.Cx.wish]
    refine i_start (σ' := [some (.ref m), some (.ref a), some (.ref p), some (.int n), none, none, none, none, none, none, none, none]) rfl ?_
    have g : Gr No G0 H0 G0 H0 := Gr.refl sb
    obtain ⟨N, rfl⟩ : ∃ N : Nat, n = N := ⟨n.toNat, by omega⟩
    rw [Int.toNat_natCast] at k
    have w4 := okw.l4
    have ew : (wa.map V.ref).length = ws.length := by rw [List.length_map, Paired.len wpr, List.length_map]
    generalize hmf : mend ld hd lp = mf at k
    walk_at "zrd"
    refine i_mends g hl okl pl okp (by omega) (by omega) fun ms H2 nms s g tm => ?_
    rw [Int.toNat_natCast] at tm
    have zms := Gr.fresh (by assumption) nms
    have eml := mends_len ld hd lp N
    have gA := g
    have tmA := tm
    walk_at "zrd"
    refine lcL (ls (K := K) hwa g.sub) (fun D i H' => Gr No G0 H0 G0 H' ∧ At G0 H' ms (.lst ((mends ld hd lp N).map vO)) ∧ At G0 H' D (.lst ((List.replicate i (0 : Int)).map V.int))) ?_ ?_ ?_ ?_
    · intro D nD
      exact ⟨g.new nD, tm.new nD, At.of g nD⟩
    · rintro D i H' nD ⟨g, tm, tD⟩
      exact ls hwa g.sub
    · rintro D i x H' nD hx ⟨g, tm, tD⟩
      have nmD : ms ≠ D := ne_of_none tmA.h nD
      have hi : i < ws.length := by rw [← ew]; exact (List.getElem?_eq_some_iff.mp hx).1
      walk_at "zrd"
      refine i_lcw rfl ?_
      walk_at "zrd"
      refine lcp tD (by rw [List.length_map, List.length_replicate]; omega) ?_
      refine ⟨g.mut tD (.inr (gA.fresh nD)), tm.off nmD, ?_⟩
      rw [List.replicate_succ', List.map_append]
      exact tD.put
    · rintro D H' nD ⟨g, tm, tD⟩
      have zD := gA.fresh nD
      have nmD : ms ≠ D := ne_of_none tmA.h nD
      rw [ew, ← ages_zero mf] at tD
      walk_at "zrd"
      refine forR (by omega) (by omega) (fun b σ H' => ∃ (v5 v7 v8 v9 v10 : Option V) (ag : Addr), σ = [some (.ref m), some (.ref a), some (.ref p), some (.int (N : Nat)), some (.ref ms), v5, some (.ref ag), v7, v8, v9, v10, none] ∧ Gr No G0 H0 G0 H' ∧ At G0 H' ms (.lst ((mends ld hd lp N).map vO)) ∧ H0 ag = none ∧ ms ≠ ag ∧ At G0 H' ag (.lst ((ages mf ws.length b 0).map V.int)) ∧ ∀ s, s < b → ∀ v, v < ws.length → ¬ Late ws mf v s)
        ⟨none, none, none, none, none, D, rfl, g, tm, zD, nmD, tD, fun s hs => absurd hs (Nat.not_lt_zero s)⟩ ?_ ?_
      · rintro b σ H' hb ⟨v5, v7, v8, v9, v10, ag, rfl, g, tm, zag, nma, tag, hno⟩
        rw [Int.toNat_natCast] at hb
        have em : ((mends ld hd lp N).map vO)[b]? = some (vO (mf b)) := by rw [← hmf, List.getElem?_map, mends_at ld hd lp hb]; rfl
        have hm1 : SqL K H' m (wa.map V.ref) := ls hwa g.sub
        walk_at "zrd"
        rw [ew]
        refine forR (by omega) (by omega) (fun j σ H' => ∃ (v5 v8 v9 v10 : Option V), σ = [some (.ref m), some (.ref a), some (.ref p), some (.int (N : Nat)), some (.ref ms), v5, some (.ref ag), some (.int (b : Nat)), v8, v9, v10, none] ∧ Gr No G0 H0 G0 H' ∧ At G0 H' ms (.lst ((mends ld hd lp N).map vO)) ∧ At G0 H' ag (.lst ((ages mf ws.length b j).map V.int)) ∧ ∀ v, v < j → ¬ Late ws mf v b)
          ⟨_, _, _, _, rfl, g, tm, tag, fun v hv => absurd hv (Nat.not_lt_zero v)⟩ ?_ ?_
        · rintro j σ H' hj ⟨v5, v8, v9, v10, rfl, g, tm, tag, hnj⟩
          rw [Int.toNat_natCast] at hj
          obtain ⟨ap, hap, hat⟩ := word_at wpr (getD_at (d := d3) hj)
          have hat1 := sqt g.sub hat
          obtain ⟨o1, o2, o3, o4, o5, o6⟩ := okw.ok _ (getD_mem (d := d3) hj)
          walk_at "zrd"
          refine i_ixL (ls hwa g.sub) (atN (k := j) rfl hap) ?_
          walk_at "zrd"
          refine ⟨fun σ H2 => σ = [some (.ref m), some (.ref a), some (.ref p), some (.int (N : Nat)), some (.ref ms), some (.int (j : Nat)), some (.ref ag), some (.int (b : Nat)), some (.int (ws.getD j d3).1), some (.int (ws.getD j d3).2.1), some (.int (ws.getD j d3).2.2), none] ∧ Gr No G0 H0 G0 H2 ∧ At G0 H2 ms (.lst ((mends ld hd lp N).map vO)) ∧ At G0 H2 ag (.lst ((ages mf ws.length b (j + 1)).map V.int)), ?_, ?_⟩
          · walk_at "zrd"
            refine i_ixL (.inl (.inl tm.h)) (atN (k := b) rfl em) ?_
            walk_at "zrd"
            refine i_ite (fun hm => ?_) (fun hm => ?_)
            · walk_at "zrd"
              refine i_setL ((ages mf ws.length b (j + 1)).map V.int) tag.h (ixN_nat (k := j) rfl (by rw [List.length_map, ages_len]; exact hj)) (by rw [← ages_yes hm, List.map_set]) ?_
              walk_at "zrd"
              exact ⟨rfl, g.mut tag (.inr zag), tm.off nma, tag.put⟩
            · walk_at "zrd"
              rw [← ages_no hm]
              exact ⟨rfl, g, tm, tag⟩
          · rintro σ H2 ⟨rfl, g, tm, tag⟩
            have ea : ((ages mf ws.length b (j + 1)).map V.int)[j]? = some (.int (((gl mf (j : Nat) (b + 1) : Nat) : Int) - 1)) := by
              rw [List.getElem?_map, ages_at hj, if_pos (Nat.lt_succ_self j)]
              rfl
            walk_at "zrd"
            refine i_ixL (.inl (.inl tag.h)) (atN (k := j) rfl ea) ?_
            walk_at "zrd"
            refine i_ite (fun h1 => ?_) (fun h1 => ?_)
            · walk_at "zrd"
              refine i_ite (fun h2 => ?_) (fun h2 => ?_)
              · have hlate := (late_iff (m := mf) (t := b) okw hj).mp ⟨h1, h2⟩
                walk_at "zrd"
                refine newT (K := K) g (by first | omega | (simp; done) | (simp; omega)) fun r G3 H3 nr zr s g tr => ?_
                walk_at "zrd"
                exact k (some (b, j)) (.ref r) G3 _ ⟨hb, soon_some okw hj hlate hno hnj⟩ g ⟨r, rfl, tr⟩
              · walk_at "zrd"
                refine ⟨_, _, _, _, rfl, g, tm, tag, fun v hv hl => ?_⟩
                by_cases e : v < j
                · exact hnj v e hl
                · rw [show v = j by omega] at hl
                  exact h2 ((late_iff (m := mf) (t := b) okw hj).mpr hl).2
            · walk_at "zrd"
              refine ⟨_, _, _, _, rfl, g, tm, tag, fun v hv hl => ?_⟩
              by_cases e : v < j
              · exact hnj v e hl
              · rw [show v = j by omega] at hl
                exact h1 ((late_iff (m := mf) (t := b) okw hj).mpr hl).1
        · rintro σ H' ⟨v5, v8, v9, v10, rfl, g, tm, tag, hnj⟩
          rw [Int.toNat_natCast] at tag hnj
          have gB := g
          have tmB := tm
          have taB := tag
          have eal : ((ages mf ws.length b ws.length).map V.int).length = ws.length := by rw [List.length_map, ages_len]
          walk_at "zrd"
          refine lcL (.inl (.inl tag.h)) (fun E i H' => Gr No G0 H0 G0 H' ∧ At G0 H' ms (.lst ((mends ld hd lp N).map vO)) ∧ At G0 H' ag (.lst ((ages mf ws.length b ws.length).map V.int)) ∧ At G0 H' E (.lst ((((ages mf ws.length b ws.length).take i).map fun x => x + 1).map V.int))) ?_ ?_ ?_ ?_
          · intro E nE
            exact ⟨g.new nE, tm.new nE, tag.new nE, At.of g nE⟩
          · rintro E i H' nE ⟨g, tm, tag, tE⟩
            exact .inl (.inl tag.h)
          · rintro E i x H' nE hx ⟨g, tm, tag, tE⟩
            have nmE : ms ≠ E := ne_of_none tmB.h nE
            have naE : ag ≠ E := ne_of_none taB.h nE
            obtain ⟨y, hy, rfl⟩ := map_at hx
            have hil : (((((ages mf ws.length b ws.length).take i).map fun x => x + 1).map V.int)).length ≤ ws.length := by
              rw [List.length_map, List.length_map, List.length_take, ages_len]
              omega
            rw [List.take_add_one, hy, List.map_append, List.map_append]
            walk_at "zrd"
            refine i_lcw rfl ?_
            walk_at "zrd"
            refine lcp tE (by omega) ?_
            exact ⟨g.mut tE (.inr (gB.fresh nE)), tm.off nmE, tag.off naE, tE.put⟩
          · rintro E H' nE ⟨g, tm, tag, tE⟩
            have nmE : ms ≠ E := ne_of_none tmB.h nE
            rw [eal, List.take_of_length_le (by rw [ages_len]; exact Nat.le_refl _), ages_next] at tE
            walk_at "zrd"
            refine ⟨_, _, _, _, _, E, rfl, g, tm, gB.fresh nE, nmE, tE, fun s hs v hv hl => ?_⟩
            by_cases e : s < b
            · exact hno s e v hv hl
            · rw [show s = b by omega] at hl
              exact hnj v hv hl
      · rintro σ H' ⟨v5, v7, v8, v9, v10, ag, rfl, g, tm, zag, nma, tag, hno⟩
        rw [Int.toNat_natCast] at hno
        walk_at "zrd"
        exact k none .non G0 H' (soon_none hno) g rfl
end
end Z
set_option Elab.async false
set_option linter.all false
set_option maxRecDepth 100000
set_option maxHeartbeats 4000000
namespace Z
open PySem PySem.Spec PyProof.Rows L2
local macro_rules | `(tactic| walk_at "zrd") => `(tactic| (repeat (first | ((with_reducible apply i_var); (· exact rfl)) | with_reducible refine i_c ?_ | with_reducible refine i_op ?_ | with_reducible refine i_I0 ?_ | with_reducible refine i_eqI ?_ | with_reducible refine i_neI ?_ | with_reducible refine i_test ?_ | with_reducible refine i_cons ?_ | with_reducible refine i_nil ?_ | with_reducible refine i_seq ?_ | with_reducible refine i_nx ?_ | with_reducible refine i_rt ?_ | with_reducible refine i_pass ?_ | with_reducible refine i_asg ?_ | with_reducible refine i_gname ?_ | with_reducible refine i_ret ?_ | with_reducible refine i_drop ?_ | with_reducible refine i_ifS ?_ | with_reducible refine i_if ?_ | with_reducible refine i_not ?_ | with_reducible refine i_and ?_ | with_reducible refine i_or ?_ | with_reducible refine i_lst ?_ | with_reducible refine i_tup ?_ | with_reducible refine i_cb ?_ | with_reducible refine i_call ?_ | with_reducible refine i_gsub ?_ | with_reducible refine i_B ?_ | with_reducible refine i_un ?_ | with_reducible refine i_U ?_ | with_reducible refine i_eqOI ?_ | with_reducible refine i_eqIO ?_ | with_reducible refine i_forL ?_ | with_reducible refine i_forT ?_ | with_reducible refine i_forR ?_ | with_reducible refine i_forR2 ?_ | with_reducible refine i_forR3 ?_ | with_reducible refine i_forE ?_ | with_reducible refine i_lcL ?_ | with_reducible refine i_lcT ?_ | with_reducible refine i_lcR ?_ | with_reducible refine i_yes ?_ | with_reducible refine i_lce ?_ | with_reducible refine i_lcf ?_ | with_reducible refine i_gcons ?_ | with_reducible refine i_gnil ?_ | with_reducible refine i_chain ?_ | with_reducible refine i_t ?_ | with_reducible refine i_f ?_ | with_reducible refine i_nt ?_ | with_reducible refine i_nf ?_ | with_reducible refine i_bm ?_ | with_reducible refine i_bm0 ?_ | with_reducible refine i_and2 ?_ | with_reducible refine i_or2 ?_ | with_reducible refine i_intI ?_ | with_reducible refine i_intB ?_ | with_reducible refine i_sl ?_ | with_reducible refine i_part ?_ | with_reducible refine i_nopart ?_ | with_reducible refine i_cut ?_ | with_reducible refine i_lrg ?_ | with_reducible refine i_make ?_ | with_reducible refine i_meth ?_ | with_reducible refine i_fld ?_ | with_reducible refine i_sfld ?_ | with_reducible refine i_dnew ?_ | with_reducible refine i_par3 ?_ | with_reducible refine i_par3e ?_ | with_reducible refine i_par2 ?_ | with_reducible refine i_par2e ?_ | with_reducible refine i_dput ?_ | with_reducible refine i_dget2 ?_ | with_reducible refine i_din ?_ | with_reducible refine i_dget ?_ | with_reducible refine i_isO ?_ | with_reducible refine i_isR ?_ | with_reducible refine i_isN ?_ | with_reducible refine i_isI ?_ | with_reducible refine i_noO ?_ | with_reducible refine i_noR ?_ | with_reducible refine i_noN ?_ | with_reducible refine i_noI ?_ | with_reducible refine (show ∃ k, V.bl _ = V.bl k ∧ _ from ⟨_, rfl, ?_⟩) | with_reducible refine (show ∃ k, V.int _ = V.int k ∧ _ from ⟨_, rfl, ?_⟩) | ((with_reducible apply i_ixL); (· assumption); (· exact rfl)) | ((with_reducible apply i_ixT); (· assumption); (· exact rfl)) | ((with_reducible apply i_lenL); (· assumption)) | ((with_reducible apply i_lenT); (· assumption)) | ((with_reducible apply i_I); (· (first | omega | (dsimp only; omega) | exact ⟨by omega, by omega⟩ | exact Or.inr ⟨by omega, by omega⟩ | exact Or.inl ⟨by omega, by omega⟩ | exact ⟨by decide, by decide, by decide⟩))) | ((with_reducible apply i_gtup); (· assumption); (· rfl)) | ((with_reducible apply i_p); (· omega)) | ((with_reducible apply i_n); (· omega)) | ((with_reducible apply i_np); (· omega)) | ((with_reducible apply i_nn); (· omega)) | ((with_reducible apply i_lcP); (· omega)) | ((with_reducible apply i_lcN); (· omega)) | ((with_reducible apply i_lcnP); (· omega)) | ((with_reducible apply i_lcnN); (· omega)))))
section
variable {P : Program} {w : World} {K : PySem.W.Frag} {mg : Str → Option Value} {base : Heap} {f : Addr} {fd : FuncData}
abbrev s_law_like : Stmt := topS 27
theorem sc_law_like : FnScope ["_law_found", "_law_due", "_law_k", "_law_key"] ["_law_found", "_law_due"] (defScope s_law_like) := ⟨rfl, rfl, rfl, by decide +kernel, rfl, by decide +kernel, by decide +kernel⟩
theorem like_no (F : Fun K "_law_like" "_law_like" s_law_like f fd) : FnOk P w K mg base CX0 1 f fd ["_law_found", "_law_due"] spNo :=
  F.ok sc_law_like (fun vs H Q E h => False.elim h) (fun cdv A outer s H0 vs Q E hr h => False.elim h)
theorem ok_like {m : Nat} {sp : Sp} (n : Nat) (hsp : ∀ j, n = j + 1 → sp = spLike j K) (T : Txt K mg) (C__law_like : Cal P w K mg base "_law_like" m ["_law_found", "_law_due"] sp) (F : Fun K "_law_like" "_law_like" s_law_like f fd) : FnOk P w K mg base CX0 (m + 1) f fd ["_law_found", "_law_due"] (spLike n K) := by
  refine F.ok sc_law_like (fun vs H Q E h => ?_) (fun cdv A outer s H0 vs Q E hr h => ?_)
  · obtain ⟨x, y, d, rfl, _⟩ := h
    rfl
  · obtain ⟨x, y, d, rfl, hx, hy, lk, k⟩ := h
    refine ⟨_, (pss_cons (ps_if (pt_val (pe_callB (r := rIsi K) call_isi (by rfl) T.b_isinstance (by decide +kernel) (pa_cons (pv 1) (pa_cons (pe_bltn (v := .ty "bool") (u := .type "bool") (by rfl) T.b_bool (by decide +kernel) rfl) pa_nil)))) (pss_one (ps_ret (pe_and (pe_callB (r := rIsi K) call_isi (by rfl) T.b_isinstance (by decide +kernel) (pa_cons (pv 0) (pa_cons (pe_bltn (v := .ty "bool") (u := .type "bool") (by rfl) T.b_bool (by decide +kernel) rfl) pa_nil))) (pe_one (pe_cmpR op_eq (pv 0) (pv 1) (nomark _)))))) pss_nil)
      (pss_cons (ps_if (pt_val (pe_callB (r := rIsi K) call_isi (by rfl) T.b_isinstance (by decide +kernel) (pa_cons (pv 1) (pa_cons (pe_bltn (v := .ty "str") (u := .type "str") (by rfl) T.b_str (by decide +kernel) rfl) pa_nil)))) (pss_one (ps_ret (pe_and (pe_callB (r := rIsi K) call_isi (by rfl) T.b_isinstance (by decide +kernel) (pa_cons (pv 0) (pa_cons (pe_bltn (v := .ty "str") (u := .type "str") (by rfl) T.b_str (by decide +kernel) rfl) pa_nil))) (pe_one (pe_cmpR op_eq (pv 0) (pv 1) (nomark _)))))) pss_nil)
      (pss_cons (ps_if (pt_val (pe_callB (r := rIsi K) call_isi (by rfl) T.b_isinstance (by decide +kernel) (pa_cons (pv 1) (pa_cons (pe_bltn (v := .ty "int") (u := .type "int") (by rfl) T.b_int (by decide +kernel) rfl) pa_nil)))) (pss_one (ps_ret (pe_and (pe_callB (r := rIsi K) call_isi (by rfl) T.b_isinstance (by decide +kernel) (pa_cons (pv 0) (pa_cons (pe_bltn (v := .ty "int") (u := .type "int") (by rfl) T.b_int (by decide +kernel) rfl) pa_nil))) (pe_and (pe_not (pe_callB (r := rIsi K) call_isi (by rfl) T.b_isinstance (by decide +kernel) (pa_cons (pv 0) (pa_cons (pe_bltn (v := .ty "bool") (u := .type "bool") (by rfl) T.b_bool (by decide +kernel) rfl) pa_nil)))) (pe_one (pe_cmpR op_eq (pv 0) (pv 1) (nomark _))))))) pss_nil)
      (pss_cons (ps_if (pt_cmpR op_isNz (pv 1) pe_non (nomark _)) (pss_one (ps_ret (pe_cmpR op_isNz (pv 0) pe_non (nomark _)))) pss_nil)
      (pss_cons (ps_if (pt_val (pe_callB (r := rIsi K) call_isi (by rfl) T.b_isinstance (by decide +kernel) (pa_cons (pv 1) (pa_cons (pe_bltn (v := .ty "dict") (u := .type "dict") (by rfl) T.b_dict (by decide +kernel) rfl) pa_nil)))) (pss_cons (ps_if (PW.pt (pw_or (pt_not (pt_val (pe_callB (r := rIsi K) call_isi (by rfl) T.b_isinstance (by decide +kernel) (pa_cons (pv 0) (pa_cons (pe_bltn (v := .ty "dict") (u := .type "dict") (by rfl) T.b_dict (by decide +kernel) rfl) pa_nil))))) (pw_or1 (pt_cmpR op_ne (pe_callB (r := rLen K) cl_len (by rfl) T.b_len (by decide +kernel) (pa_cons (pv 0) pa_nil)) (pe_callB (r := rLen K) cl_len (by rfl) T.b_len (by decide +kernel) (pa_cons (pv 1) pa_nil)) (nomark _))))) (pss_one (ps_ret pe_bl)) pss_nil)
      (pss_one (ps_ret (pe_cmpR (r := rEqD K) (op_eqD hr.units) (pe_lc (own := [("_law_key", 3)]) (g := gName 3) rfl sc_law_like.nd (pi_list (pv 1)) (blkOk_by (own := [("_law_key", 3)]) (N := ["_law_found", "_law_due", "_law_k", "_law_key"]) (sc := defScope s_law_like) (by decide +kernel)) (fun _ _ _ _ _ => (pg_name (i := 3) sc_law_like.nd rfl (Or.inl rfl))) (fun _ _ _ _ _ => (pts_one (PW.pt (pw_or (pt_cmpR (r := rIn K true) op_notIn_seq (pv 3) (pv 0) rfl) (pw_or1 (pt_not (pt_val (pc C__law_like (hr.mono (by omega)) (pa_cons (pe_ix (r := rIxL K) ix_list (pv 0) (pv 3) (fun _ _ => rfl)) (pa_cons (pe_ix (r := rIxL K) ix_list (pv 1) (pv 3) (fun _ _ => rfl)) pa_nil)))))))))) (fun _ _ _ _ _ => (pv 3))) (pe_lst pa_nil) (nomark _))))) pss_nil)
      (pss_cons (ps_if (PW.pt (pw_or (pt_cmpR op_ne (pe_callB (r := rIsi K) call_isi (by rfl) T.b_isinstance (by decide +kernel) (pa_cons (pv 1) (pa_cons (pe_bltn (v := .ty "tuple") (u := .type "tuple") (by rfl) T.b_tuple (by decide +kernel) rfl) pa_nil))) (pe_callB (r := rIsi K) call_isi (by rfl) T.b_isinstance (by decide +kernel) (pa_cons (pv 0) (pa_cons (pe_bltn (v := .ty "tuple") (u := .type "tuple") (by rfl) T.b_tuple (by decide +kernel) rfl) pa_nil))) (nomark _)) (pw_or1 (pt_cmpR op_ne (pe_callB (r := rIsi K) call_isi (by rfl) T.b_isinstance (by decide +kernel) (pa_cons (pv 1) (pa_cons (pe_bltn (v := .ty "list") (u := .type "list") (by rfl) T.b_list (by decide +kernel) rfl) pa_nil))) (pe_callB (r := rIsi K) call_isi (by rfl) T.b_isinstance (by decide +kernel) (pa_cons (pv 0) (pa_cons (pe_bltn (v := .ty "list") (u := .type "list") (by rfl) T.b_list (by decide +kernel) rfl) pa_nil))) (nomark _))))) (pss_one (ps_ret pe_bl)) pss_nil)
      (pss_cons (ps_if (pt_cmpR op_ne (pe_callB (r := rLen K) cl_len (by rfl) T.b_len (by decide +kernel) (pa_cons (pv 0) pa_nil)) (pe_callB (r := rLen K) cl_len (by rfl) T.b_len (by decide +kernel) (pa_cons (pv 1) pa_nil)) (nomark _)) (pss_one (ps_ret pe_bl)) pss_nil)
      (pss_cons (ps_for PassesOwn.never rfl (pi_range1 (by rfl) T.b_range (pa_cons (pe_callB (r := rLen K) cl_len (by rfl) T.b_len (by decide +kernel) (pa_cons (pv 1) pa_nil)) pa_nil)) (pg_name (i := 2) sc_law_like.nd rfl (Or.inl rfl)) (pss_one (ps_if (pt_not (pt_val (pc C__law_like (hr.mono (by omega)) (pa_cons (pe_ix (r := rIx K) ix_seq (pv 0) (pv 2) (fun _ _ => rfl)) (pa_cons (pe_ix (r := rIx K) ix_seq (pv 1) (pv 2) (fun _ _ => rfl)) pa_nil))))) (pss_one (ps_ret pe_bl)) pss_nil)))
      (pss_one (ps_ret pe_bl)))))))))), ?_⟩
    have scal : (d = .none ∨ ∃ i, d = .int i) ∨ ∃ j ds, n = j + 1 ∧ (d = .list ds ∨ d = .tuple ds) ∧ ds.length ≤ 100000 ∧ ∀ e ∈ ds, Lk j e := by
      cases n with
      | zero => exact .inl lk
      | succ j => exact lk.imp id fun ⟨ds, h1, h2⟩ => ⟨j, ds, rfl, h1, h2⟩
    rcases scal with (rfl | ⟨i, rfl⟩) | ⟨j, ds, ej, rfl | rfl, hl5, hall⟩
    · cases hx
      cases hy
      try dsimp only [cxOf, L2.Cx.nox, L2.Cx.wish]
      refine i_start (σ' := [some (.non), some (.non), none, none]) rfl ?_
      walk_at "zrd"
      refine isi_N (b := false) (by decide) rfl ?_
      walk_at "zrd"
      refine isi_N (b := false) (by decide) rfl ?_
      walk_at "zrd"
      refine isi_N (b := false) (by decide) rfl ?_
      walk_at "zrd"
      exact k
    · cases hx
      cases hy
      try dsimp only [cxOf, L2.Cx.nox, L2.Cx.wish]
      refine i_start (σ' := [some (.int i), some (.int i), none, none]) rfl ?_
      walk_at "zrd"
      refine isi_I (b := false) (by decide) rfl ?_
      walk_at "zrd"
      refine isi_I (b := false) (by decide) rfl ?_
      walk_at "zrd"
      refine isi_I (b := true) (by decide) rfl ?_
      walk_at "zrd"
      refine isi_I (b := true) (by decide) rfl ?_
      walk_at "zrd"
      refine i_notV ?_
      walk_at "zrd"
      refine isi_I (b := false) (by decide) rfl ?_
      walk_at "zrd"
      rw [decide_eq_true rfl]
      exact k
    · have hs := hsp j ej
      subst hs
      cases hx with
      | @lst xa xs _ hsx hax =>
      cases hy with
      | @lst ya ys _ hsy hay =>
      try dsimp only [cxOf, L2.Cx.nox, L2.Cx.wish]
      refine i_start (σ' := [some (.ref xa), some (.ref ya), none, none]) rfl ?_
      walk_at "zrd"
      obtain ⟨ex, ax⟩ := dpAll_at hax
      obtain ⟨ey, ay⟩ := dpAll_at hay
      refine isi_L (b := false) hsy (by decide) rfl ?_
      walk_at "zrd"
      refine isi_L (b := false) hsy (by decide) rfl ?_
      walk_at "zrd"
      refine isi_L (b := false) hsy (by decide) rfl ?_
      walk_at "zrd"
      refine isi_L (b := false) hsy (by decide) rfl ?_
      walk_at "zrd"
      refine isi_L (b := false) hsy (by decide) rfl ?_
      walk_at "zrd"
      refine isi_L (b := false) hsx (by decide) rfl ?_
      walk_at "zrd"
      refine i_neB ?_
      walk_at "zrd"
      refine i_np rfl ?_
      walk_at "zrd"
      refine isi_L (b := true) hsy (by decide) rfl ?_
      walk_at "zrd"
      refine isi_L (b := true) hsx (by decide) rfl ?_
      walk_at "zrd"
      refine i_neB ?_
      walk_at "zrd"
      refine i_np rfl ?_
      walk_at "zrd"
      refine forR (by omega) (by omega) (fun i σ H' => ∃ (v2 : Option V), σ = [some (.ref xa), some (.ref ya), v2, none] ∧ H' = H0) ⟨none, rfl, rfl⟩ ?_ ?_
      · rintro i σ H' hi ⟨v2, rfl, rfl⟩
        rw [Int.toNat_natCast] at hi
        obtain ⟨u, hu⟩ : ∃ u, xs[i]? = some u := ⟨_, List.getElem?_eq_getElem (by omega)⟩
        obtain ⟨v, hv⟩ : ∃ v, ys[i]? = some v := ⟨_, List.getElem?_eq_getElem (by omega)⟩
        obtain ⟨d1, hd1, hu1⟩ := ax i u hu
        obtain ⟨d2, hd2, hv1⟩ := ay i v hv
        rw [hd1] at hd2
        cases hd2
        have hlk := hall d1 (List.mem_of_getElem? hd1)
        walk_at "zrd"
        refine i_ixSL hsx (atN (k := i) rfl hu) ?_
        walk_at "zrd"
        refine i_ixSL hsy (atN (k := i) rfl hv) ?_
        walk_at "zrd"
        refine i_like hu1 hv1 hlk ?_
        walk_at "zrd"
        exact ⟨_, rfl, rfl⟩
      · rintro σ H' ⟨v2, rfl, rfl⟩
        walk_at "zrd"
        exact k
    · have hs := hsp j ej
      subst hs
      cases hx with
      | @tup xa xs _ hsx hax =>
      cases hy with
      | @tup ya ys _ hsy hay =>
      try dsimp only [cxOf, L2.Cx.nox, L2.Cx.wish]
      refine i_start (σ' := [some (.ref xa), some (.ref ya), none, none]) rfl ?_
      walk_at "zrd"
      obtain ⟨ex, ax⟩ := dpAll_at hax
      obtain ⟨ey, ay⟩ := dpAll_at hay
      refine isi_T (b := false) hsy (by decide) rfl ?_
      walk_at "zrd"
      refine isi_T (b := false) hsy (by decide) rfl ?_
      walk_at "zrd"
      refine isi_T (b := false) hsy (by decide) rfl ?_
      walk_at "zrd"
      refine isi_T (b := false) hsy (by decide) rfl ?_
      walk_at "zrd"
      refine isi_T (b := true) hsy (by decide) rfl ?_
      walk_at "zrd"
      refine isi_T (b := true) hsx (by decide) rfl ?_
      walk_at "zrd"
      refine i_neB ?_
      walk_at "zrd"
      refine i_np rfl ?_
      walk_at "zrd"
      refine isi_T (b := false) hsy (by decide) rfl ?_
      walk_at "zrd"
      refine isi_T (b := false) hsx (by decide) rfl ?_
      walk_at "zrd"
      refine i_neB ?_
      walk_at "zrd"
      refine i_np rfl ?_
      walk_at "zrd"
      refine forR (by omega) (by omega) (fun i σ H' => ∃ (v2 : Option V), σ = [some (.ref xa), some (.ref ya), v2, none] ∧ H' = H0) ⟨none, rfl, rfl⟩ ?_ ?_
      · rintro i σ H' hi ⟨v2, rfl, rfl⟩
        rw [Int.toNat_natCast] at hi
        obtain ⟨u, hu⟩ : ∃ u, xs[i]? = some u := ⟨_, List.getElem?_eq_getElem (by omega)⟩
        obtain ⟨v, hv⟩ : ∃ v, ys[i]? = some v := ⟨_, List.getElem?_eq_getElem (by omega)⟩
        obtain ⟨d1, hd1, hu1⟩ := ax i u hu
        obtain ⟨d2, hd2, hv1⟩ := ay i v hv
        rw [hd1] at hd2
        cases hd2
        have hlk := hall d1 (List.mem_of_getElem? hd1)
        walk_at "zrd"
        refine i_ixST hsx (atN (k := i) rfl hu) ?_
        walk_at "zrd"
        refine i_ixST hsy (atN (k := i) rfl hv) ?_
        walk_at "zrd"
        refine i_like hu1 hv1 hlk ?_
        walk_at "zrd"
        exact ⟨_, rfl, rfl⟩
      · rintro σ H' ⟨v2, rfl, rfl⟩
        walk_at "zrd"
        exact k
end
end Z
set_option Elab.async false
set_option linter.all false
set_option maxRecDepth 100000
set_option maxHeartbeats 4000000
namespace Z
open PySem PySem.Spec PyProof.Rows L2
local macro_rules | `(tactic| walk_at "zrd") => `(tactic| (repeat (first | ((with_reducible apply i_var); (· exact rfl)) | with_reducible refine i_c ?_ | with_reducible refine i_op ?_ | with_reducible refine i_I0 ?_ | with_reducible refine i_eqI ?_ | with_reducible refine i_neI ?_ | with_reducible refine i_test ?_ | with_reducible refine i_cons ?_ | with_reducible refine i_nil ?_ | with_reducible refine i_seq ?_ | with_reducible refine i_nx ?_ | with_reducible refine i_rt ?_ | with_reducible refine i_pass ?_ | with_reducible refine i_asg ?_ | with_reducible refine i_gname ?_ | with_reducible refine i_ret ?_ | with_reducible refine i_drop ?_ | with_reducible refine i_ifS ?_ | with_reducible refine i_if ?_ | with_reducible refine i_not ?_ | with_reducible refine i_and ?_ | with_reducible refine i_or ?_ | with_reducible refine i_lst ?_ | with_reducible refine i_tup ?_ | with_reducible refine i_cb ?_ | with_reducible refine i_call ?_ | with_reducible refine i_gsub ?_ | with_reducible refine i_B ?_ | with_reducible refine i_un ?_ | with_reducible refine i_U ?_ | with_reducible refine i_eqOI ?_ | with_reducible refine i_eqIO ?_ | with_reducible refine i_forL ?_ | with_reducible refine i_forT ?_ | with_reducible refine i_forR ?_ | with_reducible refine i_forR2 ?_ | with_reducible refine i_forR3 ?_ | with_reducible refine i_forE ?_ | with_reducible refine i_lcL ?_ | with_reducible refine i_lcT ?_ | with_reducible refine i_lcR ?_ | with_reducible refine i_yes ?_ | with_reducible refine i_lce ?_ | with_reducible refine i_lcf ?_ | with_reducible refine i_gcons ?_ | with_reducible refine i_gnil ?_ | with_reducible refine i_chain ?_ | with_reducible refine i_t ?_ | with_reducible refine i_f ?_ | with_reducible refine i_nt ?_ | with_reducible refine i_nf ?_ | with_reducible refine i_bm ?_ | with_reducible refine i_bm0 ?_ | with_reducible refine i_and2 ?_ | with_reducible refine i_or2 ?_ | with_reducible refine i_intI ?_ | with_reducible refine i_intB ?_ | with_reducible refine i_sl ?_ | with_reducible refine i_part ?_ | with_reducible refine i_nopart ?_ | with_reducible refine i_cut ?_ | with_reducible refine i_lrg ?_ | with_reducible refine i_make ?_ | with_reducible refine i_meth ?_ | with_reducible refine i_fld ?_ | with_reducible refine i_sfld ?_ | with_reducible refine i_dnew ?_ | with_reducible refine i_par3 ?_ | with_reducible refine i_par3e ?_ | with_reducible refine i_par2 ?_ | with_reducible refine i_par2e ?_ | with_reducible refine i_dput ?_ | with_reducible refine i_dget2 ?_ | with_reducible refine i_din ?_ | with_reducible refine i_dget ?_ | with_reducible refine i_isO ?_ | with_reducible refine i_isR ?_ | with_reducible refine i_isN ?_ | with_reducible refine i_isI ?_ | with_reducible refine i_noO ?_ | with_reducible refine i_noR ?_ | with_reducible refine i_noN ?_ | with_reducible refine i_noI ?_ | with_reducible refine (show ∃ k, V.bl _ = V.bl k ∧ _ from ⟨_, rfl, ?_⟩) | with_reducible refine (show ∃ k, V.int _ = V.int k ∧ _ from ⟨_, rfl, ?_⟩) | ((with_reducible apply i_ixL); (· assumption); (· exact rfl)) | ((with_reducible apply i_ixT); (· assumption); (· exact rfl)) | ((with_reducible apply i_lenL); (· assumption)) | ((with_reducible apply i_lenT); (· assumption)) | ((with_reducible apply i_I); (· (first | omega | (dsimp only; omega) | exact ⟨by omega, by omega⟩ | exact Or.inr ⟨by omega, by omega⟩ | exact Or.inl ⟨by omega, by omega⟩ | exact ⟨by decide, by decide, by decide⟩))) | ((with_reducible apply i_gtup); (· assumption); (· rfl)) | ((with_reducible apply i_p); (· omega)) | ((with_reducible apply i_n); (· omega)) | ((with_reducible apply i_np); (· omega)) | ((with_reducible apply i_nn); (· omega)) | ((with_reducible apply i_lcP); (· omega)) | ((with_reducible apply i_lcN); (· omega)) | ((with_reducible apply i_lcnP); (· omega)) | ((with_reducible apply i_lcnN); (· omega)))))
section
variable {P : Program} {w : World} {K : PySem.W.Frag} {mg : Str → Option Value} {base : Heap} {f : Addr} {fd : FuncData}
abbrev s_law_strokes : Stmt := topS 36
theorem sc_law_strokes : FnScope ["_law_d", "_law_words", "_law_beats", "_law_found", "_law_word", "_law_next_one", "_law_bits", "_law_often", "_law_beat"] ["_law_d", "_law_words", "_law_beats"] (defScope s_law_strokes) := ⟨rfl, rfl, rfl, by decide +kernel, rfl, by decide +kernel, by decide +kernel⟩
theorem ok_strokes2 (T : Txt K mg) (C__law_next : Cal P w K mg base "_law_next" 1 ["_law_dice_here", "_law_many"] (spNext K)) (F : Fun K "_law_strokes" "_law_strokes" s_law_strokes f fd) : FnOk P w K mg base CX0 2 f fd ["_law_d", "_law_words", "_law_beats"] (spStrokes2 K) := by
  refine F.ok sc_law_strokes (fun vs H Q E h => ?_) (fun cdv A outer s H0 vs Q E hr h => ?_)
  · obtain ⟨G, d, a, m, ws, rfl, _⟩ := h
    rfl
  · obtain ⟨G0, d, a, m, ws, rfl, sb, D, ⟨wa, hwa, wpr⟩, okw, hm0, hm1, k⟩ := h
    refine ⟨_, (pss_cons (ps_set (i := 3) sc_law_strokes.nd rfl (Or.inl rfl) (pe_lst pa_nil))
      (pss_cons (ps_setLc (i := 5) (own := [("_law_word", 4)]) (g := gName 4) rfl sc_law_strokes.nd rfl rfl (sw_true rfl rfl rfl (by decide +kernel)) (pi_list (pv 1)) (blkOk_by (own := [("_law_word", 4)]) (N := ["_law_d", "_law_words", "_law_beats", "_law_found", "_law_word", "_law_next_one", "_law_bits", "_law_often", "_law_beat"]) (sc := defScope s_law_strokes) (by decide +kernel)) (fun _ _ _ _ _ => (pg_name (i := 4) sc_law_strokes.nd rfl (Or.inl rfl))) (fun _ _ _ _ _ => pts_nil) (fun _ _ _ _ _ => (pc C__law_next (hr.mono (by decide)) (pa_cons (pv 0) (pa_cons pe_int pa_nil)))))
      (pss_cons (ps_setLc (i := 6) (own := [("_law_word", 4)]) (g := gName 4) rfl sc_law_strokes.nd rfl rfl (sw_true rfl rfl rfl (by decide +kernel)) (pi_list (pv 1)) (blkOk_by (own := [("_law_word", 4)]) (N := ["_law_d", "_law_words", "_law_beats", "_law_found", "_law_word", "_law_next_one", "_law_bits", "_law_often", "_law_beat"]) (sc := defScope s_law_strokes) (by decide +kernel)) (fun _ _ _ _ _ => (pg_name (i := 4) sc_law_strokes.nd rfl (Or.inl rfl))) (fun _ _ _ _ _ => pts_nil) (fun _ _ _ _ _ => pe_int))
      (pss_cons (ps_set (i := 7) sc_law_strokes.nd rfl (Or.inl rfl) (pe_op op_add pe_int (pe_op op_mul pe_int (pc C__law_next (hr.mono (by decide)) (pa_cons (pv 0) (pa_cons pe_int pa_nil))))))
      (pss_cons (ps_for PassesOwn.never rfl (pi_range1 (by rfl) T.b_range (pa_cons (pv 2) pa_nil)) (pg_name (i := 8) sc_law_strokes.nd rfl (Or.inl rfl)) (pss_one (ps_for PassesOwn.never rfl (pi_range1 (by rfl) T.b_range (pa_cons (pe_callB (r := rLen K) cl_len (by rfl) T.b_len (by decide +kernel) (pa_cons (pv 1) pa_nil)) pa_nil)) (pg_name (i := 4) sc_law_strokes.nd rfl (Or.inl rfl)) (pss_one (ps_if (PW.pt (pw_and (pt_cmpR op_ge (pv 8) (pe_ix (r := rIxL K) ix_list (pv 5) (pv 4) (fun _ _ => rfl)) (nomark _)) (pw_and (pt_cmpR op_gt (pc C__law_next (hr.mono (by decide)) (pa_cons (pv 0) (pa_cons (pv 7) pa_nil))) pe_int (nomark _)) (pw_and1 (pt_cmpR op_lt (pe_callB (r := rLen K) cl_len (by rfl) T.b_len (by decide +kernel) (pa_cons (pv 3) pa_nil)) pe_int (nomark _)))))) (pss_cons (ps_asg (pe_ix (r := rIxL K) ix_list (pe_lst (pa_cons (pe_op op_add (pe_ix (r := rIxL K) ix_list (pv 6) (pv 4) (fun _ _ => rfl)) pe_int) (pa_cons (pc C__law_next (hr.mono (by decide)) (pa_cons (pv 0) (pa_cons pe_int pa_nil))) pa_nil))) (pe_callTy cl_int (by rfl) T.b_int (by decide +kernel) (pa_cons (pe_cmpR op_eq (pc C__law_next (hr.mono (by decide)) (pa_cons (pv 0) (pa_cons pe_int pa_nil))) pe_int (nomark _)) pa_nil)) (fun _ _ => rfl)) (pg_sub (pv 6) (pv 4) set_list))
      (pss_cons (ps_expr (pe_bm PySem.F.plainAttrs_list PySem.F.slot_list_append PySem.F.type_list_append mt_append (pv 3) (pa_cons (pe_tup (pa_cons (pv 8) (pa_cons (pv 4) (pa_cons (pe_op op_mod (pe_ix (r := rIxL K) ix_list (pv 6) (pv 4) (fun _ _ => rfl)) (pe_ix (r := rIxT K) ix_tup (pe_ix (r := rIxL K) ix_list (pv 1) (pv 4) (fun _ _ => rfl)) pe_int (fun _ _ => rfl))) pa_nil)))) pa_nil)))
      (pss_one (ps_asg (pe_op op_add (pv 8) (pe_ix (r := rIxT K) ix_tup (pe_ix (r := rIxL K) ix_list (pv 1) (pv 4) (fun _ _ => rfl)) pe_int (fun _ _ => rfl))) (pg_sub (pv 5) (pv 4) set_list))))) pss_nil)))))
      (pss_one (ps_ret (pv 3)))))))), ?_⟩
    try dsimp only [cxOf, L2.Cx.nox, L2.Cx.wish]
    refine i_start (σ' := [some (.ref d), some (.ref a), some (.int m), none, none, none, none, none, none]) rfl ?_
    have g : Gr (· = d) G0 H0 G0 H0 := Gr.refl sb
    have ew : (wa.map V.ref).length = ws.length := by rw [List.length_map, Paired.len wpr, List.length_map]
    obtain ⟨w1, w4, wok⟩ := id okw
    walk_at "zrd"
    refine newL g (by first | omega | (simp; done) | (simp; omega)) fun q H1 nq zq s g tq => ?_
    have ndq := D.ne nq
    have D := D.monoN s
    walk_at "zrd"
    have gA := g
    have DA := D
    have tqA := tq
    refine lcL (ls (K := K) hwa g.sub) (fun C i H' => ∃ ns : List Int, Gr (· = d) G0 H0 G0 H' ∧ Dice K G0 H' d ∧ At G0 H' q (.lst []) ∧ At G0 H' C (.lst (ns.map V.int)) ∧ ns.length = i) ?_ ?_ ?_ ?_
    · intro C nC
      exact ⟨[], g.new nC, D.monoN (Gr.new (Gr.refl g.sub) nC), tq.new nC, At.of g nC, rfl⟩
    · rintro C i H' nC ⟨ns, g, D, tq, tC, e⟩
      exact ls hwa g.sub
    · rintro C i x H' nC hx ⟨ns, g, D, tq, tC, e⟩
      have ndC := DA.ne nC
      have nqC : q ≠ C := ne_of_none tqA.h nC
      have hi : i < ws.length := by rw [← ew]; exact (List.getElem?_eq_some_iff.mp hx).1
      walk_at "zrd"
      refine i_lcw rfl ?_
      walk_at "zrd"
      refine i_next g D (by first | exact Or.inl rfl | exact Or.inr (by assumption)) (by omega) (by omega) fun n H4 s g D hn0 hn1 => ?_
      have tq := tq.mono s ndq
      have tC := tC.mono s ndC
      walk_at "zrd"
      refine lcp tC (by rw [List.length_map]; omega) ?_
      refine ⟨ns ++ [n], g.mut tC (.inr (gA.fresh nC)), D.off ndC, tq.off nqC, ?_, by rw [List.length_append, List.length_singleton, e]⟩
      rw [List.map_append]
      exact tC.put
    · rintro C H' nC ⟨ns, g, D, tq, tC, el⟩
      rw [ew] at el
      have ndC := DA.ne nC
      have nqC : q ≠ C := ne_of_none tqA.h nC
      have zC := gA.fresh nC
      have gB := g
      have DB := D
      have tqB := tq
      have tCB := tC
      walk_at "zrd"
      refine lcL (ls (K := K) hwa g.sub) (fun B i H' => Gr (· = d) G0 H0 G0 H' ∧ Dice K G0 H' d ∧ At G0 H' q (.lst []) ∧ At G0 H' C (.lst (ns.map V.int)) ∧ At G0 H' B (.lst ((List.replicate i (0 : Int)).map V.int))) ?_ ?_ ?_ ?_
      · intro B nB
        exact ⟨g.new nB, D.monoN (Gr.new (Gr.refl g.sub) nB), tq.new nB, tC.new nB, At.of g nB⟩
      · rintro B i H' nB ⟨g, D, tq, tC, tB⟩
        exact ls hwa g.sub
      · rintro B i x H' nB hx ⟨g, D, tq, tC, tB⟩
        have ndB := DB.ne nB
        have nqB : q ≠ B := ne_of_none tqB.h nB
        have nCB : C ≠ B := ne_of_none tCB.h nB
        have hi : i < ws.length := by rw [← ew]; exact (List.getElem?_eq_some_iff.mp hx).1
        walk_at "zrd"
        refine i_lcw rfl ?_
        walk_at "zrd"
        refine lcp tB (by rw [List.length_map, List.length_replicate]; omega) ?_
        refine ⟨g.mut tB (.inr (gB.fresh nB)), D.off ndB, tq.off nqB, tC.off nCB, ?_⟩
        rw [List.replicate_succ', List.map_append]
        exact tB.put
      · rintro B H' nB ⟨g, D, tq, tC, tB⟩
        rw [ew] at tB
        have ndB := DB.ne nB
        have nqB : q ≠ B := ne_of_none tqB.h nB
        have nCB : C ≠ B := ne_of_none tCB.h nB
        have zB := gB.fresh nB
        walk_at "zrd"
        refine i_next g D (by first | exact Or.inl rfl | exact Or.inr (by assumption)) (by omega) (by omega) fun of H5 s g D hof0 hof1 => ?_
        have tq := tq.mono s ndq
        have tC := tC.mono s ndC
        have tB := tB.mono s ndB
        walk_at "zrd"
        have b00 : ∀ x ∈ List.replicate ws.length (0 : Int), 0 ≤ x := fun x hx => by rw [(List.mem_replicate.mp hx).2]; exact Int.le_refl 0
        refine forR hm0 (by omega) (fun b σ H' => ∃ (v4 v8 : Option V) (G : Hp) (fs : List Addr) (ss : List W3) (ns bs : List Int), σ = [some (.ref d), some (.ref a), some (.int m), some (.ref q), v4, some (.ref C), some (.ref B), some (.int (2 + 4 * of)), v8] ∧ Gr (· = d) G0 H0 G H' ∧ Dice K G H' d ∧ At G H' q (.lst (fs.map V.ref)) ∧ At G H' C (.lst (ns.map V.int)) ∧ At G H' B (.lst (bs.map V.int)) ∧ Paired (fun p t => SqT K G p t) fs (ss.map vW) ∧ Drw ws ss ns bs b 0)
          ⟨none, none, G0, [], [], ns, List.replicate ws.length 0, rfl, g, D, tq, tC, tB, .nil, drw_nil el List.length_replicate b00⟩ ?_ ?_
        · rintro b σ H' hb ⟨v4, v8, G, fs, ss, ns, bs, rfl, g, D, tq, tC, tB, pr, dr⟩
          have hm1 : SqL K H' a (wa.map V.ref) := Z.ls (g.gg _ _ hwa) g.sub
          walk_at "zrd"
          rw [ew]
          refine forR (by omega) (by omega) (fun w σ H' => ∃ (v4 : Option V) (G : Hp) (fs : List Addr) (ss : List W3) (ns bs : List Int), σ = [some (.ref d), some (.ref a), some (.int m), some (.ref q), v4, some (.ref C), some (.ref B), some (.int (2 + 4 * of)), some (.int (b : Nat))] ∧ Gr (· = d) G0 H0 G H' ∧ Dice K G H' d ∧ At G H' q (.lst (fs.map V.ref)) ∧ At G H' C (.lst (ns.map V.int)) ∧ At G H' B (.lst (bs.map V.int)) ∧ Paired (fun p t => SqT K G p t) fs (ss.map vW) ∧ Drw ws ss ns bs b w)
            ⟨v4, G, fs, ss, ns, bs, rfl, g, D, tq, tC, tB, pr, dr⟩ ?_ ?_
          · rintro w σ H' hw ⟨v4, G, fs, ss, ns, bs, rfl, g, D, tq, tC, tB, pr, dr⟩
            rw [Int.toNat_natCast] at hw
            have hnl := dr.nl
            have hbl := dr.bl
            have hfew := dr.few
            have hfl : (fs.map V.ref).length = ss.length := by rw [List.length_map, Paired.len pr, List.length_map]
            have enx : (ns.map V.int)[w]? = some (.int (ns.getD w 0)) := map_getD (d := 0) (by omega)
            have ebx : (bs.map V.int)[w]? = some (.int (bs.getD w 0)) := map_getD (d := 0) (by omega)
            have hup := dr.up (c := b) (v := w + 1) (.inr ⟨rfl, by show (w : Int) ≤ ((w + 1 : Nat) : Int); omega⟩)
            obtain ⟨o1, o2, o3, o4, o5, o6⟩ := wok _ (getD_mem (d := d3) hw)
            have hb0 := dr.b0 _ (getD_mem (d := 0) (show w < bs.length by omega))
            obtain ⟨wp, hwp, hwt⟩ := word_at wpr (getD_at (d := d3) hw)
            walk_at "zrd"
            refine i_ixL (.inl (.inl tC.h)) (atN (k := w) rfl enx) ?_
            walk_at "zrd"
            refine i_ite (fun h1 => ?_) (fun h1 => ?_)
            · walk_at "zrd"
              refine i_next g D (by first | exact Or.inl rfl | exact Or.inr (by assumption)) (by omega) (by omega) fun x H6 s g D hx0 hx1 => ?_
              have tq := tq.mono s ndq
              have tC := tC.mono s ndC
              have tB := tB.mono s ndB
              walk_at "zrd"
              refine i_ite (fun h2 => ?_) (fun h2 => ?_)
              · have hq : SqL K H6 q (fs.map V.ref) := .inl (.inl tq.h)
                walk_at "zrd"
                refine i_ite (fun h3 => ?_) (fun h3 => ?_)
                · walk_at "zrd"
                  refine i_ixL (.inl (.inl tB.h)) (atN (k := w) rfl ebx) ?_
                  walk_at "zrd"
                  refine i_next g D (by first | exact Or.inl rfl | exact Or.inr (by assumption)) (by omega) (by omega) fun y H7 s g D hy0 hy1 => ?_
                  have tq := tq.mono s ndq
                  have tC := tC.mono s ndC
                  have tB := tB.mono s ndB
                  walk_at "zrd"
                  refine newL g (by first | omega | (simp; done) | (simp; omega)) fun r H8 nr zr s g tr => ?_
                  have ndr := D.ne nr
                  have nqr := ne_of_none tq.h nr
                  have nCr := ne_of_none tC.h nr
                  have nBr := ne_of_none tB.h nr
                  have D := D.monoN s
                  have tq := tq.monoN s
                  have tC := tC.monoN s
                  have tB := tB.monoN s
                  walk_at "zrd"
                  refine i_next g D (by first | exact Or.inl rfl | exact Or.inr (by assumption)) (by omega) (by omega) fun z H9 s g D hz0 hz1 => ?_
                  have tq := tq.mono s ndq
                  have tC := tC.mono s ndC
                  have tB := tB.mono s ndB
                  have tr := tr.mono s ndr
                  walk_at "zrd"
                  obtain ⟨v, hv, ha⟩ := atPick (xs := [V.int (bs.getD w 0 + 1), V.int y]) (n := if decide (z = 3) = true then 1 else 0) (by split <;> omega) (by split <;> simp)
                  obtain ⟨e, rfl, he0⟩ : ∃ e, v = V.int e ∧ 0 ≤ e := by
                    simp only [List.mem_cons, List.not_mem_nil, or_false] at hv
                    rcases hv with rfl | rfl
                    · exact ⟨_, rfl, by omega⟩
                    · exact ⟨_, rfl, by omega⟩
                  refine i_ixL (.inl (.inl tr.h)) ha ?_
                  walk_at "zrd"
                  refine i_setL ((bs.set w e).map V.int) tB.h (ixN_nat (k := w) rfl (by rw [List.length_map]; omega)) (by rw [List.map_set]) ?_
                  have g := g.mut (u := .lst ((bs.set w e).map V.int)) tB (.inr zB)
                  have D := D.off (u := .lst ((bs.set w e).map V.int)) ndB
                  have tq := tq.off (u := .lst ((bs.set w e).map V.int)) nqB
                  have tC := tC.off (u := .lst ((bs.set w e).map V.int)) nCB
                  have tB := tB.put (u := .lst ((bs.set w e).map V.int))
                  revert g D tq tC tB
                  generalize upd H9 B (.lst ((bs.set w e).map V.int)) = H10
                  intro g D tq tC tB
                  have ebx2 : ((bs.set w e).map V.int)[w]? = some (.int e) := by rw [List.getElem?_map, List.getElem?_set_self (by omega)]; rfl
                  have hm1 : SqL K H10 a (wa.map V.ref) := Z.ls (g.gg _ _ hwa) g.sub
                  have hwt1 := sqt (g.gg.trans g.sub) hwt
                  walk_at "zrd"
                  refine ⟨tyL tq.h, ?_⟩
                  walk_at "zrd"
                  refine i_ixL (.inl (.inl tB.h)) (atN (k := w) rfl ebx2) ?_
                  walk_at "zrd"
                  refine i_ixL hm1 (atN (k := w) rfl hwp) ?_
                  walk_at "zrd"
                  refine newT (K := K) g (by first | omega | (simp; done) | (simp; omega)) fun u G2 H11 nu zu s g tu => ?_
                  have ndu := D.ne nu
                  have nqu := ne_of_none tq.h nu
                  have nCu := ne_of_none tC.h nu
                  have nBu := ne_of_none tB.h nu
                  have D := D.monoN s
                  have tq := tq.monoN s
                  have tC := tC.monoN s
                  have tB := tB.monoN s
                  have pr := prt s.gg pr
                  walk_at "zrd"
                  refine i_append tq.h (by omega) ?_
                  have g := g.mut (u := .lst (fs.map V.ref ++ [.ref u])) tq (.inr zq)
                  have D := D.off (u := .lst (fs.map V.ref ++ [.ref u])) ndq
                  have tC := tC.off (u := .lst (fs.map V.ref ++ [.ref u])) (Ne.symm nqC)
                  have tB := tB.off (u := .lst (fs.map V.ref ++ [.ref u])) (Ne.symm nqB)
                  have tq := tq.put (u := .lst (fs.map V.ref ++ [.ref u]))
                  revert g D tC tB tq
                  generalize upd H11 q (.lst (fs.map V.ref ++ [.ref u])) = H12
                  intro g D tC tB tq
                  have hm1 : SqL K H12 a (wa.map V.ref) := Z.ls (g.gg _ _ hwa) g.sub
                  have hwt1 := sqt (g.gg.trans g.sub) hwt
                  walk_at "zrd"
                  refine i_ixL hm1 (atN (k := w) rfl hwp) ?_
                  walk_at "zrd"
                  refine i_setL ((ns.set w ((b : Int) + (ws.getD w d3).2.2)).map V.int) tC.h (ixN_nat (k := w) rfl (by rw [List.length_map]; omega)) (by rw [List.map_set]) ?_
                  walk_at "zrd"
                  refine ⟨_, G2, fs ++ [u], ss ++ [((b : Int), ((w : Int), e % (ws.getD w d3).1))], _, _, rfl, g.mut tC (.inr zC), D.off ndC, ?_, tC.put, tB.off (Ne.symm nCB), ?_, dr.more hw (by omega) (by omega) he0 (Int.emod_nonneg _ (by omega)) (Int.emod_lt_of_pos _ (by omega)) (by omega)⟩
                  · rw [List.map_append]
                    exact tq.off nqC
                  · rw [List.map_append]
                    exact Paired.snoc tu pr
                · walk_at "zrd"
                  exact ⟨_, G, fs, ss, ns, bs, rfl, g, D, tq, tC, tB, pr, hup⟩
              · walk_at "zrd"
                exact ⟨_, G, fs, ss, ns, bs, rfl, g, D, tq, tC, tB, pr, hup⟩
            · walk_at "zrd"
              exact ⟨_, G, fs, ss, ns, bs, rfl, g, D, tq, tC, tB, pr, hup⟩
          · rintro σ H' ⟨v4, G, fs, ss, ns, bs, rfl, g, D, tq, tC, tB, pr, dr⟩
            rw [Int.toNat_natCast] at dr
            walk_at "zrd"
            exact ⟨_, _, G, fs, ss, ns, bs, rfl, g, D, tq, tC, tB, pr, dr.up (.inl (by show (b : Int) < ((b + 1 : Nat) : Int); omega))⟩
        · rintro σ H' ⟨v4, v8, G, fs, ss, ns, bs, rfl, g, D, tq, tC, tB, pr, dr⟩
          walk_at "zrd"
          refine k ss q _ H' (g.close tq zq) (D.close tq ndq) ⟨fs, upd_same, prt (same_close tq) pr⟩ (dr.ok (by omega)) dr.few fun s hs => ?_
          have h := (dr.rng s hs).2.1
          have h0 := (dr.rng s hs).2.2.1
          have h : s.1 < ((m.toNat : Nat) : Int) ∨ (s.1 = ((m.toNat : Nat) : Int) ∧ s.2.1 < ((0 : Nat) : Int)) := h
          omega
end
end Z
set_option Elab.async false
set_option linter.all false
set_option maxRecDepth 100000
set_option maxHeartbeats 4000000
namespace Z
open PySem PySem.Spec PyProof.Rows L2
local macro_rules | `(tactic| walk_at "zrd") => `(tactic| (repeat (first | ((with_reducible apply i_var); (· exact rfl)) | with_reducible refine i_c ?_ | with_reducible refine i_op ?_ | with_reducible refine i_I0 ?_ | with_reducible refine i_eqI ?_ | with_reducible refine i_neI ?_ | with_reducible refine i_test ?_ | with_reducible refine i_cons ?_ | with_reducible refine i_nil ?_ | with_reducible refine i_seq ?_ | with_reducible refine i_nx ?_ | with_reducible refine i_rt ?_ | with_reducible refine i_pass ?_ | with_reducible refine i_asg ?_ | with_reducible refine i_gname ?_ | with_reducible refine i_ret ?_ | with_reducible refine i_drop ?_ | with_reducible refine i_ifS ?_ | with_reducible refine i_if ?_ | with_reducible refine i_not ?_ | with_reducible refine i_and ?_ | with_reducible refine i_or ?_ | with_reducible refine i_lst ?_ | with_reducible refine i_tup ?_ | with_reducible refine i_cb ?_ | with_reducible refine i_call ?_ | with_reducible refine i_gsub ?_ | with_reducible refine i_B ?_ | with_reducible refine i_un ?_ | with_reducible refine i_U ?_ | with_reducible refine i_eqOI ?_ | with_reducible refine i_eqIO ?_ | with_reducible refine i_forL ?_ | with_reducible refine i_forT ?_ | with_reducible refine i_forR ?_ | with_reducible refine i_forR2 ?_ | with_reducible refine i_forR3 ?_ | with_reducible refine i_forE ?_ | with_reducible refine i_lcL ?_ | with_reducible refine i_lcT ?_ | with_reducible refine i_lcR ?_ | with_reducible refine i_yes ?_ | with_reducible refine i_lce ?_ | with_reducible refine i_lcf ?_ | with_reducible refine i_gcons ?_ | with_reducible refine i_gnil ?_ | with_reducible refine i_chain ?_ | with_reducible refine i_t ?_ | with_reducible refine i_f ?_ | with_reducible refine i_nt ?_ | with_reducible refine i_nf ?_ | with_reducible refine i_bm ?_ | with_reducible refine i_bm0 ?_ | with_reducible refine i_and2 ?_ | with_reducible refine i_or2 ?_ | with_reducible refine i_intI ?_ | with_reducible refine i_intB ?_ | with_reducible refine i_sl ?_ | with_reducible refine i_part ?_ | with_reducible refine i_nopart ?_ | with_reducible refine i_cut ?_ | with_reducible refine i_lrg ?_ | with_reducible refine i_make ?_ | with_reducible refine i_meth ?_ | with_reducible refine i_fld ?_ | with_reducible refine i_sfld ?_ | with_reducible refine i_dnew ?_ | with_reducible refine i_par3 ?_ | with_reducible refine i_par3e ?_ | with_reducible refine i_par2 ?_ | with_reducible refine i_par2e ?_ | with_reducible refine i_dput ?_ | with_reducible refine i_dget2 ?_ | with_reducible refine i_din ?_ | with_reducible refine i_dget ?_ | with_reducible refine i_isO ?_ | with_reducible refine i_isR ?_ | with_reducible refine i_isN ?_ | with_reducible refine i_isI ?_ | with_reducible refine i_noO ?_ | with_reducible refine i_noR ?_ | with_reducible refine i_noN ?_ | with_reducible refine i_noI ?_ | with_reducible refine (show ∃ k, V.bl _ = V.bl k ∧ _ from ⟨_, rfl, ?_⟩) | with_reducible refine (show ∃ k, V.int _ = V.int k ∧ _ from ⟨_, rfl, ?_⟩) | ((with_reducible apply i_ixL); (· assumption); (· exact rfl)) | ((with_reducible apply i_ixT); (· assumption); (· exact rfl)) | ((with_reducible apply i_lenL); (· assumption)) | ((with_reducible apply i_lenT); (· assumption)) | ((with_reducible apply i_I); (· (first | omega | (dsimp only; omega) | exact ⟨by omega, by omega⟩ | exact Or.inr ⟨by omega, by omega⟩ | exact Or.inl ⟨by omega, by omega⟩ | exact ⟨by decide, by decide, by decide⟩))) | ((with_reducible apply i_gtup); (· assumption); (· rfl)) | ((with_reducible apply i_p); (· omega)) | ((with_reducible apply i_n); (· omega)) | ((with_reducible apply i_np); (· omega)) | ((with_reducible apply i_nn); (· omega)) | ((with_reducible apply i_lcP); (· omega)) | ((with_reducible apply i_lcN); (· omega)) | ((with_reducible apply i_lcnP); (· omega)) | ((with_reducible apply i_lcnN); (· omega)))))
section
variable {P : Program} {w : World} {K : PySem.W.Frag} {mg : Str → Option Value} {base : Heap} {f : Addr} {fd : FuncData}
abbrev s_law_is_right : Stmt := topS 37
theorem sc_law_is_right : FnScope ["_law_words", "_law_found", "_law_due", "_law_bears", "_law_gap", "_law_rows", "_law_k"] ["_law_words", "_law_found", "_law_due"] (defScope s_law_is_right) := ⟨rfl, rfl, rfl, by decide +kernel, rfl, by decide +kernel, by decide +kernel⟩
theorem ok_is_right (T : Txt K mg) (C__law_like : Cal P w K mg base "_law_like" 4 ["_law_found", "_law_due"] (spLike 2 K)) (C__law_fall : Cal P w K mg base "_law_fall" 1 ["_law_words", "_law_strokes_here"] (spFall K)) (F : Fun K "_law_is_right" "_law_is_right" s_law_is_right f fd) : FnOk P w K mg base CX0 5 f fd ["_law_words", "_law_found", "_law_due"] (spIsRight K) := by
  refine F.ok sc_law_is_right (fun vs H Q E h => ?_) (fun cdv A outer s H0 vs Q E hr h => ?_)
  · obtain ⟨G, m, r, l, u, ws, mf, t, wd, rfl, _⟩ := h
    rfl
  · obtain ⟨G0, m, r, l, u, ws, mf, t, wd, rfl, sb, hw, okw, hr1, hl1, hu1, hlose, ht, k⟩ := h
    refine ⟨_, (pss_cons (ps_if (PW.pt (pw_or (pt_not (pt_val (pe_callB (r := rIsi K) call_isi (by rfl) T.b_isinstance (by decide +kernel) (pa_cons (pv 1) (pa_cons (pe_bltn (v := .ty "tuple") (u := .type "tuple") (by rfl) T.b_tuple (by decide +kernel) rfl) pa_nil))))) (pw_or (pt_cmpR op_ne (pe_callB (r := rLen K) cl_len (by rfl) T.b_len (by decide +kernel) (pa_cons (pv 1) pa_nil)) pe_int (nomark _)) (pw_or1 (pt_not (pt_val (pc C__law_like (hr.mono (by decide)) (pa_cons (pe_slice (r := rSlT K) sl_tup (pv 1) po_none (po_some pe_int)) (pa_cons (pv 2) pa_nil))))))))) (pss_one (ps_ret pe_bl)) pss_nil)
      (pss_cons (ps_asg (pe_slice (r := rSlT K) sl_tup (pe_ix (r := rIxL K) ix_list (pv 0) (pe_ix (r := rIxT K) ix_tup (pv 2) pe_int (fun _ _ => rfl)) (fun _ _ => rfl)) (po_some pe_int) po_none) (pg_tup rfl (pgs_cons (pg_name (i := 3) sc_law_is_right.nd rfl (Or.inr rfl)) (pgs_cons (pg_name (i := 4) sc_law_is_right.nd rfl (Or.inr rfl)) pgs_nil))))
      (pss_cons (ps_setLc (i := 5) (own := [("_law_k", 6)]) (g := gName 6) rfl sc_law_is_right.nd rfl rfl (sw_true rfl rfl rfl (by decide +kernel)) (pi_range1 (by rfl) T.b_range (pa_cons (pe_op op_add (pv 3) pe_int) pa_nil)) (blkOk_by (own := [("_law_k", 6)]) (N := ["_law_words", "_law_found", "_law_due", "_law_bears", "_law_gap", "_law_rows", "_law_k"]) (sc := defScope s_law_is_right) (by decide +kernel)) (fun _ _ _ _ _ => (pg_name (i := 6) sc_law_is_right.nd rfl (Or.inl rfl))) (fun _ _ _ _ _ => pts_nil) (fun _ _ _ _ _ => (pe_tup (pa_cons (pe_op op_sub (pe_ix (r := rIxT K) ix_tup (pv 2) pe_int (fun _ _ => rfl)) (pe_op op_mul (pe_op op_sub (pv 3) (pv 6)) (pv 4))) (pa_cons (pe_ix (r := rIxT K) ix_tup (pv 2) pe_int (fun _ _ => rfl)) (pa_cons (pv 6) pa_nil))))))
      (pss_one (ps_ret (pe_and (pc C__law_like (hr.mono (by decide)) (pa_cons (pe_ix (r := rIxT K) ix_tup (pv 1) pe_int (fun _ _ => rfl)) (pa_cons (pv 5) pa_nil))) (pe_one (pc C__law_fall (hr.mono (by decide)) (pa_cons (pv 0) (pa_cons (pv 5) pa_nil)))))))))), ?_⟩
    try dsimp only [cxOf, L2.Cx.nox, L2.Cx.wish]
    refine i_start (σ' := [some (.ref m), some (.ref r), some (.ref u), none, none, none, none]) rfl ?_
    have g : Gr No G0 H0 G0 H0 := Gr.refl sb
    obtain ⟨wa, hwa, wpr⟩ := id hw
    have hwl := hlose.1
    have oks := okSt_strk okw hlose ht
    obtain ⟨o1, o2, o3, o4, o5, o6⟩ := okw.ok _ (getD_mem (d := d3) hwl)
    obtain ⟨wp, hwp, hwt⟩ := word_at wpr (getD_at (d := d3) hwl)
    have hu2 := sqt (K := K) g.sub hu1
    walk_at "zrd"
    refine isi_T (b := true) hr1 (by decide) rfl ?_
    walk_at "zrd"
    refine i_np rfl ?_
    walk_at "zrd"
    refine i_sl32 hr1 ?_
    refine newTO g (by first | omega | (simp; done) | (simp; omega)) fun t1 H1 nt1 zt1 s g tt1 => ?_
    walk_at "zrd"
    refine i_like (d := .tuple [.int (t : Nat), .int (wd : Nat)]) (.tup (.inl (.inl tt1.h)) (.cons (.int _) (.cons (.int _) .nil))) (.tup (sqt g.sub hu1) (.cons (.int _) (.cons (.int _) .nil))) (lk_tup (by show 2 ≤ 100000; decide) fun e he => by
      simp only [List.mem_cons, List.not_mem_nil, or_false] at he
      rcases he with rfl | rfl <;> exact lk_int) ?_
    have hr1 := sqt s.same hr1
    have hl1 := Dp.mono s.same _ _ hl1
    have hu2 := sqt (K := K) g.sub hu1
    have hm1 : SqL K H1 m (wa.map V.ref) := Z.ls hwa g.sub
    have hwt1 := sqt g.sub hwt
    walk_at "zrd"
    refine i_ixL hm1 (atN (k := wd) rfl hwp) ?_
    walk_at "zrd"
    refine i_sl31 hwt1 ?_
    refine newTO g (by first | omega | (simp; done) | (simp; omega)) fun t2 H2 nt2 zt2 s g tt2 => ?_
    walk_at "zrd"
    refine i_gtup (.inl (.inl tt2.h)) rfl ?_
    have hl1 := Dp.mono s.same _ _ hl1
    have hr1 := sqt s.same hr1
    walk_at "zrd"
    have gA := g
    have hsl : (ws.getD wd d3).2.1.toNat + 1 ≤ 9 := by omega
    refine lcR (by omega) (by omega) (fun E j H' => ∃ (G : Hp) (fe : List Addr), Gr No G0 H2 G H' ∧ At G H' E (.lst (fe.map V.ref)) ∧ Paired (fun p t => SqT K G p t) fe (((strk ws t wd).take j).map vW)) ?_ ?_ ?_
    · intro E nE
      exact ⟨G0, [], (Gr.refl g.sub).new nE, At.of g nE, .nil⟩
    · rintro E j H' nE hj ⟨G, fe, g, tE, pr⟩
      have hu2 := sqt (K := K) (g.gg.trans g.sub) hu1
      have hel : (strk ws t wd).length = (ws.getD wd d3).2.1.toNat + 1 := by unfold strk; rw [List.length_map, List.length_range]
      have hfe : (fe.map V.ref).length ≤ 9 := by rw [List.length_map, Paired.len pr, List.length_map, List.length_take]; omega
      have hgj : (strk ws t wd)[j]? = some (((t : Int) - (ws.getD wd d3).2.1 * (ws.getD wd d3).2.2 + (j : Int) * (ws.getD wd d3).2.2, ((wd : Int), (j : Int)))) := by
        unfold strk
        rw [List.getElem?_map, List.getElem?_range (by omega)]
        rfl
      have ev : (t : Int) - ((ws.getD wd d3).2.1 - (j : Int)) * (ws.getD wd d3).2.2 = (t : Int) - (ws.getD wd d3).2.1 * (ws.getD wd d3).2.2 + (j : Int) * (ws.getD wd d3).2.2 := by rw [Int.sub_mul]; omega
      walk_at "zrd"
      refine i_lcw rfl ?_
      walk_at "zrd"
      rw [ev]
      refine newT (K := K) g (by first | omega | (simp; done) | (simp; omega)) fun u2 G5 H10 nu2 zu2 s g tu2 => ?_
      have nEu2 := ne_of_none tE.h nu2
      have tE := tE.monoN s
      have pr := prt s.gg pr
      walk_at "zrd"
      refine lcp tE (by omega) ?_
      refine ⟨G5, fe ++ [u2], g.mut tE (.inr nE), ?_, ?_⟩
      · rw [List.map_append]
        exact tE.put
      · rw [List.take_add_one, hgj, List.map_append]
        exact Paired.snoc tu2 pr
    · rintro E H' nE ⟨G, fe, g2, tE, pr⟩
      have hel : (strk ws t wd).length = (ws.getD wd d3).2.1.toNat + 1 := by unfold strk; rw [List.length_map, List.length_range]
      rw [show ((ws.getD wd d3).2.1 + 1).toNat = (strk ws t wd).length by omega, List.take_length] at pr
      have sE := same_close tE
      have hl1 := Dp.mono g2.same _ _ hl1
      have hr1 := sqt g2.same hr1
      have g := (gA.seqN g2).close tE (gA.fresh nE)
      have hs : TupL K (upd G E (.lst (fe.map V.ref))) E ((strk ws t wd).map vW) := ⟨fe, upd_same, prt sE pr⟩
      have hw := hw.mono (g2.gg.trans sE)
      obtain ⟨se, hse, spr⟩ := id hs
      walk_at "zrd"
      refine i_like hl1 (.lst (Z.ls hse g.sub) (dpAll_W (prt g.sub spr))) (lk_Ws (by omega)) ?_
      walk_at "zrd"
      refine i_fall g hw okw hs oks fun H9 s g => ?_
      walk_at "zrd"
      exact k _ g.back
end
end Z
set_option Elab.async false
set_option linter.all false
set_option maxRecDepth 100000
set_option maxHeartbeats 4000000
namespace Z
open PySem PySem.Spec PyProof.Rows L2
local macro_rules | `(tactic| walk_at "zrd") => `(tactic| (repeat (first | ((with_reducible apply i_var); (· exact rfl)) | with_reducible refine i_c ?_ | with_reducible refine i_op ?_ | with_reducible refine i_I0 ?_ | with_reducible refine i_eqI ?_ | with_reducible refine i_neI ?_ | with_reducible refine i_test ?_ | with_reducible refine i_cons ?_ | with_reducible refine i_nil ?_ | with_reducible refine i_seq ?_ | with_reducible refine i_nx ?_ | with_reducible refine i_rt ?_ | with_reducible refine i_pass ?_ | with_reducible refine i_asg ?_ | with_reducible refine i_gname ?_ | with_reducible refine i_ret ?_ | with_reducible refine i_drop ?_ | with_reducible refine i_ifS ?_ | with_reducible refine i_if ?_ | with_reducible refine i_not ?_ | with_reducible refine i_and ?_ | with_reducible refine i_or ?_ | with_reducible refine i_lst ?_ | with_reducible refine i_tup ?_ | with_reducible refine i_cb ?_ | with_reducible refine i_call ?_ | with_reducible refine i_gsub ?_ | with_reducible refine i_B ?_ | with_reducible refine i_un ?_ | with_reducible refine i_U ?_ | with_reducible refine i_eqOI ?_ | with_reducible refine i_eqIO ?_ | with_reducible refine i_forL ?_ | with_reducible refine i_forT ?_ | with_reducible refine i_forR ?_ | with_reducible refine i_forR2 ?_ | with_reducible refine i_forR3 ?_ | with_reducible refine i_forE ?_ | with_reducible refine i_lcL ?_ | with_reducible refine i_lcT ?_ | with_reducible refine i_lcR ?_ | with_reducible refine i_yes ?_ | with_reducible refine i_lce ?_ | with_reducible refine i_lcf ?_ | with_reducible refine i_gcons ?_ | with_reducible refine i_gnil ?_ | with_reducible refine i_chain ?_ | with_reducible refine i_t ?_ | with_reducible refine i_f ?_ | with_reducible refine i_nt ?_ | with_reducible refine i_nf ?_ | with_reducible refine i_bm ?_ | with_reducible refine i_bm0 ?_ | with_reducible refine i_and2 ?_ | with_reducible refine i_or2 ?_ | with_reducible refine i_intI ?_ | with_reducible refine i_intB ?_ | with_reducible refine i_sl ?_ | with_reducible refine i_part ?_ | with_reducible refine i_nopart ?_ | with_reducible refine i_cut ?_ | with_reducible refine i_lrg ?_ | with_reducible refine i_make ?_ | with_reducible refine i_meth ?_ | with_reducible refine i_fld ?_ | with_reducible refine i_sfld ?_ | with_reducible refine i_dnew ?_ | with_reducible refine i_par3 ?_ | with_reducible refine i_par3e ?_ | with_reducible refine i_par2 ?_ | with_reducible refine i_par2e ?_ | with_reducible refine i_dput ?_ | with_reducible refine i_dget2 ?_ | with_reducible refine i_din ?_ | with_reducible refine i_dget ?_ | with_reducible refine i_isO ?_ | with_reducible refine i_isR ?_ | with_reducible refine i_isN ?_ | with_reducible refine i_isI ?_ | with_reducible refine i_noO ?_ | with_reducible refine i_noR ?_ | with_reducible refine i_noN ?_ | with_reducible refine i_noI ?_ | with_reducible refine (show ∃ k, V.bl _ = V.bl k ∧ _ from ⟨_, rfl, ?_⟩) | with_reducible refine (show ∃ k, V.int _ = V.int k ∧ _ from ⟨_, rfl, ?_⟩) | ((with_reducible apply i_ixL); (· assumption); (· exact rfl)) | ((with_reducible apply i_ixT); (· assumption); (· exact rfl)) | ((with_reducible apply i_lenL); (· assumption)) | ((with_reducible apply i_lenT); (· assumption)) | ((with_reducible apply i_I); (· (first | omega | (dsimp only; omega) | exact ⟨by omega, by omega⟩ | exact Or.inr ⟨by omega, by omega⟩ | exact Or.inl ⟨by omega, by omega⟩ | exact ⟨by decide, by decide, by decide⟩))) | ((with_reducible apply i_gtup); (· assumption); (· rfl)) | ((with_reducible apply i_p); (· omega)) | ((with_reducible apply i_n); (· omega)) | ((with_reducible apply i_np); (· omega)) | ((with_reducible apply i_nn); (· omega)) | ((with_reducible apply i_lcP); (· omega)) | ((with_reducible apply i_lcN); (· omega)) | ((with_reducible apply i_lcnP); (· omega)) | ((with_reducible apply i_lcnN); (· omega)))))
section
variable {P : Program} {w : World} {K : PySem.W.Frag} {mg : Str → Option Value} {base : Heap} {f : Addr} {fd : FuncData} {C : Addr}
abbrev slaw : Stmt := topS 38
theorem sclaw : FnScope ["_law_script", "_law_d", "_law_words", "_law_memory_here", "_law_load_here", "_law_plan_here", "_law_many", "_law_due", "_law_turn", "_law_found", "_law_told", "_law_ahead", "_law_strokes_here", "_law_lost"] ["_law_script"] (defScope slaw) := ⟨rfl, rfl, rfl, by decide +kernel, rfl, by decide +kernel, by decide +kernel⟩
theorem ok_law (T : Txt K mg) (C__law_dice : Cal P w K mg base "_law_dice" 1 ["_law_script"] (spDice K)) (C__law_memory : Cal P w K mg base "_law_memory" 2 ["_law_d", "_law_most"] (spMemory K)) (C__law_load : Cal P w K mg base "_law_load" 2 ["_law_d", "_law_most"] (spLoad K)) (C__law_plan : Cal P w K mg base "_law_plan" 2 ["_law_d", "_law_many"] (spPlan K)) (C__law_soonest : Cal P w K mg base "_law_soonest" 2 ["_law_words", "_law_load_here", "_law_plan_here", "_law_beats"] (spSoonest K)) (C__law_strokes : Cal P w K mg base "_law_strokes" 2 ["_law_d", "_law_words", "_law_beats"] (spStrokes2 K)) (C__law_is_right : Cal P w K mg base "_law_is_right" 5 ["_law_words", "_law_found", "_law_due"] (spIsRight K)) (C_Memory : CalMk P w K mg base "Memory" C 1 ["self", "words"] (spInit K C))
    (C_breaking : Cal P w K mg base "breaking" 3 ["memory", "load", "plan"] (spBreaking K C)) (C_run : Cal P w K mg base "run" 3 ["memory", "load", "plan", "strokes", "beats"] (spRun K C)) (F : Fun K "law" "law" slaw f fd) : FnOk P w K mg base CX0 6 f fd ["_law_script"] (spLaw K) := by
  refine F.ok sclaw (fun vs H Q E h => ?_) (fun cdv A outer s H0 vs Q E hr h => ?_)
  · obtain ⟨a, ns, rfl, _⟩ := h
    rfl
  · obtain ⟨sc, ns, rfl, hsc, _, k⟩ := h
    refine ⟨_, (pss_cons (ps_set (i := 1) sclaw.nd rfl (Or.inl rfl) (pc C__law_dice (hr.mono (by decide)) (pa_cons (pv 0) pa_nil)))
      (pss_cons (ps_set (i := 2) sclaw.nd rfl (Or.inl rfl) (pc C__law_memory (hr.mono (by decide)) (pa_cons (pv 1) (pa_cons pe_int pa_nil))))
      (pss_cons (ps_set (i := 3) sclaw.nd rfl (Or.inl rfl) (pmk C_Memory (hr.mono (by decide)) (pa_cons (pe_callTy (r := rList K) cl_list (by rfl) T.b_list (by decide +kernel) (pa_cons (pv 2) pa_nil)) pa_nil)))
      (pss_cons (ps_set (i := 4) sclaw.nd rfl (Or.inl rfl) (pc C__law_load (hr.mono (by decide)) (pa_cons (pv 1) (pa_cons pe_int pa_nil))))
      (pss_cons (ps_set (i := 5) sclaw.nd rfl (Or.inl rfl) (pc C__law_plan (hr.mono (by decide)) (pa_cons (pv 1) (pa_cons (pe_callB (r := rLen K) cl_len (by rfl) T.b_len (by decide +kernel) (pa_cons (pv 2) pa_nil)) pa_nil))))
      (pss_cons (ps_set (i := 6) sclaw.nd rfl (Or.inl rfl) (pe_op op_add (pe_op op_mul (pe_callB (r := rLen K) cl_len (by rfl) T.b_len (by decide +kernel) (pa_cons (pv 4) pa_nil)) (pe_op op_add (pe_op op_add (pe_callB (r := rLen K) cl_len (by rfl) T.b_len (by decide +kernel) (pa_cons (pe_ix (r := rIxT K) ix_tup (pv 5) pe_int (fun _ _ => rfl)) pa_nil)) (pe_op op_mul pe_int (pe_callB (r := rLen K) cl_len (by rfl) T.b_len (by decide +kernel) (pa_cons (pe_ix (r := rIxT K) ix_tup (pv 5) pe_int (fun _ _ => rfl)) pa_nil)))) pe_int)) pe_int))
      (pss_cons (ps_set (i := 7) sclaw.nd rfl (Or.inl rfl) (pc C__law_soonest (hr.mono (by decide)) (pa_cons (pv 2) (pa_cons (pv 4) (pa_cons (pv 5) (pa_cons (pv 6) pa_nil))))))
      (pss_cons (ps_for PassesOwn.never rfl (pi_range1 (by rfl) T.b_range (pa_cons pe_int pa_nil)) (pg_name (i := 8) sclaw.nd rfl (Or.inl rfl)) (pss_cons (ps_set (i := 9) sclaw.nd rfl (Or.inl rfl) (pc C_breaking (hr.mono (by decide)) (pa_cons (pv 3) (pa_cons (pv 4) (pa_cons (pv 5) pa_nil)))))
      (pss_one (ps_if (pt_cmpR op_isNz (pv 7) pe_non (nomark _)) (pss_one (ps_if (pt_cmpR op_notNz (pv 9) pe_non (nomark _)) (pss_one (ps_ret pe_bl)) pss_nil)) (pss_cons (ps_if (pt_not (pt_val (pc C__law_is_right (hr.mono (by decide)) (pa_cons (pv 2) (pa_cons (pv 9) (pa_cons (pv 7) pa_nil)))))) (pss_one (ps_ret pe_bl)) pss_nil)
      (pss_cons (ps_set (i := 10) sclaw.nd rfl (Or.inl rfl) (pc C_run (hr.mono (by decide)) (pa_cons (pv 3) (pa_cons (pv 4) (pa_cons (pv 5) (pa_cons (pe_ix (r := rIxT K) ix_tup (pv 9) pe_int (fun _ _ => rfl)) (pa_cons (pe_op op_add (pe_ix (r := rIxT K) ix_tup (pv 7) pe_int (fun _ _ => rfl)) pe_int) pa_nil)))))))
      (pss_cons (ps_set (i := 11) sclaw.nd rfl (Or.inl rfl) (pc C_run (hr.mono (by decide)) (pa_cons (pv 3) (pa_cons (pv 4) (pa_cons (pv 5) (pa_cons (pe_ix (r := rIxT K) ix_tup (pv 9) pe_int (fun _ _ => rfl)) (pa_cons (pe_ix (r := rIxT K) ix_tup (pv 7) pe_int (fun _ _ => rfl)) pa_nil)))))))
      (pss_cons (ps_if (PW.pt (pw_or (pt_cmpR (r := rNeD K) (op_neD hr.units) (pe_ix (r := rIxT K) ix_tup (pv 10) pe_int (fun _ _ => rfl)) (pv 7) (nomark _)) (pw_or1 (pt_cmpR op_notNz (pe_ix (r := rIxT K) ix_tup (pv 11) pe_int (fun _ _ => rfl)) pe_non (nomark _))))) (pss_one (ps_ret pe_bl)) pss_nil)
      (pss_one (ps_expr (pe_bm0 PySem.F.plainAttrs_list PySem.F.slot_list_clear PySem.F.type_list_clear mt_clear (pe_ix (r := rIxT K) ix_tup (pv 9) pe_int (fun _ _ => rfl)))))))))))))
      (pss_cons (ps_set (i := 12) sclaw.nd rfl (Or.inl rfl) (pc C__law_strokes (hr.mono (by decide)) (pa_cons (pv 1) (pa_cons (pv 2) (pa_cons pe_int pa_nil)))))
      (pss_cons (ps_set (i := 13) sclaw.nd rfl (Or.inl rfl) (pe_ix (r := rIxT K) ix_tup (pc C_run (hr.mono (by decide)) (pa_cons (pv 3) (pa_cons (pv 4) (pa_cons (pv 5) (pa_cons (pv 12) (pa_cons pe_int pa_nil)))))) pe_int (fun _ _ => rfl)))
      (pss_one (ps_ret (pe_or (pe_cmpR op_isNz (pv 13) pe_non (nomark _)) (pe_one (pe_and (pe_cmpR op_notNz (pv 7) pe_non (nomark _)) (pe_one (pe_cmpR op_le (pe_ix (r := rIxT K) ix_tup (pv 7) pe_int (fun _ _ => rfl)) (pe_ix (r := rIxT K) ix_tup (pv 13) pe_int (fun _ _ => rfl)) (nomark _)))))))))))))))))), ?_⟩
    try dsimp only [cxOf, L2.Cx.nox, L2.Cx.wish]
    refine i_start (σ' := [some (.ref sc), none, none, none, none, none, none, none, none, none, none, none, none, none]) rfl ?_
    have g : Gr No H0 H0 H0 H0 := Gr.refl (Same.refl H0)
    walk_at "zrd"
    refine i_dice g hsc fun d H1 zd s g D => ?_
    walk_at "zrd"
    refine i_memory g D (.inr zd) (by omega) (by omega) fun ws m G2 H2 nm s g D hw okw hwl => ?_
    obtain ⟨wa, hwa, wpr⟩ := id hw
    have ew : (wa.map V.ref).length = ws.length := by rw [List.length_map, Paired.len wpr, List.length_map]
    obtain ⟨w1, w4, wok⟩ := id okw
    walk_at "zrd"
    refine i_listL (Z.ls (K := K) hwa g.sub) (by rw [ew]; exact Nat.le_of_lt (small1000 (by omega))) ?_
    refine newLC g (by first | omega | (simp; done) | (simp; omega)) fun wl G3 H3 nwl zwl s g twl => ?_
    have ndwl := D.ne nwl
    have D := D.monoN s
    walk_at "zrd"
    have hw := hw.mono s.gg
    refine i_mem (ws := ws) g ⟨wa, twl, prt s.gg wpr⟩ okw fun mm G4 H4 nmm s g M => ?_
    have hw := hw.mono s.gg
    have D := D.monoN s
    walk_at "zrd"
    refine i_load g D (.inr zd) (by omega) (by omega) fun ld l G5 H5 s g D hl okl hll => ?_
    have hw := hw.mono s.gg
    have M := M.mono s.gg
    obtain ⟨wa, hwa, wpr⟩ := id hw
    have ew : (wa.map V.ref).length = ws.length := by rw [List.length_map, Paired.len wpr, List.length_map]
    have hm1 : SqL K H5 m (wa.map V.ref) := Z.ls hwa g.sub
    walk_at "zrd"
    refine i_plan g D (.inr zd) (by omega) (by omega) fun hd lp p G6 H6 s g D pl okp h40 l40 => ?_
    have hw := hw.mono s.gg
    have M := M.mono s.gg
    have hl := s.gg _ _ hl
    rw [ew, Int.toNat_natCast] at okp
    obtain ⟨pa, pb, hpp, hpa, hpb⟩ := id pl
    have hl1 : SqL K H6 l (ld.map V.int) := Z.ls hl g.sub
    have hpp1 := sqt (K := K) g.sub hpp
    have hpa1 : SqL K H6 pa (hd.map vO) := Z.ls hpa g.sub
    have hpb1 : SqL K H6 pb (lp.map vO) := Z.ls hpb g.sub
    have eld : (ld.map V.int).length = ld.length := List.length_map _
    have eh : (hd.map vO).length = hd.length := List.length_map _
    have elp : (lp.map vO).length = lp.length := List.length_map _
    have L12 := okl.l12
    walk_at "zrd"
    have eN : (((ld.map V.int).length : Nat) : Int) * ((((hd.map vO).length : Nat) : Int) + 2 * (((lp.map vO).length : Nat) : Int) + 2) + 100 = ((ld.length * (hd.length + 2 * lp.length + 2) + 100 : Nat) : Int) := by
      rw [eld, eh, elp, Int.natCast_add, Int.natCast_mul, Int.natCast_add, Int.natCast_add, Int.natCast_mul]
      rfl
    rw [eN]
    have hN : ld.length * (hd.length + 2 * lp.length + 2) ≤ 6 * 122 := Nat.mul_le_mul (by omega) (by omega)
    obtain ⟨N, hN2, hN3⟩ : ∃ N, ld.length * (hd.length + 2 * lp.length + 2) + 100 = N ∧ N ≤ 900 := ⟨_, rfl, by omega⟩
    rw [hN2]
    refine i_soonest g hw okw hl okl pl okp (by omega) (by omega) fun o2 dv G7 H7 so s g hdv => ?_
    rw [Int.toNat_natCast] at so
    have hw := hw.mono s.gg
    have M := M.mono s.gg
    have hl := s.gg _ _ hl
    have pl := pl.mono s.gg
    have D := D.monoN s
    have hm0 : ∀ t v, mend ld hd lp t = some v → 0 ≤ v := fun t v e => (mend_ok okp t v e).1
    clear hl1 hpp1 hpa1 hpb1 hpp hpa hpb
    have so1 : BrkSem ws (mend ld hd lp) o2 := soon_sem okw okl okp (by omega) so
    walk_at "zrd"
    refine forR (by omega) (by omega) (fun i σ H' => ∃ (v8 v9 v10 v11 : Option V), σ = [some (.ref sc), some (.ref d), some (.ref m), some (.ref mm), some (.ref l), some (.ref p), some (.int (N : Nat)), some dv, v8, v9, v10, v11, none, none] ∧ Gr No H0 H0 G7 H' ∧ Dice K G7 H' d)
      ⟨none, none, none, none, rfl, g, D⟩ ?_ ?_
    · rintro i σ H' hi ⟨v8, v9, v10, v11, rfl, g, D⟩
      walk_at "zrd"
      have gB := g
      have DB := D
      refine i_breaking g M hl okl pl okp fun o bv G8 H8 s g brk hbv => ?_
      have eo := so1.uniq brk
      subst eo
      walk_at "zrd"
      match o2, hdv, brk, hbv with
      | none, hdv, brk, hbv =>
        have e : dv = .non := hdv
        subst e
        have e : bv = .non := hbv
        subst e
        walk_at "zrd"
        exact ⟨_, _, _, _, rfl, gB.seqN (s.down (Same.refl G7)), DB.monoN (s.down (Same.refl G7))⟩
      | some (t, wl), ⟨du, e, hdu⟩, brk, ⟨r, l2, as, e2, nr, nl2, hr2, hl2, pr2⟩ =>
        subst e e2
        have ht : t ≤ 999 := by have := soon_early okw okl okp brk; omega
        have oks := okSt_strk okw brk.1 ht
        have zl2 := gB.fresh nl2
        have ndl := DB.ne nl2
        have D := DB.monoN s
        have hw8 := hw.mono s.gg
        have M8 := M.mono s.gg
        have hl8 := s.gg _ _ hl
        have pl8 := pl.mono s.gg
        have hdu8 := sqt s.gg hdu
        have hr2 := sqt g.sub hr2
        have gs := s
        walk_at "zrd"
        refine i_is_right g hw8 okw hr2 (.lst (.inl (.inl hl2.h)) (dpAll_W (prt g.sub pr2))) hdu8 brk.1 ht fun H9 s g => ?_
        have gs := gs.seqN s
        have hl2 := hl2.monoN s
        have D := D.monoN s
        have hr2 := sqt s.same hr2
        have hdu9 := sqt (K := K) g.sub hdu8
        walk_at "zrd"
        have sE := same_close hl2
        refine i_run (g.close hl2 zl2) (M8.mono sE) (sE _ _ hl8) okl (pl8.mono sE) okp (ss := strk ws t wl) ⟨as, upd_same, prt sE pr2⟩ oks (by omega) (by omega) fun lost tu r3 t3 lv3 ls3 G9 H10 R s _ hr3 hlv3 T3 => ?_
        obtain ⟨tu1, R1⟩ := strk_told okw brk.1 ht hm0
        obtain ⟨tu2, R2⟩ := strk_ahead okw brk.1 ht hm0
        rw [show ((t : Int) + 1).toNat = t + 1 by omega] at R
        obtain ⟨e1, _⟩ := R.uniq R1
        subst e1
        have hr3 := sqt s.sub hr3
        have hlv3 := hlv3.mono s.sub
        have s := s.down sE
        have gs := gs.seqN s
        have g := g.seqN s
        have hl2 := hl2.monoN s
        have D := D.monoN s
        have hr2 := sqt s.same hr2
        have hdu9 := sqt (K := K) g.sub hdu8
        clear T3
        walk_at "zrd"
        refine i_run (g.close hl2 zl2) (M8.mono sE) (sE _ _ hl8) okl (pl8.mono sE) okp (ss := strk ws t wl) ⟨as, upd_same, prt sE pr2⟩ oks (by omega) (by omega) fun lost tu r4 t4 lv4 ls4 G10 H11 R s _ hr4 hlv4 T4 => ?_
        rw [Int.toNat_natCast] at R
        obtain ⟨e1, _⟩ := R.uniq R2
        subst e1
        have e : lv4 = .non := hlv4
        subst e
        have hr4 := sqt s.sub hr4
        have s := s.down sE
        have gs := gs.seqN s
        have g := g.seqN s
        have hl2 := hl2.monoN s
        have D := D.monoN s
        have hr2 := sqt s.same hr2
        have hr3 := sqt s.same hr3
        have hlv3 := hlv3.mono s.same
        have hdu9 := sqt (K := K) g.sub hdu8
        clear T4
        walk_at "zrd"
        refine i_neD1 (d := dLost (some (t, wl))) (dp_lost hlv3) (.tup hdu9 (.cons (.int _) (.cons (.int _) .nil))) (k := 1) (dk_tup fun d hd => by
          simp only [List.mem_cons, List.not_mem_nil, or_false] at hd
          rcases hd with rfl | rfl <;> exact dk_int) (by decide) ?_
        walk_at "zrd"
        refine ⟨tyL hl2.h, ?_⟩
        refine i_clear hl2.h ?_
        walk_at "zrd"
        have gs := (gs.mut (u := .lst []) hl2 (.inr nl2)).down (Same.refl G7)
        exact ⟨_, _, _, _, rfl, gB.seqN gs, DB.monoN gs⟩
    · rintro σ H' ⟨v8, v9, v10, v11, rfl, g, D⟩
      walk_at "zrd"
      refine i_strokes2 g D (.inr zd) hw okw (by omega) (by omega) fun ss sp G8 H8 s g D hs oks few hs50 => ?_
      have M := M.mono s.gg
      have hl := s.gg _ _ hl
      have pl := pl.mono s.gg
      walk_at "zrd"
      refine i_run g M hl okl pl okp hs oks (by omega) (by omega) fun lost tu r t lv ls G9 H9 R s' g hr1 hlv T1 => ?_
      have hr2 := sqt g.sub hr1
      walk_at "zrd"
      match lost, hlv, R with
      | none, hlv, R =>
        have e : lv = .non := hlv
        subst e
        walk_at "zrd"
        exact k _
      | some (b, wl), ⟨pp, e, hpp⟩, R =>
        subst e
        obtain ⟨tt, ht1, ht2⟩ := loss_lose (b := b) okw oks hm0 (by rw [← R.2.1]; exact R.2.2.1.1)
        have hpp1 := sqt g.sub hpp
        match o2, hdv, so1 with
        | none, hdv, so1 => exact absurd ht2 (so1 _ _)
        | some (TT, W), ⟨du, e, hdu⟩, so1 =>
          subst e
          have hcmp := so1.2 _ _ ht2
          have hdu9 := sqt (K := K) (s.gg.trans (s'.gg.trans g.sub)) hdu
          walk_at "zrd"
          rw [decide_eq_true (by omega)]
          exact k _
end
end Z
set_option Elab.async false
set_option linter.all false
set_option maxRecDepth 100000
set_option maxHeartbeats 0
namespace Z
open PySem PySem.Spec PyProof.Rows L2
abbrev FnP (K : PySem.W.Frag) (x q : Str) (st : Stmt) (f : Addr) (fd : FuncData) : Prop := FunD K x q (defArgs st) (defBody st) (defScope st) [] [] f fd
theorem fun_of {K : PySem.W.Frag} {x q : Str} {st : Stmt} {f : Addr} {fd : FuncData} (F : FnP K x q st f fd) : Fun K x q st f fd := by
  obtain ⟨oc, od, dV, kV, doc, pm, an, cdv, ct, osl, e, lk, hc, hd, hk⟩ := F.ex
  rcases hd with ⟨_, e2⟩ | ⟨n, _⟩
  · subst e2
    exact ⟨⟨oc, od, kV, doc, pm, an, cdv, ct, osl, e, lk, hc⟩, F.kp⟩
  · exact absurd rfl n
def d_Memory___init__ : He.DefD := ⟨("Memory", some "__init__"), "__init__", "Memory.__init__", defArgs sMemory___init__, defBody sMemory___init__, defScope sMemory___init__, [], []⟩
def d_Memory_words : He.DefD := ⟨("Memory", some "words"), "words", "Memory.words", defArgs sMemory_words, defBody sMemory_words, defScope sMemory_words, [], []⟩
def d__law_dice : He.DefD := ⟨("_law_dice", none), "_law_dice", "_law_dice", defArgs s_law_dice, defBody s_law_dice, defScope s_law_dice, [], []⟩
def d__law_next : He.DefD := ⟨("_law_next", none), "_law_next", "_law_next", defArgs s_law_next, defBody s_law_next, defScope s_law_next, [], []⟩
def d__law_memory : He.DefD := ⟨("_law_memory", none), "_law_memory", "_law_memory", defArgs s_law_memory, defBody s_law_memory, defScope s_law_memory, [], []⟩
def d__law_load : He.DefD := ⟨("_law_load", none), "_law_load", "_law_load", defArgs s_law_load, defBody s_law_load, defScope s_law_load, [], []⟩
def d__law_plan : He.DefD := ⟨("_law_plan", none), "_law_plan", "_law_plan", defArgs s_law_plan, defBody s_law_plan, defScope s_law_plan, [], []⟩
def d__law_mends : He.DefD := ⟨("_law_mends", none), "_law_mends", "_law_mends", defArgs s_law_mends, defBody s_law_mends, defScope s_law_mends, [], []⟩
def d__law_soonest : He.DefD := ⟨("_law_soonest", none), "_law_soonest", "_law_soonest", defArgs s_law_soonest, defBody s_law_soonest, defScope s_law_soonest, [], []⟩
def d__law_fall : He.DefD := ⟨("_law_fall", none), "_law_fall", "_law_fall", defArgs s_law_fall, defBody s_law_fall, defScope s_law_fall, [], []⟩
def d__law_strokes : He.DefD := ⟨("_law_strokes", none), "_law_strokes", "_law_strokes", defArgs s_law_strokes, defBody s_law_strokes, defScope s_law_strokes, [], []⟩
def d__law_like : He.DefD := ⟨("_law_like", none), "_law_like", "_law_like", defArgs s_law_like, defBody s_law_like, defScope s_law_like, [], []⟩
def d__law_is_right : He.DefD := ⟨("_law_is_right", none), "_law_is_right", "_law_is_right", defArgs s_law_is_right, defBody s_law_is_right, defScope s_law_is_right, [], []⟩
def d_need_load : He.DefD := ⟨("need_load", none), "need_load", "need_load", defArgs sneed_load, defBody sneed_load, defScope sneed_load, [], []⟩
def d_need_plan : He.DefD := ⟨("need_plan", none), "need_plan", "need_plan", defArgs sneed_plan, defBody sneed_plan, defScope sneed_plan, [], []⟩
def d_need_strokes : He.DefD := ⟨("need_strokes", none), "need_strokes", "need_strokes", defArgs sneed_strokes, defBody sneed_strokes, defScope sneed_strokes, [], []⟩
def d_mended_at : He.DefD := ⟨("mended_at", none), "mended_at", "mended_at", defArgs smended_at, defBody smended_at, defScope smended_at, [], []⟩
def d_run : He.DefD := ⟨("run", none), "run", "run", defArgs srun, defBody srun, defScope srun, [], []⟩
def d_limits : He.DefD := ⟨("limits", none), "limits", "limits", defArgs slimits, defBody slimits, defScope slimits, [], []⟩
def d_beats_of : He.DefD := ⟨("beats_of", none), "beats_of", "beats_of", defArgs sbeats_of, defBody sbeats_of, defScope sbeats_of, [], []⟩
def d_stretches : He.DefD := ⟨("stretches", none), "stretches", "stretches", defArgs sstretches, defBody sstretches, defScope sstretches, [], []⟩
def d_breaking : He.DefD := ⟨("breaking", none), "breaking", "breaking", defArgs sbreaking, defBody sbreaking, defScope sbreaking, [], []⟩
def d_law : He.DefD := ⟨("law", none), "law", "law", defArgs slaw, defBody slaw, defScope slaw, [], []⟩
def hfn : List He.DefD := [d_Memory___init__, d_Memory_words, d__law_dice, d__law_next, d__law_memory, d__law_load, d__law_plan, d__law_mends, d__law_soonest, d__law_fall, d__law_strokes, d__law_like, d__law_is_right, d_need_load, d_need_plan, d_need_strokes, d_mended_at, d_run, d_limits, d_beats_of, d_stretches, d_breaking, d_law]
def hfa : List He.Fa := ([.free "len", .free "int", .free "range", .free "list", .free "tuple", .free "sorted", .free "max", .free "min", .free "enumerate", .free "isinstance", .free "str", .free "bool", .free "dict", .int "MOST_WORDS" 4, .int "MOST_WIDE" 8, .int "MOST_GAP" 9, .int "MOST_LOAD" 12, .int "MOST_PLAN" 2000, .int "MOST_BEAT" 999, .glo "_law_dice"] : List He.Fa) ++ ([.glo "_law_next", .glo "_law_memory", .glo "_law_load", .glo "_law_plan", .glo "_law_mends", .glo "_law_soonest", .glo "_law_fall", .glo "_law_strokes", .glo "_law_like", .glo "_law_is_right", .glo "need_load", .glo "need_plan", .glo "need_strokes", .glo "mended_at", .glo "run", .glo "limits", .glo "beats_of", .glo "stretches", .glo "breaking", .glo "law"] : List He.Fa) ++ ([.glo "Memory", .cls "Memory", .noat "Memory" "kept", .meth "Memory" "words", .mkr "Memory"] : List He.Fa)
abbrev RR : PySem.W.OpenRow := PySem.W.OpenLaw.row PySem.Challenge.rw_scrubround_k04_whole_lost_as_soon_as_can
abbrev hk : PySem.W.Hook := He.hookD 5 hfa hfn
def hob (s : PySem.W.SharedT) : He.AlD := He.obsDG 5 hfa hfn (HandSHeadRun.getT s)
theorem hob_eq (s : PySem.W.SharedT) : hob s = hk.obs s.abs := He.obsDG_eq (HandSHeadRun.getT_eq s)
def hloose : List PySem.Str := (["ScrubError", "BadMemory", "BadLoad", "BadPlan", "BadStrokes", "MOST_WORDS", "MOST_WIDE", "MOST_GAP", "MOST_LOAD", "MOST_PLAN", "MOST_BEAT", "Memory", "limits", "need_load", "need_plan", "need_strokes", "mended_at", "run", "beats_of", "stretches"] : List PySem.Str) ++ (["breaking", "_law_dice", "_law_next", "_law_like", "_law_memory", "_law_load", "_law_limits", "_law_plan", "_law_mends", "_law_soonest", "_law_fall", "_law_run", "_law_strokes", "_law_is_right"] : List PySem.Str)
theorem hrun (w : World) : HandSHeadRun.RunEq RR (PySem.W.view RR.prog [38]) hk hob 6000 hloose w := by
  intro os
  kernel_rfl
theorem hfacts {P : Program} {w : World} {K : PySem.W.Frag} {mg : Str → Option Value} {h : Heap} {f : Addr} (X : K.In h) (G : h.Ns mainGlobals mg) (hfa0 : mg ("law" : Str) = some (.ref f)) (c : He.SaysD hfa hfn K) :
    ∃ fd : FuncData, (∀ (s : Shared) (v : Value), BindsTo s fd ⟨[v], []⟩ [("_law_script", v)]) ∧ ∀ base : Heap, K.In base → base.Ns mainGlobals mg → FnOk P w K mg base CX0 6 f fd ["_law_script"] (spLaw K) := by
  obtain ⟨fd_Memory___init__, Fd_Memory___init__⟩ := c.def_ 0 (d := d_Memory___init__) rfl
  have F_Memory___init__ := fun_of (st := sMemory___init__) Fd_Memory___init__
  obtain ⟨fd_Memory_words, Fd_Memory_words⟩ := c.def_ 1 (d := d_Memory_words) rfl
  have F_Memory_words := fun_of (st := sMemory_words) Fd_Memory_words
  obtain ⟨fd__law_dice, Fd__law_dice⟩ := c.def_ 2 (d := d__law_dice) rfl
  have F__law_dice := fun_of (st := s_law_dice) Fd__law_dice
  obtain ⟨fd__law_next, Fd__law_next⟩ := c.def_ 3 (d := d__law_next) rfl
  have F__law_next := fun_of (st := s_law_next) Fd__law_next
  obtain ⟨fd__law_memory, Fd__law_memory⟩ := c.def_ 4 (d := d__law_memory) rfl
  have F__law_memory := fun_of (st := s_law_memory) Fd__law_memory
  obtain ⟨fd__law_load, Fd__law_load⟩ := c.def_ 5 (d := d__law_load) rfl
  have F__law_load := fun_of (st := s_law_load) Fd__law_load
  obtain ⟨fd__law_plan, Fd__law_plan⟩ := c.def_ 6 (d := d__law_plan) rfl
  have F__law_plan := fun_of (st := s_law_plan) Fd__law_plan
  obtain ⟨fd__law_mends, Fd__law_mends⟩ := c.def_ 7 (d := d__law_mends) rfl
  have F__law_mends := fun_of (st := s_law_mends) Fd__law_mends
  obtain ⟨fd__law_soonest, Fd__law_soonest⟩ := c.def_ 8 (d := d__law_soonest) rfl
  have F__law_soonest := fun_of (st := s_law_soonest) Fd__law_soonest
  obtain ⟨fd__law_fall, Fd__law_fall⟩ := c.def_ 9 (d := d__law_fall) rfl
  have F__law_fall := fun_of (st := s_law_fall) Fd__law_fall
  obtain ⟨fd__law_strokes, Fd__law_strokes⟩ := c.def_ 10 (d := d__law_strokes) rfl
  have F__law_strokes := fun_of (st := s_law_strokes) Fd__law_strokes
  obtain ⟨fd__law_like, Fd__law_like⟩ := c.def_ 11 (d := d__law_like) rfl
  have F__law_like := fun_of (st := s_law_like) Fd__law_like
  obtain ⟨fd__law_is_right, Fd__law_is_right⟩ := c.def_ 12 (d := d__law_is_right) rfl
  have F__law_is_right := fun_of (st := s_law_is_right) Fd__law_is_right
  obtain ⟨fd_need_load, Fd_need_load⟩ := c.def_ 13 (d := d_need_load) rfl
  have F_need_load := fun_of (st := sneed_load) Fd_need_load
  obtain ⟨fd_need_plan, Fd_need_plan⟩ := c.def_ 14 (d := d_need_plan) rfl
  have F_need_plan := fun_of (st := sneed_plan) Fd_need_plan
  obtain ⟨fd_need_strokes, Fd_need_strokes⟩ := c.def_ 15 (d := d_need_strokes) rfl
  have F_need_strokes := fun_of (st := sneed_strokes) Fd_need_strokes
  obtain ⟨fd_mended_at, Fd_mended_at⟩ := c.def_ 16 (d := d_mended_at) rfl
  have F_mended_at := fun_of (st := smended_at) Fd_mended_at
  obtain ⟨fd_run, Fd_run⟩ := c.def_ 17 (d := d_run) rfl
  have F_run := fun_of (st := srun) Fd_run
  obtain ⟨fd_limits, Fd_limits⟩ := c.def_ 18 (d := d_limits) rfl
  have F_limits := fun_of (st := slimits) Fd_limits
  obtain ⟨fd_beats_of, Fd_beats_of⟩ := c.def_ 19 (d := d_beats_of) rfl
  have F_beats_of := fun_of (st := sbeats_of) Fd_beats_of
  obtain ⟨fd_stretches, Fd_stretches⟩ := c.def_ 20 (d := d_stretches) rfl
  have F_stretches := fun_of (st := sstretches) Fd_stretches
  obtain ⟨fd_breaking, Fd_breaking⟩ := c.def_ 21 (d := d_breaking) rfl
  have F_breaking := fun_of (st := sbreaking) Fd_breaking
  obtain ⟨fd_law, Fd_law⟩ := c.def_ 22 (d := d_law) rfl
  have F_law := fun_of (st := slaw) Fd_law
  have e := hfa0.symm.trans (He.glo_ok X G (c.fact 39 (f := .glo "law") rfl))
  cases e
  have T : Txt K mg := ⟨He.free_ok X G (c.fact 0 (f := .free "len") rfl), He.free_ok X G (c.fact 1 (f := .free "int") rfl), He.free_ok X G (c.fact 2 (f := .free "range") rfl), He.free_ok X G (c.fact 3 (f := .free "list") rfl), He.free_ok X G (c.fact 4 (f := .free "tuple") rfl), He.free_ok X G (c.fact 5 (f := .free "sorted") rfl), He.free_ok X G (c.fact 6 (f := .free "max") rfl), He.free_ok X G (c.fact 7 (f := .free "min") rfl), He.free_ok X G (c.fact 8 (f := .free "enumerate") rfl), He.free_ok X G (c.fact 9 (f := .free "isinstance") rfl), He.free_ok X G (c.fact 10 (f := .free "str") rfl), He.free_ok X G (c.fact 11 (f := .free "bool") rfl), He.free_ok X G (c.fact 12 (f := .free "dict") rfl), He.int_ok X G (c.fact 13 (f := .int "MOST_WORDS" 4) rfl), He.int_ok X G (c.fact 14 (f := .int "MOST_WIDE" 8) rfl), He.int_ok X G (c.fact 15 (f := .int "MOST_GAP" 9) rfl), He.int_ok X G (c.fact 16 (f := .int "MOST_LOAD" 12) rfl), He.int_ok X G (c.fact 17 (f := .int "MOST_PLAN" 2000) rfl), He.int_ok X G (c.fact 18 (f := .int "MOST_BEAT" 999) rfl)⟩
  have cl := He.cls_ok (c.fact 41 (f := .cls "Memory") rfl)
  have na := He.noat_ok (c.fact 42 (f := .noat "Memory" "kept") rfl)
  have me := He.meth_ok (c.fact 43 (f := .meth "Memory" "words") rfl)
  have mk := He.mkr_ok (c.fact 44 (f := .mkr "Memory") rfl)
  have gM := He.glo_ok X G (c.fact 40 (f := .glo "Memory") rfl)
  have b_Memory___init__ := F_Memory___init__.binds (ps := ["self", "words"]) fun _ _ _ _ _ _ us hl => match us, hl with | [_, _], _ => rfl
  have b_Memory_words := F_Memory_words.binds (ps := ["self"]) fun _ _ _ _ _ _ us hl => match us, hl with | [_], _ => rfl
  have b__law_dice := F__law_dice.binds (ps := ["_law_script"]) fun _ _ _ _ _ _ us hl => match us, hl with | [_], _ => rfl
  have b__law_next := F__law_next.binds (ps := ["_law_dice_here", "_law_many"]) fun _ _ _ _ _ _ us hl => match us, hl with | [_, _], _ => rfl
  have b__law_memory := F__law_memory.binds (ps := ["_law_d", "_law_most"]) fun _ _ _ _ _ _ us hl => match us, hl with | [_, _], _ => rfl
  have b__law_load := F__law_load.binds (ps := ["_law_d", "_law_most"]) fun _ _ _ _ _ _ us hl => match us, hl with | [_, _], _ => rfl
  have b__law_plan := F__law_plan.binds (ps := ["_law_d", "_law_many"]) fun _ _ _ _ _ _ us hl => match us, hl with | [_, _], _ => rfl
  have b__law_mends := F__law_mends.binds (ps := ["_law_load_here", "_law_plan_here", "_law_beats"]) fun _ _ _ _ _ _ us hl => match us, hl with | [_, _, _], _ => rfl
  have b__law_soonest := F__law_soonest.binds (ps := ["_law_words", "_law_load_here", "_law_plan_here", "_law_beats"]) fun _ _ _ _ _ _ us hl => match us, hl with | [_, _, _, _], _ => rfl
  have b__law_fall := F__law_fall.binds (ps := ["_law_words", "_law_strokes_here"]) fun _ _ _ _ _ _ us hl => match us, hl with | [_, _], _ => rfl
  have b__law_strokes := F__law_strokes.binds (ps := ["_law_d", "_law_words", "_law_beats"]) fun _ _ _ _ _ _ us hl => match us, hl with | [_, _, _], _ => rfl
  have b__law_like := F__law_like.binds (ps := ["_law_found", "_law_due"]) fun _ _ _ _ _ _ us hl => match us, hl with | [_, _], _ => rfl
  have b__law_is_right := F__law_is_right.binds (ps := ["_law_words", "_law_found", "_law_due"]) fun _ _ _ _ _ _ us hl => match us, hl with | [_, _, _], _ => rfl
  have b_need_load := F_need_load.binds (ps := ["load"]) fun _ _ _ _ _ _ us hl => match us, hl with | [_], _ => rfl
  have b_need_plan := F_need_plan.binds (ps := ["memory", "plan"]) fun _ _ _ _ _ _ us hl => match us, hl with | [_, _], _ => rfl
  have b_need_strokes := F_need_strokes.binds (ps := ["memory", "strokes"]) fun _ _ _ _ _ _ us hl => match us, hl with | [_, _], _ => rfl
  have b_mended_at := F_mended_at.binds (ps := ["load", "plan", "beats"]) fun _ _ _ _ _ _ us hl => match us, hl with | [_, _, _], _ => rfl
  have b_run := F_run.binds (ps := ["memory", "load", "plan", "strokes", "beats"]) fun _ _ _ _ _ _ us hl => match us, hl with | [_, _, _, _, _], _ => rfl
  have b_limits := F_limits.binds (ps := ["memory"]) fun _ _ _ _ _ _ us hl => match us, hl with | [_], _ => rfl
  have b_beats_of := F_beats_of.binds (ps := ["load", "plan"]) fun _ _ _ _ _ _ us hl => match us, hl with | [_, _], _ => rfl
  have b_stretches := F_stretches.binds (ps := ["memory", "load", "plan"]) fun _ _ _ _ _ _ us hl => match us, hl with | [_, _, _], _ => rfl
  have b_breaking := F_breaking.binds (ps := ["memory", "load", "plan"]) fun _ _ _ _ _ _ us hl => match us, hl with | [_, _, _], _ => rfl
  have b_law := Fd_law.bindsA (ps := ["_law_script"]) fun _ _ _ _ _ _ us hl => match us, hl with | [_], _ => rfl
  refine ⟨fd_law, fun s v => b_law s [v] rfl, fun base _ _ => ?_⟩
  have C_Memory : CalMk P w K mg base "Memory" (He.ga K "Memory") 1 ["self", "words"] (spInit K (He.ga K "Memory")) := ⟨⟨_, _, gM, mk, b_Memory___init__, ok_init T cl na F_Memory___init__⟩⟩
  have C_words : CalMt P w K mg base (He.ga K "Memory") "words" 1 ["self"] (spWords K (He.ga K "Memory")) := ⟨cl, ⟨_, _, me, b_Memory_words, ok_words T cl na F_Memory_words⟩⟩
  have C__law_dice : Cal P w K mg base "_law_dice" 1 ["_law_script"] (spDice K) := Cal.of F__law_dice (He.glo_ok X G (c.fact 19 (f := .glo "_law_dice") rfl)) b__law_dice (ok_dice T  F__law_dice)
  have C__law_next : Cal P w K mg base "_law_next" 1 ["_law_dice_here", "_law_many"] (spNext K) := Cal.of F__law_next (He.glo_ok X G (c.fact 20 (f := .glo "_law_next") rfl)) b__law_next (ok_next T  F__law_next)
  have C__law_memory : Cal P w K mg base "_law_memory" 2 ["_law_d", "_law_most"] (spMemory K) := Cal.of F__law_memory (He.glo_ok X G (c.fact 21 (f := .glo "_law_memory") rfl)) b__law_memory (ok_memory T C__law_next F__law_memory)
  have C__law_load : Cal P w K mg base "_law_load" 2 ["_law_d", "_law_most"] (spLoad K) := Cal.of F__law_load (He.glo_ok X G (c.fact 22 (f := .glo "_law_load") rfl)) b__law_load (ok_load T C__law_next F__law_load)
  have C__law_plan : Cal P w K mg base "_law_plan" 2 ["_law_d", "_law_many"] (spPlan K) := Cal.of F__law_plan (He.glo_ok X G (c.fact 23 (f := .glo "_law_plan") rfl)) b__law_plan (ok_plan T C__law_next F__law_plan)
  have C__law_mends : Cal P w K mg base "_law_mends" 1 ["_law_load_here", "_law_plan_here", "_law_beats"] (spMends K) := Cal.of F__law_mends (He.glo_ok X G (c.fact 24 (f := .glo "_law_mends") rfl)) b__law_mends (ok_mends T  F__law_mends)
  have C__law_soonest : Cal P w K mg base "_law_soonest" 2 ["_law_words", "_law_load_here", "_law_plan_here", "_law_beats"] (spSoonest K) := Cal.of F__law_soonest (He.glo_ok X G (c.fact 25 (f := .glo "_law_soonest") rfl)) b__law_soonest (ok_soonest T C__law_mends F__law_soonest)
  have C__law_fall : Cal P w K mg base "_law_fall" 1 ["_law_words", "_law_strokes_here"] (spFall K) := Cal.of F__law_fall (He.glo_ok X G (c.fact 26 (f := .glo "_law_fall") rfl)) b__law_fall (ok_fall T  F__law_fall)
  have C__law_strokes : Cal P w K mg base "_law_strokes" 2 ["_law_d", "_law_words", "_law_beats"] (spStrokes2 K) := Cal.of F__law_strokes (He.glo_ok X G (c.fact 27 (f := .glo "_law_strokes") rfl)) b__law_strokes (ok_strokes2 T C__law_next F__law_strokes)
  have L0 : Cal P w K mg base "_law_like" 1 ["_law_found", "_law_due"] spNo := Cal.of F__law_like (He.glo_ok X G (c.fact 28 (f := .glo "_law_like") rfl)) b__law_like (like_no F__law_like)
  have L1 : Cal P w K mg base "_law_like" 2 ["_law_found", "_law_due"] (spLike 0 K) := Cal.of F__law_like (He.glo_ok X G (c.fact 28 (f := .glo "_law_like") rfl)) b__law_like (ok_like 0 (fun _ h => by cases h) T L0 F__law_like)
  have L2 : Cal P w K mg base "_law_like" 3 ["_law_found", "_law_due"] (spLike 1 K) := Cal.of F__law_like (He.glo_ok X G (c.fact 28 (f := .glo "_law_like") rfl)) b__law_like (ok_like 1 (fun _ h => by cases h; rfl) T L1 F__law_like)
  have C__law_like : Cal P w K mg base "_law_like" 4 ["_law_found", "_law_due"] (spLike 2 K) := Cal.of F__law_like (He.glo_ok X G (c.fact 28 (f := .glo "_law_like") rfl)) b__law_like (ok_like 2 (fun _ h => by cases h; rfl) T L2 F__law_like)
  have C__law_is_right : Cal P w K mg base "_law_is_right" 5 ["_law_words", "_law_found", "_law_due"] (spIsRight K) := Cal.of F__law_is_right (He.glo_ok X G (c.fact 29 (f := .glo "_law_is_right") rfl)) b__law_is_right (ok_is_right T C__law_like C__law_fall F__law_is_right)
  have C_need_load : Cal P w K mg base "need_load" 1 ["load"] (spNeedLoad K) := Cal.of F_need_load (He.glo_ok X G (c.fact 30 (f := .glo "need_load") rfl)) b_need_load (ok_need_load T  F_need_load)
  have C_need_plan : Cal P w K mg base "need_plan" 2 ["memory", "plan"] (spNeedPlan K (He.ga K "Memory")) := Cal.of F_need_plan (He.glo_ok X G (c.fact 31 (f := .glo "need_plan") rfl)) b_need_plan (ok_need_plan T C_words F_need_plan)
  have C_need_strokes : Cal P w K mg base "need_strokes" 2 ["memory", "strokes"] (spNeedStrokes K (He.ga K "Memory")) := Cal.of F_need_strokes (He.glo_ok X G (c.fact 32 (f := .glo "need_strokes") rfl)) b_need_strokes (ok_need_strokes T C_words F_need_strokes)
  have C_mended_at : Cal P w K mg base "mended_at" 1 ["load", "plan", "beats"] (spMended K) := Cal.of F_mended_at (He.glo_ok X G (c.fact 33 (f := .glo "mended_at") rfl)) b_mended_at (ok_mended T  F_mended_at)
  have C_run : Cal P w K mg base "run" 3 ["memory", "load", "plan", "strokes", "beats"] (spRun K (He.ga K "Memory")) := Cal.of F_run (He.glo_ok X G (c.fact 34 (f := .glo "run") rfl)) b_run (ok_run T C_words C_need_load C_need_plan C_need_strokes C_mended_at F_run)
  have C_limits : Cal P w K mg base "limits" 2 ["memory"] (spLimits K (He.ga K "Memory")) := Cal.of F_limits (He.glo_ok X G (c.fact 35 (f := .glo "limits") rfl)) b_limits (ok_limits T C_words F_limits)
  have C_beats_of : Cal P w K mg base "beats_of" 1 ["load", "plan"] (spBeats K) := Cal.of F_beats_of (He.glo_ok X G (c.fact 36 (f := .glo "beats_of") rfl)) b_beats_of (ok_beats_of T  F_beats_of)
  have C_stretches : Cal P w K mg base "stretches" 2 ["memory", "load", "plan"] (spStretches K (He.ga K "Memory")) := Cal.of F_stretches (He.glo_ok X G (c.fact 37 (f := .glo "stretches") rfl)) b_stretches (ok_stretches T C_words C_mended_at C_beats_of F_stretches)
  have C_breaking : Cal P w K mg base "breaking" 3 ["memory", "load", "plan"] (spBreaking K (He.ga K "Memory")) := Cal.of F_breaking (He.glo_ok X G (c.fact 38 (f := .glo "breaking") rfl)) b_breaking (ok_breaking T C_words C_need_load C_need_plan C_stretches C_limits F_breaking)
  exact ok_law T C__law_dice C__law_memory C__law_load C__law_plan C__law_soonest C__law_strokes C__law_is_right C_Memory C_breaking C_run F_law
end Z
open PySem PySem.W PySem.Calls PyProof.Rows
set_option maxRecDepth 100000 in
set_option maxHeartbeats 0 in
theorem PySem.Challenge.cw_scrubround_k04_whole_lost_as_soon_as_can_holds : PySem.Challenge.rw_scrubround_k04_whole_lost_as_soon_as_can.Holds := by
  w_on; o_law
  refine HandSHeadRun.head_any (r := OpenLaw.row PySem.Challenge.rw_scrubround_k04_whole_lost_as_soon_as_can) (q := view (OpenLaw.row PySem.Challenge.rw_scrubround_k04_whole_lost_as_soon_as_can).prog [38]) (H := Z.hk) (ob := Z.hob) (M := 6000) (loose := Z.hloose) (d := HandSHeadRun.topDef (OpenLaw.row PySem.Challenge.rw_scrubround_k04_whole_lost_as_soon_as_can).prog 38) (kwd := []) Z.hob_eq
    (by kernel_rfl) (fun s => by kernel_rfl) Z.hrun (by kernel_rfl) (by kernel_rfl) (by kernel_rfl) (by rfl) (by first | assumption | decide +kernel) (by decide +kernel) ⟨rfl, rfl, rfl, rfl, rfl, by decide +kernel⟩ ?hw ?hc
  case hw => w_witness2
  case hc =>
    refine L2.walk_ofE (l := PySem.Challenge.rw_scrubround_k04_whole_lost_as_soon_as_can) (n := 63) (k := 6) (x := "_law_script") (CX := L2.CX0) rfl (by decide) (by kernel_rfl) ⟨rfl, by decide, by decide⟩ ?F (fun _ _ _ _ z => z)
    intro w mg fa h Y G hmg0
    obtain ⟨K, KX, c⟩ := Y
    have hmg : mg ("law" : PySem.Str) = some (.ref fa) := by
      have e : (HandSHeadRun.topDef (OpenLaw.row PySem.Challenge.rw_scrubround_k04_whole_lost_as_soon_as_can).prog 38).name = ("law" : PySem.Str) := by kernel_rfl
      rw [← e]
      exact hmg0
    obtain ⟨fd, hb, hF⟩ := Z.hfacts (P := (PySem.Challenge.rw_scrubround_k04_whole_lost_as_soon_as_can).prog) (w := w) KX G hmg c
    exact ⟨K, fd, Z.spLaw K, KX, hb, fun H a ns hl _ hS => ⟨a, ns, rfl, hS, hl, fun _ => rfl⟩, hF⟩
