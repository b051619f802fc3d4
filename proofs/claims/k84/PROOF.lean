import PyProof.Rows.All
import Wide.All
import OpenK.AllK
import Wide.FinOn
import HandS.ForMost
import HandS.Evl
import HandS.IsInst
import HandS.DictComp
import HandS.Zip
import HandS.Conv
import HandS.Style
import HandS.Defaults
import HandS.Codes
import HandS.Walk
import KE.KStateDown
import HandS.WordsExc
import HandS.Head0
import HandS.Head1
import HandS.Head2
import HandS.HeadEnd
import HandS.HeadHook1
import HandS.HeadHook2
import KE.SortData
import KE.DataMinMax
import KE.KDictSum
import PyProof.ListStr
import PyProof.TupleOfStr
import KE.GoesEnum
import KE.KDictZip
import HandS.Replace
import HandS.TryOnly
import PyProof.IsRules
import PySem.Challenge.RW_foldedwords_k84_rings_and_leading
set_option Elab.async false
set_option linter.all false
set_option maxRecDepth 100000
set_option maxHeartbeats 2000000
/-! FwA: Hoare rules on the syntax, over worlds (a frozen part G of the abstract heap H). -/
namespace FW
open PySem PySem.Spec PyProof.Rows L2

abbrev Ex := Evl.Ex
theorem ex_of {H : Hp} {a : Addr} {o u : HO} (h : H a = some o) (h2 : H a = some u) : o = u := by
  rw [h] at h2; exact Option.some.inj h2

/-- from (G, H) on to (G', H'): all stays, what was not frozen and stood is not frozen later -/
structure Gr (G H G' H' : Hp) : Prop where
  g : Ex G G'
  h : Ex H H'
  f : ∀ a, G a = none → H a ≠ none → G' a = none
theorem Gr.refl (G H : Hp) : Gr G H G H := ⟨Evl.Ex.refl _, Evl.Ex.refl _, fun _ h _ => h⟩
theorem Ex.ne {H H' : Hp} (e : Ex H H') {a : Addr} (h : H a ≠ none) : H' a ≠ none := by
  cases q : H a with
  | none => exact absurd q h
  | some o => rw [e a o q]; intro z; cases z
theorem Gr.trans {G H G1 H1 G2 H2 : Hp} (a : Gr G H G1 H1) (b : Gr G1 H1 G2 H2) : Gr G H G2 H2 :=
  ⟨a.g.trans b.g, a.h.trans b.h, fun x h n => b.f x (a.f x h n) (Ex.ne a.h n)⟩

/-- what may change within expressions (Z), and what holds of it -/
structure Vol where
  Z : Addr → Prop
  J : Hp → Hp → Prop
  stay : ∀ G H G' H', Ex G H → Ex G' H' → Gr G H G' H' → J G H → J G' H'
  away : ∀ G H p o, ¬ Z p → G p = none → J G H → J G (upd H p o)
  frz : ∀ G H p o, ¬ Z p → H p = some o → J G H → J (upd G p o) H
  al : ∀ G H a, J G H → Z a → H a ≠ none
/-- nothing -/
def V0 : Vol := ⟨fun _ => False, fun _ _ => True, fun _ _ _ _ _ _ _ _ => trivial, fun _ _ _ _ _ _ _ => trivial, fun _ _ _ _ _ _ _ => trivial, fun _ _ _ _ z => z.elim⟩

structure Wd (V : Vol) where
  G : Hp
  H : Hp
  ex : Ex G H
  j : V.J G H

structure Le {V : Vol} (w w' : Wd V) : Prop where
  g : Ex w.G w'.G
  h : ∀ a o, ¬ V.Z a → w.H a = some o → w'.H a = some o
  n : ∀ a, w.H a ≠ none → w'.H a ≠ none
  f : ∀ a, w.G a = none → w.H a ≠ none → w'.G a = none
theorem Le.refl {V : Vol} (w : Wd V) : Le w w := ⟨Evl.Ex.refl _, fun _ _ _ h => h, fun _ h => h, fun _ h _ => h⟩
theorem Le.trans {V : Vol} {a b c : Wd V} (x : Le a b) (y : Le b c) : Le a c :=
  ⟨x.g.trans y.g, fun p o z h => y.h p o z (x.h p o z h), fun p h => y.n p (x.n p h), fun p h n => y.f p (x.f p h n) (x.n p n)⟩
theorem Gr.le {V : Vol} {w w' : Wd V} (x : Gr w.G w.H w'.G w'.H) : Le w w' := ⟨x.g, fun p o _ h => x.h p o h, fun p n => Ex.ne x.h n, x.f⟩
/-- a world grown -/
def Wd.grow {V : Vol} (w : Wd V) {G' H' : Hp} (e : Ex G' H') (x : Gr w.G w.H G' H') : Wd V := ⟨G', H', e, V.stay _ _ _ _ w.ex e x w.j⟩
/-- a new object, frozen at once -/
theorem gr_new {G H : Hp} (ex : Ex G H) {p : Addr} {o : HO} (h : H p = none) : Gr G H (upd G p o) (upd H p o) ∧ Ex (upd G p o) (upd H p o) := by
  have gp : G p = none := by
    cases q : G p with
    | none => rfl
    | some u => rw [ex p u q] at h; cases h
  refine ⟨⟨Evl.Ex.new gp, Evl.Ex.new h, fun a ha hn => ?_⟩, fun a u e => ?_⟩
  · by_cases hb : a = p
    · subst hb; exact absurd h hn
    · rw [upd_ne hb]; exact ha
  · by_cases hb : a = p
    · subst hb; rw [upd_same] at e ⊢; exact e
    · rw [upd_ne hb] at e ⊢; exact ex a u e
/-- a new object, not frozen -/
theorem gr_newH {G H : Hp} (ex : Ex G H) {p : Addr} {o : HO} (h : H p = none) : Gr G H G (upd H p o) ∧ Ex G (upd H p o) ∧ G p = none := by
  have gp : G p = none := by
    cases q : G p with
    | none => rfl
    | some u => rw [ex p u q] at h; cases h
  exact ⟨⟨Evl.Ex.refl _, Evl.Ex.new h, fun a ha hn => ha⟩, Evl.Ex.mut ex gp, gp⟩

end FW
set_option Elab.async false
set_option linter.all false
set_option maxRecDepth 100000
set_option maxHeartbeats 2000000
/-! FwB: predicates, judgements, the rules for names, constants, calls, statements. -/
namespace FW
open PySem PySem.Spec PyProof.Rows L2
abbrev Vv := L2.V
abbrev Sg := L2.St
/-! ### predicates of a value and the frozen heap -/
abbrev GP := Vv → Hp → Prop
class MonoG (P : GP) : Prop where
  mono : ∀ v G G', Ex G G' → P v G → P v G'
def Is (x : Vv) : GP := fun v _ => v = x
instance {x : Vv} : MonoG (Is x) := ⟨fun _ _ _ _ h => h⟩
mutual
theorem dp_ex {K : PySem.W.Frag} {H H' : Hp} (e : Ex H H') : ∀ {v : Vv} {d : PyData}, Dp K H v d → Dp K H' v d
  | _, _, .non => .non
  | _, _, .bl b => .bl b
  | _, _, .int i => .int i
  | _, _, .str x => .str x
  | _, _, .lst h a => .lst (Evl.ex_l e h) (dpa_ex e a)
  | _, _, .tup h a => .tup (Evl.ex_t e h) (dpa_ex e a)
theorem dpa_ex {K : PySem.W.Frag} {H H' : Hp} (e : Ex H H') : ∀ {v : List Vv} {d : List PyData}, DpAll K H v d → DpAll K H' v d
  | _, _, .nil => .nil
  | _, _, .cons h a => .cons (dp_ex e h) (dpa_ex e a)
end
/-- data -/
def Da (K : PySem.W.Frag) (d : PyData) : GP := fun v G => Dp K G v d
instance {K : PySem.W.Frag} {d : PyData} : MonoG (Da K d) := ⟨fun _ _ _ e h => dp_ex e h⟩
/-- a text by its codes -/
def S (l : List Nat) : Str := ⟨l.toArray⟩
theorem S_len (l : List Nat) : (S l).length = l.length := List.size_toArray
theorem S_app (a b : List Nat) : S a ++ S b = S (a ++ b) := by
  show Str.append (S a) (S b) = _
  unfold Str.append S
  simp
theorem S_inj {a b : List Nat} (h : S a = S b) : a = b := by
  have h1 : a.toArray = b.toArray := congrArg Str.cps h
  simpa using congrArg Array.toList h1
theorem S_eq (a b : List Nat) : (decide (L2.V.str (S a) = L2.V.str (S b))) = decide (a = b) := by
  by_cases e : a = b
  · subst e; simp
  · rw [decide_eq_false e, decide_eq_false]
    intro h
    exact e (S_inj (L2.V.str.inj h))
abbrev T (l : List Nat) : GP := Is (.str (S l))
abbrev I (i : Int) : GP := Is (.int i)
abbrev Bo (b : Bool) : GP := Is (.bl b)
abbrev No : GP := Is .non
def Args : List GP → List Vv → Hp → Prop
  | [], [], _ => True
  | P :: Ps, v :: vs, G => P v G ∧ Args Ps vs G
  | _, _, _ => False
class MonoA (Ps : List GP) : Prop where
  mono : ∀ vs G G', Ex G G' → Args Ps vs G → Args Ps vs G'
instance : MonoA [] := ⟨fun vs _ _ _ h => by cases vs <;> exact h⟩
instance {P : GP} {Ps : List GP} [m : MonoG P] [n : MonoA Ps] : MonoA (P :: Ps) := ⟨fun vs G G' e h => by
  cases vs with
  | nil => exact h
  | cons v vs => exact ⟨m.mono v G G' e h.1, n.mono vs G G' e h.2⟩⟩
theorem args_len : ∀ {Ps : List GP} {vs : List Vv} {G : Hp}, Args Ps vs G → vs.length = Ps.length
  | [], [], _, _ => rfl
  | _ :: _, _ :: _, _, h => congrArg Nat.succ (args_len h.2)
  | [], _ :: _, _, h => h.elim
  | _ :: _, [], _, h => h.elim

/-! ### readings at worlds -/
section
variable {U : Vol}
def Ev (te : TE) (σ : Sg) (w : Wd U) (P : GP) : Prop := ∀ w1, Le w w1 → ∀ Q : VK, (∀ v (w2 : Wd U), Le w1 w2 → P v w2.G → Q v w2.H) → te σ w1.H Q
/-- with a predicate of the world -/
def EvW (te : TE) (σ : Sg) (w : Wd U) (P : Vv → Wd U → Prop) : Prop := ∀ w1, Le w w1 → ∀ Q : VK, (∀ v (w2 : Wd U), Le w1 w2 → P v w2 → Q v w2.H) → te σ w1.H Q
def EvA (ta : TA) (σ : Sg) (w : Wd U) (Ps : List GP) : Prop := ∀ w1, Le w w1 → ∀ Q : List Vv → Hp → Prop, (∀ vs (w2 : Wd U), Le w1 w2 → Args Ps vs w2.G → Q vs w2.H) → ta σ w1.H Q
def EvT (tt : TT) (σ : Sg) (w : Wd U) (b : Bool) : Prop := ∀ w1, Le w w1 → ∀ Q : Bool → Hp → Prop, (∀ w2 : Wd U, Le w1 w2 → Q b w2.H) → tt σ w1.H Q
end
/-! ### the weakest readings of the syntax -/
def eE (X : Cx) (e : Expr) : TE := fun σ H Q => ∀ pins s, Inv X pins σ H s → wpAny (model X.prog X.w) X.A (eval e X.env) (EP X pins σ Q) X.xe s
def eT (X : Cx) (e : Expr) : TT := fun σ H Q => ∀ pins s, Inv X pins σ H s → wpAny (model X.prog X.w) X.A (isTrue e X.env (eval e X.env)) (TP X pins σ Q) X.xe s
def eW (X : Cx) (e : Expr) : TT := fun σ H Q => ∀ whole pins s, Inv X pins σ H s → wpAny (model X.prog X.w) X.A (isTrue e X.env whole) (TP X pins σ Q) X.xe s
def eA (X : Cx) (es : List Expr) : TA := fun σ H Q => ∀ pos pins s, Inv X pins σ H s → wpAny (model X.prog X.w) X.A (spliced (backTo pos (starEach es X.env))) (AP X pins σ Q) X.xe s
def eS (X : Cx) (sts : List Stmt) : TS := fun D σ H => ∀ pins s, Inv X pins σ H s → wpAny (model X.prog X.w) X.A (execs sts X.env) (SP X pins D) X.xe s
section
variable {X : Cx} {e : Expr} {es : List Expr} {sts : List Stmt}
theorem pe_can : PE X e (eE X e) := ⟨fun pins s _ _ _ I h => h pins s I⟩
theorem pt_can : PT X e (eT X e) := ⟨fun pins s _ _ _ I h => h pins s I⟩
theorem pw_can : PW X e (eW X e) := ⟨fun wh pins s _ _ _ I h => h wh pins s I⟩
theorem pa_can : PA X es (eA X es) := ⟨fun pos pins s _ _ _ I h => h pos pins s I⟩
theorem pss_can : PSs X sts (eS X sts) := ⟨fun pins s _ _ _ I h => h pins s I⟩
theorem e_of {t : TE} (h : PE X e t) {σ : Sg} {H : Hp} {Q : VK} (q : t σ H Q) : eE X e σ H Q := fun pins s I => h.run pins s σ H Q I q
theorem t_of {t : TT} (h : PT X e t) {σ : Sg} {H : Hp} {Q : Bool → Hp → Prop} (q : t σ H Q) : eT X e σ H Q := fun pins s I => h.run pins s σ H Q I q
theorem w_of {t : TT} (h : PW X e t) {σ : Sg} {H : Hp} {Q : Bool → Hp → Prop} (q : t σ H Q) : eW X e σ H Q := fun wh pins s I => h.run wh pins s σ H Q I q
theorem a_of {t : TA} (h : PA X es t) {σ : Sg} {H : Hp} {Q : List Vv → Hp → Prop} (q : t σ H Q) : eA X es σ H Q := fun pos pins s I => h.run pos pins s σ H Q I q
theorem s_of {t : TS} (h : PSs X sts t) {D : Ends} {σ : Sg} {H : Hp} (q : t D σ H) : eS X sts D σ H := fun pins s I => h.run pins s σ H D I q
end

/-! ### judgements -/
section
variable {U : Vol}
abbrev CE (X : Cx) (e : Expr) (σ : Sg) (w : Wd U) (P : GP) : Prop := Ev (eE X e) σ w P
abbrev CW (X : Cx) (e : Expr) (σ : Sg) (w : Wd U) (P : Vv → Wd U → Prop) : Prop := EvW (eE X e) σ w P
abbrev CT (X : Cx) (e : Expr) (σ : Sg) (w : Wd U) (b : Bool) : Prop := EvT (eT X e) σ w b
abbrev CTw (X : Cx) (e : Expr) (σ : Sg) (w : Wd U) (b : Bool) : Prop := EvT (eW X e) σ w b
abbrev CA (X : Cx) (es : List Expr) (σ : Sg) (w : Wd U) (Ps : List GP) : Prop := EvA (eA X es) σ w Ps
/-- a list operand: it stands in the heap, its items are data -/
def Sq (K : PySem.W.Frag) (ds : List PyData) : Vv → Wd U → Prop := fun v w => ∃ a vs, v = .ref a ∧ (∀ w', Le w w' → SqL K w'.H a vs) ∧ DpAll K w.G vs ds
abbrev CQ (X : Cx) (e : Expr) (σ : Sg) (w : Wd U) (ds : List PyData) : Prop := CW X e σ w (Sq X.K ds)
structure En (U : Vol) where
  nx : Sg → Wd U → Prop
  rt : Vv → Wd U → Prop
  bk : Sg → Wd U → Prop := fun _ _ => False
  ct : Sg → Wd U → Prop := fun _ _ => False
def En.raw (D : En U) : Ends := ⟨fun σ H => ∃ w : Wd U, w.H = H ∧ D.nx σ w, fun v H => ∃ w : Wd U, w.H = H ∧ D.rt v w, fun σ H => ∃ w : Wd U, w.H = H ∧ D.bk σ w, fun σ H => ∃ w : Wd U, w.H = H ∧ D.ct σ w⟩
def Go (X : Cx) (sts : List Stmt) (σ : Sg) (w : Wd U) (D : En U) : Prop := eS X sts D.raw σ w.H
section
variable {X : Cx} {e a b : Expr} {es : List Expr} {rest : List Stmt} {σ : Sg} {w w' : Wd U} {P P' : GP} {Ps : List GP} {D : En U} {pos : Pos}
theorem CE.mono (h : CE X e σ w P) (l : Le w w') : CE X e σ w' P := fun w1 l1 Q q => h w1 (l.trans l1) Q q
theorem CT.mono {t : Bool} (h : CT X e σ w t) (l : Le w w') : CT X e σ w' t := fun w1 l1 Q q => h w1 (l.trans l1) Q q
theorem CW.mono {R : Vv → Wd U → Prop} (h : CW X e σ w R) (l : Le w w') : CW X e σ w' R := fun w1 l1 Q q => h w1 (l.trans l1) Q q
theorem CE.imp (h : CE X e σ w P) (f : ∀ v G, P v G → P' v G) : CE X e σ w P' := fun w1 l1 Q q => h w1 l1 Q fun v w2 l2 p => q v w2 l2 (f _ _ p)
theorem ce_lift {t : TE} (h : PE X e t) (k : Ev t σ w P) : CE X e σ w P := fun w1 l Q q => e_of h (k w1 l Q q)
theorem cw_lift {t : TE} {R : Vv → Wd U → Prop} (h : PE X e t) (k : EvW t σ w R) : CW X e σ w R := fun w1 l Q q => e_of h (k w1 l Q q)
theorem ct_lift {t : TT} {c : Bool} (h : PT X e t) (k : EvT t σ w c) : CT X e σ w c := fun w1 l Q q => t_of h (k w1 l Q q)
theorem ctw_lift {t : TT} {c : Bool} (h : PW X e t) (k : EvT t σ w c) : CTw X e σ w c := fun w1 l Q q => w_of h (k w1 l Q q)
theorem CE.is {x : Vv} (h : CE X e σ w P) (f : ∀ v G, P v G → v = x) : CE X e σ w (Is x) := h.imp f
/-- its value by another name -/
theorem CE.cast {x y : Vv} (h : CE X e σ w (Is x)) (f : x = y) : CE X e σ w (Is y) := f ▸ h
/-- a data value -/
theorem CE.da {d : PyData} {x : Vv} (h : CE X e σ w (Is x)) (f : ∀ G, Dp X.K G x d) : CE X e σ w (Da X.K d) := h.imp fun v G p => by
  have p : v = x := p
  subst p; exact f G
theorem CE.daT {l : List Nat} (h : CE X e σ w (T l)) : CE X e σ w (Da X.K (.str (S l))) := h.da fun _ => .str _
theorem CE.daI {i : Int} (h : CE X e σ w (I i)) : CE X e σ w (Da X.K (.int i)) := h.da fun _ => .int _
theorem CE.daN (h : CE X e σ w No) : CE X e σ w (Da X.K .none) := h.da fun _ => .non
/-- one expression, then what hangs on its value -/
theorem ev_then {t : TE} {w1 : Wd U} {Q : VK} {P : GP} (h : Ev t σ w P) (l : Le w w1) (k : ∀ v w2, Le w1 w2 → P v w2.G → Q v w2.H) : t σ w1.H Q := h w1 l Q k
/-! names, constants -/
theorem ce_var (i : Nat) {x : Str} {v : Vv} (hσ : σ[i]? = some (some v)) (hp : P v w.G) [m : MonoG P] (hN : X.N[i]? = some x := by rfl) (hv : Vis X.env.scope x := by first | exact Or.inl rfl | exact Or.inr (Or.inl rfl) | exact Or.inr (Or.inr rfl)) (hd : (x == ("__debug__" : Str)) = false := by decide)
    (hcd : (x == ("__classdict__" : Str)) = false := by decide) : CE X (.Name x pos) σ w P :=
  ce_lift (pe_var hN hv hd hcd) fun w1 l Q q => ⟨v, hσ, q v w1 (Le.refl _) (m.mono _ _ _ l.g hp)⟩
/-- .. of a known value -/
theorem cv (i : Nat) {x : Str} {v : Vv} (hσ : σ[i]? = some (some v) := by rfl) (hN : X.N[i]? = some x := by rfl) (hv : Vis X.env.scope x := by first | exact Or.inl rfl | exact Or.inr (Or.inl rfl) | exact Or.inr (Or.inr rfl)) (hd : (x == ("__debug__" : Str)) = false := by decide)
    (hcd : (x == ("__classdict__" : Str)) = false := by decide) : CE X (.Name x pos) σ w (Is v) := ce_var i hσ rfl hN hv hd hcd
theorem cw_var (i : Nat) {x : Str} {v : Vv} {R : Vv → Wd U → Prop} (hσ : σ[i]? = some (some v)) (hp : ∀ w', Le w w' → R v w') (hN : X.N[i]? = some x := by rfl) (hv : Vis X.env.scope x := by first | exact Or.inl rfl | exact Or.inr (Or.inl rfl) | exact Or.inr (Or.inr rfl)) (hd : (x == ("__debug__" : Str)) = false := by decide)
    (hcd : (x == ("__classdict__" : Str)) = false := by decide) : CW X (.Name x pos) σ w R :=
  cw_lift (pe_var hN hv hd hcd) fun w1 l Q q => ⟨v, hσ, q v w1 (Le.refl _) (hp _ l)⟩
theorem ce_int {i : Int} {j} : CE X (.Constant (.int i) j pos) σ w (I i) := ce_lift pe_int fun w1 _ _ q => q _ w1 (Le.refl _) rfl
theorem ce_bl {i : Bool} {j} : CE X (.Constant (.bool i) j pos) σ w (Bo i) := ce_lift pe_bl fun w1 _ _ q => q _ w1 (Le.refl _) rfl
theorem ce_non {j} : CE X (.Constant .none j pos) σ w No := ce_lift pe_non fun w1 _ _ q => q _ w1 (Le.refl _) rfl
theorem ce_str {x : Str} {j} (l : List Nat) (h : x = S l := by decide +kernel) : CE X (.Constant (.str x) j pos) σ w (T l) := ce_lift pe_str fun w1 _ _ q => q _ w1 (Le.refl _) (by rw [h]; rfl)
theorem ce_glob {x : Str} {v : Vv} {u : Value} (hg : Gl X x) (hm : X.mg x = some u) (r : RelV v u) (hd : (x == ("__debug__" : Str)) = false := by decide) : CE X (.Name x pos) σ w (Is v) := ce_lift (pe_glob hg hm r hd) fun w1 _ _ q => q _ w1 (Le.refl _) rfl
/-! arguments -/
theorem ca_nil : CA X [] σ w [] := fun w1 _ Q q => a_of pa_nil (q [] w1 (Le.refl _) trivial)
theorem ca_cons [m : MonoG P] (h : CE X e σ w P) (hr : CA X es σ w Ps) (hs : starEach (e :: es) X.env = (false, eval e X.env) :: starEach es X.env := by rfl) : CA X (e :: es) σ w (P :: Ps) := fun w1 l Q q =>
  a_of (pa_cons pe_can pa_can hs) (h w1 l _ fun v w2 l2 p => hr w2 (l.trans l2) _ fun vs w3 l3 ps => q (v :: vs) w3 (l2.trans l3) ⟨m.mono _ _ _ l3.g p, ps⟩)
/-! operators -/
theorem ce_op {op : Operator} {r : R2} {A B : GP} [m : MonoG A] (ho : OpR X (binaryOp op) r) (ha : CE X a σ w A) (hb : CE X b σ w B)
    (h : ∀ x y (w1 : Wd U) Q, Le w w1 → A x w1.G → B y w1.G → (∀ v w2, Le w1 w2 → P v w2.G → Q v w2.H) → r x y w1.H Q) : CE X (.BinOp a op b pos) σ w P :=
  ce_lift (pe_op ho pe_can pe_can) fun w1 l Q q => ha w1 l _ fun x w2 l2 px => hb w2 (l.trans l2) _ fun y w3 l3 py => h x y w3 Q ((l.trans l2).trans l3) (m.mono _ _ _ l3.g px) py fun v w4 l4 p => q v w4 ((l2.trans l3).trans l4) p
theorem ce_cmp {op : CmpOp} {r : R2} {A B : GP} [m : MonoG A] (ho : OpR X (compareOp op) r) (hm : behindInMarks op b = false) (ha : CE X a σ w A) (hb : CE X b σ w B)
    (h : ∀ x y (w1 : Wd U) Q, Le w w1 → A x w1.G → B y w1.G → (∀ v w2, Le w1 w2 → P v w2.G → Q v w2.H) → r x y w1.H Q) : CE X (.Compare a [op] [b] pos) σ w P :=
  ce_lift (pe_cmpR ho pe_can pe_can hm) fun w1 l Q q => ha w1 l _ fun x w2 l2 px => hb w2 (l.trans l2) _ fun y w3 l3 py => h x y w3 Q ((l.trans l2).trans l3) (m.mono _ _ _ l3.g px) py fun v w4 l4 p => q v w4 ((l2.trans l3).trans l4) p
theorem ct_cmp {op : CmpOp} {r : R2} {A B : GP} {t : Bool} [m : MonoG A] (ho : OpR X (compareOp op) r) (hm : behindInMarks op b = false) (ha : CE X a σ w A) (hb : CE X b σ w B)
    (h : ∀ x y (w1 : Wd U) Q, Le w w1 → A x w1.G → B y w1.G → (∀ v w2, Le w1 w2 → v = .bl t → Q v w2.H) → r x y w1.H Q) : CT X (.Compare a [op] [b] pos) σ w t :=
  ct_lift (pt_cmpR ho pe_can pe_can hm) fun w1 l Q q => ha w1 l _ fun x w2 l2 px => hb w2 (l.trans l2) _ fun y w3 l3 py => h x y w3 _ ((l.trans l2).trans l3) (m.mono _ _ _ l3.g px) py fun v w4 l4 p => ⟨t, p, q w4 ((l2.trans l3).trans l4)⟩
theorem ce_add {i j : Int} (ha : CE X a σ w (I i)) (hb : CE X b σ w (I j)) : CE X (.BinOp a .Add b pos) σ w (I (i + j)) := ce_op op_add ha hb fun x y w1 Q _ hx hy q => ⟨i, j, hx, hy, q _ w1 (Le.refl _) rfl⟩
theorem ce_sub {i j : Int} (ha : CE X a σ w (I i)) (hb : CE X b σ w (I j)) : CE X (.BinOp a .Sub b pos) σ w (I (i - j)) := ce_op op_sub ha hb fun x y w1 Q _ hx hy q => ⟨i, j, hx, hy, q _ w1 (Le.refl _) rfl⟩
theorem ce_mul {i j : Int} (ha : CE X a σ w (I i)) (hb : CE X b σ w (I j)) (h : CMul i j) : CE X (.BinOp a .Mult b pos) σ w (I (i * j)) := ce_op op_mul ha hb fun x y w1 Q _ hx hy q => ⟨i, j, hx, hy, h, q _ w1 (Le.refl _) rfl⟩
theorem ce_mod {i j : Int} (ha : CE X a σ w (I i)) (hb : CE X b σ w (I j)) (h : 0 < j) : CE X (.BinOp a .Mod b pos) σ w (I (i % j)) := ce_op op_mod ha hb fun x y w1 Q _ hx hy q => ⟨i, j, hx, hy, h, q _ w1 (Le.refl _) rfl⟩
theorem ce_fdiv {i j : Int} (ha : CE X a σ w (I i)) (hb : CE X b σ w (I j)) (h : CDiv i j) : CE X (.BinOp a .FloorDiv b pos) σ w (I (i / j)) := ce_op op_fdiv ha hb fun x y w1 Q _ hx hy q => ⟨i, j, hx, hy, h, q _ w1 (Le.refl _) rfl⟩
theorem ce_pow {i j : Int} (ha : CE X a σ w (I i)) (hb : CE X b σ w (I j)) (h : CPow i j) : CE X (.BinOp a .Pow b pos) σ w (I (i ^ j.toNat)) := ce_op op_pow ha hb fun x y w1 Q _ hx hy q => ⟨i, j, hx, hy, h, q _ w1 (Le.refl _) rfl⟩
theorem ce_addT {x y : List Nat} (ha : CE X a σ w (T x)) (hb : CE X b σ w (T y)) (h : x.length + y.length ≤ 1000000) : CE X (.BinOp a .Add b pos) σ w (T (x ++ y)) := ce_op op_add_str ha hb fun u v w1 Q _ hx hy q =>
  ⟨S x, S y, hx, hy, by rw [S_len, S_len]; exact Nat.le_trans h (by decide), by rw [S_app]; exact q _ w1 (Le.refl _) rfl⟩
/-! comparisons, as tests (ct_) and values (ce_) -/
theorem ct_I {op : CmpOp} {g : Int → Int → Bool} {i j : Int} (ho : OpR X (compareOp op) (rI0 fun i j => .bl (g i j))) (hm : behindInMarks op b = false) (ha : CE X a σ w (I i)) (hb : CE X b σ w (I j)) : CT X (.Compare a [op] [b] pos) σ w (g i j) :=
  ct_cmp ho hm ha hb fun x y w1 Q _ hx hy q => ⟨i, j, hx, hy, q _ w1 (Le.refl _) rfl⟩
theorem ct_lt {i j : Int} (ha : CE X a σ w (I i)) (hb : CE X b σ w (I j)) : CT X (.Compare a [.Lt] [b] pos) σ w (decide (i < j)) := ct_I op_lt (nomark _) ha hb
theorem ct_le {i j : Int} (ha : CE X a σ w (I i)) (hb : CE X b σ w (I j)) : CT X (.Compare a [.LtE] [b] pos) σ w (decide (i ≤ j)) := ct_I op_le (nomark _) ha hb
theorem ct_gt {i j : Int} (ha : CE X a σ w (I i)) (hb : CE X b σ w (I j)) : CT X (.Compare a [.Gt] [b] pos) σ w (decide (j < i)) := ct_I op_gt (nomark _) ha hb
theorem ct_ge {i j : Int} (ha : CE X a σ w (I i)) (hb : CE X b σ w (I j)) : CT X (.Compare a [.GtE] [b] pos) σ w (decide (j ≤ i)) := ct_I op_ge (nomark _) ha hb
theorem ct_eq {x y : Vv} (ha : CE X a σ w (Is x)) (hb : CE X b σ w (Is y)) (h : scal x y = true := by rfl) : CT X (.Compare a [.Eq] [b] pos) σ w (decide (x = y)) := ct_cmp op_eq (nomark _) ha hb fun u v w1 Q _ hx hy q => by
  have hx : u = x := hx
  have hy : v = y := hy
  subst hx hy; exact ⟨h, q _ w1 (Le.refl _) rfl⟩
theorem ct_ne {x y : Vv} (ha : CE X a σ w (Is x)) (hb : CE X b σ w (Is y)) (h : scal x y = true := by rfl) : CT X (.Compare a [.NotEq] [b] pos) σ w (!decide (x = y)) := ct_cmp op_ne (nomark _) ha hb fun u v w1 Q _ hx hy q => by
  have hx : u = x := hx
  have hy : v = y := hy
  subst hx hy; exact ⟨h, q _ w1 (Le.refl _) rfl⟩
theorem ce_eq {x y : Vv} (ha : CE X a σ w (Is x)) (hb : CE X b σ w (Is y)) (h : scal x y = true := by rfl) : CE X (.Compare a [.Eq] [b] pos) σ w (Bo (decide (x = y))) := ce_cmp op_eq (nomark _) ha hb fun u v w1 Q _ hx hy q => by
  have hx : u = x := hx
  have hy : v = y := hy
  subst hx hy; exact ⟨h, q _ w1 (Le.refl _) rfl⟩
theorem ce_ne {x y : Vv} (ha : CE X a σ w (Is x)) (hb : CE X b σ w (Is y)) (h : scal x y = true := by rfl) : CE X (.Compare a [.NotEq] [b] pos) σ w (Bo (!decide (x = y))) := ce_cmp op_ne (nomark _) ha hb fun u v w1 Q _ hx hy q => by
  have hx : u = x := hx
  have hy : v = y := hy
  subst hx hy; exact ⟨h, q _ w1 (Le.refl _) rfl⟩
theorem ct_eqT {x y : List Nat} (ha : CE X a σ w (T x)) (hb : CE X b σ w (T y)) : CT X (.Compare a [.Eq] [b] pos) σ w (decide (x = y)) := by
  have h := ct_eq (pos := pos) ha hb
  rw [S_eq] at h; exact h
theorem ce_eqT {x y : List Nat} (ha : CE X a σ w (T x)) (hb : CE X b σ w (T y)) : CE X (.Compare a [.Eq] [b] pos) σ w (Bo (decide (x = y))) := by
  have h := ce_eq (pos := pos) ha hb
  rw [S_eq] at h; exact h
theorem ct_neT {x y : List Nat} (ha : CE X a σ w (T x)) (hb : CE X b σ w (T y)) : CT X (.Compare a [.NotEq] [b] pos) σ w (!decide (x = y)) := by
  have h := ct_ne (pos := pos) ha hb
  rw [S_eq] at h; exact h
theorem ct_eqI {x y : Int} (ha : CE X a σ w (I x)) (hb : CE X b σ w (I y)) : CT X (.Compare a [.Eq] [b] pos) σ w (decide (x = y)) := by
  have h := ct_eq (pos := pos) ha hb
  have e : (decide (L2.V.int x = L2.V.int y)) = decide (x = y) := by
    by_cases e : x = y
    · subst e; simp
    · rw [decide_eq_false e, decide_eq_false (fun h => e (L2.V.int.inj h))]
  rw [e] at h; exact h
theorem ct_neI {x y : Int} (ha : CE X a σ w (I x)) (hb : CE X b σ w (I y)) : CT X (.Compare a [.NotEq] [b] pos) σ w (!decide (x = y)) := by
  have h := ct_ne (pos := pos) ha hb
  have e : (decide (L2.V.int x = L2.V.int y)) = decide (x = y) := by
    by_cases e : x = y
    · subst e; simp
    · rw [decide_eq_false e, decide_eq_false (fun h => e (L2.V.int.inj h))]
  rw [e] at h; exact h
theorem ce_isN {x : Vv} (ha : CE X a σ w (Is x)) {j p} : CE X (.Compare a [.Is] [.Constant .none j p] pos) σ w (Bo (decide (x = .non))) := ce_cmp op_isN (nomark _) ha ce_non fun u v w1 Q _ hx hy q => by
  have hx : u = x := hx
  subst hx; exact ⟨hy, q _ w1 (Le.refl _) rfl⟩
theorem ct_isN {x : Vv} (ha : CE X a σ w (Is x)) {j p} : CT X (.Compare a [.Is] [.Constant .none j p] pos) σ w (decide (x = .non)) := ct_cmp op_isN (nomark _) ha ce_non fun u v w1 Q _ hx hy q => by
  have hx : u = x := hx
  subst hx; exact ⟨hy, q _ w1 (Le.refl _) rfl⟩
theorem ct_notN {x : Vv} (ha : CE X a σ w (Is x)) {j p} : CT X (.Compare a [.IsNot] [.Constant .none j p] pos) σ w (!decide (x = .non)) := ct_cmp op_notN (nomark _) ha ce_non fun u v w1 Q _ hx hy q => by
  have hx : u = x := hx
  subst hx; exact ⟨hy, q _ w1 (Le.refl _) rfl⟩
theorem ce_notN {x : Vv} (ha : CE X a σ w (Is x)) {j p} : CE X (.Compare a [.IsNot] [.Constant .none j p] pos) σ w (Bo (!decide (x = .non))) := ce_cmp op_notN (nomark _) ha ce_non fun u v w1 Q _ hx hy q => by
  have hx : u = x := hx
  subst hx; exact ⟨hy, q _ w1 (Le.refl _) rfl⟩
/-! tests -/
theorem ct_val {t : Bool} (h : CE X e σ w (Bo t)) (he : ∀ whole, isTrue e X.env whole = (do let v ← whole; standAt e.pos; holding [v] (truthy v)) := by intro _; rfl) : CT X e σ w t :=
  ct_lift (pt_val pe_can he) fun w1 l Q q => h w1 l _ fun v w2 l2 p => ⟨t, p, q w2 l2⟩
theorem ctw_and1 {t : Bool} (h : CT X a σ w t) : CTw X (.BoolOp .And [a] pos) σ w t := ctw_lift (pw_and1 pt_can) h
theorem ctw_or1 {t : Bool} (h : CT X a σ w t) : CTw X (.BoolOp .Or [a] pos) σ w t := ctw_lift (pw_or1 pt_can) h
theorem ctw_and {rs : List Expr} {s t : Bool} (h : CT X a σ w s) (h2 : s = true → CTw X (.BoolOp .And (b :: rs) pos) σ w t) : CTw X (.BoolOp .And (a :: b :: rs) pos) σ w (s && t) :=
  ctw_lift (pw_and pt_can pw_can) fun w1 l Q q => h w1 l _ fun w2 l2 => by
    cases s with
    | true => rw [if_pos rfl]; exact h2 rfl w2 (l.trans l2) _ fun w3 l3 => q w3 (l2.trans l3)
    | false => rw [if_neg Bool.false_ne_true]; exact q w2 l2
theorem ctw_or {rs : List Expr} {s t : Bool} (h : CT X a σ w s) (h2 : s = false → CTw X (.BoolOp .Or (b :: rs) pos) σ w t) : CTw X (.BoolOp .Or (a :: b :: rs) pos) σ w (s || t) :=
  ctw_lift (pw_or pt_can pw_can) fun w1 l Q q => h w1 l _ fun w2 l2 => by
    cases s with
    | false => rw [if_neg Bool.false_ne_true]; exact h2 rfl w2 (l.trans l2) _ fun w3 l3 => q w3 (l2.trans l3)
    | true => rw [if_pos rfl]; exact q w2 l2
theorem ct_w {t : Bool} (h : CTw X e σ w t) : CT X e σ w t := ct_lift pw_can.pt h
theorem ct_and2 {s t : Bool} (h : CT X a σ w s) (h2 : s = true → CT X b σ w t) : CT X (.BoolOp .And [a, b] pos) σ w (s && t) := ct_w (ctw_and h fun q => ctw_and1 (h2 q))
theorem ct_or2 {s t : Bool} (h : CT X a σ w s) (h2 : s = false → CT X b σ w t) : CT X (.BoolOp .Or [a, b] pos) σ w (s || t) := ct_w (ctw_or h fun q => ctw_or1 (h2 q))
theorem ct_not {t : Bool} (h : CT X a σ w t) : CT X (.UnaryOp .Not a pos) σ w (!t) := ct_lift (pt_not pt_can) fun w1 l Q q => h w1 l _ fun w2 l2 => q w2 l2
/-- as values -/
theorem ce_one {op} (h : CE X a σ w P) : CE X (.BoolOp op [a] pos) σ w P := ce_lift (pe_one pe_can) h
theorem ce_and {rs : List Expr} {s t : Bool} (h : CE X a σ w (Bo s)) (h2 : s = true → CE X (.BoolOp .And (b :: rs) pos) σ w (Bo t)) : CE X (.BoolOp .And (a :: b :: rs) pos) σ w (Bo (s && t)) :=
  ce_lift (pe_and pe_can pe_can) fun w1 l Q q => h w1 l _ fun v w2 l2 p => ⟨s, p, by
    cases s with
    | true => rw [if_pos rfl]; exact h2 rfl w2 (l.trans l2) _ fun v w3 l3 p => q v w3 (l2.trans l3) p
    | false => rw [if_neg Bool.false_ne_true]; exact q _ w2 l2 rfl⟩
theorem ce_or {rs : List Expr} {s t : Bool} (h : CE X a σ w (Bo s)) (h2 : s = false → CE X (.BoolOp .Or (b :: rs) pos) σ w (Bo t)) : CE X (.BoolOp .Or (a :: b :: rs) pos) σ w (Bo (s || t)) :=
  ce_lift (pe_or pe_can pe_can) fun w1 l Q q => h w1 l _ fun v w2 l2 p => ⟨s, p, by
    cases s with
    | false => rw [if_neg Bool.false_ne_true]; exact h2 rfl w2 (l.trans l2) _ fun v w3 l3 p => q v w3 (l2.trans l3) p
    | true => rw [if_pos rfl]; exact q _ w2 l2 rfl⟩
theorem ce_and2 {s t : Bool} (h : CE X a σ w (Bo s)) (h2 : s = true → CE X b σ w (Bo t)) : CE X (.BoolOp .And [a, b] pos) σ w (Bo (s && t)) := ce_and h fun q => ce_one (h2 q)
theorem ce_not {t : Bool} (h : CE X a σ w (Bo t)) : CE X (.UnaryOp .Not a pos) σ w (Bo (!t)) := ce_lift (pe_not pe_can) fun w1 l Q q => h w1 l _ fun v w2 l2 p => ⟨t, p, q _ w2 l2 rfl⟩
theorem ce_if {c : Expr} {t : Bool} (hc : CT X c σ w t) (ha : t = true → CE X a σ w P) (hb : t = false → CE X b σ w P) : CE X (.IfExp c a b pos) σ w P :=
  ce_lift (pe_ifExp pt_can pe_can pe_can) fun w1 l Q q => hc w1 l _ fun w2 l2 => by
    cases t with
    | true => rw [if_pos rfl]; exact ha rfl w2 (l.trans l2) _ fun v w3 l3 p => q v w3 (l2.trans l3) p
    | false => rw [if_neg Bool.false_ne_true]; exact hb rfl w2 (l.trans l2) _ fun v w3 l3 p => q v w3 (l2.trans l3) p
/-- the truth of a list operand, of a text -/
theorem ct_truthQ {ds : List PyData} (h : CQ X e σ w ds) (he : ∀ whole, isTrue e X.env whole = (do let v ← whole; standAt e.pos; holding [v] (truthy v)) := by intro _; rfl) : CT X e σ w (!ds.isEmpty) :=
  ct_lift (pt_truth pe_can he) fun w1 l Q q => h w1 l _ fun v w2 l2 ⟨a, vs, ev, hs, hd⟩ => by
    subst ev
    refine ⟨_, .inl ⟨vs, hs _ (Le.refl _), rfl⟩, ?_⟩
    have e : (!vs.isEmpty) = !ds.isEmpty := by cases hd <;> rfl
    rw [e]; exact q w2 l2
theorem ct_truthT {x : List Nat} (h : CE X e σ w (T x)) (hl : x.length ≤ 1000000) (he : ∀ whole, isTrue e X.env whole = (do let v ← whole; standAt e.pos; holding [v] (truthy v)) := by intro _; rfl) : CT X e σ w (!x.isEmpty) :=
  ct_lift (pt_truth pe_can he) fun w1 l Q q => h w1 l _ fun v w2 l2 p => by
    have p : v = _ := p
    subst p
    refine ⟨_, ⟨by rw [S_len]; exact Nat.le_trans hl (by decide), rfl⟩, ?_⟩
    have e : (((S x).length : Int) != 0) = !x.isEmpty := by rw [S_len]; cases x <;> rfl
    rw [e]; exact q w2 l2
/-! ### statements -/
theorem go_nil {sts : List Stmt} (h : D.nx σ w) (e : sts = [] := by rfl) : Go X sts σ w D := by
  subst e; exact s_of pss_nil ⟨w, rfl, h⟩
theorem go_set {i : Nat} {x : Str} {pos' : Pos} (he : CE X e σ w P) (k : ∀ v w', Le w w' → P v w'.G → Go X rest (σ.set i (some v)) w' D) (hN : X.N.Nodup) (hi : X.N[i]? = some x := by rfl) (hx : Loc X.env.scope x := by first | exact Or.inl rfl | exact Or.inr rfl) (hs : swapsWith e (some (.Name x pos')) pos.line X.env = pure false := by rfl)
    (hf : X.fn x = true ∨ X.env.scope.names.lookup x = some .local := by first | exact .inl rfl | exact .inr rfl) : Go X (.Assign [.Name x pos'] e pos :: rest) σ w D :=
  s_of (pss_cons (ps_set hN hi hx pe_can hs hf) pss_can) (he w (Le.refl _) _ fun v w2 l p => k v w2 l p)
theorem go_setW {i : Nat} {x : Str} {pos' : Pos} {R : Vv → Wd U → Prop} (he : CW X e σ w R) (k : ∀ v w', Le w w' → R v w' → Go X rest (σ.set i (some v)) w' D) (hN : X.N.Nodup) (hi : X.N[i]? = some x := by rfl) (hx : Loc X.env.scope x := by first | exact Or.inl rfl | exact Or.inr rfl) (hs : swapsWith e (some (.Name x pos')) pos.line X.env = pure false := by rfl)
    (hf : X.fn x = true ∨ X.env.scope.names.lookup x = some .local := by first | exact .inl rfl | exact .inr rfl) : Go X (.Assign [.Name x pos'] e pos :: rest) σ w D :=
  s_of (pss_cons (ps_set hN hi hx pe_can hs hf) pss_can) (he w (Le.refl _) _ fun v w2 l p => k v w2 l p)
theorem go_ret (he : CE X e σ w P) (k : ∀ v w', Le w w' → P v w'.G → D.rt v w') : Go X (.Return (some e) pos :: rest) σ w D :=
  s_of (pss_cons (ps_ret pe_can) pss_can) (he w (Le.refl _) _ fun v w2 l p => ⟨w2, rfl, k v w2 l p⟩)
theorem go_retN (k : D.rt .non w) : Go X (.Return none pos :: rest) σ w D :=
  s_of (pss_cons ps_retN pss_can) ⟨w, rfl, k⟩
theorem go_drop (he : CE X e σ w P) (k : ∀ w', Le w w' → Go X rest σ w' D) (hs : swapsWith e none pos.line X.env = pure false := by rfl) : Go X (.Expr e pos :: rest) σ w D :=
  s_of (pss_cons (ps_expr pe_can hs) pss_can) (he w (Le.refl _) _ fun v w2 l p => k w2 l)
theorem go_if {c : Expr} {A B : List Stmt} {t : Bool} (hc : CT X c σ w t) (h1 : t = true → ∀ w', Le w w' → Go X A σ w' { D with nx := fun σ' w'' => Go X rest σ' w'' D })
    (h2 : t = false → ∀ w', Le w w' → Go X B σ w' { D with nx := fun σ' w'' => Go X rest σ' w'' D }) : Go X (.If c A B pos :: rest) σ w D := by
  have raw : ∀ {A : List Stmt} {w' : Wd U}, Go X A σ w' { D with nx := fun σ' w'' => Go X rest σ' w'' D } → eS X A { D.raw with nx := eS X rest D.raw } σ w'.H := fun {A w'} g pins s I => by
    refine thn (g pins s I) fun fl s' q => ?_
    cases fl with
    | next =>
      obtain ⟨σ', H', I', w2, e2, q⟩ := q
      subst e2
      exact ⟨σ', _, I', q⟩
    | brk => exact q
    | cont => exact q
    | ret v => exact q
  refine s_of (pss_cons (ps_if pt_can pss_can pss_can) pss_can) (hc w (Le.refl _) _ fun w2 l => ?_)
  cases t with
  | true => rw [if_pos rfl]; exact raw (h1 rfl w2 l)
  | false => rw [if_neg Bool.false_ne_true]; exact raw (h2 rfl w2 l)
/-- the branch taken is known -/
theorem go_ifF {c : Expr} {A B : List Stmt} {t : Bool} (hc : CT X c σ w t) (ht : t = false) (h2 : ∀ w', Le w w' → Go X B σ w' { D with nx := fun σ' w'' => Go X rest σ' w'' D }) : Go X (.If c A B pos :: rest) σ w D :=
  go_if hc (fun h => absurd (ht.symm.trans h) (by decide)) (fun _ => h2)
theorem go_ifT {c : Expr} {A B : List Stmt} {t : Bool} (hc : CT X c σ w t) (ht : t = true) (h2 : ∀ w', Le w w' → Go X A σ w' { D with nx := fun σ' w'' => Go X rest σ' w'' D }) : Go X (.If c A B pos :: rest) σ w D :=
  go_if hc (fun _ => h2) (fun h => absurd (ht.symm.trans h) (by decide))
/-- if c: (leaves), nothing else; c false -/
theorem go_skip {c : Expr} {A : List Stmt} {t : Bool} (hc : CT X c σ w t) (ht : t = false) (k : ∀ w', Le w w' → Go X rest σ w' D) : Go X (.If c A [] pos :: rest) σ w D :=
  go_ifF hc ht fun w' l => go_nil (k w' l)
end
end

/-! ### defs -/
/-- a pure def: A its arguments, pre what is asked of the data, R what it hands back -/
def Pur {α : Type} (A : α → List GP) (pre : α → Prop) (R : α → GP) : Sp := fun vs H Q _ => ∃ (x : α) (G : Hp), Ex G H ∧ Args (A x) vs G ∧ pre x ∧ ∀ v G' H', Ex G' H' → Gr G H G' H' → R x v G' → Q v H'
/-- a def that can be called by its name -/
structure Cal (P : Program) (w : World) (K : PySem.W.Frag) (mg : Str → Option Value) (base : Heap) (f : Str) (n : Nat) (k : Nat) (sp : Sp) : Prop where
  ex : ∃ a fd ps, mg f = some (.ref a) ∧ PySem.W.keepIn K (.ref a) = true ∧ Binds K fd ps [] ∧ ps.length = n ∧ FnOk P w K mg base CX0 k a fd ps sp
theorem ce_call {U : Vol} {X : Cx} {α : Type} {A : α → List GP} {pre : α → Prop} {R : α → GP} {f : Str} {n k j : Nat} {e : Expr} {es : List Expr} {σ : Sg} {w : Wd U} {p pos : Pos} (x : α)
    (C : Cal X.prog X.w X.K X.mg X.base f n k (Pur A pre R)) (hr : Room j X.A) (ha : CA X (e :: es) σ w (A x)) (hp : pre x) (hk : k ≤ j := by decide) (hg : Gl X f := by rfl)
    (hdb : (f == ("__debug__" : Str)) = false := by decide) (he : starEach (e :: es) X.env = (false, eval e X.env) :: starEach es X.env := by rfl) (hpl : (backTo pos (starEach es X.env)).any (·.1) = false := by rfl) :
    CE X (.Call (.Name f p) (e :: es) [] pos) σ w (R x) := by
  obtain ⟨a, fd, ps, hm, hkp, hb, _, F⟩ := C.ex
  refine ce_lift (pe_call (E := E0) F (hr.mono hk) hg hm hkp hb .nil pass0 pa_can hdb he hpl) fun w1 l Q q => ha w1 l _ fun vs w2 l2 hv => ?_
  show Pur A pre R (vs ++ []) w2.H Q E0
  rw [List.append_nil]
  exact ⟨x, w2.G, w2.ex, hv, hp, fun v G' H' e g r => q v (w2.grow e g) (l2.trans (Gr.le g)) r⟩
/-- the world at a pure def's entry -/
def entry (G H : Hp) (e : Ex G H) : Wd V0 := ⟨G, H, e, trivial⟩
abbrev RetD {α : Type} (R : α → GP) (x : α) (w0 : Wd V0) : En V0 := ⟨fun _ w' => Le w0 w' ∧ R x .non w'.G, fun v w' => Le w0 w' ∧ R x v w'.G, fun _ _ => False, fun _ _ => False⟩
theorem cal_of {P : Program} {w : World} {K : PySem.W.Frag} {mg : Str → Option Value} {base : Heap} {x qual : Str} {params : Arguments} {body : List Stmt} {scope : Scope} {f : Addr} {fd : FuncData} {N ps : List Str} {k : Nat} {α : Type} {A : α → List GP} {pre : α → Prop} {R : α → GP}
    (F : FunD K x qual params body scope [] [] f fd) (hm : mg x = some (.ref f)) (S : FnScope N ps scope) (hb : Binds K fd ps []) (hl : ∀ z, (A z).length = ps.length)
    (hbody : ∀ (cdv : Value) (B : Around) (outer : List Env) (s : Shared) (H : Hp) (E : XK) (z : α) (vs : List Vv) (w0 : Wd V0), Room k (B.deeper (envOfC qual scope s.heap.objs.size f cdv)) → Args (A z) vs w0.G → pre z →
      Go (cxOf CX0 P w K mg base N qual scope f cdv B outer s H E).nox body (start N vs) w0 (RetD R z w0)) : Cal P w K mg base x ps.length (k + 1) (Pur A pre R) := by
  refine ⟨f, fd, ps, hm, F.kp, hb, rfl, F.ok S (fun vs H Q E h => ?_) fun cdv B outer s H vs Q E hr h => ?_⟩
  · obtain ⟨z, G, _, hv, _⟩ := h
    rw [args_len hv, hl]
  · obtain ⟨z, G, eG, hv, hp, hq⟩ := h
    have g := hbody cdv B outer s H E z vs (entry G H eG) hr hv hp
    refine ⟨_, PSs.nox (pss_can), ?_⟩
    intro pins s' I
    have key : ∀ {v : Vv} {w' : Wd V0}, Le (entry G H eG) w' → R z v w'.G → Q v w'.H := fun {v w'} l r => hq v w'.G w'.H w'.ex ⟨l.g, fun a o e => l.h a o id e, l.f⟩ r
    refine thn (g pins s' I) fun fl s2 q => ?_
    cases fl with
    | next =>
      obtain ⟨σ', H', I', w2, e2, l, r⟩ := q
      subst e2
      exact ⟨σ', _, I', key l r⟩
    | brk => obtain ⟨_, _, _, w2, _, z⟩ := q; exact z.elim
    | cont => obtain ⟨_, _, _, w2, _, z⟩ := q; exact z.elim
    | ret v =>
      obtain ⟨u, σ', H', I', r0, w2, e2, l, r⟩ := q
      subst e2
      exact ⟨u, σ', _, I', r0, key l r⟩
end FW
set_option Elab.async false
set_option linter.all false
set_option maxRecDepth 100000
set_option maxHeartbeats 2000000
/-! FwC: texts by their codes, lists, tuples, loops, comprehensions. -/
namespace FW
open PySem PySem.Spec PyProof.Rows L2
/-! ### texts of small codes -/
def Asc (l : List Nat) : Prop := ∀ c ∈ l, c < 128
def upc (c : Nat) : Nat := if 97 ≤ c ∧ c ≤ 122 then c - 32 else c
def loc (c : Nat) : Nat := if 65 ≤ c ∧ c ≤ 90 then c + 32 else c
def flip (c : Nat) : Nat := if 65 ≤ c ∧ c ≤ 90 then c + 32 else if 97 ≤ c ∧ c ≤ 122 then c - 32 else c
theorem upc_ok : ∀ c, c < 128 → Unicode.upperOf c = [upc c] := by decide +kernel
theorem loc_ok : ∀ c, c < 128 → Unicode.lowerOf c = [loc c] := by decide +kernel
theorem flip_ok : ∀ c, c < 128 → (if Unicode.isUpper c then Unicode.lowerOf c else if Unicode.isLower c then Unicode.upperOf c else [c]) = [flip c] := by decide +kernel
theorem lowerAt_ok {l : List Nat} (h : Asc l) {i c : Nat} (e : l[i]? = some c) : Unicode.lowerAt (S l).cps i = [loc c] := by
  unfold Unicode.lowerAt S
  have hc : c < 128 := h c (List.mem_of_getElem? e)
  rw [show l.toArray[i]? = some c by simpa using e]
  show (if (c == 0x3A3 && Unicode.endsWord l.toArray i) = true then [0x3C2] else Unicode.lowerOf c) = _
  rw [show (c == 0x3A3) = false from by simp; omega, Bool.false_and, if_neg Bool.false_ne_true]
  exact loc_ok c hc
theorem placed_map {l : List Nat} {f : Nat → Nat → List Nat} {g : Nat → Nat} (h : ∀ i c, l[i]? = some c → f i c = [g c]) : (⟨placed (S l) f⟩ : Str) = S (l.map g) := by
  unfold placed S
  congr 1
  apply Array.toList_inj.mp
  show (Array.flatten _).toList = (l.map g)
  rw [Array.toList_flatten]
  have e : (l.toArray.mapIdx fun i c => (f i c).toArray) = (l.map fun c => #[g c]).toArray := by
    apply Array.ext
    · simp
    · intro i h1 h2
      simp only [Array.getElem_mapIdx, List.getElem_toArray, List.getElem_map]
      have hi : i < l.length := by simpa using h1
      rw [h i l[i] (by simp [hi])]
  rw [e]
  show (List.map Array.toList (List.map (fun c => #[g c]) l)).flatten = l.map g
  clear e h
  induction l with
  | nil => rfl
  | cons a r ih => simp only [List.map_cons, List.flatten_cons, ih]; rfl
theorem upper_S {l : List Nat} (h : Asc l) : Txt.upper (S l) = S (l.map upc) := placed_map fun i c e => upc_ok c (h c (List.mem_of_getElem? e))
theorem lower_S {l : List Nat} (h : Asc l) : Txt.lower (S l) = S (l.map loc) := placed_map fun i c e => lowerAt_ok h e
theorem swap_S {l : List Nat} (h : Asc l) : Txt.swapcase (S l) = S (l.map flip) := placed_map fun i c e => by
  have hc : c < 128 := h c (List.mem_of_getElem? e)
  rw [lowerAt_ok h e, ← loc_ok c hc]
  exact flip_ok c hc
theorem S_cps (l : List Nat) : (S l).cps.toList = l := rfl
theorem line_of {n : Nat} (h : n ≤ 1000000) : n ≤ sizeLine := Nat.le_trans h (by decide)
theorem line_lt {n : Nat} (h : n ≤ 1000000) : n < sizeLine := Nat.lt_of_le_of_lt h (by decide)
theorem cutS_S (l : List Nat) (lo hi : Option Int) : cutS (S l) lo hi = S ((l.drop (HT.sIx l.length 0 lo)).take (HT.sIx l.length l.length hi - HT.sIx l.length 0 lo)) := by
  unfold cutS
  rw [S_len]
  rfl
theorem str_mk_eq {a : Array Nat} {l : List Nat} (h : a.toList = l) : (⟨a⟩ : Str) = S l := by
  unfold S
  rw [← h]
theorem join_S : ∀ xs : List (List Nat), Txt.join (S []) (xs.map S) = S xs.flatten := by
  intro xs
  show Builtin.Str.glued (S []) (xs.map S) = _
  rw [StrLaws.glued_eq_join]
  induction xs with
  | nil => rfl
  | cons x r ih =>
    cases r with
    | nil => show S x = _; simp
    | cons y r =>
      show S x ++ S [] ++ Str.join (S []) ((y :: r).map S) = _
      rw [ih, S_app, S_app]
      simp

/-! ### owned lists -/
section
variable {U : Vol}
structure Own (w : Wd U) (p : Addr) (vs : List Vv) : Prop where
  g : w.G p = none
  z : ¬ U.Z p
  h : w.H p = some (.lst vs)
theorem Own.mono {w w' : Wd U} {p : Addr} {vs : List Vv} (o : Own w p vs) (l : Le w w') : Own w' p vs := ⟨l.f p o.g (by rw [o.h]; intro z; cases z), o.z, l.h p _ o.z o.h⟩
def Wd.put (w : Wd U) (p : Addr) {vs : List Vv} (o : Own w p vs) (u : List Vv) : Wd U := ⟨w.G, upd w.H p (.lst u), Evl.Ex.mut w.ex o.g, U.away _ _ _ _ o.z o.g w.j⟩
theorem Own.put {w : Wd U} {p : Addr} {vs u : List Vv} (o : Own w p vs) : Own (w.put p o u) p u := ⟨o.g, o.z, upd_same⟩
theorem Own.put_ne {w : Wd U} {p q : Addr} {vs u xs : List Vv} (o : Own w p vs) (h : Own w q xs) (n : q ≠ p) : Own (w.put p o u) q xs := ⟨h.g, h.z, by show upd w.H p _ q = _; rw [upd_ne n]; exact h.h⟩
theorem Le.put {w0 w : Wd U} {p : Addr} {vs u : List Vv} (l : Le w0 w) (n : w0.H p = none) (o : Own w p vs) : Le w0 (w.put p o u) where
  g := l.g
  h := fun a x z e => by
    show upd w.H p _ a = _
    rw [upd_ne (ne_of_none e n)]; exact l.h a x z e
  n := fun a e => by
    show upd w.H p _ a ≠ _
    by_cases q : a = p
    · subst q; exact absurd n e
    · rw [upd_ne q]; exact l.n a e
  f := l.f
/-- an owned list is frozen -/
def Wd.ice (w : Wd U) (p : Addr) {vs : List Vv} (o : Own w p vs) : Wd U := ⟨upd w.G p (.lst vs), w.H, fun a x e => by
  by_cases q : a = p
  · subst q; rw [upd_same] at e; rw [← e]; exact o.h
  · rw [upd_ne q] at e; exact w.ex a x e, U.frz _ _ _ _ o.z o.h w.j⟩
theorem Le.ice {w0 w : Wd U} {p : Addr} {vs : List Vv} (l : Le w0 w) (n : w0.H p = none) (o : Own w p vs) : Le w0 (w.ice p o) where
  g := fun a x e => by
    show upd w.G p _ a = _
    by_cases q : a = p
    · subst q; have h := w0.ex a x e; rw [n] at h; cases h
    · rw [upd_ne q]; exact l.g a x e
  h := l.h
  n := l.n
  f := fun a ha hn => by
    show upd w.G p _ a = _
    by_cases q : a = p
    · subst q; exact absurd n hn
    · rw [upd_ne q]; exact l.f a ha hn
theorem ice_ex {w : Wd U} {p : Addr} {vs : List Vv} (o : Own w p vs) : Ex w.G (w.ice p o).G := Evl.Ex.new o.g
theorem ice_da {w : Wd U} {p : Addr} {vs : List Vv} {ds : List PyData} {K : PySem.W.Frag} (o : Own w p vs) (h : DpAll K w.G vs ds) : Dp K (w.ice p o).G (.ref p) (.list ds) :=
  .lst (.inl (.inl upd_same)) (dpa_ex (ice_ex o) h)
theorem Own.ice_ne {w : Wd U} {p q : Addr} {vs xs : List Vv} (o : Own w p vs) (h : Own w q xs) (n : q ≠ p) : Own (w.ice p o) q xs := ⟨by show upd w.G p _ q = none; rw [upd_ne n]; exact h.g, h.z, h.h⟩
theorem fresh_z {w : Wd U} {p : Addr} (h : w.H p = none) : ¬ U.Z p := fun z => U.al _ _ p w.j z h
theorem own_ne {w w' : Wd U} {p q : Addr} {vs : List Vv} (h : Own w p vs) (n : w.H q = none) : p ≠ q := fun e => by
  subst e; rw [h.h] at n; cases n
/-- two owned lists apart: one was there when the other was not -/
theorem Le.new {w0 w : Wd U} {p : Addr} (l : Le w0 w) (h : w.H p = none) : w0.H p = none := by
  cases q : w0.H p with
  | none => rfl
  | some o => exact absurd h (l.n p (by rw [q]; intro z; cases z))
/-- a new list, not frozen -/
def EvN (K : PySem.W.Frag) (te : TE) (σ : Sg) (w : Wd U) (ds : List PyData) : Prop := ∀ w1, Le w w1 → ∀ Q : VK, (∀ p vs (w2 : Wd U), Le w1 w2 → w1.H p = none → Own w2 p vs → DpAll K w2.G vs ds → Q (.ref p) w2.H) → te σ w1.H Q
abbrev CN (X : Cx) (e : Expr) (σ : Sg) (w : Wd U) (ds : List PyData) : Prop := EvN X.K (eE X e) σ w ds
section
variable {X : Cx} {e a b : Expr} {es : List Expr} {rest : List Stmt} {σ : Sg} {w w' : Wd U} {P P' : GP} {Ps : List GP} {D : En U} {pos p : Pos} {ds : List PyData}
theorem cn_lift {t : TE} (h : PE X e t) (k : EvN X.K t σ w ds) : CN X e σ w ds := fun w1 l Q q => e_of h (k w1 l Q q)
theorem CN.mono (h : CN X e σ w ds) (l : Le w w') : CN X e σ w' ds := fun w1 l1 Q q => h w1 (l.trans l1) Q q
theorem cn_ev {t : TE} (k : EvN X.K t σ w ds) : Ev t σ w (Da X.K (.list ds)) := fun w1 l Q q => k w1 l Q fun p vs w2 l2 n o d => q (.ref p) (w2.ice p o) (l2.ice n o) (ice_da o d)
theorem CN.ce (k : CN X e σ w ds) : CE X e σ w (Da X.K (.list ds)) := cn_ev k
/-- a list operand from data, from a new list, from an owned one -/
theorem CE.cq (h : CE X e σ w (Da X.K (.list ds))) : CQ X e σ w ds := fun w1 l Q q => h w1 l _ fun v w2 l2 d => q v w2 l2 (by
  have d : Dp X.K w2.G v (.list ds) := d
  cases d with
  | lst hs ha => exact ⟨_, _, rfl, fun w' l' => Evl.ex_l (l'.g.trans w'.ex) hs, ha⟩)
theorem CN.cq (h : CN X e σ w ds) : CQ X e σ w ds := CE.cq h.ce
theorem cq_own (i : Nat) {x : Str} {q : Addr} {vs : List Vv} (o : Own w q vs) (d : DpAll X.K w.G vs ds) (hσ : σ[i]? = some (some (.ref q)) := by rfl) (hN : X.N[i]? = some x := by rfl) (hv : Vis X.env.scope x := by first | exact Or.inl rfl | exact Or.inr (Or.inl rfl) | exact Or.inr (Or.inr rfl)) (hd : (x == ("__debug__" : Str)) = false := by decide)
    (hcd : (x == ("__classdict__" : Str)) = false := by decide) : CQ X (.Name x pos) σ w ds :=
  cw_var i hσ (fun w' l => ⟨q, vs, rfl, fun w2 l2 => SqL.of ((o.mono (l.trans l2)).h), dpa_ex l.g d⟩) hN hv hd hcd
/-! ### calls of built-ins -/
theorem ce_bi {f : Str} {id : String} {r : List Vv → Hp → VK → Prop} (hc : CallR X (.builtin id) r) (hm : X.mg f = none) (hv : bootBuiltins f = some (.builtin id)) (ha : CA X (e :: es) σ w Ps)
    (h : ∀ vs (w1 : Wd U) Q, Le w w1 → Args Ps vs w1.G → (∀ v w2, Le w1 w2 → P v w2.G → Q v w2.H) → r vs w1.H Q) (hg : Gl X f := by rfl) (hn : f ≠ "__name__" := by decide) (hdb : (f == ("__debug__" : Str)) = false := by decide)
    (he : starEach (e :: es) X.env = (false, eval e X.env) :: starEach es X.env := by rfl) (hpl : (backTo pos (starEach es X.env)).any (·.1) = false := by rfl) : CE X (.Call (.Name f p) (e :: es) [] pos) σ w P :=
  ce_lift (pe_callB hc hg hm hv pa_can hn hdb he hpl) fun w1 l Q q => ha w1 l _ fun vs w2 l2 hv => h vs w2 Q (l.trans l2) hv fun v w3 l3 p => q v w3 (l2.trans l3) p
theorem ce_ty {f : Str} {id : String} {r : List Vv → Hp → VK → Prop} (hc : CallR X (.type id) r) (hm : X.mg f = none) (hv : bootBuiltins f = some (.type id)) (ha : CA X (e :: es) σ w Ps)
    (h : ∀ vs (w1 : Wd U) Q, Le w w1 → Args Ps vs w1.G → (∀ v w2, Le w1 w2 → P v w2.G → Q v w2.H) → r vs w1.H Q) (hg : Gl X f := by rfl) (hn : f ≠ "__name__" := by decide) (hdb : (f == ("__debug__" : Str)) = false := by decide)
    (he : starEach (e :: es) X.env = (false, eval e X.env) :: starEach es X.env := by rfl) (hpl : (backTo pos (starEach es X.env)).any (·.1) = false := by rfl) : CE X (.Call (.Name f p) (e :: es) [] pos) σ w P :=
  ce_lift (pe_callTy hc hg hm hv pa_can hn hdb he hpl) fun w1 l Q q => ha w1 l _ fun vs w2 l2 hv => h vs w2 Q (l.trans l2) hv fun v w3 l3 p => q v w3 (l2.trans l3) p
/-- one argument with a predicate of the world -/
theorem ew_bi {f : Str} {id : String} {r : List Vv → Hp → VK → Prop} {R : Vv → Wd U → Prop} (hc : CallR X (.builtin id) r) (hm : X.mg f = none) (hv : bootBuiltins f = some (.builtin id)) (ha : CW X e σ w R) (hg : Gl X f) (hn : f ≠ "__name__") (hdb : (f == ("__debug__" : Str)) = false)
    (hs : starEach [e] X.env = [(false, eval e X.env)]) : ∀ w1, Le w w1 → ∀ Q : VK, (∀ v (w2 : Wd U), Le w1 w2 → R v w2 → r [v] w2.H Q) → eE X (.Call (.Name f p) [e] [] pos) σ w1.H Q := fun w1 l Q q =>
  e_of (pe_callB hc hg hm hv (pa_cons pe_can pa_nil hs) hn hdb hs rfl) (ha w1 l _ fun v w2 l2 hv => q v w2 l2 hv)
theorem ew_ty {f : Str} {id : String} {r : List Vv → Hp → VK → Prop} {R : Vv → Wd U → Prop} (hc : CallR X (.type id) r) (hm : X.mg f = none) (hv : bootBuiltins f = some (.type id)) (ha : CW X e σ w R) (hg : Gl X f) (hn : f ≠ "__name__") (hdb : (f == ("__debug__" : Str)) = false)
    (hs : starEach [e] X.env = [(false, eval e X.env)]) : ∀ w1, Le w w1 → ∀ Q : VK, (∀ v (w2 : Wd U), Le w1 w2 → R v w2 → r [v] w2.H Q) → eE X (.Call (.Name f p) [e] [] pos) σ w1.H Q := fun w1 l Q q =>
  e_of (pe_callTy hc hg hm hv (pa_cons pe_can pa_nil hs) hn hdb hs rfl) (ha w1 l _ fun v w2 l2 hv => q v w2 l2 hv)
theorem ca1 (h : CE X e σ w P) [MonoG P] (hs : starEach [e] X.env = (false, eval e X.env) :: starEach [] X.env := by rfl) : CA X [e] σ w [P] := ca_cons h ca_nil hs
theorem args1 {v : List Vv} {G : Hp} (h : Args [P] v G) : ∃ x, v = [x] ∧ P x G := by
  cases v with
  | nil => exact h.elim
  | cons x r => cases r with
    | nil => exact ⟨x, rfl, h.1⟩
    | cons _ _ => exact h.2.elim
theorem args2 {v : List Vv} {G : Hp} (h : Args [P, P'] v G) : ∃ x y, v = [x, y] ∧ P x G ∧ P' y G := by
  cases v with
  | nil => exact h.elim
  | cons x r => cases r with
    | nil => exact h.2.elim
    | cons y r => cases r with
      | nil => exact ⟨x, y, rfl, h.1, h.2.1⟩
      | cons _ _ => exact h.2.2.elim
theorem ce_lenT {l : List Nat} (hm : X.mg "len" = none) (h : CE X e σ w (T l)) (hl : l.length ≤ 1000000) (hg : Gl X "len" := by rfl) (hs : starEach [e] X.env = (false, eval e X.env) :: starEach [] X.env := by rfl) : CE X (.Call (.Name "len" p) [e] [] pos) σ w (I l.length) :=
  ce_bi call_len_str hm PySem.boot_len (ca1 h hs) (fun vs w1 Q _ ha q => by
    obtain ⟨x, rfl, hx⟩ := args1 ha
    have hx : x = _ := hx
    subst hx
    exact ⟨S l, rfl, by rw [S_len]; exact line_of hl, by rw [S_len]; exact q _ w1 (Le.refl _) rfl⟩) hg (by decide) (by decide) hs rfl
theorem ce_lenQ (hm : X.mg "len" = none) (h : CQ X e σ w ds) (hg : Gl X "len" := by rfl) (hs : starEach [e] X.env = [(false, eval e X.env)] := by rfl) : CE X (.Call (.Name "len" p) [e] [] pos) σ w (I ds.length) := fun w1 l Q q =>
  ew_bi call_len_seq hm PySem.boot_len h hg (by decide) (by decide) hs w1 l Q fun v w2 l2 ⟨a, vs, ev, hq, hd⟩ => by
    subst ev
    refine ⟨a, vs, rfl, .inl (hq _ (Le.refl _)), ?_⟩
    have e : vs.length = ds.length := dpa_len hd
    rw [e]; exact q _ w2 l2 rfl
where dpa_len : ∀ {K : PySem.W.Frag} {H : Hp} {vs : List Vv} {ds : List PyData}, DpAll K H vs ds → vs.length = ds.length
  | _, _, _, _, .nil => rfl
  | _, _, _, _, .cons _ h => congrArg Nat.succ (dpa_len h)
end
end
end FW
set_option Elab.async false
set_option linter.all false
set_option maxRecDepth 100000
set_option maxHeartbeats 2000000
/-! FwD: methods of texts, indices, slices, displays, append and pop, loops, comprehensions. -/
namespace FW
open PySem PySem.Spec PyProof.Rows L2
theorem mt_swapcase {X : Cx} : MtR X "str.swapcase" (fun x xs H Q => ∃ a, x = .str a ∧ xs = [] ∧ a.length ≤ 5592405 ∧ Q (.str (Txt.swapcase a)) H) :=
  mt0 (C := fun a => a.length ≤ 5592405) (g := fun a => .str (Txt.swapcase a)) fun a _ s _ hc h =>
    PySem.SC.swapcase (PyProof.Rows.fit_swapcase hc) (h _ (s.toks + 1) ⟨_, rfl⟩)
theorem dpa_len {K : PySem.W.Frag} {H : Hp} : ∀ {vs : List Vv} {ds : List PyData}, DpAll K H vs ds → vs.length = ds.length
  | _, _, .nil => rfl
  | _, _, .cons _ h => congrArg Nat.succ (dpa_len h)
theorem dpa_get {K : PySem.W.Frag} {H : Hp} : ∀ {vs : List Vv} {ds : List PyData} {i : Nat} {d : PyData}, DpAll K H vs ds → ds[i]? = some d → ∃ v, vs[i]? = some v ∧ Dp K H v d
  | _, _, _, _, .nil, e => by simp at e
  | _, _, 0, _, .cons h _, e => by simp at e; subst e; exact ⟨_, rfl, h⟩
  | _, _, i + 1, _, .cons _ h, e => by
    obtain ⟨v, h1, h2⟩ := dpa_get (i := i) h (by simpa using e)
    exact ⟨v, by simpa using h1, h2⟩
theorem dpa_app {K : PySem.W.Frag} {H : Hp} : ∀ {vs us : List Vv} {ds es : List PyData}, DpAll K H vs ds → DpAll K H us es → DpAll K H (vs ++ us) (ds ++ es)
  | _, _, _, _, .nil, k => k
  | _, _, _, _, .cons h t, k => .cons h (dpa_app t k)
theorem dpa_get2 {K : PySem.W.Frag} {H : Hp} : ∀ {vs : List Vv} {ds : List PyData} {i : Nat} {v : Vv}, DpAll K H vs ds → vs[i]? = some v → ∃ d, ds[i]? = some d ∧ Dp K H v d
  | _, _, _, _, .nil, e => by simp at e
  | _, _, 0, _, .cons h _, e => by simp at e; subst e; exact ⟨_, rfl, h⟩
  | _, _, i + 1, _, .cons _ h, e => by
    obtain ⟨v, h1, h2⟩ := dpa_get2 (i := i) h (by simpa using e)
    exact ⟨v, by simpa using h1, h2⟩
theorem dpa_take {K : PySem.W.Frag} {H : Hp} : ∀ {vs : List Vv} {ds : List PyData} (n : Nat), DpAll K H vs ds → DpAll K H (vs.take n) (ds.take n)
  | _, _, 0, _ => .nil
  | _, _, _ + 1, .nil => .nil
  | _, _, n + 1, .cons h t => .cons h (dpa_take n t)
theorem dpa_drop {K : PySem.W.Frag} {H : Hp} : ∀ {vs : List Vv} {ds : List PyData} (n : Nat), DpAll K H vs ds → DpAll K H (vs.drop n) (ds.drop n)
  | _, _, 0, h => h
  | _, _, _ + 1, .nil => .nil
  | _, _, n + 1, .cons _ t => dpa_drop n t
theorem dpa_dropLast {K : PySem.W.Frag} {H : Hp} {vs : List Vv} {ds : List PyData} (h : DpAll K H vs ds) : DpAll K H vs.dropLast ds.dropLast := by
  rw [List.dropLast_eq_take, List.dropLast_eq_take, dpa_len h]; exact dpa_take _ h
theorem dpa_rev {K : PySem.W.Frag} {H : Hp} {vs : List Vv} {ds : List PyData} (h : DpAll K H vs ds) : DpAll K H vs.reverse ds.reverse := by
  induction h using DpAll.rec (motive_1 := fun _ _ _ => True) with
  | non | bl | int | str | lst | tup => trivial
  | nil => exact .nil
  | cons h t _ ih => rw [List.reverse_cons, List.reverse_cons]; exact dpa_app ih (.cons h .nil)
theorem dpa_strs {K : PySem.W.Frag} {H : Hp} : ∀ {vs : List Vv} {xs : List (List Nat)}, DpAll K H vs (xs.map fun l => .str (S l)) → vs = (xs.map S).map V.str
  | _, [], .nil => rfl
  | _, _ :: _, .cons (.str _) h => congrArg _ (dpa_strs h)
theorem dpa_bools {K : PySem.W.Frag} {H : Hp} : ∀ {vs : List Vv} {xs : List Bool}, DpAll K H vs (xs.map fun l => .bool l) → vs = xs.map V.bl
  | _, [], .nil => rfl
  | _, _ :: _, .cons (.bl _) h => congrArg _ (dpa_bools h)
theorem dpa_ints {K : PySem.W.Frag} {H : Hp} : ∀ {vs : List Vv} {xs : List Int}, DpAll K H vs (xs.map fun l => .int l) → vs = xs.map V.int
  | _, [], .nil => rfl
  | _, _ :: _, .cons (.int _) h => congrArg _ (dpa_ints h)
theorem strs_dpa {K : PySem.W.Frag} {H : Hp} : ∀ (xs : List (List Nat)), DpAll K H ((xs.map S).map V.str) (xs.map fun l => .str (S l))
  | [] => .nil
  | _ :: r => .cons (.str _) (strs_dpa r)
abbrev strD (l : List Nat) : PyData := .str (S l)
section
variable {U : Vol} {X : Cx} {e a b : Expr} {es : List Expr} {rest : List Stmt} {σ : Sg} {w w' : Wd U} {P P' : GP} {Ps : List GP} {D : En U} {pos p apos : Pos} {ds : List PyData}
/-! ### methods of texts -/
theorem ce_m0 {id : String} {name : Str} {C : Str → Prop} {g : Str → Vv} {x : List Nat} (slot : Slot "str" name id) (ty : typeOf (.builtin id) = pure (.type "method_descriptor")) (rule : MtR X id (fun x xs H Q => ∃ a, x = .str a ∧ xs = [] ∧ C a ∧ Q (g a) H)) (ho : CE X e σ w (T x)) (hC : C (S x))
    (hbase : attributeBase e name X.env (eval e X.env) = eval e X.env) (hline : (apos.endLine == pos.line) = true) : CE X (.Call (.Attribute e name apos) [] [] pos) σ w (Is (g (S x))) :=
  ce_lift (pe_m0 slot ty rule pe_can hbase hline) fun w1 l Q q => ho w1 l _ fun v w2 l2 hv => ⟨⟨S x, hv⟩, S x, hv, rfl, hC, q _ w2 l2 rfl⟩
theorem ce_swapcase {x : List Nat} (ho : CE X e σ w (T x)) (ha : Asc x) (hl : x.length ≤ 1000000) (hbase : attributeBase e "swapcase" X.env (eval e X.env) = eval e X.env := by rfl) (hline : (apos.endLine == pos.line) = true := by rfl) :
    CE X (.Call (.Attribute e "swapcase" apos) [] [] pos) σ w (T (x.map flip)) :=
  (ce_m0 PySem.F.slot_str_swapcase PySem.F.type_str_swapcase mt_swapcase ho (by rw [S_len]; omega) hbase hline).cast (by rw [swap_S ha])
theorem ce_upper {x : List Nat} (ho : CE X e σ w (T x)) (ha : Asc x) (hl : x.length ≤ 1000000) (hbase : attributeBase e "upper" X.env (eval e X.env) = eval e X.env := by rfl) (hline : (apos.endLine == pos.line) = true := by rfl) :
    CE X (.Call (.Attribute e "upper" apos) [] [] pos) σ w (T (x.map upc)) :=
  (ce_m0 PySem.F.slot_str_upper PySem.F.type_str_upper mt_upper ho (by rw [S_len]; omega) hbase hline).cast (by rw [upper_S ha])
theorem ce_lower {x : List Nat} (ho : CE X e σ w (T x)) (ha : Asc x) (hl : x.length ≤ 1000000) (hbase : attributeBase e "lower" X.env (eval e X.env) = eval e X.env := by rfl) (hline : (apos.endLine == pos.line) = true := by rfl) :
    CE X (.Call (.Attribute e "lower" apos) [] [] pos) σ w (T (x.map loc)) :=
  (ce_m0 PySem.F.slot_str_lower PySem.F.type_str_lower mt_lower ho (by rw [S_len]; omega) hbase hline).cast (by rw [lower_S ha])
theorem sum_lens : ∀ xs : List (List Nat), ((xs.map S).map (·.length)).sum = xs.flatten.length
  | [] => rfl
  | x :: r => by simp only [List.map_cons, List.sum_cons, List.flatten_cons, List.length_append, S_len, sum_lens r]
/-- ''.join(a list of texts) -/
theorem ce_joinQ {xs : List (List Nat)} (ho : CE X a σ w (T [])) (h : CQ X e σ w (xs.map strD)) (hl : xs.flatten.length ≤ 1000000) (hs : starEach [e] X.env = [(false, eval e X.env)] := by rfl) (hbase : attributeBase a "join" X.env (eval a X.env) = eval a X.env := by rfl) (hline : (apos.endLine == pos.line) = true := by rfl) :
    CE X (.Call (.Attribute a "join" apos) [e] [] pos) σ w (T xs.flatten) :=
  ce_lift (pe_join pe_can pe_can hs hbase hline) fun w1 l Q q => ho w1 l _ fun v w2 l2 hv => ⟨⟨_, hv⟩, h w2 (l.trans l2) _ fun u w3 l3 ⟨b, vs, ev, hq, hd⟩ => by
    subst ev
    refine ⟨S [], b, xs.map S, hv, rfl, .inl (by rw [← dpa_strs hd]; exact hq _ (Le.refl _)), ?_, ?_⟩
    · rw [sum_lens, S_len]; simp only [List.length_nil, Nat.mul_zero, Nat.add_zero]; omega
    · rw [join_S]; exact q _ w3 (l2.trans l3) rfl⟩
/-! ### indices -/
theorem ce_ixT {x : List Nat} {i : Int} {c : Nat} (ha : CE X a σ w (T x)) (hb : CE X b σ w (I i)) (hl : x.length ≤ 1000000) (hc : atI x i = some c) (hs : PlainIx b := by intro _ _; rfl) : CE X (.Subscript a b pos) σ w (T [c]) :=
  ce_lift (pe_ix ix_str pe_can pe_can hs) fun w1 l Q q => ha w1 l _ fun v w2 l2 hv => hb w2 (l.trans l2) _ fun u w3 l3 hu => ⟨S x, i, c, hv, hu, by rw [S_len]; exact line_of hl, hc, q _ w3 (l2.trans l3) rfl⟩
theorem atI_len {α β : Type} {xs : List α} {ys : List β} {i : Int} {y : β} (h : atI ys i = some y) (e : xs.length = ys.length) : ∃ j : Nat, ys[j]? = some y ∧ ∀ x, xs[j]? = some x → atI xs i = some x := by
  unfold atI at h ⊢
  rw [e]
  cases q : ixN ys.length i with
  | none => rw [q] at h; cases h
  | some j => rw [q] at h; exact ⟨j, h, fun x hx => hx⟩
/-- xs[i], a list operand -/
theorem ce_ixQ {i : Int} {d : PyData} (ha : CQ X a σ w ds) (hb : CE X b σ w (I i)) (hc : atI ds i = some d) (hs : PlainIx b := by intro _ _; rfl) : CE X (.Subscript a b pos) σ w (Da X.K d) :=
  ce_lift (pe_ix ix_list pe_can pe_can hs) fun w1 l Q q => ha w1 l _ fun v w2 l2 ⟨p, vs, ev, hq, hd⟩ => hb w2 (l.trans l2) _ fun u w3 l3 hu => by
    subst ev
    obtain ⟨j, h1, h2⟩ := atI_len (xs := vs) hc (dpa_len hd)
    obtain ⟨x, h3, h4⟩ := dpa_get hd h1
    exact ⟨p, vs, i, x, rfl, hu, hq _ l3, h2 x h3, q _ w3 (l2.trans l3) (dp_ex l3.g h4)⟩
theorem ce_ixTup {i : Int} {d : PyData} (ha : CE X a σ w (Da X.K (.tuple ds))) (hb : CE X b σ w (I i)) (hc : atI ds i = some d) (hs : PlainIx b := by intro _ _; rfl) : CE X (.Subscript a b pos) σ w (Da X.K d) :=
  ce_lift (pe_ix ix_tup pe_can pe_can hs) fun w1 l Q q => ha w1 l _ fun v w2 l2 hv => hb w2 (l.trans l2) _ fun u w3 l3 hu => by
    have hv : Dp X.K w2.G v (.tuple ds) := hv
    cases hv with
    | tup ht hd =>
      obtain ⟨j, h1, h2⟩ := atI_len (xs := _) hc (dpa_len hd)
      obtain ⟨x, h3, h4⟩ := dpa_get hd h1
      exact ⟨_, _, i, x, rfl, hu, Evl.ex_t (l3.g.trans w3.ex) ht, h2 x h3, q _ w3 (l2.trans l3) (dp_ex l3.g h4)⟩
/-- back from data to a value -/
theorem CE.toT {l : List Nat} (h : CE X e σ w (Da X.K (strD l))) : CE X e σ w (T l) := h.imp fun v G d => by
  have d : Dp X.K G v (.str (S l)) := d
  cases d; rfl
theorem CE.toI {i : Int} (h : CE X e σ w (Da X.K (.int i))) : CE X e σ w (I i) := h.imp fun v G d => by
  have d : Dp X.K G v (.int i) := d
  cases d; rfl
theorem CE.toB {i : Bool} (h : CE X e σ w (Da X.K (.bool i))) : CE X e σ w (Bo i) := h.imp fun v G d => by
  have d : Dp X.K G v (.bool i) := d
  cases d; rfl
theorem CE.toN (h : CE X e σ w (Da X.K .none)) : CE X e σ w No := h.imp fun v G d => by
  have d : Dp X.K G v .none := d
  cases d; rfl
/-! ### slices -/
def EvO (X : Cx) (lo : Option Expr) (σ : Sg) (w : Wd U) (o : Option Int) : Prop := match lo, o with
  | none, none => True
  | some e, some i => CE X e σ w (I i)
  | _, _ => False
def eO (X : Cx) (lo : Option Expr) : TO := match lo with
  | none => tNoPart
  | some e => tPart (eE X e)
theorem po_can {lo : Option Expr} : PO X lo (eO X lo) := by
  cases lo with
  | none => exact po_none
  | some e => exact po_some pe_can
theorem eo_run {lo : Option Expr} {o : Option Int} (h : EvO X lo σ w o) {w1 : Wd U} (l : Le w w1) {Q : Option Int → Hp → Prop} (q : ∀ w2, Le w1 w2 → Q o w2.H) : eO X lo σ w1.H Q := by
  cases lo with
  | none => cases o with
    | none => exact q w1 (Le.refl _)
    | some _ => exact h.elim
  | some e => cases o with
    | none => exact h.elim
    | some i => exact h w1 l _ fun v w2 l2 hv => ⟨i, hv, q w2 l2⟩
theorem ce_slT {lo hi : Option Expr} {ol oh : Option Int} {p2 : Pos} {x : List Nat} (ha : CE X a σ w (T x)) (hl : EvO X lo σ w ol) (hh : EvO X hi σ w oh) (hx : x.length ≤ 1000000) :
    CE X (.Subscript a (.Slice lo hi none p2) pos) σ w (T ((x.drop (HT.sIx x.length 0 ol)).take (HT.sIx x.length x.length oh - HT.sIx x.length 0 ol))) :=
  ce_lift (pe_slice sl_str pe_can po_can po_can) fun w1 l Q q => ha w1 l _ fun v w2 l2 hv => eo_run hl (l.trans l2) fun w3 l3 => eo_run hh ((l.trans l2).trans l3) fun w4 l4 =>
    ⟨S x, hv, by rw [S_len]; exact line_of hx, by rw [cutS_S]; exact q _ w4 ((l2.trans l3).trans l4) rfl⟩
/-- x[:k] -/
theorem ce_upto {hi : Expr} {k : Nat} {p2 : Pos} {x : List Nat} (ha : CE X a σ w (T x)) (hh : CE X hi σ w (I k)) (hx : x.length ≤ 1000000) : CE X (.Subscript a (.Slice none (some hi) none p2) pos) σ w (T (x.take k)) := by
  refine (ce_slT (lo := none) (hi := some hi) (ol := none) (oh := some (k : Int)) ha True.intro hh hx).cast ?_
  rw [HT.sIx_none, HT.sIx_nat, List.drop_zero, Nat.sub_zero]
  by_cases h : k ≤ x.length
  · rw [Nat.min_eq_left h]
  · rw [Nat.min_eq_right (by omega), List.take_of_length_le (Nat.le_refl _), List.take_of_length_le (by omega)]
/-- x[k:] -/
theorem ce_from {lo : Expr} {k : Nat} {p2 : Pos} {x : List Nat} (ha : CE X a σ w (T x)) (hh : CE X lo σ w (I k)) (hx : x.length ≤ 1000000) : CE X (.Subscript a (.Slice (some lo) none none p2) pos) σ w (T (x.drop k)) := by
  refine (ce_slT (lo := some lo) (hi := none) (ol := some (k : Int)) (oh := none) ha hh True.intro hx).cast ?_
  rw [HT.sIx_none, HT.sIx_nat]
  by_cases h : k ≤ x.length
  · rw [Nat.min_eq_left h, List.take_of_length_le (by rw [List.length_drop]; exact Nat.le_refl _)]
  · rw [Nat.min_eq_right (by omega), Nat.sub_self, List.take_zero, List.drop_of_length_le (by omega)]
/-- x[k:m] -/
theorem ce_cut {lo hi : Expr} {k m : Nat} {p2 : Pos} {x : List Nat} (ha : CE X a σ w (T x)) (hh : CE X lo σ w (I k)) (hm : CE X hi σ w (I m)) (hx : x.length ≤ 1000000) (h2 : m ≤ x.length) :
    CE X (.Subscript a (.Slice (some lo) (some hi) none p2) pos) σ w (T ((x.drop k).take (m - k))) := by
  refine (ce_slT (lo := some lo) (hi := some hi) (ol := some (k : Int)) (oh := some (m : Int)) ha hh hm hx).cast ?_
  rw [HT.sIx_nat, HT.sIx_nat, Nat.min_eq_left h2]
  by_cases h : k ≤ x.length
  · rw [Nat.min_eq_left h]
  · rw [Nat.min_eq_right (by omega), List.drop_of_length_le (Nat.le_refl _), List.drop_of_length_le (by omega), List.take_nil, List.take_nil]
/-- x[::-1], a text -/
theorem pe_revT {k : Nat} {p1 p2 p3 : Pos} {te : TE} (he : PE X e te) : PE X (.Subscript e (.Slice none none (some (.UnaryOp .USub (.Constant (.int 1) k p1) p2)) p3) pos)
    (fun σ H Q => te σ H fun x H1 => ∃ z, x = .str z ∧ z.length ≤ sizeLine ∧ Q (.str ⟨z.cps.toList.reverse.toArray⟩) H1) := by
  refine ⟨fun pins s σ H Q I h => ?_⟩
  refine Subscript_ (thn (he.run pins s σ H _ I h) fun v s1 ⟨x, H1, I1, r1, z, ez, hz, q⟩ => ?_)
  subst ez
  obtain ⟨t, rfl⟩ := r1
  have hst : PO X (some (.UnaryOp .USub (.Constant (.int 1) k p1) p2)) (tPart (tUn (rU fun i => .int (-i)) (tC (.int 1)))) := po_some (pe_un un_neg pe_int)
  refine wpAny_Slice (thn (po_none.run pins s1 σ H1 (fun o H2 => o = none ∧ H2 = H1) I1 ⟨rfl, rfl⟩) fun vl s2 ⟨l, H2, I2, pl, el, e2⟩ => ?_)
  subst el e2
  refine thn (po_none.run pins s2 σ H2 (fun o H3 => o = none ∧ H3 = H2) I2 ⟨rfl, rfl⟩) fun vu s3 ⟨u, H3, I3, pu, eu, e3⟩ => ?_
  subst eu e3
  refine thn (hst.run pins s3 σ H3 (fun o H4 => o = some (-1) ∧ H4 = H3) I3 ⟨1, rfl, -1, rfl, rfl, rfl⟩) fun vs s4 ⟨o, H4, I4, ps, eo, e4⟩ => ?_
  subst eo e4
  have I5 : Inv X pins σ H4 { s4 with heap := s4.heap.push { cls := .type "slice", data := .fields #[vl, vu, vs] } } := I4.kept (t' := s4.toks) fun b ob q => Heap.get?_push_of_some _ q
  show wpAny (model X.prog X.w) X.A (subscriptTail e (.Slice none none (some (.UnaryOp .USub (.Constant (.int 1) k p1) p2)) p3) (.str z t) (.ref s4.heap.objs.size)) (EP X pins σ Q) X.xe { s4 with heap := s4.heap.push { cls := .type "slice", data := .fields #[vl, vu, vs] } }
  obtain ⟨pl', rfl, e1⟩ := IsPart.raw pl
  obtain ⟨pu', rfl, e2⟩ := IsPart.raw pu
  obtain ⟨ps', rfl, e3⟩ := IsPart.raw ps
  have n1 : pl' = none := by cases pl' with | none => rfl | some _ => cases e1
  have n2 : pu' = none := by cases pu' with | none => rfl | some _ => cases e2
  subst n1 n2
  obtain ⟨t3, rfl⟩ : ∃ t3, ps' = some (-1, t3) := by
    cases ps' with
    | none => cases e3
    | some q => obtain ⟨a, b⟩ := q; have : a = -1 := Option.some.inj e3; subst this; exact ⟨b, rfl⟩
  refine tail_any (ops := [.str z t, .ref s4.heap.objs.size]) (typeIs_str _ z t) PySem.F.slot_str_getitem.lookup ?_ (by with_unfolding_all rfl)
  refine wpAny_getItem_str_slice (l := none) (u := none) (st := some (-1, t3)) ⟨_, Heap.get?_push_size _ rfl, rfl, rfl⟩ rfl ?_
  unfold sliceMade
  rw [if_neg (by simp)]
  have key : (slicePicked z none none (some (-1, t3))).filterMap (z.cps[·]?) = z.cps.toList.reverse := by
    have e : slicePicked z none none (some (-1, t3)) = (List.range z.cps.size).reverse := by
      rw [← PySem.W.krv_range, ← PySem.W.krv_sliceRange]
      rfl
    rw [e, List.filterMap_reverse, PySem.W.krv_all]
  rw [key]
  refine ⟨?_, ?_⟩
  · show (z.cps.toList.reverse.toArray).size ≤ sizeLine
    rw [List.size_toArray, List.length_reverse]; exact hz
  · exact ⟨.str _, H4, I5.tok _, ⟨_, rfl⟩, q⟩
theorem ce_revT {k : Nat} {p1 p2 p3 : Pos} {x : List Nat} (he : CE X e σ w (T x)) (hl : x.length ≤ 1000000) : CE X (.Subscript e (.Slice none none (some (.UnaryOp .USub (.Constant (.int 1) k p1) p2)) p3) pos) σ w (T x.reverse) :=
  ce_lift (pe_revT pe_can) fun w1 l Q q => he w1 l _ fun v w2 l2 hv => ⟨S x, hv, by rw [S_len]; exact line_of hl, q _ w2 l2 rfl⟩
end
end FW
set_option Elab.async false
set_option linter.all false
set_option maxRecDepth 100000
set_option maxHeartbeats 2000000
/-! FwE: displays, targets, append and pop, loops, comprehensions, isinstance. -/
namespace FW
open PySem PySem.Spec PyProof.Rows L2
def daL (K : PySem.W.Frag) : List PyData → List GP
  | [] => []
  | d :: r => Da K d :: daL K r
theorem args_daL {K : PySem.W.Frag} {G : Hp} : ∀ {ds : List PyData} {vs : List Vv}, Args (daL K ds) vs G → DpAll K G vs ds
  | [], [], _ => .nil
  | _ :: _, _ :: _, h => .cons h.1 (args_daL h.2)
  | [], _ :: _, h => h.elim
  | _ :: _, [], h => h.elim
theorem daL_args {K : PySem.W.Frag} {G : Hp} : ∀ {ds : List PyData} {vs : List Vv}, DpAll K G vs ds → Args (daL K ds) vs G
  | _, _, .nil => trivial
  | _, _, .cons h t => ⟨h, daL_args t⟩
section
variable {U : Vol} {X : Cx} {e a b : Expr} {es : List Expr} {rest body : List Stmt} {σ : Sg} {w w' : Wd U} {P P' : GP} {Ps : List GP} {D : En U} {pos p apos : Pos} {ds : List PyData}
/-! ### displays -/
theorem new_da {w1 : Wd U} {p : Addr} {vs : List Vv} (h : w1.H p = none) : Le w1 (w1.grow (gr_new w1.ex (o := .tup vs) h).2 (gr_new w1.ex (o := .tup vs) h).1) := Gr.le (gr_new w1.ex h).1
theorem ce_tup {k : Nat} (ha : CA X es σ w (daL X.K ds)) (hz : ds.length ≤ 1000000 := by exact Nat.le_of_ble_eq_true rfl) : CE X (.Tuple es k pos) σ w (Da X.K (.tuple ds)) :=
  ce_lift (pe_tup pa_can) fun w1 l Q q => ha w1 l _ fun vs w2 l2 hv => by
    have hd := args_daL hv
    refine ⟨by rw [dpa_len hd]; exact line_of hz, fun p hp => ?_⟩
    refine q _ (w2.grow (gr_new w2.ex (o := .tup vs) hp).2 (gr_new w2.ex (o := .tup vs) hp).1) (l2.trans (new_da hp)) ?_
    exact .tup (.inl (.inl upd_same)) (dpa_ex (gr_new w2.ex (o := .tup vs) hp).1.g hd)
theorem own_new {w1 : Wd U} {p : Addr} {vs : List Vv} (h : w1.H p = none) : Own (w1.grow (gr_newH w1.ex (o := .lst vs) h).2.1 (gr_newH w1.ex (o := .lst vs) h).1) p vs :=
  ⟨(gr_newH w1.ex (o := .lst vs) h).2.2, fresh_z h, upd_same⟩
theorem cn_lst (ha : CA X es σ w (daL X.K ds)) (hz : ds.length ≤ 1000000 := by exact Nat.le_of_ble_eq_true rfl) : CN X (.List es pos) σ w ds :=
  cn_lift (pe_lst pa_can) fun w1 l Q q => ha w1 l _ fun vs w2 l2 hv => by
    have hd := args_daL hv
    refine ⟨by rw [dpa_len hd]; exact line_of hz, fun p hp => ?_⟩
    exact q p vs (w2.grow (gr_newH w2.ex (o := .lst vs) hp).2.1 (gr_newH w2.ex (o := .lst vs) hp).1) (l2.trans (Gr.le (gr_newH w2.ex hp).1)) (l2.new hp) (own_new hp) (dpa_ex (gr_newH w2.ex (o := .lst vs) hp).1.g hd)
/-- a list of list ++ list -/
theorem cn_cat {ds es : List PyData} (ha : CQ X a σ w ds) (hb : CQ X b σ w es) (hz : ds.length + es.length ≤ 1000000)
    (hH : ∀ w1 : Wd U, Le w w1 → ∀ x y vs us, SqL X.K w1.H x vs → SqL X.K w1.H y us → w1.H x = some (.lst vs) ∧ w1.H y = some (.lst us)) : CN X (.BinOp a .Add b pos) σ w (ds ++ es) :=
  cn_lift (pe_op op_cat pe_can pe_can) fun w1 l Q q => ha w1 l _ fun v w2 l2 ⟨x, vs, ex, hx, hd⟩ => hb w2 (l.trans l2) _ fun u w3 l3 ⟨y, us, ey, hy, hu⟩ => by
    subst ex ey
    obtain ⟨h1, h2⟩ := hH w3 ((l.trans l2).trans l3) x y vs us (hx _ l3) (hy _ (Le.refl _))
    refine ⟨x, y, vs, us, rfl, rfl, h1, h2, by rw [dpa_len hd, dpa_len hu]; exact line_of hz, fun p hp => ?_⟩
    exact q p _ (w3.grow (gr_newH w3.ex (o := .lst (vs ++ us)) hp).2.1 (gr_newH w3.ex (o := .lst (vs ++ us)) hp).1) ((l2.trans l3).trans (Gr.le (gr_newH w3.ex hp).1)) ((l2.trans l3).new hp) (own_new hp)
      (dpa_ex (gr_newH w3.ex (o := .lst (vs ++ us)) hp).1.g (dpa_app (dpa_ex l3.g hd) hu))
/-! ### statements: a new list stored, a tuple unpacked, append, pop -/
theorem go_setN {i : Nat} {x : Str} {pos' : Pos} (he : CN X e σ w ds) (k : ∀ p vs w', Le w w' → w.H p = none → Own w' p vs → DpAll X.K w'.G vs ds → Go X rest (σ.set i (some (.ref p))) w' D) (hN : X.N.Nodup) (hi : X.N[i]? = some x := by rfl) (hx : Loc X.env.scope x := by first | exact Or.inl rfl | exact Or.inr rfl) (hs : swapsWith e (some (.Name x pos')) pos.line X.env = pure false := by rfl)
    (hf : X.fn x = true ∨ X.env.scope.names.lookup x = some .local := by first | exact .inl rfl | exact .inr rfl) : Go X (.Assign [.Name x pos'] e pos :: rest) σ w D :=
  s_of (pss_cons (ps_set hN hi hx pe_can hs hf) pss_can) (he w (Le.refl _) _ fun p vs w2 l n o d => k p vs w2 l n o d)
/-- a, b = e, e a pair of data -/
theorem go_unpack2 {i j : Nat} {x y : Str} {px py pt : Pos} {kt : Nat} {d1 d2 : PyData} (hc : X.calm = true) (he : CE X e σ w (Da X.K (.tuple [d1, d2]))) (k : ∀ u v w', Le w w' → Dp X.K w'.G u d1 → Dp X.K w'.G v d2 → Go X rest ((σ.set i (some u)).set j (some v)) w' D)
    (hN : X.N.Nodup) (hi : X.N[i]? = some x := by rfl) (hj : X.N[j]? = some y := by rfl) (hx : Loc X.env.scope x := by first | exact Or.inl rfl | exact Or.inr rfl) (hy : Loc X.env.scope y := by first | exact Or.inl rfl | exact Or.inr rfl)
    (hfx : X.fn x = true ∨ X.env.scope.names.lookup x = some .local := by first | exact .inl rfl | exact .inr rfl) (hfy : X.fn y = true ∨ X.env.scope.names.lookup y = some .local := by first | exact .inl rfl | exact .inr rfl)
    (hs : swapsWithSole [.Tuple [.Name x px, .Name y py] kt pt] e pos.line X.env = pure false := by rfl) (hw : swappedStores [.Tuple [.Name x px, .Name y py] kt pt] e X.env = pure none := by rfl)
    (h1 : (assignEach [.Tuple [.Name x px, .Name y py] kt pt] X.env).map (·.2) = [assign (.Tuple [.Name x px, .Name y py] kt pt) X.env] := by rfl)
    (hn : (assignEach [.Name x px, .Name y py] X.env).length = 2 := by rfl) (hst : (assignEach [.Name x px, .Name y py] X.env).findIdx? (·.1) = none := by rfl)
    (hp1 : (assignEach [.Name x px, .Name y py] X.env).map (·.2) = assign (.Name x px) X.env :: (assignEach [.Name y py] X.env).map (·.2) := by rfl) (hp2 : (assignEach [.Name y py] X.env).map (·.2) = assign (.Name y py) X.env :: (assignEach [] X.env).map (·.2) := by rfl) :
    Go X (.Assign [.Tuple [.Name x px, .Name y py] kt pt] e pos :: rest) σ w D :=
  s_of (pss_cons (ps_asg pe_can (pg_tup hc (pgs_cons (pg_name hN hi hx hfx) (pgs_cons (pg_name hN hj hy hfy) pgs_nil hp2) hp1) hn hst) hs hw h1) pss_can) (he w (Le.refl _) _ fun v w2 l hv => by
    have hv : Dp X.K w2.G v (.tuple [d1, d2]) := hv
    cases hv with
    | tup ht hd =>
      cases hd with
      | cons h1 hd => cases hd with
        | cons h2 hd =>
          cases hd
          exact ⟨_, _, rfl, Evl.ex_t w2.ex ht, rfl, _, _, rfl, _, _, rfl, rfl, k _ _ w2 l h1 h2⟩)
/-- xs.append(e) -/
theorem go_append (i : Nat) {x : Str} {p1 : Pos} {q : Addr} {vs : List Vv} (o : Own w q vs) (he : CE X e σ w P) (hz : vs.length ≤ 1000000) (k : ∀ v w' (l : Le w w') (o' : Own w' q vs), P v w'.G → Go X rest σ (w'.put q o' (vs ++ [v])) D)
    (hσ : σ[i]? = some (some (.ref q)) := by rfl) (hN : X.N[i]? = some x := by rfl) (hv : Vis X.env.scope x := by first | exact Or.inl rfl | exact Or.inr (Or.inl rfl) | exact Or.inr (Or.inr rfl)) (hd : (x == ("__debug__" : Str)) = false := by decide) (hcd : (x == ("__classdict__" : Str)) = false := by decide)
    (hbase : attributeBase (.Name x p1) "append" X.env (eval (.Name x p1) X.env) = eval (.Name x p1) X.env := by rfl)
    (hfew : ((backTo pos (starEach (e :: []) X.env)).all (fun x => !x.1) && (backToKw pos (keywordEach [] X.env)).all (fun x => x.1.isSome)
      && decide ((e :: ([] : List Expr)).length + ([] : List Keyword).length + (if ([] : List Keyword).isEmpty then 0 else 1) < 30)) = true := by rfl)
    (hline : (apos.endLine == pos.line) = true := by rfl) (hs : starEach (e :: []) X.env = (false, eval e X.env) :: starEach [] X.env := by rfl) (hplain : (backTo pos (starEach [] X.env)).any (·.1) = false := by rfl)
    (hsw : swapsWith (.Call (.Attribute (.Name x p1) "append" apos) [e] [] pos) none p.line X.env = pure false := by rfl) :
    Go X (.Expr (.Call (.Attribute (.Name x p1) "append" apos) [e] [] pos) p :: rest) σ w D :=
  s_of (pss_cons (ps_expr (pe_bm PySem.F.plainAttrs_list PySem.F.slot_list_append PySem.F.type_list_append mt_append (pe_var hN hv hd hcd) (pa_cons pe_can pa_nil hs) hbase hfew hline hs hplain) hsw) pss_can)
    ⟨_, hσ, .inl ⟨rfl, vs, SqL.of o.h⟩, he w (Le.refl _) _ fun v w2 l pv => ⟨q, vs, v, rfl, rfl, (o.mono l).h, line_lt hz, k v w2 l (o.mono l) pv⟩⟩
/-- xs.pop() as a statement -/
theorem go_pop (i : Nat) {x : Str} {p1 : Pos} {q : Addr} {vs : List Vv} (o : Own w q vs) (hz : vs ≠ []) (k : Go X rest σ (w.put q o vs.dropLast) D)
    (hσ : σ[i]? = some (some (.ref q)) := by rfl) (hN : X.N[i]? = some x := by rfl) (hv : Vis X.env.scope x := by first | exact Or.inl rfl | exact Or.inr (Or.inl rfl) | exact Or.inr (Or.inr rfl)) (hd : (x == ("__debug__" : Str)) = false := by decide) (hcd : (x == ("__classdict__" : Str)) = false := by decide)
    (hbase : attributeBase (.Name x p1) "pop" X.env (eval (.Name x p1) X.env) = eval (.Name x p1) X.env := by rfl)
    (hline : (apos.endLine == pos.line) = true := by rfl)
    (hsw : swapsWith (.Call (.Attribute (.Name x p1) "pop" apos) [] [] pos) none p.line X.env = pure false := by rfl) :
    Go X (.Expr (.Call (.Attribute (.Name x p1) "pop" apos) [] [] pos) p :: rest) σ w D :=
  s_of (pss_cons (ps_expr (pe_bm0 PySem.F.plainAttrs_list PySem.F.slot_list_pop PySem.F.type_list_pop mt_pop (pe_var hN hv hd hcd) hbase hline) hsw) pss_can)
    ⟨_, hσ, .inl ⟨rfl, vs, SqL.of o.h⟩, q, vs, vs.getLast hz, rfl, rfl, o.h, by rw [← List.getLast?_eq_getElem?, List.getLast?_eq_some_getLast hz], k⟩
/-! ### loops -/
theorem go_of_raw {sts : List Stmt} {D' : Ends} (h : Go X sts σ w D) (hn : ∀ σ' (w' : Wd U), D.nx σ' w' → D'.nx σ' w'.H) (hr : ∀ v (w' : Wd U), D.rt v w' → D'.rt v w'.H) (hb : ∀ σ' (w' : Wd U), D.bk σ' w' → D'.bk σ' w'.H) (hc : ∀ σ' (w' : Wd U), D.ct σ' w' → D'.ct σ' w'.H) : eS X sts D' σ w.H := fun pins s I => by
  refine thn (h pins s I) fun fl s' q => ?_
  cases fl with
  | next => obtain ⟨σ', H', I', w2, e2, q⟩ := q; subst e2; exact ⟨σ', _, I', hn _ _ q⟩
  | brk => obtain ⟨σ', H', I', w2, e2, q⟩ := q; subst e2; exact ⟨σ', _, I', hb _ _ q⟩
  | cont => obtain ⟨σ', H', I', w2, e2, q⟩ := q; subst e2; exact ⟨σ', _, I', hc _ _ q⟩
  | ret v => obtain ⟨v', σ', H', I', r, w2, e2, q⟩ := q; subst e2; exact ⟨v', σ', _, I', r, hr _ _ q⟩
abbrev Turn1 (D : En U) (rest : List Stmt) (X : Cx) (Inv : Nat → Sg → Wd U → Prop) (i : Nat) : En U := ⟨Inv (i + 1), D.rt, fun σ' w' => Go X rest σ' w' D, Inv (i + 1)⟩
theorem for_core {g : TG} {J : It} {n : Nat} {Gc : Hp → Prop} {Y : Nat → Hp → Vv → Hp → Prop} (wk : Walk J n Gc Y) (hgm : ∀ x σ H (Q Q' : Sg → Hp → Prop), (∀ σ H, Q σ H → Q' σ H) → g x σ H Q → g x σ H Q') (Inv : Nat → Sg → Wd U → Prop) (w1 : Wd U) (h0 : Inv 0 σ w1)
    (hG : ∀ i σ' w', i ≤ n → Inv i σ' w' → Gc w'.H)
    (hs : ∀ i x σ' (w' : Wd U) H', i < n → Inv i σ' w' → Y i w'.H x H' → g x σ' H' fun σ2 H2 => ∃ w2 : Wd U, w2.H = H2 ∧ Go X body σ2 w2 (Turn1 D rest X Inv i)) (hd : ∀ σ' w', Inv n σ' w' → Go X rest σ' w' D) :
    ∃ W : Nat → Nat → Sg → Hp → Prop, (∃ m, W 0 m σ w1.H) ∧ ∀ i m σ H, W i m σ H →
      (J.stop i H ∧ ({ D.raw with nx := eS X rest D.raw } : Ends).nx σ H) ∨ (J.go i H ∧ ∃ N : Sg → Hp → Prop, (∀ σ' H', N σ' H' → ∃ m', m' < m ∧ W (i + 1) m' σ' H') ∧ ∀ x H', J.yld i H x H' → g x σ H' fun σ2 H2 => eS X body { ({ D.raw with nx := eS X rest D.raw } : Ends) with nx := N, ct := N, bk := ({ D.raw with nx := eS X rest D.raw } : Ends).nx } σ2 H2) := by
  refine for_it wk (fun i σ' H' => ∃ w' : Wd U, w'.H = H' ∧ Inv i σ' w') ⟨w1, rfl, h0⟩ (fun i σ' H' hi ⟨w', e, p⟩ => ?_) (fun i x σ' H0 H' hi ⟨w', e, p⟩ y => ?_) (fun σ' H' ⟨w', e, p⟩ => ?_)
  · subst e; exact hG i σ' w' hi p
  · subst e
    refine hgm _ _ _ _ _ (fun σ2 H2 ⟨w2, e2, h⟩ => ?_) (hs i x σ' w' H' hi p y)
    subst e2
    exact go_of_raw h (fun σ3 w3 q => ⟨w3, rfl, q⟩) (fun v w3 q => ⟨w3, rfl, q⟩) (fun σ3 w3 q => q) (fun σ3 w3 q => ⟨w3, rfl, q⟩)
  · subst e; exact hd σ' w' p
theorem gn_mono {i : Nat} : ∀ x σ H (Q Q' : Sg → Hp → Prop), (∀ σ H, Q σ H → Q' σ H) → gName i x σ H Q → gName i x σ H Q' := fun _ _ _ _ _ h q => h _ _ q
section
variable {i : Nat} {x : Str} {px : Pos} {it : Expr}
/-- for x in a text -/
theorem go_forT {l : List Nat} (hi : CE X it σ w (T l)) (Inv : Nat → Sg → Wd U → Prop) (h0 : ∀ w', Le w w' → Inv 0 σ w')
    (hs : ∀ k c σ' w', l[k]? = some c → Inv k σ' w' → Go X body (σ'.set i (some (.str (S [c])))) w' (Turn1 D rest X Inv k)) (hd : ∀ σ' w', Inv l.length σ' w' → Go X rest σ' w' D)
    (hp : PassesOwn (model X.prog X.w) X.A X.env X.xe) (hc : X.calm = true) (hN : X.N.Nodup) (hi' : X.N[i]? = some x := by rfl) (hx : Loc X.env.scope x := by first | exact Or.inl rfl | exact Or.inr rfl)
    (hf : X.fn x = true ∨ X.env.scope.names.lookup x = some .local := by first | exact .inl rfl | exact .inr rfl) (hss : ∀ x, foldedSetIterable it X.env x = pure x := by intro _; rfl) : Go X (.For (.Name x px) it body [] pos :: rest) σ w D :=
  s_of (pss_cons (ps_for hp hc (pi_str pe_can) (pg_name (i := i) hN hi' hx hf) pss_can hss) pss_can) (hi w (Le.refl _) _ fun v w2 l2 hv => ⟨S l, hv,
    for_core (walk_str (z := S l)) gn_mono Inv w2 (h0 w2 l2) (fun _ _ _ _ _ => trivial) (fun k y σ' w' H' hk hI ⟨e, c, hc', ey⟩ => by
      subst e ey
      exact ⟨w', rfl, hs k c σ' w' (by simpa [S] using hc') hI⟩) (by
      have e : (S l).cps.size = l.length := List.size_toArray
      rw [e]; exact hd)⟩)
/-- for x in a list, a tuple of data that stands frozen -/
theorem go_forL (hi : CE X it σ w (Da X.K (.list ds)))
    (k : ∀ w1, Le w w1 → ∃ Inv : Nat → Sg → Wd U → Prop, Inv 0 σ w1 ∧ (∀ k σ' w', Inv k σ' w' → Ex w1.G w'.G) ∧
      (∀ k d v σ' w', ds[k]? = some d → Dp X.K w'.G v d → Inv k σ' w' → Go X body (σ'.set i (some v)) w' (Turn1 D rest X Inv k)) ∧ (∀ σ' w', Inv ds.length σ' w' → Go X rest σ' w' D))
    (hp : PassesOwn (model X.prog X.w) X.A X.env X.xe) (hc : X.calm = true) (hN : X.N.Nodup) (hi' : X.N[i]? = some x := by rfl) (hx : Loc X.env.scope x := by first | exact Or.inl rfl | exact Or.inr rfl)
    (hf : X.fn x = true ∨ X.env.scope.names.lookup x = some .local := by first | exact .inl rfl | exact .inr rfl) (hss : ∀ x, foldedSetIterable it X.env x = pure x := by intro _; rfl) : Go X (.For (.Name x px) it body [] pos :: rest) σ w D :=
  s_of (pss_cons (ps_for hp hc (pi_list pe_can) (pg_name (i := i) hN hi' hx hf) pss_can hss) pss_can) (hi w (Le.refl _) _ fun v w2 l2 hv => by
    have hv : Dp X.K w2.G v (.list ds) := hv
    cases hv with
    | lst hq hd =>
      obtain ⟨Inv, h0, hG, hs, hd'⟩ := k w2 l2
      have el := dpa_len hd
      refine ⟨_, rfl, ⟨_, Evl.ex_l w2.ex hq⟩, for_core walk_list gn_mono Inv w2 h0 (fun k σ' w' _ hI => Evl.ex_l ((hG k σ' w' hI).trans w'.ex) hq) (fun k y σ' w' H' hk hI ⟨e, ey⟩ => ?_) (by rw [el]; exact hd')⟩
      subst e
      obtain ⟨d, h1, h2⟩ := dpa_get2 hd ey
      exact ⟨w', rfl, hs k d y σ' w' h1 (dp_ex (hG k σ' w' hI) h2) hI⟩)
theorem go_forTu (hi : CE X it σ w (Da X.K (.tuple ds)))
    (k : ∀ w1, Le w w1 → ∃ Inv : Nat → Sg → Wd U → Prop, Inv 0 σ w1 ∧ (∀ k σ' w', Inv k σ' w' → Ex w1.G w'.G) ∧
      (∀ k d v σ' w', ds[k]? = some d → Dp X.K w'.G v d → Inv k σ' w' → Go X body (σ'.set i (some v)) w' (Turn1 D rest X Inv k)) ∧ (∀ σ' w', Inv ds.length σ' w' → Go X rest σ' w' D))
    (hp : PassesOwn (model X.prog X.w) X.A X.env X.xe) (hc : X.calm = true) (hN : X.N.Nodup) (hi' : X.N[i]? = some x := by rfl) (hx : Loc X.env.scope x := by first | exact Or.inl rfl | exact Or.inr rfl)
    (hf : X.fn x = true ∨ X.env.scope.names.lookup x = some .local := by first | exact .inl rfl | exact .inr rfl) (hss : ∀ x, foldedSetIterable it X.env x = pure x := by intro _; rfl) : Go X (.For (.Name x px) it body [] pos :: rest) σ w D :=
  s_of (pss_cons (ps_for hp hc (pi_tup pe_can) (pg_name (i := i) hN hi' hx hf) pss_can hss) pss_can) (hi w (Le.refl _) _ fun v w2 l2 hv => by
    have hv : Dp X.K w2.G v (.tuple ds) := hv
    cases hv with
    | tup hq hd =>
      obtain ⟨Inv, h0, hG, hs, hd'⟩ := k w2 l2
      have el := dpa_len hd
      refine ⟨_, rfl, ⟨_, Evl.ex_t w2.ex hq⟩, for_core walk_tup gn_mono Inv w2 h0 (fun k σ' w' _ hI => Evl.ex_t ((hG k σ' w' hI).trans w'.ex) hq) (fun k y σ' w' H' hk hI ⟨e, ey⟩ => ?_) (by rw [el]; exact hd')⟩
      subst e
      obtain ⟨d, h1, h2⟩ := dpa_get2 hd ey
      exact ⟨w', rfl, hs k d y σ' w' h1 (dp_ex (hG k σ' w' hI) h2) hI⟩)
/-- for x in range(n), range(a, b) -/
theorem go_forR1 {n : Int} {p2 pos2 : Pos} (hm : X.mg "range" = none) (hi : CE X a σ w (I n)) (hn : n < 2 ^ 62 ∧ -(2 ^ 62) ≤ n) (Inv : Nat → Sg → Wd U → Prop) (h0 : ∀ w', Le w w' → Inv 0 σ w')
    (hs : ∀ (k : Nat) σ' w', (k : Int) < n → Inv k σ' w' → Go X body (σ'.set i (some (.int k))) w' (Turn1 D rest X Inv k)) (hd : ∀ σ' w', Inv n.toNat σ' w' → Go X rest σ' w' D)
    (hp : PassesOwn (model X.prog X.w) X.A X.env X.xe) (hc : X.calm = true) (hN : X.N.Nodup) (hi' : X.N[i]? = some x := by rfl) (hx : Loc X.env.scope x := by first | exact Or.inl rfl | exact Or.inr rfl) (hg : Gl X "range" := by rfl)
    (hf : X.fn x = true ∨ X.env.scope.names.lookup x = some .local := by first | exact .inl rfl | exact .inr rfl) (hst : starEach [a] X.env = [(false, eval a X.env)] := by rfl)
    (hss : ∀ x, foldedSetIterable (.Call (.Name "range" p2) [a] [] pos2) X.env x = pure x := by intro _; rfl) : Go X (.For (.Name x px) (.Call (.Name "range" p2) [a] [] pos2) body [] pos :: rest) σ w D :=
  s_of (pss_cons (ps_for hp hc (pi_range1 hg hm (pa_cons pe_can pa_nil hst) hst) (pg_name (i := i) hN hi' hx hf) pss_can hss) pss_can) (hi w (Le.refl _) _ fun v w2 l2 hv => by
    refine ⟨n, congrArg (fun z => [z]) hv, hn.2, hn.1, for_core (walk_range (lo := 0) (n := n.toNat)) gn_mono Inv w2 (h0 w2 l2) (fun _ _ _ _ _ => trivial) (fun k y σ' w' H' hk hI ⟨e, ey⟩ => ?_) hd⟩
    subst e ey
    refine ⟨w', rfl, ?_⟩
    have e0 : (0 : Int) + (k : Int) = (k : Int) := Int.zero_add _
    show Go X body (σ'.set i (some (.int ((0 : Int) + (k : Int))))) w' _
    rw [e0]
    exact hs k σ' w' (by omega) hI)
theorem go_forR2 {lo n : Int} {p2 pos2 : Pos} (hm : X.mg "range" = none) (hi : CE X a σ w (I lo)) (hi2 : CE X b σ w (I n)) (hl : lo < 2 ^ 62 ∧ -(2 ^ 62) ≤ lo) (hn : n < 2 ^ 62 ∧ -(2 ^ 62) ≤ n) (Inv : Nat → Sg → Wd U → Prop) (h0 : ∀ w', Le w w' → Inv 0 σ w')
    (hs : ∀ (k : Nat) σ' w', lo + (k : Int) < n → Inv k σ' w' → Go X body (σ'.set i (some (.int (lo + k)))) w' (Turn1 D rest X Inv k)) (hd : ∀ σ' w', Inv (n - lo).toNat σ' w' → Go X rest σ' w' D)
    (hp : PassesOwn (model X.prog X.w) X.A X.env X.xe) (hc : X.calm = true) (hN : X.N.Nodup) (hi' : X.N[i]? = some x := by rfl) (hx : Loc X.env.scope x := by first | exact Or.inl rfl | exact Or.inr rfl) (hg : Gl X "range" := by rfl)
    (hf : X.fn x = true ∨ X.env.scope.names.lookup x = some .local := by first | exact .inl rfl | exact .inr rfl) (hst : starEach [a, b] X.env = [(false, eval a X.env), (false, eval b X.env)] := by rfl) (hst2 : starEach [b] X.env = [(false, eval b X.env)] := by rfl)
    (hss : ∀ x, foldedSetIterable (.Call (.Name "range" p2) [a, b] [] pos2) X.env x = pure x := by intro _; rfl) : Go X (.For (.Name x px) (.Call (.Name "range" p2) [a, b] [] pos2) body [] pos :: rest) σ w D :=
  s_of (pss_cons (ps_for hp hc (pi_range2 hg hm (pa_cons pe_can (pa_cons pe_can pa_nil hst2) (by rw [hst, hst2])) hst hst2) (pg_name (i := i) hN hi' hx hf) pss_can hss) pss_can) (hi w (Le.refl _) _ fun v w2 l2 hv => hi2 w2 l2 _ fun u w3 l3 hu => by
    have hv : v = _ := hv
    have hu : u = _ := hu
    subst hv hu
    refine ⟨lo, n, rfl, ⟨hl.2, hl.1, hn.2, hn.1⟩, for_core (walk_range (lo := lo) (n := (n - lo).toNat)) gn_mono Inv w3 (h0 w3 (l2.trans l3)) (fun _ _ _ _ _ => trivial) (fun k y σ' w' H' hk hI ⟨e, ey⟩ => ?_) hd⟩
    subst e ey
    exact ⟨w', rfl, hs k σ' w' (by omega) hI⟩)
end
/-- while -/
theorem go_while {c : Expr} (Inv : Nat → Sg → Wd U → Prop) (m0 : Nat) (h0 : Inv m0 σ w)
    (hs : ∀ m σ' w', Inv m σ' w' → ∃ t, CT X c σ' w' t ∧ (t = true → ∀ w'', Le w' w'' → Go X body σ' w'' ⟨fun σ2 w2 => ∃ m', m' < m ∧ Inv m' σ2 w2, D.rt, fun σ2 w2 => Go X rest σ2 w2 D, fun σ2 w2 => ∃ m', m' < m ∧ Inv m' σ2 w2⟩) ∧ (t = false → ∀ w'', Le w' w'' → Go X rest σ' w'' D))
    (hp : PassesOwn (model X.prog X.w) X.A X.env X.xe) : Go X (.While c body [] pos :: rest) σ w D :=
  s_of (pss_cons (ps_while hp pt_can pss_can) pss_can) ⟨fun m σ' H' => ∃ w' : Wd U, w'.H = H' ∧ Inv m σ' w', ⟨m0, w, rfl, h0⟩, fun m σ' H' ⟨w', e, hI⟩ => by
    subst e
    obtain ⟨t, ht, h1, h2⟩ := hs m σ' w' hI
    refine ht w' (Le.refl _) _ fun w2 l2 => ?_
    cases t with
    | true =>
      rw [if_pos rfl]
      exact ⟨fun σ3 H3 => ∃ w3 : Wd U, w3.H = H3 ∧ ∃ m', m' < m ∧ Inv m' σ3 w3, fun σ3 H3 ⟨w3, e3, m', h3, h4⟩ => ⟨m', h3, w3, e3, h4⟩, go_of_raw (h1 rfl w2 l2) (fun σ3 w3 q => ⟨w3, rfl, q⟩) (fun v w3 q => ⟨w3, rfl, q⟩) (fun σ3 w3 q => q) (fun σ3 w3 q => ⟨w3, rfl, q⟩)⟩
    | false =>
      rw [if_neg Bool.false_ne_true]
      exact h2 rfl w2 l2⟩
/-! ### comprehensions with one name -/
def picks {α : Type} (n : Nat) (f : Nat → Bool) (g : Nat → α) : List α := ((List.range n).filter f).map g
theorem picks_yes {α : Type} {n : Nat} {f : Nat → Bool} {g : Nat → α} (h : f n = true) : picks (n + 1) f g = picks n f g ++ [g n] := by
  unfold picks
  rw [List.range_succ, List.filter_append, List.map_append, List.filter_cons, if_pos h] <;> rfl
theorem picks_no {α : Type} {n : Nat} {f : Nat → Bool} {g : Nat → α} (h : f n = false) : picks (n + 1) f g = picks n f g := by
  unfold picks
  rw [List.range_succ, List.filter_append, List.map_append, List.filter_cons, if_neg (by rw [h]; decide)]
  show _ ++ [] = _
  rw [List.append_nil]
theorem picks_len {α : Type} (n : Nat) (f : Nat → Bool) (g : Nat → α) : (picks n f g).length ≤ n := by
  unfold picks
  rw [List.length_map]
  have h := List.length_filter_le f (List.range n)
  rw [List.length_range] at h
  exact h
/-- a comprehension's loop: the items are told by It, each one tested and turned into data -/
theorem lc_data {K : PySem.W.Frag} {J : It} {n : Nat} {Gc : Hp → Prop} {Y : Nat → Hp → Vv → Hp → Prop} {tt : TT} {te : TE} {j : Nat} {w1 : Wd U} {Da_ : Addr} {Qd : Hp → Prop} (wk : Walk J n Gc Y) (hn : n ≤ 1000000) (nD : w1.H Da_ = none) (It_ : Nat → Vv → Prop)
    (hG : ∀ w' : Wd U, Le w1 w' → Gc w'.H) (hY : ∀ i (w' : Wd U) x H', i < n → Le w1 w' → Y i w'.H x H' → H' = w'.H ∧ It_ i x) (f : Nat → Bool) (g : Nat → PyData)
    (ht : ∀ i x (w' : Wd U), i < n → Le w1 w' → It_ i x → EvT tt ((wipe σ [j]).set j (some x)) w' (f i)) (he : ∀ i x (w' : Wd U), i < n → Le w1 w' → It_ i x → f i = true → Ev te ((wipe σ [j]).set j (some x)) w' (Da K (g i)))
    (hd : ∀ vs (w' : Wd U), Le w1 w' → Own w' Da_ vs → DpAll K w'.G vs (picks n f g) → Qd w'.H) :
    ∃ W : Nat → Nat → Hp → Prop, (∃ m, W 0 m (upd w1.H Da_ (.lst []))) ∧ ∀ i m H, W i m H →
      (J.stop i H ∧ Qd H) ∨ (J.go i H ∧ ∃ Nx : Hp → Prop, (∀ H', Nx H' → ∃ m', m' < m ∧ W (i + 1) m' H') ∧ ∀ x H', J.yld i H x H' → gName j x (wipe σ [j]) H' fun σ2 H2 => wipe σ2 [j] = wipe σ [j] ∧ tt σ2 H2 fun b H3 =>
        if b = true then te σ2 H3 fun y H4 => ∃ acc, H4 Da_ = some (.lst acc) ∧ acc.length < sizeLine ∧ Nx (upd H4 Da_ (.lst (acc ++ [y]))) else Nx H3) := by
  refine lc_it wk (fun i H => ∃ (w' : Wd U) (vs : List Vv), w'.H = H ∧ Le w1 w' ∧ Own w' Da_ vs ∧ DpAll K w'.G vs (picks i f g)) ?_ (fun i H _ ⟨w', vs, e, l, _⟩ => ?_) (fun i x H H' hi ⟨w', vs, e, l, o, d⟩ y => ?_) (fun H ⟨w', vs, e, l, o, d⟩ => ?_)
  · exact ⟨w1.grow (gr_newH w1.ex (o := .lst []) nD).2.1 (gr_newH w1.ex (o := .lst []) nD).1, [], rfl, Gr.le (gr_newH w1.ex nD).1, own_new nD, .nil⟩
  · subst e; exact hG w' l
  · subst e
    obtain ⟨e, hIt⟩ := hY i w' x H' hi l y
    subst e
    refine ⟨by simp [wipe, List.set_set], ht i x w' hi l hIt w' (Le.refl _) _ fun w2 l2 => ?_⟩
    cases hf : f i with
    | true =>
      rw [if_pos rfl]
      refine he i x w2 hi (l.trans l2) hIt hf w2 (Le.refl _) _ fun y w3 l3 dy => ?_
      have o3 := (o.mono l2).mono l3
      have d3 : DpAll K w3.G vs (picks i f g) := dpa_ex (l2.g.trans l3.g) d
      refine ⟨vs, o3.h, line_lt (by rw [dpa_len d]; have := picks_len i f g; omega), w3.put Da_ o3 (vs ++ [y]), vs ++ [y], rfl, ((l.trans l2).trans l3).put nD o3, o3.put, ?_⟩
      rw [picks_yes hf]
      exact dpa_app d3 (.cons dy .nil)
    | false =>
      rw [if_neg Bool.false_ne_true]
      exact ⟨w2, vs, rfl, l.trans l2, o.mono l2, by rw [picks_no hf]; exact dpa_ex l2.g d⟩
  · subst e; exact hd vs w' l o d
section
variable {elt it : Expr} {ifs : List Expr} {scope : Scope} {j : Nat} {x : Str} {px : Pos}
/-- the contexts of a block -/
abbrev Bk (X : Cx) (scope : Scope) (B : Cx → Prop) : Prop := ∀ (s : Shared) (H : Hp) (C : Addr) (cl : List (Str × Addr)) (fp : List Addr), B (X.blk s H scope (compEnvC scope cl C X.env) fp)
def eB (X : Cx) (scope : Scope) (e : Expr) : TE := fun σ H Q => ∀ (s : Shared) (H0 : Hp) (C : Addr) (cl : List (Str × Addr)) (fp : List Addr), eE (X.blk s H0 scope (compEnvC scope cl C X.env) fp) e σ H Q
def tsE (X : Cx) (ifs : List Expr) : TT := match ifs with
  | [] => tYes
  | [c] => eT X c
  | _ => fun _ _ _ => False
def tB_ (X : Cx) (scope : Scope) (ifs : List Expr) : TT := fun σ H Q => ∀ (s : Shared) (H0 : Hp) (C : Addr) (cl : List (Str × Addr)) (fp : List Addr), tsE (X.blk s H0 scope (compEnvC scope cl C X.env) fp) ifs σ H Q
theorem pb_can {s : Shared} {H0 : Hp} {C : Addr} {cl : List (Str × Addr)} {fp : List Addr} : PE (X.blk s H0 scope (compEnvC scope cl C X.env) fp) elt (eB X scope elt) := ⟨fun pins s' _ _ _ I h => h s H0 C cl fp pins s' I⟩
theorem ptb_can {s : Shared} {H0 : Hp} {C : Addr} {cl : List (Str × Addr)} {fp : List Addr} : PTs (X.blk s H0 scope (compEnvC scope cl C X.env) fp) ifs (tB_ X scope ifs) := ⟨fun pins s' σ H Q I h => by
  have h := h s H0 C cl fp
  match ifs, h with
  | [], h => exact pts_nil.run pins s' σ H Q I h
  | [c], h => exact (pts_one pt_can).run pins s' σ H Q I h
  | _ :: _ :: _, h => exact h.elim⟩
/-- the element, the test of a comprehension over worlds: in each block -/
def CEb (X : Cx) (scope : Scope) (e : Expr) (σ : Sg) (w : Wd U) (P : GP) : Prop := Bk X scope fun B => CE B e σ w P
def CTb (X : Cx) (scope : Scope) (ifs : List Expr) (σ : Sg) (w : Wd U) (t : Bool) : Prop := match ifs with
  | [] => t = true
  | [c] => Bk X scope fun B => CT B c σ w t
  | _ => False
theorem ceb_ev {P : GP} (h : CEb X scope elt σ w P) : Ev (eB X scope elt) σ w P := fun w1 l Q q s H C cl fp => h s H C cl fp w1 l Q q
theorem ctb_ev {t : Bool} (h : CTb X scope ifs σ w t) : EvT (tB_ X scope ifs) σ w t := fun w1 l Q q s H C cl fp => by
  match ifs, h with
  | [], h => subst h; exact q w1 (Le.refl _)
  | [c], h => exact h s H C cl fp w1 l Q q
  | _ :: _ :: _, h => exact h.elim
/-- a comprehension's source, element and test give the data ds -/
def LcN (X : Cx) (elt it : Expr) (ifs : List Expr) (scope : Scope) (x : Str) (px : Pos) (j : Nat) (σ : Sg) (w : Wd U) (ds : List PyData) : Prop := ∃ wi, PI X (.Name x px) it wi ∧ EvN X.K (tLc wi (gName j) (tB_ X scope ifs) (eB X scope elt) [j]) σ w ds
theorem ln_T {l : List Nat} (f : Nat → Bool) (g : Nat → PyData) (hi : CE X it σ w (T l)) (hl : l.length ≤ 1000000)
    (ht : ∀ i c w', l[i]? = some c → Le w w' → CTb X scope ifs ((wipe σ [j]).set j (some (.str (S [c])))) w' (f i)) (he : ∀ i c w', l[i]? = some c → Le w w' → f i = true → CEb X scope elt ((wipe σ [j]).set j (some (.str (S [c])))) w' (Da X.K (g i))) :
    LcN X elt it ifs scope x px j σ w (picks l.length f g) :=
  ⟨_, pi_str pe_can, fun w1 l1 Q q => hi w1 l1 _ fun v w2 l2 hv => ⟨S l, hv, fun Dn hD => by
    have e : (S l).cps.size = l.length := List.size_toArray
    refine lc_data (n := l.length) (e ▸ walk_str (z := S l)) hl hD (fun i x => ∃ c, l[i]? = some c ∧ x = .str (S [c])) (fun _ _ => trivial) (fun i w' x H' hi l y => ⟨y.1, let ⟨c, h1, h2⟩ := y.2; ⟨c, by simpa [S] using h1, h2⟩⟩) f g
      (fun i x w' hi l' ⟨c, hc, ex⟩ => by subst ex; exact ctb_ev (ht i c w' hc ((l1.trans l2).trans l'))) (fun i x w' hi l' ⟨c, hc, ex⟩ hf => by subst ex; exact ceb_ev (he i c w' hc ((l1.trans l2).trans l') hf))
      fun vs w' l' o d => q Dn vs w' (l2.trans l') (l2.new hD) o d⟩⟩
theorem ln_L (f : Nat → Bool) (g : Nat → PyData) (hi : CQ X it σ w ds) (hl : ds.length ≤ 1000000)
    (ht : ∀ i d v w', ds[i]? = some d → Le w w' → Dp X.K w'.G v d → CTb X scope ifs ((wipe σ [j]).set j (some v)) w' (f i)) (he : ∀ i d v w', ds[i]? = some d → Le w w' → Dp X.K w'.G v d → f i = true → CEb X scope elt ((wipe σ [j]).set j (some v)) w' (Da X.K (g i))) :
    LcN X elt it ifs scope x px j σ w (picks ds.length f g) :=
  ⟨_, pi_list pe_can, fun w1 l1 Q q => hi w1 l1 _ fun v w2 l2 ⟨a, xs, ev, hq, hd⟩ => by
    subst ev
    have e := dpa_len hd
    exact ⟨a, rfl, ⟨_, hq _ (Le.refl _)⟩, fun Dn hD => lc_data (n := ds.length) (e ▸ walk_list) hl hD (fun i x => xs[i]? = some x) (fun w' l => hq _ l) (fun i w' x H' hi l y => y) f g
      (fun i x w' hi l' hx => let ⟨d, h1, h2⟩ := dpa_get2 hd hx; ctb_ev (ht i d x w' h1 ((l1.trans l2).trans l') (dp_ex l'.g h2))) (fun i x w' hi l' hx hf => let ⟨d, h1, h2⟩ := dpa_get2 hd hx; ceb_ev (he i d x w' h1 ((l1.trans l2).trans l') (dp_ex l'.g h2) hf))
      fun vs w' l' o d => q Dn vs w' (l2.trans l') (l2.new hD) o d⟩⟩
theorem ln_Tu (f : Nat → Bool) (g : Nat → PyData) (hi : CE X it σ w (Da X.K (.tuple ds))) (hl : ds.length ≤ 1000000)
    (ht : ∀ i d v w', ds[i]? = some d → Le w w' → Dp X.K w'.G v d → CTb X scope ifs ((wipe σ [j]).set j (some v)) w' (f i)) (he : ∀ i d v w', ds[i]? = some d → Le w w' → Dp X.K w'.G v d → f i = true → CEb X scope elt ((wipe σ [j]).set j (some v)) w' (Da X.K (g i))) :
    LcN X elt it ifs scope x px j σ w (picks ds.length f g) :=
  ⟨_, pi_tup pe_can, fun w1 l1 Q q => hi w1 l1 _ fun v w2 l2 hv => by
    have hv : Dp X.K w2.G v (.tuple ds) := hv
    cases hv with
    | @tup a xs _ hq hd =>
      have e := dpa_len hd
      exact ⟨a, rfl, ⟨_, Evl.ex_t w2.ex hq⟩, fun Dn hD => lc_data (n := ds.length) (e ▸ walk_tup) hl hD (fun i x => xs[i]? = some x) (fun w' l => Evl.ex_t (l.g.trans w'.ex) hq) (fun i w' x H' hi l y => y) f g
        (fun i x w' hi l' hx => let ⟨d, h1, h2⟩ := dpa_get2 hd hx; ctb_ev (ht i d x w' h1 ((l1.trans l2).trans l') (dp_ex l'.g h2))) (fun i x w' hi l' hx hf => let ⟨d, h1, h2⟩ := dpa_get2 hd hx; ceb_ev (he i d x w' h1 ((l1.trans l2).trans l') (dp_ex l'.g h2) hf))
        fun vs w' l' o d => q Dn vs w' (l2.trans l') (l2.new hD) o d⟩⟩
theorem ln_R1 {n : Int} {p2 pos2 : Pos} (f : Nat → Bool) (g : Nat → PyData) (hm : X.mg "range" = none) (hi : CE X a σ w (I n)) (hn : n ≤ 1000000 ∧ -(2 ^ 62) ≤ n)
    (ht : ∀ (i : Nat) w', (i : Int) < n → Le w w' → CTb X scope ifs ((wipe σ [j]).set j (some (.int i))) w' (f i)) (he : ∀ (i : Nat) w', (i : Int) < n → Le w w' → f i = true → CEb X scope elt ((wipe σ [j]).set j (some (.int i))) w' (Da X.K (g i)))
    (hgl : Gl X "range" := by rfl) (hst : starEach [a] X.env = [(false, eval a X.env)] := by rfl) :
    LcN X elt (.Call (.Name "range" p2) [a] [] pos2) ifs scope x px j σ w (picks n.toNat f g) :=
  ⟨_, pi_range1 hgl hm (pa_cons pe_can pa_nil hst) hst, fun w1 l1 Q q => hi w1 l1 _ fun v w2 l2 hv => ⟨n, congrArg (fun z => [z]) hv, hn.2, by omega, fun Dn hD =>
    lc_data (walk_range (lo := 0) (n := n.toNat)) (by omega) hD (fun i x => x = .int i) (fun _ _ => trivial) (fun i w' x H' hi l y => ⟨y.1, by rw [y.2]; exact congrArg V.int (Int.zero_add _)⟩) f g
      (fun i x w' hi l' ex => by subst ex; exact ctb_ev (ht i w' (by omega) ((l1.trans l2).trans l'))) (fun i x w' hi l' ex hf => by subst ex; exact ceb_ev (he i w' (by omega) ((l1.trans l2).trans l') hf))
      fun vs w' l' o d => q Dn vs w' (l2.trans l') (l2.new hD) o d⟩⟩
theorem LcN.cast {ds' : List PyData} (h : LcN X elt it ifs scope x px j σ w ds) (q : ds = ds') : LcN X elt it ifs scope x px j σ w ds' := q ▸ h
/-- as a value -/
theorem cn_ln (h : LcN X elt it ifs scope x px j σ w ds) (hc : X.calm = true) (hN : X.N.Nodup) (ok : BlkOk X.N X.env.scope scope [(x, j)])
    (hg : Bk X scope fun B => PG B (.Name x px) (gName j)) (hs : ∀ x, foldedSetIterable it X.env x = pure x := by intro _; rfl) : CN X (.ListComp elt [⟨.Name x px, it, ifs, 0⟩] scope pos) σ w ds := by
  obtain ⟨wi, hi, k⟩ := h
  exact cn_lift (pe_lc hc hN hi ok hg (fun _ _ _ _ _ => ptb_can) (fun _ _ _ _ _ => pb_can) hs) k
/-- y = [..] on one line, y a local: the list is the frame's own -/
theorem go_setLc {i : Nat} {y : Str} {py : Pos} (h : LcN X elt it ifs scope x px j σ w ds) (hc : X.calm = true) (hN : X.N.Nodup) (ok : BlkOk X.N X.env.scope scope [(x, j)])
    (hg : Bk X scope fun B => PG B (.Name x px) (gName j)) (k : ∀ q vs w', Le w w' → w.H q = none → Own w' q vs → DpAll X.K w'.G vs ds → Go X rest (σ.set i (some (.ref q))) w' D)
    (hsw : swapsWith (.ListComp elt [⟨.Name x px, it, ifs, 0⟩] scope pos) (some (.Name y py)) p.line X.env = pure true) (hy : X.N[i]? = some y := by rfl) (hyl : X.env.scope.names.lookup y = some .local := by rfl)
    (hs : ∀ x, foldedSetIterable it X.env x = pure x := by intro _; rfl) : Go X (.Assign [.Name y py] (.ListComp elt [⟨.Name x px, it, ifs, 0⟩] scope pos) p :: rest) σ w D := by
  obtain ⟨wi, hi, kk⟩ := h
  refine s_of (pss_cons (ps_setLc hc hN hy hyl hsw hi ok hg (fun _ _ _ _ _ => ptb_can) (fun _ _ _ _ _ => pb_can) hs) pss_can) ?_
  exact kk w (Le.refl _) (fun v H1 => eS X rest D.raw (σ.set i (some v)) H1) fun q vs w2 l n o d => k q vs w2 l n o d
end
/-- all(a list of truth values), any -/
theorem ce_allQ {bs : List Bool} (hm : X.mg "all" = none) (h : CQ X e σ w (bs.map fun t => .bool t)) (hc : X.calm = true) (hg : Gl X "all" := by rfl) (hs : starEach [e] X.env = [(false, eval e X.env)] := by rfl) : CE X (.Call (.Name "all" p) [e] [] pos) σ w (Bo (bs.all id)) := fun w1 l Q q =>
  ew_bi (cr_all hc) hm PyProof.Rows.boot_all h hg (by decide) (by decide) hs w1 l Q fun v w2 l2 ⟨a, vs, ev, hq, hd⟩ => by
    subst ev
    exact ⟨a, bs, rfl, by rw [← dpa_bools hd]; exact hq _ (Le.refl _), q _ w2 l2 rfl⟩
/-- isinstance -/
theorem ce_isi {c : Expr} {cv : Vv} {t u : Value} {r : Bool} (hm : X.mg "isinstance" = none) (ha : CE X a σ w P) (hcv : CE X c σ w (Is cv)) (k : ClsV cv u) (ty : ∀ v (w' : Wd U), Le w w' → P v w'.G → TyX X.K w'.H v t) (hk : PySem.W.kitOne X.K t u = some r) [m : MonoG P]
    (hg : Gl X "isinstance" := by rfl) (hs : starEach (a :: [c]) X.env = (false, eval a X.env) :: starEach [c] X.env := by rfl) (hs2 : starEach (c :: []) X.env = (false, eval c X.env) :: starEach [] X.env := by rfl) (hpl : (backTo pos (starEach [c] X.env)).any (·.1) = false := by rfl) :
    CE X (.Call (.Name "isinstance" p) [a, c] [] pos) σ w (Bo r) :=
  ce_bi call_isi hm PyProof.Rows.boot_isinstance (ca_cons ha (ca_cons hcv ca_nil hs2) hs) (fun vs w1 Q l1 hv q => by
    obtain ⟨v, y, rfl, h1, h2⟩ := args2 hv
    have h2 : y = _ := h2
    subst h2
    exact ⟨v, _, t, u, r, rfl, k, ty v w1 l1 h1, hk, q _ w1 (Le.refl _) rfl⟩) hg (by decide) (by decide) hs hpl
theorem ce_bltn {x : Str} {v : Vv} {u : Value} (hm : X.mg x = none) (hv : bootBuiltins x = some u) (r : RelV v u) (hg : Gl X x := by rfl) (hn : x ≠ "__name__" := by decide) (hd : (x == ("__debug__" : Str)) = false := by decide) : CE X (.Name x pos) σ w (Is v) := ce_lift (pe_bltn hg hm hv r hn hd) fun w1 _ _ q => q _ w1 (Le.refl _) rfl
/-- a chain of two comparisons of ints, as a test and a value -/
theorem ct_chain {op op' : CmpOp} {c : Expr} {g g' : Int → Int → Bool} {i j k : Int} (ho : OpR X (compareOp op) (rI0 fun i j => .bl (g i j))) (ho' : OpR X (compareOp op') (rI0 fun i j => .bl (g' i j))) (ha : CE X a σ w (I i)) (hb : CE X b σ w (I j)) (hc : CE X c σ w (I k)) (hm : lastMarks [op, op'] [b, c] = false := by rfl) :
    CT X (.Compare a [op, op'] [b, c] pos) σ w (g i j && g' j k) :=
  ct_lift (pt_chain ho ho' pe_can pe_can pe_can hm) fun w1 l Q q => ha w1 l _ fun x w2 l2 hx => hb w2 (l.trans l2) _ fun y w3 l3 hy => ⟨i, j, hx, hy, g i j, rfl, by
    revert q
    cases g i j with
    | true =>
      intro q
      rw [if_pos rfl]
      exact hc w3 ((l.trans l2).trans l3) _ fun z w4 l4 hz => ⟨j, k, hy, hz, g' j k, rfl, q w4 ((l2.trans l3).trans l4)⟩
    | false =>
      intro q
      rw [if_neg Bool.false_ne_true]
      exact ⟨_, rfl, q w3 (l2.trans l3)⟩⟩
theorem ce_chain {op op' : CmpOp} {c : Expr} {g g' : Int → Int → Bool} {i j k : Int} (ho : OpR X (compareOp op) (rI0 fun i j => .bl (g i j))) (ho' : OpR X (compareOp op') (rI0 fun i j => .bl (g' i j))) (ha : CE X a σ w (I i)) (hb : CE X b σ w (I j)) (hc : CE X c σ w (I k)) (hm : lastMarks [op, op'] [b, c] = false := by rfl) :
    CE X (.Compare a [op, op'] [b, c] pos) σ w (Bo (g i j && g' j k)) :=
  ce_lift (pe_chain ho ho' pe_can pe_can pe_can hm) fun w1 l Q q => ha w1 l _ fun x w2 l2 hx => hb w2 (l.trans l2) _ fun y w3 l3 hy => ⟨i, j, hx, hy, g i j, rfl, by
    revert q
    cases g i j with
    | true =>
      intro q
      rw [if_pos rfl]
      exact hc w3 ((l.trans l2).trans l3) _ fun z w4 l4 hz => ⟨j, k, hy, hz, q _ w4 ((l2.trans l3).trans l4) rfl⟩
    | false =>
      intro q
      rw [if_neg Bool.false_ne_true]
      exact q _ w3 (l2.trans l3) rfl⟩
end
end FW
set_option Elab.async false
set_option linter.all false
set_option maxRecDepth 100000
set_option maxHeartbeats 2000000
/-! FwF: a sign in a text, a text many times, len of a dict of signs, list and tuple of lists. -/
namespace FW
open PySem PySem.Spec PyProof.Rows L2
section
variable {U : Vol} {X : Cx} {e a b : Expr} {es : List Expr} {rest body : List Stmt} {σ : Sg} {w w' : Wd U} {P P' : GP} {Ps : List GP} {D : En U} {pos p apos : Pos} {ds : List PyData}
theorem ce_inT {c : Nat} {l : List Nat} (ha : CE X a σ w (T [c])) (hb : CE X b σ w (T l)) (hm : behindInMarks .In b = false := by rfl) : CE X (.Compare a [.In] [b] pos) σ w (Bo (decide (c ∈ l))) :=
  ce_cmp op_in_sign hm ha hb fun x y w1 Q _ hx hy q => ⟨c, S l, hx, hy, q _ w1 (Le.refl _) rfl⟩
theorem ct_inT {c : Nat} {l : List Nat} (ha : CE X a σ w (T [c])) (hb : CE X b σ w (T l)) (hm : behindInMarks .In b = false := by rfl) : CT X (.Compare a [.In] [b] pos) σ w (decide (c ∈ l)) :=
  ct_cmp op_in_sign hm ha hb fun x y w1 Q _ hx hy q => ⟨c, S l, hx, hy, q _ w1 (Le.refl _) rfl⟩
theorem ct_notinT {c : Nat} {l : List Nat} (ha : CE X a σ w (T [c])) (hb : CE X b σ w (T l)) (hm : behindInMarks .NotIn b = false := by rfl) : CT X (.Compare a [.NotIn] [b] pos) σ w (!decide (c ∈ l)) :=
  ct_cmp op_notIn_sign hm ha hb fun x y w1 Q _ hx hy q => ⟨c, S l, hx, hy, q _ w1 (Le.refl _) rfl⟩
theorem valV_none {l : List Nat} {c : Nat} (h : c ∉ l) : valV (l.map fun c => ((Sum.inr (S [c]) : Key), V.bl true)) (Sum.inr (S [c])) = none := by
  unfold valV
  rw [List.find?_eq_none.mpr]
  · rfl
  · intro kv hkv
    obtain ⟨d, hd, rfl⟩ := List.mem_map.mp hkv
    intro z
    have z2 : (Sum.inr (S [d]) : Key) = Sum.inr (S [c]) := of_decide_eq_true z
    have z3 : [d] = [c] := S_inj (Sum.inr.inj z2)
    injection z3 with z4 _
    exact h (z4 ▸ hd)
/-- len({x: True for x in a text of unlike signs}) -/
theorem ce_lenDc {it : Expr} {scope : Scope} {j : Nat} {x : Str} {px p3 p4 p5 : Pos} {jj : Nat} {l : List Nat} (hi : CE X it σ w (T l)) (hl : l.length ≤ 1000000) (hnd : l.Nodup) (hm : X.mg "len" = none)
    (hc : X.calm = true) (hN : X.N.Nodup) (ok : BlkOk X.N X.env.scope scope [(x, j)]) (hj : j < σ.length)
    (hg : Bk X scope fun B => PG B (.Name x px) (gName j)) (hk : Bk X scope fun B => PE B (.Name x p3) (tVar j)) (hgl : Gl X "len" := by rfl) (hs : ∀ x, foldedSetIterable it X.env x = pure x := by intro _; rfl)
    (hst : starEach [.DictComp (.Name x p3) (.Constant (.bool true) jj p4) [⟨.Name x px, it, [], 0⟩] scope p5] X.env = [(false, eval (.DictComp (.Name x p3) (.Constant (.bool true) jj p4) [⟨.Name x px, it, [], 0⟩] scope p5) X.env)] := by rfl) :
    CE X (.Call (.Name "len" p) [.DictComp (.Name x p3) (.Constant (.bool true) jj p4) [⟨.Name x px, it, [], 0⟩] scope p5] [] pos) σ w (I l.length) := by
  refine ce_lift (pe_callB call_lenD hgl hm PySem.boot_len (pa_cons (pe_dc hc hN (pi_str pe_can) ok hg (fun _ _ _ _ _ => pts_nil) hk (fun _ _ _ _ _ => pe_bl) hs) pa_nil hst) (by decide) (by decide) hst rfl) fun w1 l1 Q q => ?_
  refine hi w1 l1 _ fun v w2 l2 hv => ⟨S l, hv, fun Dn hD => ?_⟩
  have esz : (S l).cps.size = l.length := List.size_toArray
  refine ⟨fun i m H => m = l.length - i ∧ i ≤ l.length ∧ H = upd w2.H Dn (.dK ((l.take i).map fun c => ((Sum.inr (S [c]) : Key), V.bl true))), ⟨l.length, by simp, Nat.zero_le _, by simp⟩, ?_⟩
  rintro i m H ⟨rfl, hi, rfl⟩
  by_cases hlt : i < l.length
  · refine .inr ⟨by show i < (S l).cps.size; omega, fun H' => H' = upd w2.H Dn (.dK ((l.take (i + 1)).map fun c => ((Sum.inr (S [c]) : Key), V.bl true))), fun H' e => ⟨l.length - (i + 1), by omega, rfl, hlt, e⟩, ?_⟩
    rintro x' H' ⟨rfl, c, hc', rfl⟩
    have hc2 : l[i]? = some c := by simpa [S] using hc'
    refine ⟨by simp [wipe, List.set_set], ?_⟩
    simp only [tYes, ↓reduceIte]
    refine ⟨.str (S [c]), ?_, _, Sum.inr (S [c]), rfl, upd_same, ?_, ?_⟩
    · rw [List.getElem?_set_self (by rw [wipe_length]; exact hj)]; rfl
    · rw [List.length_map, List.length_take]; exact line_lt (by omega)
    · rw [upd_upd, putK_new _ (valV_none ?_)]
      · rw [List.take_add_one, hc2, List.map_append]; rfl
      · intro hmem
        obtain ⟨k, hk2⟩ := List.mem_iff_getElem?.mp hmem
        have hk3 : k < i := by
          have := (List.getElem?_eq_some_iff.mp hk2).1
          rw [List.length_take] at this; omega
        rw [List.getElem?_take, if_pos hk3] at hk2
        have := (List.getElem?_inj (i := k) (j := i) (by omega) hnd).mp (hk2.trans hc2.symm)
        omega
  · have e : i = l.length := by omega
    subst e
    refine .inl ⟨by show (S l).cps.size ≤ _; omega, Dn, _, rfl, upd_same, ?_⟩
    rw [List.length_map, List.take_length]
    have g := gr_newH w2.ex (o := .dK (l.map fun c => ((Sum.inr (S [c]) : Key), V.bl true))) hD
    exact q _ (w2.grow g.2.1 g.1) (l2.trans (Gr.le g.1)) rfl
theorem ce_cls {x : Str} (n : String) (hm : X.mg x = none) (hv : bootBuiltins x = some (.type n)) (hg : Gl X x := by rfl) (hn : x ≠ "__name__" := by decide) (hd : (x == ("__debug__" : Str)) = false := by decide) : CE X (.Name x pos) σ w (Is (.ty n)) := ce_bltn hm hv rfl hg hn hd
/-- isinstance(a text, str) -/
theorem ce_isiT {x : Str} {p2 : Pos} (hm : X.mg "isinstance" = none) (hms : X.mg "str" = none) (ha : CE X a σ w (Is (.str x)))
    (hg : Gl X "isinstance" := by rfl) (hg2 : Gl X "str" := by rfl) (hs : starEach (a :: [.Name "str" p2]) X.env = (false, eval a X.env) :: starEach [.Name "str" p2] X.env := by rfl) (hs2 : starEach (.Name "str" p2 :: []) X.env = (false, eval (.Name "str" p2) X.env) :: starEach [] X.env := by rfl) (hpl : (backTo pos (starEach [.Name "str" p2] X.env)).any (·.1) = false := by rfl) :
    CE X (.Call (.Name "isinstance" p) [a, .Name "str" p2] [] pos) σ w (Bo true) :=
  ce_isi (cv := .ty "str") (u := .type "str") hm ha (ce_cls "str" hms PyProof.Rows.boot_str hg2) (.ty "str") (t := .type "str") (fun v w' _ e => by
    have e : v = _ := e
    subst e
    exact .base (.str _)) (kit_ty (by decide +kernel)) hg hs hs2 hpl
theorem ct_lele {c : Expr} {i j k : Int} (ha : CE X a σ w (I i)) (hb : CE X b σ w (I j)) (hc : CE X c σ w (I k)) (hm : lastMarks [.LtE, .LtE] [b, c] = false := by rfl) : CT X (.Compare a [.LtE, .LtE] [b, c] pos) σ w (decide (i ≤ j) && decide (j ≤ k)) :=
  ct_chain (g := fun i j => decide (i ≤ j)) (g' := fun i j => decide (i ≤ j)) op_le op_le ha hb hc hm
theorem ct_lelt {c : Expr} {i j k : Int} (ha : CE X a σ w (I i)) (hb : CE X b σ w (I j)) (hc : CE X c σ w (I k)) (hm : lastMarks [.LtE, .Lt] [b, c] = false := by rfl) : CT X (.Compare a [.LtE, .Lt] [b, c] pos) σ w (decide (i ≤ j) && decide (j < k)) :=
  ct_chain (g := fun i j => decide (i ≤ j)) (g' := fun i j => decide (i < j)) op_le op_lt ha hb hc hm
theorem ce_lelt {c : Expr} {i j k : Int} (ha : CE X a σ w (I i)) (hb : CE X b σ w (I j)) (hc : CE X c σ w (I k)) (hm : lastMarks [.LtE, .Lt] [b, c] = false := by rfl) : CE X (.Compare a [.LtE, .Lt] [b, c] pos) σ w (Bo (decide (i ≤ j) && decide (j < k))) :=
  ce_chain (g := fun i j => decide (i ≤ j)) (g' := fun i j => decide (i < j)) op_le op_lt ha hb hc hm
end
end FW
set_option Elab.async false
set_option linter.all false
set_option maxRecDepth 100000
set_option maxHeartbeats 2000000
/-! FwG: comprehensions by functions of the item. -/
namespace FW
open PySem PySem.Spec PyProof.Rows L2
theorem picks_fil {α β : Type} (f : α → Bool) (g : α → β) (z : α) : ∀ xs : List α, picks xs.length (fun i => f (xs.getD i z)) (fun i => g (xs.getD i z)) = (xs.filter f).map g := by
  intro xs
  have key : ∀ n, n ≤ xs.length → picks n (fun i => f (xs.getD i z)) (fun i => g (xs.getD i z)) = ((xs.take n).filter f).map g := by
    intro n
    induction n with
    | zero => intro _; rfl
    | succ n ih =>
      intro h
      have e : xs[n]? = some (xs.getD n z) := by rw [List.getD_eq_getElem?_getD, List.getElem?_eq_getElem (by omega)]; rfl
      rw [List.take_add_one, e, List.filter_append, List.map_append, ← ih (by omega)]
      cases hf : f (xs.getD n z) with
      | true =>
        rw [picks_yes hf]
        show _ ++ [g (xs.getD n z)] = _ ++ List.map g (List.filter f [xs.getD n z])
        rw [List.filter_cons_of_pos hf]; rfl
      | false =>
        rw [picks_no hf]
        show _ = _ ++ List.map g (List.filter f [xs.getD n z])
        rw [List.filter_cons_of_neg (by rw [hf]; decide)]
        show _ = _ ++ []
        rw [List.append_nil]
  rw [key _ (Nat.le_refl _), List.take_length]
theorem picks_map {α β : Type} (g : α → β) (z : α) (xs : List α) : picks xs.length (fun _ => true) (fun i => g (xs.getD i z)) = xs.map g := by
  have h := picks_fil (fun _ => true) g z xs
  rw [List.filter_eq_self.mpr (fun _ _ => rfl)] at h
  exact h
theorem getD_of {α : Type} {xs : List α} {i : Nat} {x z : α} (h : xs[i]? = some x) : xs.getD i z = x := by rw [List.getD_eq_getElem?_getD, h]; rfl
section
variable {U : Vol} {X : Cx} {e a b : Expr} {es : List Expr} {rest body : List Stmt} {σ : Sg} {w w' : Wd U} {P P' : GP} {Ps : List GP} {D : En U} {pos p apos : Pos} {ds : List PyData}
theorem CN.cast {ds' : List PyData} (h : CN X e σ w ds) (q : ds = ds') : CN X e σ w ds' := q ▸ h
theorem CQ.cast {ds' : List PyData} (h : CQ X e σ w ds) (q : ds = ds') : CQ X e σ w ds' := q ▸ h
theorem CE.eqP {P' : GP} (h : CE X e σ w P) (q : P = P') : CE X e σ w P' := q ▸ h
section
variable {elt it c : Expr} {scope : Scope} {j : Nat} {x : Str} {px : Pos} {α : Type}
/-- [elt for x in text], [.. if c] -/
theorem ln_mT {l : List Nat} (g : Nat → PyData) (hi : CE X it σ w (T l)) (hl : l.length ≤ 1000000) (he : ∀ c w', c ∈ l → Le w w' → CEb X scope elt ((wipe σ [j]).set j (some (.str (S [c])))) w' (Da X.K (g c))) : LcN X elt it [] scope x px j σ w (l.map g) :=
  (ln_T (ifs := []) (fun _ => true) (fun i => g (l.getD i 0)) hi hl (fun _ _ _ _ _ => rfl) (fun i c w' h l' _ => by rw [getD_of h]; exact he c w' (List.mem_of_getElem? h) l')).cast (picks_map g 0 l)
theorem ln_fT {l : List Nat} (f : Nat → Bool) (g : Nat → PyData) (hi : CE X it σ w (T l)) (hl : l.length ≤ 1000000) (ht : ∀ z w', z ∈ l → Le w w' → CTb X scope [c] ((wipe σ [j]).set j (some (.str (S [z])))) w' (f z)) (he : ∀ z w', z ∈ l → f z = true → Le w w' → CEb X scope elt ((wipe σ [j]).set j (some (.str (S [z])))) w' (Da X.K (g z))) : LcN X elt it [c] scope x px j σ w ((l.filter f).map g) :=
  (ln_T (ifs := [c]) (fun i => f (l.getD i 0)) (fun i => g (l.getD i 0)) hi hl (fun i z w' h l' => by rw [getD_of h]; exact ht z w' (List.mem_of_getElem? h) l') (fun i z w' h l' hf => by rw [getD_of h] at hf ⊢; exact he z w' (List.mem_of_getElem? h) hf l')).cast (picks_fil f g 0 l)
theorem enc_get {xs : List α} {enc : α → PyData} {i : Nat} {d : PyData} (h : (xs.map enc)[i]? = some d) : ∃ x, xs[i]? = some x ∧ d = enc x := by
  rw [List.getElem?_map] at h
  cases q : xs[i]? with
  | none => rw [q] at h; cases h
  | some x => rw [q] at h; exact ⟨x, rfl, (Option.some.inj h).symm⟩
/-- [elt for x in list of data] -/
theorem ln_mL {xs : List α} [Inhabited α] (enc : α → PyData) (g : α → PyData) (hi : CQ X it σ w (xs.map enc)) (hl : xs.length ≤ 1000000) (he : ∀ z v w', z ∈ xs → Le w w' → Dp X.K w'.G v (enc z) → CEb X scope elt ((wipe σ [j]).set j (some v)) w' (Da X.K (g z))) : LcN X elt it [] scope x px j σ w (xs.map g) :=
  (ln_L (ifs := []) (fun _ => true) (fun i => g (xs.getD i default)) hi (by rw [List.length_map]; exact hl) (fun _ _ _ _ _ _ _ => rfl) (fun i d v w' h l' dv _ => by
    obtain ⟨z, h1, rfl⟩ := enc_get h
    rw [getD_of h1]; exact he z v w' (List.mem_of_getElem? h1) l' dv)).cast (by rw [List.length_map]; exact picks_map g default xs)
theorem ln_fL {xs : List α} [Inhabited α] (enc : α → PyData) (f : α → Bool) (g : α → PyData) (hi : CQ X it σ w (xs.map enc)) (hl : xs.length ≤ 1000000) (ht : ∀ z v w', z ∈ xs → Le w w' → Dp X.K w'.G v (enc z) → CTb X scope [c] ((wipe σ [j]).set j (some v)) w' (f z)) (he : ∀ z v w', z ∈ xs → f z = true → Le w w' → Dp X.K w'.G v (enc z) → CEb X scope elt ((wipe σ [j]).set j (some v)) w' (Da X.K (g z))) : LcN X elt it [c] scope x px j σ w ((xs.filter f).map g) :=
  (ln_L (ifs := [c]) (fun i => f (xs.getD i default)) (fun i => g (xs.getD i default)) hi (by rw [List.length_map]; exact hl) (fun i d v w' h l' dv => by
    obtain ⟨z, h1, rfl⟩ := enc_get h
    rw [getD_of h1]; exact ht z v w' (List.mem_of_getElem? h1) l' dv) (fun i d v w' h l' dv hf => by
    obtain ⟨z, h1, rfl⟩ := enc_get h
    rw [getD_of h1] at hf ⊢; exact he z v w' (List.mem_of_getElem? h1) hf l' dv)).cast (by rw [List.length_map]; exact picks_fil f g default xs)
theorem ln_mTu {xs : List α} [Inhabited α] (enc : α → PyData) (g : α → PyData) (hi : CE X it σ w (Da X.K (.tuple (xs.map enc)))) (hl : xs.length ≤ 1000000) (he : ∀ z v w', z ∈ xs → Le w w' → Dp X.K w'.G v (enc z) → CEb X scope elt ((wipe σ [j]).set j (some v)) w' (Da X.K (g z))) : LcN X elt it [] scope x px j σ w (xs.map g) :=
  (ln_Tu (ifs := []) (fun _ => true) (fun i => g (xs.getD i default)) hi (by rw [List.length_map]; exact hl) (fun _ _ _ _ _ _ _ => rfl) (fun i d v w' h l' dv _ => by
    obtain ⟨z, h1, rfl⟩ := enc_get h
    rw [getD_of h1]; exact he z v w' (List.mem_of_getElem? h1) l' dv)).cast (by rw [List.length_map]; exact picks_map g default xs)
/-- [elt for x in range(n)], [.. if c] -/
theorem ln_mR {n : Nat} {p2 pos2 : Pos} (g : Nat → PyData) (hm : X.mg "range" = none) (hi : CE X a σ w (I n)) (hn : n ≤ 1000000) (he : ∀ (i : Nat) w', i < n → Le w w' → CEb X scope elt ((wipe σ [j]).set j (some (.int i))) w' (Da X.K (g i)))
    (hgl : Gl X "range" := by rfl) (hst : starEach [a] X.env = [(false, eval a X.env)] := by rfl) : LcN X elt (.Call (.Name "range" p2) [a] [] pos2) [] scope x px j σ w ((List.range n).map g) :=
  (ln_R1 (ifs := []) (fun _ => true) g hm hi ⟨by omega, by omega⟩ (fun _ _ _ _ => rfl) (fun i w' h l' _ => he i w' (by omega) l') hgl hst).cast (by unfold picks; rw [List.filter_eq_self.mpr (fun _ _ => rfl), Int.toNat_natCast])
theorem ln_fR {n : Nat} {p2 pos2 : Pos} (f : Nat → Bool) (g : Nat → PyData) (hm : X.mg "range" = none) (hi : CE X a σ w (I n)) (hn : n ≤ 1000000) (ht : ∀ (i : Nat) w', i < n → Le w w' → CTb X scope [c] ((wipe σ [j]).set j (some (.int i))) w' (f i)) (he : ∀ (i : Nat) w', i < n → f i = true → Le w w' → CEb X scope elt ((wipe σ [j]).set j (some (.int i))) w' (Da X.K (g i)))
    (hgl : Gl X "range" := by rfl) (hst : starEach [a] X.env = [(false, eval a X.env)] := by rfl) : LcN X elt (.Call (.Name "range" p2) [a] [] pos2) [c] scope x px j σ w (((List.range n).filter f).map g) :=
  (ln_R1 (ifs := [c]) f g hm hi ⟨by omega, by omega⟩ (fun i w' h l' => ht i w' (by omega) l') (fun i w' h l' hf => he i w' (by omega) hf l') hgl hst).cast (by unfold picks; rw [Int.toNat_natCast])
end
/-- the values of a block's own context -/
theorem CE.daB {t : Bool} (h : CE X e σ w (Bo t)) : CE X e σ w (Da X.K (.bool t)) := h.da fun _ => .bl _
end
end FW
set_option Elab.async false
set_option linter.all false
set_option maxRecDepth 100000
set_option maxHeartbeats 2000000
/-! FwM: a text many times, indices by arithmetic, negation, a test by another name. -/
namespace FW
open PySem PySem.Spec PyProof.Rows L2
def rep (l : List Nat) (n : Nat) : List Nat := (List.replicate n l).flatten
theorem rep_len (l : List Nat) (n : Nat) : (rep l n).length = n * l.length := by
  unfold rep
  induction n with
  | zero => simp
  | succ n ih => rw [List.replicate_succ, List.flatten_cons, List.length_append, ih, Nat.succ_mul]; omega
theorem foldl_app (l : Array Nat) : ∀ (n : Nat) (acc : Array Nat), ((List.replicate n l).foldl (· ++ ·) acc).toList = acc.toList ++ (List.replicate n l.toList).flatten
  | 0, acc => by simp
  | n + 1, acc => by
    rw [List.replicate_succ, List.foldl_cons, foldl_app l n, List.replicate_succ, List.flatten_cons]
    simp
theorem mul_S (l : List Nat) (n : Nat) : Txt.mul (S l) (n : Int) = S (rep l n) := by
  unfold Txt.mul
  by_cases h : (n : Int) < 1
  · have e : n = 0 := by omega
    subst e
    rw [if_pos h]; rfl
  · rw [if_neg h]
    by_cases h2 : ((n : Int) == 1 || (S l).length == 0) = true
    · rw [if_pos h2]
      rcases Bool.or_eq_true_iff.mp h2 with h3 | h3
      · have e : n = 1 := by have := eq_of_beq h3; omega
        subst e
        unfold rep; simp
      · have e : l = [] := by
          have := eq_of_beq h3
          rw [S_len] at this
          exact List.eq_nil_of_length_eq_zero this
        subst e
        unfold rep; simp
    · rw [if_neg h2]
      exact str_mk_eq (by rw [foldl_app, Int.toNat_natCast]; rfl)
theorem mulOk_S {x : List Nat} {n : Nat} (h : n * x.length ≤ 1000000) (h2 : n ≤ 1000000) : MulOk (S x) (n : Int) := by
  refine ⟨?_, fun h1 _ => ?_, fun _ _ => ?_⟩
  · rw [decide_eq_false (by omega), decide_eq_false (by omega)]; rfl
  · rw [S_len]
    have hn : (0 : Int) < n := by omega
    have : (x.length : Int) ≤ (2 ^ 63 - 1) / (n : Int) := by
      apply Int.le_ediv_of_mul_le hn
      have : ((x.length * n : Nat) : Int) ≤ 1000000 := by rw [Nat.mul_comm]; omega
      rw [Int.natCast_mul] at this
      omega
    omega
  · rw [S_len, Int.toNat_natCast, Nat.mul_comm]
    unfold PySem.Builtin.Str.tooLong
    exact decide_eq_false (by rw [sizeLine_eq]; omega)
section
variable {U : Vol} {X : Cx} {e a b : Expr} {es : List Expr} {rest body : List Stmt} {σ : Sg} {w w' : Wd U} {P P' : GP} {D : En U} {pos p apos : Pos} {ds : List PyData}
theorem op_mul_str : OpR X (binaryOp .Mult) (fun x y H Q => ∃ z n, x = .str z ∧ y = .int n ∧ MulOk z n ∧ Q (.str (Txt.mul z n)) H) := by
  intro pins s σ H x y v u Q I rx ry h
  obtain ⟨z, n, rfl, rfl, hm, q⟩ := h
  obtain ⟨t, rfl⟩ := rx
  obtain ⟨t', rfl⟩ := ry
  exact PySem.SB.mul hm fun t'' k => ⟨.str _, H, I.tok k, ⟨t'', rfl⟩, q⟩
theorem ce_mulT {x : List Nat} {n : Nat} (ha : CE X a σ w (T x)) (hb : CE X b σ w (I n)) (h : n * x.length ≤ 1000000) (h2 : n ≤ 1000000) : CE X (.BinOp a .Mult b pos) σ w (T (rep x n)) :=
  ce_op op_mul_str ha hb fun u v w1 Q _ hx hy q => ⟨S x, n, hx, hy, mulOk_S h h2, by rw [mul_S]; exact q _ w1 (Le.refl _) rfl⟩
theorem ce_neg {i : Int} (h : CE X a σ w (I i)) : CE X (.UnaryOp .USub a pos) σ w (I (-i)) :=
  ce_lift (pe_un un_neg pe_can) fun w1 l Q q => h w1 l _ fun v w2 l2 hv => ⟨i, hv, q _ w2 l2 rfl⟩
theorem CT.cast {t t' : Bool} (h : CT X e σ w t) (q : t = t') : CT X e σ w t' := q ▸ h
theorem CE.castB {t t' : Bool} (h : CE X e σ w (Bo t)) (q : t = t') : CE X e σ w (Bo t') := q ▸ h
theorem CE.castT {t t' : List Nat} (h : CE X e σ w (T t)) (q : t = t') : CE X e σ w (T t') := q ▸ h
theorem CE.castI {t t' : Int} (h : CE X e σ w (I t)) (q : t = t') : CE X e σ w (I t') := q ▸ h
theorem CE.castD {t t' : PyData} (h : CE X e σ w (Da X.K t)) (q : t = t') : CE X e σ w (Da X.K t') := q ▸ h
end
theorem atI_of {α : Type} {xs : List α} {z : Int} {j : Nat} {v : α} (e : z = (j : Int)) (h : xs[j]? = some v) : atI xs z = some v := by
  rw [e]
  exact atI_nat h
end FW
set_option Elab.async false
set_option linter.all false
set_option maxRecDepth 100000
set_option maxHeartbeats 2000000
/-! FwH: a head's facts: defs by names, facts by names, and any further truth values of the fragment. -/
namespace FW
open PySem PySem.Spec PyProof.Rows L2 He
def obsX (fa : List Fa) (xs : List (PySem.W.Frag → Bool)) (fn : List DefD) (K : PySem.W.Frag) : AlD := (((fa.all fun f => f.ok K) && xs.all fun f => f K) && fn.all fun d => d.ok K, fn.map fun d => fnW K d.at_)
def SaysX (fa : List Fa) (xs : List (PySem.W.Frag → Bool)) (fn : List DefD) (K : PySem.W.Frag) : Prop := obsX fa xs fn K = valD fn
def obsXG (n : Nat) (fa : List Fa) (xs : List (PySem.W.Frag → Bool)) (fn : List DefD) (g : Addr → Option Obj) : AlD := obsX fa xs fn (frG g (asD g n))
def hookX (n : Nat) (fa : List Fa) (xs : List (PySem.W.Frag → Bool)) (fn : List DefD) : PySem.W.Hook where
  α := AlD
  obs := fun s => obsXG n fa xs fn s.heap.get?
  val := fun _ => valD fn
  says := fun _ h => ∃ K : PySem.W.Frag, K.In h ∧ SaysX fa xs fn K
  of := fun _ _ e => ⟨_, frG_in, e⟩
  keeps := fun _ _ _ ⟨K, hK, c⟩ k => ⟨K, PySem.W.Frag.In.keeps hK k, c⟩
theorem obsXG_eq {n : Nat} {fa : List Fa} {xs : List (PySem.W.Frag → Bool)} {fn : List DefD} {g : Addr → Option Obj} {s : Shared} (h : ∀ a, g a = s.heap.get? a) : obsXG n fa xs fn g = (hookX n fa xs fn).obs s := by
  have e : g = s.heap.get? := funext h
  rw [e] <;> rfl
section
variable {fa : List Fa} {xs : List (PySem.W.Frag → Bool)} {fn : List DefD} {K : PySem.W.Frag}
theorem SaysX.b (c : SaysX fa xs fn K) : (((fa.all fun f => f.ok K) && xs.all fun f => f K) && fn.all fun d => d.ok K) = true := congrArg (fun z : AlD => z.1) c
theorem SaysX.fact (c : SaysX fa xs fn K) (i : Nat) {f : Fa} (h : fa[i]? = some f := by rfl) : f.ok K = true :=
  List.all_eq_true.mp (ba (ba c.b).1).1 f (List.mem_of_getElem? h)
theorem SaysX.xact (c : SaysX fa xs fn K) (i : Nat) {f : PySem.W.Frag → Bool} (h : xs[i]? = some f := by rfl) : f K = true :=
  List.all_eq_true.mp (ba (ba c.b).1).2 f (List.mem_of_getElem? h)
theorem SaysX.def_ (c : SaysX fa xs fn K) (i : Nat) {d : DefD} (h : fn[i]? = some d := by rfl) : ∃ fd, FunD K d.name d.qual d.params d.body d.scope (d.dvs K) (d.kws K) (fAd K d.at_) fd := by
  have c2 := (ba c.b).2
  have e : fn.map (fun d => fnW K d.at_) = fn.map DefD.val := congrArg (fun z : AlD => z.2) c
  have e2 : (fn.map fun d => fnW K d.at_)[i]? = (fn.map DefD.val)[i]? := by rw [e]
  rw [List.getElem?_map, List.getElem?_map, h] at e2
  exact DefD.funD (Option.some.inj e2) (List.all_eq_true.mp c2 d (List.mem_of_getElem? h))
end
/-- the text's facts, over the module's names -/
structure Says (fa : List Fa) (xs : List (PySem.W.Frag → Bool)) (fn : List DefD) (K : PySem.W.Frag) (mg : Str → Option Value) : Prop where
  s : SaysX fa xs fn K
  h : ∃ h : Heap, K.In h ∧ h.Ns mainGlobals mg
section
variable {fa : List Fa} {xs : List (PySem.W.Frag → Bool)} {fn : List DefD} {K : PySem.W.Frag} {mg : Str → Option Value}
theorem Says.glo (c : Says fa xs fn K mg) (i : Nat) {x : Str} (h : fa[i]? = some (.glo x) := by rfl) : mg x = some (.ref (ga K x)) := let ⟨_, X, G⟩ := c.h; glo_ok X G (c.s.fact i h)
theorem Says.free (c : Says fa xs fn K mg) (i : Nat) {x : Str} (h : fa[i]? = some (.free x) := by rfl) : mg x = none := let ⟨_, X, G⟩ := c.h; free_ok X G (c.s.fact i h)
theorem Says.int (c : Says fa xs fn K mg) (i : Nat) {x : Str} {z : Int} (h : fa[i]? = some (.int x z) := by rfl) : ∃ t, mg x = some (.int z t) := let ⟨_, X, G⟩ := c.h; int_ok X G (c.s.fact i h)
theorem Says.str (c : Says fa xs fn K mg) (i : Nat) {x z : Str} (h : fa[i]? = some (.str x z) := by rfl) : ∃ t, mg x = some (.str z t) := let ⟨_, X, G⟩ := c.h; str_ok X G (c.s.fact i h)
/-- a pure def of the text -/
theorem Says.cal {P : Program} {w : World} {base : Heap} {α : Type} {A : α → List GP} {pre : α → Prop} {R : α → GP} {N ps : List Str} {k : Nat} {name : Str} (c : Says fa xs fn K mg) (i j : Nat) {d : DefD} (S : FnScope N ps d.scope) (hb : ∀ (kV doc pm : Value) (an : Option Addr) (cdv ct : Value) (us : List Value), us.length = ps.length → bindArgs (PySem.W.fnOf d.name d.qual d.params d.body d.scope .none kV doc pm an cdv ct) ⟨us, []⟩ = pure (ps.zip us)) (hl : ∀ z, (A z).length = ps.length)
    (hbody : ∀ (cdv : Value) (B : Around) (outer : List Env) (s : Shared) (H : Hp) (E : XK) (z : α) (vs : List Vv) (w0 : Wd V0), Room k (B.deeper (envOfC d.qual d.scope s.heap.objs.size (fAd K d.at_) cdv)) → Args (A z) vs w0.G → pre z →
      Go (cxOf CX0 P w K mg base N d.qual d.scope (fAd K d.at_) cdv B outer s H E).nox d.body (start N vs) w0 (RetD R z w0))
    (hi : fn[i]? = some d := by rfl) (hj : fa[j]? = some (.glo name) := by rfl) (hd : d.dfl = [] ∧ d.kwd = [] ∧ d.at_ = (name, none) ∧ d.name = name := by exact ⟨rfl, rfl, rfl, rfl⟩) : Cal P w K mg base name ps.length (k + 1) (Pur A pre R) := by
  obtain ⟨fd, F⟩ := c.s.def_ i hi
  obtain ⟨d1, d2, d3, d4⟩ := hd
  have e1 : d.dvs K = [] := by unfold DefD.dvs; rw [d1]; rfl
  have e2 : d.kws K = [] := by unfold DefD.kws; rw [d2]; rfl
  rw [e1, e2] at F
  have e3 : fAd K d.at_ = ga K name := by rw [d3]; rfl
  have m := c.glo j hj
  rw [← e3] at m
  have F2 := F
  have b : Binds K fd ps [] := F.bindsN hb
  have r := cal_of (P := P) (w := w) (base := base) (A := A) (pre := pre) (R := R) (k := k) F (mg := mg) (by rw [d4]; exact m) S b hl hbody
  rw [d4] at r
  exact r
end
end FW
set_option Elab.async false
set_option linter.all false
set_option maxRecDepth 100000
set_option maxHeartbeats 2000000
/-! FwS: arguments by worlds, parallel stores, owned objects of any kind, dicts with text keys. -/
namespace FW
open PySem PySem.Spec PyProof.Rows L2
section
variable {U : Vol}
/-! ### objects that are one's own -/
structure OwO (w : Wd U) (p : Addr) (o : HO) : Prop where
  g : w.G p = none
  z : ¬ U.Z p
  h : w.H p = some o
theorem Own.o {w : Wd U} {p : Addr} {vs : List Vv} (o : Own w p vs) : OwO w p (.lst vs) := ⟨o.g, o.z, o.h⟩
theorem OwO.l {w : Wd U} {p : Addr} {vs : List Vv} (o : OwO w p (.lst vs)) : Own w p vs := ⟨o.g, o.z, o.h⟩
theorem OwO.mono {w w' : Wd U} {p : Addr} {ob : HO} (o : OwO w p ob) (l : Le w w') : OwO w' p ob := ⟨l.f p o.g (by rw [o.h]; intro z; cases z), o.z, l.h p _ o.z o.h⟩
def Wd.putO (w : Wd U) (p : Addr) {ob : HO} (o : OwO w p ob) (u : HO) : Wd U := ⟨w.G, upd w.H p u, Evl.Ex.mut w.ex o.g, U.away _ _ _ _ o.z o.g w.j⟩
theorem OwO.put {w : Wd U} {p : Addr} {ob u : HO} (o : OwO w p ob) : OwO (w.putO p o u) p u := ⟨o.g, o.z, upd_same⟩
theorem OwO.put_ne {w : Wd U} {p q : Addr} {ob u x : HO} (o : OwO w p ob) (h : OwO w q x) (n : q ≠ p) : OwO (w.putO p o u) q x := ⟨h.g, h.z, by show upd w.H p _ q = _; rw [upd_ne n]; exact h.h⟩
theorem Le.putO {w0 w : Wd U} {p : Addr} {ob u : HO} (l : Le w0 w) (n : w0.H p = none) (o : OwO w p ob) : Le w0 (w.putO p o u) where
  g := l.g
  h := fun a x z e => by
    show upd w.H p _ a = _
    rw [upd_ne (ne_of_none e n)]; exact l.h a x z e
  n := fun a e => by
    show upd w.H p _ a ≠ _
    by_cases q : a = p
    · subst q; exact absurd n e
    · rw [upd_ne q]; exact l.n a e
  f := l.f
def Wd.iceO (w : Wd U) (p : Addr) {ob : HO} (o : OwO w p ob) : Wd U := ⟨upd w.G p ob, w.H, fun a x e => by
  by_cases q : a = p
  · subst q; rw [upd_same] at e; rw [← e]; exact o.h
  · rw [upd_ne q] at e; exact w.ex a x e, U.frz _ _ _ _ o.z o.h w.j⟩
theorem Le.iceO {w0 w : Wd U} {p : Addr} {ob : HO} (l : Le w0 w) (n : w0.H p = none) (o : OwO w p ob) : Le w0 (w.iceO p o) where
  g := fun a x e => by
    show upd w.G p _ a = _
    by_cases q : a = p
    · subst q; have h := w0.ex a x e; rw [n] at h; cases h
    · rw [upd_ne q]; exact l.g a x e
  h := l.h
  n := l.n
  f := fun a ha hn => by
    show upd w.G p _ a = _
    by_cases q : a = p
    · subst q; exact absurd n hn
    · rw [upd_ne q]; exact l.f a ha hn
theorem iceO_ex {w : Wd U} {p : Addr} {ob : HO} (o : OwO w p ob) : Ex w.G (w.iceO p o).G := Evl.Ex.new o.g
theorem iceO_at {w : Wd U} {p : Addr} {ob : HO} (o : OwO w p ob) : (w.iceO p o).G p = some ob := upd_same
theorem OwO.ice_ne {w : Wd U} {p q : Addr} {ob x : HO} (o : OwO w p ob) (h : OwO w q x) (n : q ≠ p) : OwO (w.iceO p o) q x := ⟨by show upd w.G p _ q = none; rw [upd_ne n]; exact h.g, h.z, h.h⟩
theorem owo_new {w1 : Wd U} {p : Addr} {o : HO} (h : w1.H p = none) : OwO (w1.grow (gr_newH w1.ex (o := o) h).2.1 (gr_newH w1.ex (o := o) h).1) p o :=
  ⟨(gr_newH w1.ex (o := o) h).2.2, fresh_z h, upd_same⟩
theorem owo_ne {w : Wd U} {p q : Addr} {ob : HO} (h : OwO w p ob) (n : w.H q = none) : p ≠ q := fun e => by
  subst e; rw [h.h] at n; cases n
/-! ### arguments with predicates of the world -/
def EvP (ta : TA) (σ : Sg) (w : Wd U) (R : List Vv → Wd U → Prop) : Prop := ∀ w1, Le w w1 → ∀ Q : List Vv → Hp → Prop, (∀ vs w2, Le w1 w2 → R vs w2 → Q vs w2.H) → ta σ w1.H Q
abbrev CP (X : Cx) (es : List Expr) (σ : Sg) (w : Wd U) (R : List Vv → Wd U → Prop) : Prop := EvP (eA X es) σ w R
/-- a new list, new over w0 -/
def Nw (K : PySem.W.Frag) (w0 : Wd U) (ds : List PyData) : Vv → Wd U → Prop := fun v w2 => ∃ p vs, v = .ref p ∧ w0.H p = none ∧ Own w2 p vs ∧ DpAll K w2.G vs ds
section
variable {X : Cx} {e a b c : Expr} {es : List Expr} {rest body : List Stmt} {σ : Sg} {w w' : Wd U} {P P' : GP} {Ps : List GP} {D : En U} {pos p apos : Pos} {ds : List PyData}
theorem cp_nil {R : List Vv → Wd U → Prop} (h : ∀ w', Le w w' → R [] w') : CP X [] σ w R := fun w1 l Q q => a_of pa_nil (q [] w1 (Le.refl _) (h _ l))
theorem cp_cons {R1 : Vv → Wd U → Prop} {R : List Vv → Wd U → Prop} (h : CW X e σ w R1) (k : ∀ v w2, Le w w2 → R1 v w2 → CP X es σ w2 fun vs w3 => R (v :: vs) w3) (hs : starEach (e :: es) X.env = (false, eval e X.env) :: starEach es X.env := by rfl) : CP X (e :: es) σ w R := fun w1 l Q q =>
  a_of (pa_cons pe_can pa_can hs) (h w1 l _ fun v w2 l2 r => k v w2 (l.trans l2) r w2 (Le.refl _) _ fun vs w3 l3 r3 => q _ w3 (l2.trans l3) r3)
theorem CN.cw (h : CN X e σ w ds) : CW X e σ w (Nw X.K w ds) := fun w1 l Q q => h w1 l Q fun p vs w2 l2 n o d => q _ w2 l2 ⟨p, vs, rfl, l.new n, o, d⟩
theorem CE.cw (h : CE X e σ w P) : CW X e σ w fun v w2 => P v w2.G := h
theorem CP.mono {R : List Vv → Wd U → Prop} (h : CP X es σ w R) (l : Le w w') : CP X es σ w' R := fun w1 l1 Q q => h w1 (l.trans l1) Q q
/-- x, y = a, b; x, y, z = a, b, c -/
theorem go_par2 {i j : Nat} {x y : Str} {px py pt : Pos} {kt k2 : Nat} {pt2 : Pos} {R : List Vv → Wd U → Prop} (h : CP X [a, b] σ w R) (k : ∀ u v w', Le w w' → R [u, v] w' → Go X rest ((σ.set i (some u)).set j (some v)) w' D)
    (hR : ∀ vs w', R vs w' → ∃ u v, vs = [u, v]) (hc : X.calm = true) (hN : X.N.Nodup) (hi : X.N[i]? = some x := by rfl) (hj : X.N[j]? = some y := by rfl) (hij : i ≠ j := by decide)
    (hx : X.env.scope.names.lookup x = some .local := by rfl) (hy : X.env.scope.names.lookup y = some .local := by rfl)
    (hw : swappedStores [.Tuple [.Name x px, .Name y py] kt pt] (.Tuple [a, b] k2 pt2) X.env = pure (some [x, y]) := by rfl)
    (hs : swapsWithSole [.Tuple [.Name x px, .Name y py] kt pt] (.Tuple [a, b] k2 pt2) pos.line X.env = pure false := by rfl) :
    Go X (.Assign [.Tuple [.Name x px, .Name y py] kt pt] (.Tuple [a, b] k2 pt2) pos :: rest) σ w D :=
  s_of (pss_cons (ps_par hc hN hi hj hij hx hy pa_can hw hs) pss_can) (h w (Le.refl _) _ fun vs w2 l r => by
    obtain ⟨u, v, rfl⟩ := hR _ _ r
    exact ⟨u, v, rfl, k u v w2 l r⟩)
theorem go_par3 {i j l : Nat} {x y z : Str} {px py pz pt : Pos} {kt k2 : Nat} {pt2 : Pos} {R : List Vv → Wd U → Prop} (h : CP X [a, b, c] σ w R) (k : ∀ u v t w', Le w w' → R [u, v, t] w' → Go X rest (((σ.set i (some u)).set j (some v)).set l (some t)) w' D)
    (hR : ∀ vs w', R vs w' → ∃ u v t, vs = [u, v, t]) (hc : X.calm = true) (hN : X.N.Nodup) (hi : X.N[i]? = some x := by rfl) (hj : X.N[j]? = some y := by rfl) (hl : X.N[l]? = some z := by rfl) (hij : i ≠ j := by decide) (hil : i ≠ l := by decide) (hjl : j ≠ l := by decide)
    (hx : X.env.scope.names.lookup x = some .local := by rfl) (hy : X.env.scope.names.lookup y = some .local := by rfl) (hz : X.env.scope.names.lookup z = some .local := by rfl)
    (hw : swappedStores [.Tuple [.Name x px, .Name y py, .Name z pz] kt pt] (.Tuple [a, b, c] k2 pt2) X.env = pure (some [x, y, z]) := by rfl)
    (hs : swapsWithSole [.Tuple [.Name x px, .Name y py, .Name z pz] kt pt] (.Tuple [a, b, c] k2 pt2) pos.line X.env = pure false := by rfl) :
    Go X (.Assign [.Tuple [.Name x px, .Name y py, .Name z pz] kt pt] (.Tuple [a, b, c] k2 pt2) pos :: rest) σ w D :=
  s_of (pss_cons (ps_par3 hc hN hi hj hl hij hil hjl hx hy hz pa_can hw hs) pss_can) (h w (Le.refl _) _ fun vs w2 l r => by
    obtain ⟨u, v, t, rfl⟩ := hR _ _ r
    exact ⟨u, v, t, rfl, k u v t w2 l r⟩)
/-- w, x, y, z = four values: by a tuple that is built and unpacked -/
theorem go_par4 {i j l m : Nat} {x y z t : Str} {px py pz pq pt : Pos} {kt k2 : Nat} {pt2 : Pos} {d : Expr} {R : List Vv → Wd U → Prop} (h : CP X [a, b, c, d] σ w R) (k : ∀ u1 u2 u3 u4 w', Le w w' → R [u1, u2, u3, u4] w' → ∀ w'', Le w' w'' → Go X rest ((((σ.set i (some u1)).set j (some u2)).set l (some u3)).set m (some u4)) w'' D)
    (hR : ∀ vs w', R vs w' → ∃ u1 u2 u3 u4, vs = [u1, u2, u3, u4]) (hc : X.calm = true) (hN : X.N.Nodup) (hi : X.N[i]? = some x := by rfl) (hj : X.N[j]? = some y := by rfl) (hl : X.N[l]? = some z := by rfl) (hm : X.N[m]? = some t := by rfl)
    (hx : Loc X.env.scope x := by first | exact Or.inl rfl | exact Or.inr rfl) (hy : Loc X.env.scope y := by first | exact Or.inl rfl | exact Or.inr rfl) (hz : Loc X.env.scope z := by first | exact Or.inl rfl | exact Or.inr rfl) (ht : Loc X.env.scope t := by first | exact Or.inl rfl | exact Or.inr rfl)
    (hfx : X.fn x = true ∨ X.env.scope.names.lookup x = some .local := by first | exact .inl rfl | exact .inr rfl) (hfy : X.fn y = true ∨ X.env.scope.names.lookup y = some .local := by first | exact .inl rfl | exact .inr rfl)
    (hfz : X.fn z = true ∨ X.env.scope.names.lookup z = some .local := by first | exact .inl rfl | exact .inr rfl) (hft : X.fn t = true ∨ X.env.scope.names.lookup t = some .local := by first | exact .inl rfl | exact .inr rfl)
    (hs : swapsWithSole [.Tuple [.Name x px, .Name y py, .Name z pz, .Name t pq] kt pt] (.Tuple [a, b, c, d] k2 pt2) pos.line X.env = pure false := by rfl) (hw : swappedStores [.Tuple [.Name x px, .Name y py, .Name z pz, .Name t pq] kt pt] (.Tuple [a, b, c, d] k2 pt2) X.env = pure none := by rfl)
    (h1 : (assignEach [.Tuple [.Name x px, .Name y py, .Name z pz, .Name t pq] kt pt] X.env).map (·.2) = [assign (.Tuple [.Name x px, .Name y py, .Name z pz, .Name t pq] kt pt) X.env] := by rfl)
    (hn : (assignEach [.Name x px, .Name y py, .Name z pz, .Name t pq] X.env).length = 4 := by rfl) (hst : (assignEach [.Name x px, .Name y py, .Name z pz, .Name t pq] X.env).findIdx? (·.1) = none := by rfl)
    (hp1 : (assignEach [.Name x px, .Name y py, .Name z pz, .Name t pq] X.env).map (·.2) = assign (.Name x px) X.env :: (assignEach [.Name y py, .Name z pz, .Name t pq] X.env).map (·.2) := by rfl)
    (hp2 : (assignEach [.Name y py, .Name z pz, .Name t pq] X.env).map (·.2) = assign (.Name y py) X.env :: (assignEach [.Name z pz, .Name t pq] X.env).map (·.2) := by rfl)
    (hp3 : (assignEach [.Name z pz, .Name t pq] X.env).map (·.2) = assign (.Name z pz) X.env :: (assignEach [.Name t pq] X.env).map (·.2) := by rfl) (hp4 : (assignEach [.Name t pq] X.env).map (·.2) = assign (.Name t pq) X.env :: (assignEach [] X.env).map (·.2) := by rfl) :
    Go X (.Assign [.Tuple [.Name x px, .Name y py, .Name z pz, .Name t pq] kt pt] (.Tuple [a, b, c, d] k2 pt2) pos :: rest) σ w D :=
  s_of (pss_cons (ps_asg (pe_tup pa_can) (pg_tup hc (pgs_cons (pg_name hN hi hx hfx) (pgs_cons (pg_name hN hj hy hfy) (pgs_cons (pg_name hN hl hz hfz) (pgs_cons (pg_name hN hm ht hft) pgs_nil hp4) hp3) hp2) hp1) hn hst) hs hw h1) pss_can) (h w (Le.refl _) _ fun vs w2 l2 r => by
    obtain ⟨u1, u2, u3, u4, rfl⟩ := hR _ _ r
    refine ⟨by show 4 ≤ sizeLine; exact line_of (by decide), fun p hp => ?_⟩
    have g := gr_newH w2.ex (o := .tup [u1, u2, u3, u4]) hp
    exact ⟨p, _, rfl, .inl (.inl upd_same), rfl, _, _, rfl, _, _, rfl, _, _, rfl, _, _, rfl, rfl, k u1 u2 u3 u4 w2 l2 r (w2.grow g.2.1 g.1) (Gr.le g.1)⟩)
/-! ### dicts with text keys -/
abbrev tk (l : List Nat) : Key := Sum.inr (S l)
/-- a dict operand -/
def Dq (kvs : List (Key × Vv)) : Vv → Wd U → Prop := fun v w => ∃ a, v = .ref a ∧ ∀ w', Le w w' → w'.H a = some (.dK kvs)
/-- a frozen dict -/
def Fd (kvs : List (Key × Vv)) : GP := fun v G => ∃ a, v = .ref a ∧ G a = some (.dK kvs)
instance {kvs : List (Key × Vv)} : MonoG (Fd kvs) := ⟨fun _ _ _ e ⟨a, h1, h2⟩ => ⟨a, h1, e a _ h2⟩⟩
theorem CE.dq {kvs : List (Key × Vv)} (h : CE X e σ w (Fd kvs)) : CW X e σ w (Dq kvs) := fun w1 l Q q => h w1 l Q fun v w2 l2 ⟨a, h1, h2⟩ => q v w2 l2 ⟨a, h1, fun w' l' => w'.ex _ _ (l'.g a _ h2)⟩
theorem dq_own (i : Nat) {x : Str} {q : Addr} {kvs : List (Key × Vv)} (o : OwO w q (.dK kvs)) (hσ : σ[i]? = some (some (.ref q)) := by rfl) (hN : X.N[i]? = some x := by rfl) (hv : Vis X.env.scope x := by first | exact Or.inl rfl | exact Or.inr (Or.inl rfl) | exact Or.inr (Or.inr rfl)) (hd : (x == ("__debug__" : Str)) = false := by decide)
    (hcd : (x == ("__classdict__" : Str)) = false := by decide) : CW X (.Name x pos) σ w (Dq kvs) :=
  cw_var i hσ (fun w' l => ⟨q, rfl, fun w2 l2 => (o.mono (l.trans l2)).h⟩) hN hv hd hcd
theorem ce_dget {kvs : List (Key × Vv)} {l : List Nat} {v : Vv} (hu : X.A.units + 1 < cLine) (ho : CW X a σ w (Dq kvs)) (hi : CE X b σ w (T l)) (hv : valV kvs (tk l) = some v) (hp : ∀ w', Le w w' → P v w'.G) (hs : NoSl b := by intro _ _; rfl) : CE X (.Subscript a b pos) σ w P :=
  ce_lift (pe_dget hu pe_can pe_can hs) fun w1 l1 Q q => ho w1 l1 _ fun x w2 l2 ⟨d, ed, hd⟩ => hi w2 (l1.trans l2) _ fun y w3 l3 hy => by
    have hy : y = _ := hy
    subst ed hy
    refine ⟨d, v, rfl, ?_, q v w3 (l2.trans l3) (hp _ ((l1.trans l2).trans l3))⟩
    rw [← hv]
    exact DGet.k (k := tk l) (hd _ l3)
theorem ct_din {kvs : List (Key × Vv)} {l : List Nat} (hu : X.A.units + 1 < cLine) (hi : CE X a σ w (T l)) (ho : CW X b σ w (Dq kvs)) (hm : behindInMarks .In b = false := by rfl) : CT X (.Compare a [.In] [b] pos) σ w (valV kvs (tk l)).isSome :=
  ct_lift (pt_cmp (pc_din hu pe_can pe_can) hm) fun w1 l1 Q q => hi w1 l1 _ fun y w2 l2 hy => ho w2 (l1.trans l2) _ fun x w3 l3 ⟨d, ed, hd⟩ => by
    have hy : y = _ := hy
    subst ed hy
    exact ⟨d, _, rfl, DGet.k (k := tk l) (hd _ (Le.refl _)), _, rfl, q w3 (l2.trans l3)⟩
theorem ct_dnotin {kvs : List (Key × Vv)} {l : List Nat} (hu : X.A.units + 1 < cLine) (hi : CE X a σ w (T l)) (ho : CW X b σ w (Dq kvs)) (hm : behindInMarks .NotIn b = false := by rfl) : CT X (.Compare a [.NotIn] [b] pos) σ w (!(valV kvs (tk l)).isSome) :=
  ct_lift (pt_cmp (pc_dnotin hu pe_can pe_can) hm) fun w1 l1 Q q => hi w1 l1 _ fun y w2 l2 hy => ho w2 (l1.trans l2) _ fun x w3 l3 ⟨d, ed, hd⟩ => by
    have hy : y = _ := hy
    subst ed hy
    exact ⟨d, _, rfl, DGet.k (k := tk l) (hd _ (Le.refl _)), _, rfl, q w3 (l2.trans l3)⟩
/-- d[key] = value, d one's own -/
theorem go_dput (i : Nat) {x : Str} {p1 : Pos} {q : Addr} {kvs : List (Key × Vv)} {l : List Nat} (hu : X.A.units + 1 < cLine) (o : OwO w q (.dK kvs)) (hv : CE X a σ w P) (hk : CE X b σ w (T l)) (hz : kvs.length ≤ 1000000) [m : MonoG P]
    (k : ∀ v w' (l' : Le w w') (o' : OwO w' q (.dK kvs)), P v w'.G → Go X rest σ (w'.putO q o' (.dK (putK kvs (tk l) v))) D)
    (hσ : σ[i]? = some (some (.ref q)) := by rfl) (hN : X.N[i]? = some x := by rfl) (hvi : Vis X.env.scope x := by first | exact Or.inl rfl | exact Or.inr (Or.inl rfl) | exact Or.inr (Or.inr rfl)) (hd : (x == ("__debug__" : Str)) = false := by decide) (hcd : (x == ("__classdict__" : Str)) = false := by decide)
    (hsw : swapsWith a (some (.Subscript (.Name x p1) b pos)) p.line X.env = pure false := by rfl) :
    Go X (.Assign [.Subscript (.Name x p1) b pos] a p :: rest) σ w D :=
  s_of (pss_cons (ps_dput hu (pe_var hN hvi hd hcd) pe_can pe_can hsw) pss_can) (hv w (Le.refl _) _ fun v w2 l2 pv => ⟨_, hσ, hk w2 l2 _ fun y w3 l3 hy => by
    have hy : y = _ := hy
    subst hy
    have o3 := o.mono (l2.trans l3)
    exact ⟨q, _, rfl, DPut.k (k := tk l) o3.h (line_lt hz), k v w3 (l2.trans l3) o3 (m.mono _ _ _ l3.g pv)⟩⟩)
/-- a new object that is one's own -/
def NwO (w0 : Wd U) (R : HO → Wd U → Prop) : Vv → Wd U → Prop := fun v w2 => ∃ p ob, v = .ref p ∧ w0.H p = none ∧ OwO w2 p ob ∧ R ob w2
/-- {} -/
theorem cw_dnew : CW X (.Dict [] [] pos) σ w (NwO w fun ob _ => ob = .dK []) :=
  cw_lift pe_dnewK fun w1 l Q q => fun p hp => q _ (w1.grow (gr_newH w1.ex (o := .dK []) hp).2.1 (gr_newH w1.ex (o := .dK []) hp).1) (Gr.le (gr_newH w1.ex hp).1) ⟨p, _, rfl, l.new hp, owo_new hp, rfl⟩
/-- {key: value} -/
theorem cw_disp1 {l : List Nat} {v : Vv} (hk : CE X a σ w (T l)) (hv : CE X b σ w (Is v)) : CW X (.Dict [some a] [b] pos) σ w (NwO w fun ob _ => ob = .dK [(tk l, v)]) :=
  cw_lift (pe_disp (pps_cons pe_can pe_can pps_nil) rfl rfl (by simp) (Nat.le_of_ble_eq_true rfl)) fun w1 l1 Q q => fun p hp => by
    have g := gr_newH w1.ex (o := .dK []) hp
    refine hk (w1.grow g.2.1 g.1) (l1.trans (Gr.le g.1)) _ fun x w2 l2 hx => hv w2 ((l1.trans (Gr.le g.1)).trans l2) _ fun y w3 l3 hy => ?_
    have hx : x = _ := hx
    have hy : y = _ := hy
    subst hx hy
    have o3 := (owo_new (o := .dK []) hp).mono (l2.trans l3)
    refine ⟨o3.h, [(tk l, y)], rfl, Nat.le_of_ble_eq_true rfl, ?_⟩
    exact q _ (w3.putO p o3 _) (Le.putO (((Gr.le g.1).trans l2).trans l3) hp o3) ⟨p, _, rfl, l1.new hp, o3.put, rfl⟩
theorem go_setO {i : Nat} {x : Str} {pos' : Pos} {R : HO → Wd U → Prop} (he : CW X e σ w (NwO w R)) (k : ∀ q ob w', Le w w' → w.H q = none → OwO w' q ob → R ob w' → Go X rest (σ.set i (some (.ref q))) w' D) (hN : X.N.Nodup) (hi : X.N[i]? = some x := by rfl) (hx : Loc X.env.scope x := by first | exact Or.inl rfl | exact Or.inr rfl) (hs : swapsWith e (some (.Name x pos')) pos.line X.env = pure false := by rfl)
    (hf : X.fn x = true ∨ X.env.scope.names.lookup x = some .local := by first | exact .inl rfl | exact .inr rfl) : Go X (.Assign [.Name x pos'] e pos :: rest) σ w D :=
  go_setW he (fun v w' l r => by
    obtain ⟨q, ob, rfl, n, o, r⟩ := r
    exact k q ob w' l n o r) hN hi hx hs hf
end
end
end FW
set_option Elab.async false
set_option linter.all false
set_option maxRecDepth 100000
set_option maxHeartbeats 2000000
/-! FwQ: sorted, min, list and tuple of lists and texts. -/
namespace FW
open PySem PySem.Spec PyProof.Rows L2
open PySem.W (EachIs AllAlike Sortable dataLe dataLt alike minD)
def srtD (ds : List PyData) : List PyData := ds.mergeSort (dataLe false id)
theorem srtD_perm (ds : List PyData) : (srtD ds).Perm ds := List.mergeSort_perm _ _
theorem vals_each : ∀ {vs : List Vv} {us : List Value} {ds : List PyData}, Vals vs us → vs.length = ds.length → EachIs (fun (u : Value) (b : Vv × PyData) => RelV b.1 u) us (vs.zip ds)
  | _, _, [], .nil, _ => .nil
  | _, _, d :: ds, .cons h t, e => .cons h (vals_each t (Nat.succ.inj e))
theorem each_vals : ∀ {us : List Value} {bs : List (Vv × PyData)}, EachIs (fun (u : Value) (b : Vv × PyData) => RelV b.1 u) us bs → Vals (bs.map (·.1)) us
  | _, _, .nil => .nil
  | _, _, .cons h t => .cons h (each_vals t)
theorem zip_snd : ∀ {vs : List Vv} {ds : List PyData}, vs.length = ds.length → (vs.zip ds).map (·.2) = ds
  | [], [], _ => rfl
  | _ :: vs, d :: ds, e => congrArg (d :: ·) (zip_snd (Nat.succ.inj e))
theorem each_reads {X : Cx} {pins : List (Addr × Obj)} {σ : Sg} {H : Hp} {s : Shared} (I : Inv X pins σ H s) : ∀ {vs : List Vv} {us : List Value} {ds : List PyData}, Vals vs us → DpAll X.K H vs ds → EachIs (fun (u : Value) (b : Vv × PyData) => ∃ as, Reads s.heap u b.2 as) us (vs.zip ds)
  | _, _, _, .nil, .nil => .nil
  | _, _, _, .cons r rs, .cons h hs => .cons (Dp.reads I _ _ _ h r) (each_reads I rs hs)
theorem dpa_of {K : PySem.W.Frag} {H : Hp} : ∀ {bs : List (Vv × PyData)}, (∀ b ∈ bs, Dp K H b.1 b.2) → DpAll K H (bs.map (·.1)) (bs.map (·.2))
  | [], _ => .nil
  | b :: bs, h => .cons (h b (List.mem_cons_self ..)) (dpa_of fun c hc => h c (List.mem_cons_of_mem _ hc))
theorem dpa_zip {K : PySem.W.Frag} {H : Hp} : ∀ {vs : List Vv} {ds : List PyData}, DpAll K H vs ds → ∀ b ∈ vs.zip ds, Dp K H b.1 b.2
  | _, _, .nil, b, hb => by cases hb
  | _, _, .cons h t, b, hb => by
    rcases List.mem_cons.mp hb with rfl | hb
    · exact h
    · exact dpa_zip t b hb
theorem srt_split {K : PySem.W.Frag} {H : Hp} {vs : List Vv} {ds : List PyData} (hd : DpAll K H vs ds) : DpAll K H (((vs.zip ds).mergeSort (dataLe false (·.2))).map (·.1)) (srtD ds) := by
  have e : ((vs.zip ds).mergeSort (dataLe false (·.2))).map (·.2) = srtD ds := by
    unfold srtD
    refine (List.map_mergeSort (r := dataLe false fun b : Vv × PyData => b.2) (f := fun b : Vv × PyData => b.2) (s := dataLe false id) (fun a _ b _ => rfl)).trans ?_
    rw [zip_snd (dpa_len hd)]
  rw [← e]
  exact dpa_of fun b hb => dpa_zip hd b ((List.mergeSort_perm _ _).mem_iff.mp hb)
/-- sorted(a list of data) -/
def rSrt (K : PySem.W.Frag) : List Vv → Hp → VK → Prop := fun xs H Q => ∃ a vs ds, xs = [.ref a] ∧ SqL K H a vs ∧ DpAll K H vs ds ∧ AllAlike ds ∧ Sortable ds ∧ ds.length ≤ sizeLine ∧ (∀ d ∈ ds, d.depth ≤ 32) ∧ ∀ p us, H p = none → (∀ G, DpAll K G vs ds → DpAll K G us (srtD ds)) → Q (.ref p) (upd H p (.lst us))
theorem cr_srt {X : Cx} (hu : X.A.units + 64 < cLine) : CallR X (.builtin "sorted") (rSrt X.K) := by
  intro pins s σ H vs us Q I r h
  obtain ⟨a, xs, ds, rfl, hs, hd, hal, hk, hl, hdep, q⟩ := h
  obtain ⟨its, rv, hp, _⟩ := I.list hs
  rw [Vals.ref1 r]
  have hlen := dpa_len hd
  have e2 : (xs.zip ds).map (·.2) = ds := zip_snd hlen
  have hzl : (xs.zip ds).length = ds.length := by rw [List.length_zip, hlen, Nat.min_self]
  refine PySem.W.sorted_data (bs := xs.zip ds) (enc := (·.2)) (R := fun u b => RelV b.1 u) hp.isList (vals_each rv hlen) (each_reads I rv hd) (by rw [e2]; exact hal) (by rw [e2]; exact hk) (by rw [hzl]; exact hl) (fun b hb => ?_) fun out h1 h2 => ?_
  · have := hdep b.2 (by rw [← e2]; exact List.mem_map.mpr ⟨b, hb, rfl⟩)
    omega
  · obtain ⟨ep, he'⟩ := PyProof.Rows.sortedAll_at s.heap its out.toArray
    have hv := each_vals h2
    have hout : (((xs.zip ds).mergeSort (dataLe false (·.2))).map (·.1)).length ≤ sizeLine := by rw [List.length_map, List.length_mergeSort, hzl]; exact hl
    exact ⟨.ref _, upd H (s.heap.objs.size + 1) (.lst _), I.laid (t' := s.toks) (fun _ _ => PyProof.Rows.sortedAll_old) (Nat.le_succ _) ⟨hout, out, ep, hv, he'⟩, rfl, q _ _ (I.hok.fresh (Nat.le_succ _)) (fun _ hG => srt_split hG)⟩
/-- what list.extend of an iterable does -/
def Ext (prog : Program) (w : World) (A : Around) (s : Shared) (v : Value) (P : Nat → Value → Prop) (n : Nat) : Prop :=
  ∀ (R : Result → Shared → Prop) (s1 : Shared) (S : Addr) (res : Value) (c : Nat), s1 = { s with heap := s.heap.push { cls := .type "list", data := .seq #[] } } → S = s.heap.objs.size → s1.heap.get? S = some { cls := .type "list", data := .seq #[] c } →
    (∀ h' tk acc' c', (∀ b o, b ≠ S → s1.heap.get? b = some o → h'.get? b = some o) → h'.get? S = some { cls := .type "list", dict := none, data := .seq acc' c', slots := #[] } → ItemsOf P acc' n → R (.ok (.ret res)) { s1 with heap := h', toks := tk }) →
    wpAny (model prog w) A.in1 (Builtin.List.listExtendWith (.ref S) v res) (fun fin s' => match fin with | .done f => R (.ok f) s' | .again c' => c'.quiet = true ∧ codeAny (model prog w) A c' R s') (fun e s' => R (.error e) s') s1
theorem collect_by {prog : Program} {w : World} {A : Around} {E : Value → Shared → Prop} {s : Shared} {v : Value} {P : Nat → Value → Prop} {n : Nat} {R : List Value → Shared → Prop} (X : Ext prog w A s v P n)
    (h : ∀ (h' : Heap) (tk : Nat) (acc : Array Value), (∀ b o, s.heap.get? b = some o → h'.get? b = some o) → s.heap.objs.size ≤ h'.objs.size → ItemsOf P acc n → R acc.toList { s with heap := h', toks := tk }) :
    wpAny (model prog w) A (collect v) R E s := by
  unfold collect
  refine wpAny_bind (wpAny_runValue (codeAny_builtin PyProof.Rows.entry_proto_collect' ?_))
  rw [Around.under_plainId PySem.F.plain_proto_collect _]
  show wpAny _ A.in1 (newList [] >>= fun l => again (.builtin "list.__iadd__" ⟨[l, v], []⟩)) _ _ s
  refine wpAny_bind (wpAny_newObj_type ?_)
  refine wpAny_pure ⟨plainId_quiet PySem.F.plain_list_iadd _, codeAny_builtin PyProof.Rows.entry_list_iadd' ?_⟩
  rw [Around.under_plainId PySem.F.plain_list_iadd _]
  have hS₁ : (s.heap.push { cls := .type "list", data := .seq ([] : List Value).toArray }).get? s.heap.objs.size = some { cls := .type "list", data := .seq #[] } := Heap.get?_push_size _ rfl
  show wpAny _ A.in1 (Builtin.List.listExtendWith (.ref s.heap.objs.size) v (.ref s.heap.objs.size)) _ _ _
  have key := X (fun (q : Result) (s' : Shared) => ∃ (h' : Heap) (tk : Nat) (acc' : Array Value) (c' : Nat), q = .ok (.ret (.ref s.heap.objs.size)) ∧ s' = { s with heap := h', toks := tk } ∧
      (∀ b o, s.heap.get? b = some o → h'.get? b = some o) ∧ h'.get? s.heap.objs.size = some { cls := .type "list", dict := none, data := .seq acc' c', slots := #[] } ∧ ItemsOf P acc' n)
    _ s.heap.objs.size (.ref s.heap.objs.size) 0 rfl rfl hS₁
    (fun h' tk acc' c' hk hS' hacc => ⟨h', tk, acc', c', rfl, rfl, fun b o e => hk b o (Nat.ne_of_lt (Heap.lt_size e)) (Heap.get?_push_of_some _ e), hS', hacc⟩)
  refine wpAny_mono key (fun fin s' x => ?_) fun e s' x => ?_
  · cases fin with
    | done f =>
      obtain ⟨h', tk, acc', c', e, rfl, hk, hS', hacc⟩ := x
      cases e
      show wpAny _ A (load s.heap.objs.size >>= _) _ _ _
      refine wpAny_bind (wpAny_load hS' ?_)
      exact wpAny_pure (h h' tk acc' hk (Nat.le_of_lt (Heap.lt_size hS')) hacc)
    | again c₁ =>
      refine ⟨x.1, codeAny_mono x.2 fun q s₂ y => ?_⟩
      obtain ⟨h', tk, acc', c', rfl, rfl, hk, hS', hacc⟩ := y
      show wpAny _ A (load s.heap.objs.size >>= _) _ _ _
      refine wpAny_bind (wpAny_load hS' ?_)
      exact wpAny_pure (h h' tk acc' hk (Nat.le_of_lt (Heap.lt_size hS')) hacc)
  · obtain ⟨_, _, _, _, e', _⟩ := x
    cases e'
theorem sorted_by {prog : Program} {w : World} {A : Around} {E : Value → Shared → Prop} {s : Shared} {v : Value} {β : Type} {bs : List β} {enc : β → PyData} {R : Value → β → Prop} {Q : Value → Shared → Prop} {P : Nat → Value → Prop}
    (X : Ext prog w A.in1 s v P bs.length) (e : ∀ vs, ItemsOf P vs bs.length → EachIs R vs.toList bs) (er : ∀ h vs, ItemsOf P vs bs.length → EachIs (fun v b => Reads h v (enc b) []) vs.toList bs)
    (hal : AllAlike (bs.map enc)) (hk : Sortable (bs.map enc)) (hL : bs.length ≤ sizeLine) (hu : ∀ b, b ∈ bs → A.units + 2 + (enc b).depth < cLine)
    (h : ∀ p h' tk out c, (∀ b o, s.heap.get? b = some o → h'.get? b = some o) → s.heap.objs.size ≤ p → h'.get? p = some (seqObj "list" (List.toArray out) c) → out.length = bs.length → EachIs R out (bs.mergeSort (dataLe false enc)) → Q (.ref p) { s with heap := h', toks := tk }) :
    wpAny (model prog w) A (call (.builtin "sorted") [v]) Q E s := by
  refine Calls.call_function_entry kind_sorted plain_sorted entry_sorted (args_sorted1 _) ?_
  unfold Builtin.«sorted»
  refine wpAny_bind (m := checkCount "sorted" 1 1 _) (wpAny_pure ?_)
  refine wpAny_bind (collect_by X fun h' tk vs hkeep hsz hc => ?_)
  have e1 := e vs hc
  have hlen : vs.toList.length ≤ sizeLine := by rw [e1.length]; exact hL
  refine wpAny_bind (wpAny_newList ?_ hlen)
  have ho : (h'.push (seqObj "list" vs.toList.toArray 0)).get? h'.objs.size = some (seqObj "list" vs.toList.toArray 0) := Heap.get?_push_size _ rfl
  refine wpAny_bind (wpAny_holding (PySem.W.list_sort_data (bs := bs) (enc := enc) (R := R) ho e1 ?_ hal hk hL ?_ fun out h1 h2 => ?_))
  · exact (er _ vs hc).mono fun u b r => ⟨[], r, by simp⟩
  · intro b hb
    have := hu b hb
    show A.units + 1 + 1 + _ < _
    omega
  · obtain ⟨c, hc'⟩ := PyProof.Rows.sortedHeap_at (out := out.toArray) ho
    refine wpAny_pure ⟨_, rfl, ?_⟩
    exact h h'.objs.size _ tk out c (fun b o q => by
      have q' := hkeep b o q
      have hb := Heap.lt_size q'
      rw [PyProof.Rows.sortedHeap_old (Nat.ne_of_lt hb) (by rw [Heap.size_push]; exact Nat.lt_succ_of_lt hb)]
      exact Heap.get?_push_of_some _ q') hsz hc' h1 h2

theorem each_items {β : Type} {R : Value → β → Prop} : ∀ {us : List Value} {bs : List β}, us.length = bs.length → (∀ (j : Nat) (v : Value), us[j]? = some v → ∃ b : β, bs[j]? = some b ∧ R v b) → EachIs R us bs
  | [], [], _, _ => .nil
  | u :: us, b :: bs, e, h => by
    obtain ⟨b', h1, h2⟩ := h 0 u rfl
    have e1 : b = b' := Option.some.inj h1
    subst e1
    exact .cons h2 (each_items (Nat.succ.inj e) fun j v q => h (j + 1) v q)
def sgR (v : Value) (c : Nat) : Prop := ∃ t, v = .str (S [c]) t
theorem each_sg {l : List Nat} {acc : Array Value} {n : Nat} (h : ItemsOf (SignAt (S l)) acc n) (hn : n = l.length) : EachIs sgR acc.toList l := by
  subst hn
  refine each_items (by rw [Array.length_toList]; exact h.1) fun j v e => ?_
  obtain ⟨c, u, h1, h2⟩ := h.2 j v (by rw [← Array.getElem?_toList]; exact e)
  exact ⟨c, by simpa [S] using h1, u, h2⟩
theorem sg_vals : ∀ {us : List Value} {l : List Nat}, EachIs sgR us l → Vals (l.map fun c => V.str (S [c])) us
  | _, _, .nil => .nil
  | _, _, .cons ⟨t, e⟩ r => .cons ⟨t, e⟩ (sg_vals r)
theorem sg_dpa1 {K : PySem.W.Frag} {H : Hp} : ∀ (l : List Nat), DpAll K H (l.map fun c => V.str (S [c])) (l.map fun c => strD [c])
  | [] => .nil
  | _ :: r => .cons (.str _) (sg_dpa1 r)
def srtT (l : List Nat) : List Nat := l.mergeSort (dataLe false fun c => strD [c])
theorem srtT_perm (l : List Nat) : (srtT l).Perm l := List.mergeSort_perm _ _
theorem alike_str (a b : Str) : alike (.str a) (.str b) = true := by simp [alike]
theorem depth_str (a : Str) : (PyData.str a).depth = 0 := by simp [PyData.depth]
theorem cr_srtT {X : Cx} (hu : X.A.units + 64 < cLine) (hc : X.calm = true) : CallR X (.builtin "sorted") (fun xs H Q => ∃ l, xs = [.str (S l)] ∧ l.length ≤ sizeLine ∧ ∀ p, H p = none → Q (.ref p) (upd H p (.lst ((srtT l).map fun c => V.str (S [c]))))) := by
  intro pins s σ H vs us Q I r h
  obtain ⟨l, rfl, hl, q⟩ := h
  obtain ⟨u, rfl, t, rfl⟩ := vals1 r
  have hsz : (S l).cps.size = l.length := List.size_toArray
  refine sorted_by (P := SignAt (S l)) (bs := l) (enc := fun c => strD [c]) (R := sgR) (fun R s1 S' res c e1 e2 hS hR => ?_) (fun vs hv => each_sg hv rfl) (fun h vs hv => (each_sg hv rfl).mono fun v c ⟨t, e⟩ => by subst e; exact Reads.str _ t)
    (fun d hd d' hd' => ?_) (.inr fun d hd => ?_) hl (fun b _ => ?_) fun p h' tk out c kp hp ho h1 h2 => ?_
  · subst e1
    rw [← hsz] at hR
    exact wpAny_extend_str (A := X.A.in1) (I.ok.hd hc) (S l) t S' res c hS (fun h' tk acc' c' a b d => hR h' tk acc' c' a b d) (by rw [hsz]; exact hl)
  · obtain ⟨a, _, rfl⟩ := List.mem_map.mp hd
    obtain ⟨b, _, rfl⟩ := List.mem_map.mp hd'
    exact alike_str _ _
  · obtain ⟨a, _, rfl⟩ := List.mem_map.mp hd
    exact ⟨(fun z => by cases z), (fun xs z => by cases z)⟩
  · rw [depth_str]; omega
  · have hv := sg_vals h2
    exact ⟨.ref p, upd H p (.lst _), I.laid (t' := tk) kp hp ⟨by rw [List.length_map, List.length_mergeSort]; exact hl, out, c, hv, ho⟩, rfl, q p (I.hok.fresh hp)⟩
theorem cr_listT {X : Cx} (hc : X.calm = true) : CallR X (.type "list") (fun xs H Q => ∃ l, xs = [.str (S l)] ∧ l.length ≤ sizeLine ∧ ∀ p, H p = none → Q (.ref p) (upd H p (.lst (l.map fun c => V.str (S [c]))))) := by
  intro pins s σ H vs us Q I r h
  obtain ⟨l, rfl, hl, q⟩ := h
  obtain ⟨u, rfl, t, rfl⟩ := vals1 r
  have hsz : (S l).cps.size = l.length := List.size_toArray
  refine call_list_str (I.ok.hd hc) (S l) t (fun h' tk acc' c' kp e hi => ?_) (by rw [hsz]; exact hl)
  rw [hsz] at hi
  exact ⟨.ref s.heap.objs.size, upd H s.heap.objs.size (.lst _), I.laid (t' := tk) kp (Nat.le_refl _) ⟨by rw [List.length_map]; exact hl, acc'.toList, c', sg_vals (each_sg hi rfl), e⟩, rfl, q _ (I.hok.fresh (Nat.le_refl _))⟩
theorem cr_tupT {X : Cx} (hc : X.calm = true) : CallR X (.type "tuple") (fun xs H Q => ∃ l, xs = [.str (S l)] ∧ l.length ≤ sizeLine ∧ ∀ p, H p = none → Q (.ref p) (upd H p (.tup (l.map fun c => V.str (S [c]))))) := by
  intro pins s σ H vs us Q I r h
  obtain ⟨l, rfl, hl, q⟩ := h
  obtain ⟨u, rfl, t, rfl⟩ := vals1 r
  have hsz : (S l).cps.size = l.length := List.size_toArray
  refine call_tuple_str (I.ok.hd hc) (S l) t (fun h' tk acc kp hi => ?_) (by rw [hsz]; exact hl)
  rw [hsz] at hi
  have I1 : Inv X pins σ H { s with heap := h', toks := tk } := I.kept (t' := tk) kp
  have I2 : Inv X pins σ (upd H h'.objs.size (.tup (l.map fun c => V.str (S [c])))) { s with heap := h'.push { cls := .type "tuple", data := .seq acc.toList.toArray }, toks := tk } :=
    I1.laid (t' := tk) (fun b o e => Heap.get?_push_of_some _ e) (Nat.le_refl _) (show ObjOk X.prog X.w _ _ _ (.tup _) from ⟨by rw [List.length_map]; exact hl, acc.toList, sg_vals (each_sg hi rfl), IsTup.new _ _⟩)
  exact ⟨.ref h'.objs.size, _, I2, rfl, q _ (I1.hok.fresh (Nat.le_refl _))⟩
/-! min of texts -/
def minT (x : List Nat) (xs : List (List Nat)) : List Nat := xs.foldl (fun a y => if decide (y < a) then y else a) x
theorem minD_strs : ∀ (xs : List (List Nat)) (x : List Nat), minD (strD x) (xs.map strD) = strD (minT x xs)
  | [], x => rfl
  | y :: r, x => by
    have ih := minD_strs r (if decide (y < x) then y else x)
    unfold minD minT at ih ⊢
    rw [List.map_cons, List.foldl_cons, List.foldl_cons, ← ih]
    congr 1
    rw [PySem.W.dataLt_str]
    show (if decide (y < x) = true then _ else _) = _
    split <;> rfl
theorem cr_minT {X : Cx} (hu : X.A.units + 64 < cLine) (hc : X.calm = true) : CallR X (.builtin "min") (fun vs H Q => ∃ (a : Addr) (x : List Nat) (xs : List (List Nat)), vs = [V.ref a] ∧ SqL X.K H a (((x :: xs).map S).map V.str) ∧ Q (.str (S (minT x xs))) H) := by
  intro pins s σ H vs us Q I r h
  obtain ⟨a, x, xs, rfl, hs, q⟩ := h
  obtain ⟨its, rv, hp, _⟩ := I.list hs
  rw [Vals.ref1 r]
  obtain ⟨as, hr⟩ := Dp.readsAll I (strD x :: xs.map strD) _ its (strs_dpa (x :: xs)) rv
  have hall : ∀ d ∈ strD x :: xs.map strD, ∃ y, d = PyData.str y := fun d hd => by
    rcases List.mem_cons.mp hd with rfl | hd
    · exact ⟨_, rfl⟩
    · obtain ⟨y, _, rfl⟩ := List.mem_map.mp hd
      exact ⟨_, rfl⟩
  refine PySem.W.min_list_data (I.ok.hd hc) hp.isList (by simpa using hr) ⟨fun d hd e he => ?_, fun d hd => ?_⟩ ?_ fun i v h' tk bs hv hrd kp => ?_
  · obtain ⟨y, rfl⟩ := hall d hd
    obtain ⟨z, rfl⟩ := hall e he
    exact alike_str _ _
  · obtain ⟨y, rfl⟩ := hall d hd
    intro z; cases z
  · have : ∀ l : List PyData, (∀ d ∈ l, ∃ y, d = PyData.str y) → PyData.depthAll l = 0 := by
      intro l hl
      induction l with
      | nil => simp [PyData.depthAll]
      | cons d r ih =>
        obtain ⟨y, rfl⟩ := hl d (List.mem_cons_self ..)
        rw [PyData.depthAll, ih fun e he => hl e (List.mem_cons_of_mem _ he), depth_str]; rfl
    rw [this _ hall]; omega
  · rw [minD_strs] at hrd
    cases hrd with
    | str _ t => exact ⟨.str _, H, I.kept (t' := tk) kp, ⟨t, rfl⟩, q⟩
section
variable {U : Vol} {X : Cx} {e a b : Expr} {es : List Expr} {rest body : List Stmt} {σ : Sg} {w w' : Wd U} {P P' : GP} {Ps : List GP} {D : En U} {pos p apos : Pos} {ds : List PyData}
/-- new objects out of calls -/
theorem cn_new {p0 : Addr} {us : List Vv} {w1 w2 : Wd U} {Q : VK} (q : ∀ p vs (w3 : Wd U), Le w1 w3 → w1.H p = none → Own w3 p vs → DpAll X.K w3.G vs ds → Q (.ref p) w3.H) (l2 : Le w1 w2) (hp : w2.H p0 = none) (hd : DpAll X.K w2.G us ds) : Q (.ref p0) (upd w2.H p0 (.lst us)) :=
  q p0 us (w2.grow (gr_newH w2.ex (o := .lst us) hp).2.1 (gr_newH w2.ex (o := .lst us) hp).1) (l2.trans (Gr.le (gr_newH w2.ex hp).1)) (l2.new hp) (own_new hp) (dpa_ex (gr_newH w2.ex (o := .lst us) hp).1.g hd)
theorem cn_srtQ (hu : X.A.units + 64 < cLine) (hm : X.mg "sorted" = none) (h : CQ X e σ w ds) (hal : AllAlike ds) (hk : Sortable ds) (hl : ds.length ≤ 1000000) (hdep : ∀ d ∈ ds, d.depth ≤ 32) (hg : Gl X "sorted" := by rfl) (hs : starEach [e] X.env = [(false, eval e X.env)] := by rfl) : CN X (.Call (.Name "sorted" p) [e] [] pos) σ w (srtD ds) := fun w1 l Q q =>
  ew_bi (cr_srt hu) hm PyProof.Rows.boot_sorted h hg (by decide) (by decide) hs w1 l Q fun v w2 l2 ⟨a, vs, ev, hq, hd⟩ => by
    subst ev
    refine ⟨a, vs, ds, rfl, hq _ (Le.refl _), dpa_ex w2.ex hd, hal, hk, line_of hl, hdep, fun p us hp hus => ?_⟩
    exact cn_new q l2 hp (hus _ hd)
theorem cn_srtT {l : List Nat} (hu : X.A.units + 64 < cLine) (hm : X.mg "sorted" = none) (h : CE X e σ w (T l)) (hl : l.length ≤ 1000000) (hc : X.calm = true) (hg : Gl X "sorted" := by rfl) (hs : starEach [e] X.env = [(false, eval e X.env)] := by rfl) : CN X (.Call (.Name "sorted" p) [e] [] pos) σ w ((srtT l).map fun c => strD [c]) := fun w1 l1 Q q =>
  ew_bi (cr_srtT hu hc) hm PyProof.Rows.boot_sorted h.cw hg (by decide) (by decide) hs w1 l1 Q fun v w2 l2 hv => by
    have hv : v = _ := hv
    subst hv
    exact ⟨l, rfl, line_of hl, fun p hp => cn_new q l2 hp (sg_dpa1 _)⟩
theorem cn_listT {l : List Nat} (hm : X.mg "list" = none) (h : CE X e σ w (T l)) (hl : l.length ≤ 1000000) (hc : X.calm = true) (hg : Gl X "list" := by rfl) (hs : starEach [e] X.env = [(false, eval e X.env)] := by rfl) : CN X (.Call (.Name "list" p) [e] [] pos) σ w (l.map fun c => strD [c]) := fun w1 l1 Q q =>
  ew_ty (cr_listT hc) hm PyProof.Rows.boot_list h.cw hg (by decide) (by decide) hs w1 l1 Q fun v w2 l2 hv => by
    have hv : v = _ := hv
    subst hv
    exact ⟨l, rfl, line_of hl, fun p hp => cn_new q l2 hp (sg_dpa1 _)⟩
theorem cn_listQ (hm : X.mg "list" = none) (h : CQ X e σ w ds) (hg : Gl X "list" := by rfl) (hs : starEach [e] X.env = [(false, eval e X.env)] := by rfl) : CN X (.Call (.Name "list" p) [e] [] pos) σ w ds := fun w1 l1 Q q =>
  ew_ty call_list_of hm PyProof.Rows.boot_list h hg (by decide) (by decide) hs w1 l1 Q fun v w2 l2 ⟨a, vs, ev, hq, hd⟩ => by
    subst ev
    exact ⟨a, vs, rfl, .inl (hq _ (Le.refl _)), fun p hp => cn_new q l2 hp hd⟩
theorem ce_tupT {l : List Nat} (hm : X.mg "tuple" = none) (h : CE X e σ w (T l)) (hl : l.length ≤ 1000000) (hc : X.calm = true) (hg : Gl X "tuple" := by rfl) (hs : starEach [e] X.env = [(false, eval e X.env)] := by rfl) : CE X (.Call (.Name "tuple" p) [e] [] pos) σ w (Da X.K (.tuple (l.map fun c => strD [c]))) := fun w1 l1 Q q =>
  ew_ty (cr_tupT hc) hm PyProof.Rows.boot_tuple h.cw hg (by decide) (by decide) hs w1 l1 Q fun v w2 l2 hv => by
    have hv : v = _ := hv
    subst hv
    refine ⟨l, rfl, line_of hl, fun p hp => ?_⟩
    have g := gr_new w2.ex (o := .tup (l.map fun c => V.str (S [c]))) hp
    exact q _ (w2.grow g.2 g.1) (l2.trans (new_da hp)) (.tup (.inl (.inl upd_same)) (sg_dpa1 _))
theorem ce_tupQ (hm : X.mg "tuple" = none) (h : CQ X e σ w ds) (hg : Gl X "tuple" := by rfl) (hs : starEach [e] X.env = [(false, eval e X.env)] := by rfl) : CE X (.Call (.Name "tuple" p) [e] [] pos) σ w (Da X.K (.tuple ds)) := fun w1 l1 Q q =>
  ew_ty call_tuple_of hm PyProof.Rows.boot_tuple h hg (by decide) (by decide) hs w1 l1 Q fun v w2 l2 ⟨a, vs, ev, hq, hd⟩ => by
    subst ev
    refine ⟨a, vs, rfl, .inl ⟨hq _ (Le.refl _), fun p hp => ?_⟩⟩
    have g := gr_new w2.ex (o := .tup vs) hp
    exact q _ (w2.grow g.2 g.1) (l2.trans (new_da hp)) (.tup (.inl (.inl upd_same)) (dpa_ex g.1.g hd))
theorem ce_minT {x : List Nat} {xs : List (List Nat)} (hu : X.A.units + 64 < cLine) (hm : X.mg "min" = none) (h : CQ X e σ w ((x :: xs).map strD)) (hc : X.calm = true) (hg : Gl X "min" := by rfl) (hs : starEach [e] X.env = [(false, eval e X.env)] := by rfl) : CE X (.Call (.Name "min" p) [e] [] pos) σ w (T (minT x xs)) := fun w1 l1 Q q =>
  ew_bi (cr_minT hu hc) hm PyProof.Rows.boot_min h hg (by decide) (by decide) hs w1 l1 Q fun v w2 l2 ⟨a, vs, ev, hq, hd⟩ => by
    subst ev
    exact ⟨a, x, xs, rfl, by rw [← dpa_strs hd]; exact hq _ (Le.refl _), q _ w2 l2 rfl⟩
/-- equality of data -/
theorem ct_eqD {d1 d2 : PyData} (hu : X.A.units + 64 < cLine) (ha : CE X a σ w (Da X.K d1)) (hb : CE X b σ w (Da X.K d2)) (s1 : SeqAt.shaped d1 = true) (s2 : SeqAt.shaped d2 = true) (hm : behindInMarks .Eq b = false := by exact nomark _) : CT X (.Compare a [.Eq] [b] pos) σ w (PyData.eqv d1 d2) :=
  ct_cmp (op_eqD hu) hm ha hb fun x y w1 Q _ hx hy q => ⟨d1, d2, dp_ex w1.ex hx, dp_ex w1.ex hy, s1, s2, q _ w1 (Le.refl _) rfl⟩
theorem ce_eqD {d1 d2 : PyData} (hu : X.A.units + 64 < cLine) (ha : CE X a σ w (Da X.K d1)) (hb : CE X b σ w (Da X.K d2)) (s1 : SeqAt.shaped d1 = true) (s2 : SeqAt.shaped d2 = true) (hm : behindInMarks .Eq b = false := by exact nomark _) : CE X (.Compare a [.Eq] [b] pos) σ w (Bo (PyData.eqv d1 d2)) :=
  ce_cmp (op_eqD hu) hm ha hb fun x y w1 Q _ hx hy q => ⟨d1, d2, dp_ex w1.ex hx, dp_ex w1.ex hy, s1, s2, q _ w1 (Le.refl _) rfl⟩
theorem ct_neD {d1 d2 : PyData} (hu : X.A.units + 64 < cLine) (ha : CE X a σ w (Da X.K d1)) (hb : CE X b σ w (Da X.K d2)) (s1 : SeqAt.shaped d1 = true) (s2 : SeqAt.shaped d2 = true) (hm : behindInMarks .NotEq b = false := by exact nomark _) : CT X (.Compare a [.NotEq] [b] pos) σ w (!PyData.eqv d1 d2) :=
  ct_cmp (op_neD hu) hm ha hb fun x y w1 Q _ hx hy q => ⟨d1, d2, dp_ex w1.ex hx, dp_ex w1.ex hy, s1, s2, q _ w1 (Le.refl _) rfl⟩
end
end FW
set_option Elab.async false
set_option linter.all false
set_option maxRecDepth 100000
set_option maxHeartbeats 4000000
/-! FwZ: zip of two texts; dict(zip(a text, a tuple)); d.update(d2). -/
namespace FW
open PySem PySem.Spec PyProof.Rows L2
def ItzS (l m : List Nat) : It :=
  ⟨fun i _ => i < min l.length m.length,
    fun i H v H' => ∃ T c d, v = .ref T ∧ H T = none ∧ H' = upd H T (.tup [.str (S [c]), .str (S [d])]) ∧ l[i]? = some c ∧ m[i]? = some d,
    fun i _ => i = min l.length m.length⟩
theorem walk_zipS {l m : List Nat} : Walk (ItzS l m) (min l.length m.length) (fun _ => True) (fun i H v H' => ∃ T c d, v = .ref T ∧ H T = none ∧ H' = upd H T (.tup [.str (S [c]), .str (S [d])]) ∧ l[i]? = some c ∧ m[i]? = some d) :=
  ⟨fun _ _ hi _ => hi, fun _ _ => rfl, fun _ _ _ _ _ _ y => y⟩
theorem turn_zipS {P : Program} {w : World} {K : PySem.W.Frag} {elts : List Expr} {kk : Nat} {tpos : Pos} {l m : List Nat} {t u : Tok} {z TI TO i1 i2 : Addr} (D : ZipSep2 z TI TO i1 i2 [i1] [i2]) :
    Turn P w K (.Tuple elts kk tpos) (ItzS l m) [z, TI, TO, i1, i2] z (fun i h => IsZip h z TI TO .none ∧ IsTupOf2 h TI (.ref i1) (.ref i2) ∧ (∃ x y, IsTupOf2 h TO x y) ∧ h.IsStrIter i1 (strIterType (S l)) (S l) t i ∧ h.IsStrIter i2 (strIterType (S m)) (S m) u i) where
  mem := by simp
  obj := fun i h st c hc => by
    obtain ⟨hz, hTI, ⟨x, y, hTO⟩, ⟨o1, e1, _, d1⟩, ⟨o2, e2, _, d2⟩⟩ := st
    have e' : c = z ∨ c = TI ∨ c = TO ∨ c = i1 ∨ c = i2 := by simpa using hc
    rcases e' with q | q | q | q | q
    · rw [q]; exact ⟨_, hz, fun v q => nomatch q⟩
    · rw [q]; exact ⟨_, hTI, fun v q => nomatch q⟩
    · rw [q]; exact ⟨_, hTO, fun v q => nomatch q⟩
    · rw [q]; exact ⟨o1, e1, fun v q => by rw [d1] at q; cases q⟩
    · rw [q]; exact ⟨o2, e2, fun v q => by rw [d2] at q; cases q⟩
  keep := fun i h h' st k => by
    obtain ⟨hz, hTI, ⟨x, y, hTO⟩, ⟨o1, e1, r1⟩, ⟨o2, e2, r2⟩⟩ := st
    exact ⟨k z (by simp) _ hz, k TI (by simp) _ hTI, ⟨x, y, k TO (by simp) _ hTO⟩, ⟨o1, k i1 (by simp) _ e1, r1⟩, ⟨o2, k i2 (by simp) _ e2, r2⟩⟩
  item := by
    intro X hP hw hK hc i pins s σ H E I hf st hg
    subst hP hw hK
    obtain ⟨hz, hTI, ⟨x0, y0, hTO⟩, h1, h2⟩ := st
    have hg : i < min l.length m.length := hg
    have n1 : (S l).cps.size = l.length := List.size_toArray
    have n2 : (S m).cps.size = m.length := List.size_toArray
    have hzl : z < s.heap.objs.size := Heap.lt_size hz
    refine wpAny_pyNext_zipD2_item D (Draws.text (A := X.A.in1) (I.ok.hd hc) i1 (S l) t) (Draws.text (A := X.A.in1) (I.ok.hd hc) i2 (S m) u) hz hTI hTO h1 h2 (by omega) (by omega) fun x1 x2 h' tk p1 p2 z' TO' h1' h2' hT hsz hk => ?_
    obtain ⟨c, u1, hc1, e1⟩ := p1
    obtain ⟨d, u2, hd1, e2⟩ := p2
    subst e1 e2
    refine ⟨_, rfl, wpAny_letOwnedTupleGo_zip (s := { s with heap := h', toks := tk }) z' fun h'' z'' sb => ?_⟩
    have hT2 : h''.get? s.heap.objs.size = some { cls := .type "tuple", data := .seq #[.str ⟨#[c]⟩ u1, .str ⟨#[d]⟩ u2] } := (sb.2 _ (Nat.ne_of_gt hzl)).trans hT
    have new : ObjOk X.prog X.w (upd H s.heap.objs.size (.tup [.str (S [c]), .str (S [d])])) h'' s.heap.objs.size (.tup [.str (S [c]), .str (S [d])]) :=
      ⟨by show 2 ≤ sizeLine; exact line_of (by decide), [.str ⟨#[c]⟩ u1, .str ⟨#[d]⟩ u2], .cons ⟨u1, rfl⟩ (.cons ⟨u2, rfl⟩ .nil), ⟨_, hT2, rfl, _, rfl⟩⟩
    have I1 : Inv X pins σ (upd H s.heap.objs.size (.tup [.str (S [c]), .str (S [d])])) { s with heap := h'', toks := tk } :=
      I.turnedNew (t' := tk) (ch := [z, TI, TO, i1, i2]) (fun c o hb q => (sb.2 c (fun q' => hb (by simp [q']))).trans (hk c o (fun q' => hb (by simp [q'])) (fun q' => hb (by simp [q'])) (fun q' => hb (by simp [q'])) (fun q' => hb (by simp [q'])) q)) hf (Nat.le_refl _) new
    refine ⟨.ref s.heap.objs.size, upd H s.heap.objs.size (.tup [.str (S [c]), .str (S [d])]), I1, rfl, ⟨s.heap.objs.size, c, d, rfl, I.hok.fresh (Nat.le_refl _), rfl, by simpa [S] using hc1, by simpa [S] using hd1⟩, ⟨z'', ?_, ⟨.str ⟨#[c]⟩ u1, .str ⟨#[d]⟩ u2, ?_⟩, ?_, ?_⟩, fun c hcm => ?_⟩
    · exact (sb.2 _ D.TIz).trans (hk _ _ D.TIz D.TITO D.TIi1 D.TIi2 hTI)
    · exact (sb.2 _ D.TOz).trans TO'
    · obtain ⟨o, ho, r⟩ := h1'
      exact ⟨o, (sb.2 _ D.zi1.symm).trans ho, r⟩
    · obtain ⟨o, ho, r⟩ := h2'
      exact ⟨o, (sb.2 _ D.zi2.symm).trans ho, r⟩
    · have hlt : c < s.heap.objs.size := by
        have e' : c = z ∨ c = TI ∨ c = TO ∨ c = i1 ∨ c = i2 := by simpa using hcm
        rcases e' with q | q | q | q | q
        · rw [q]; exact hzl
        · rw [q]; exact Heap.lt_size hTI
        · rw [q]; exact Heap.lt_size hTO
        · rw [q]; obtain ⟨_, e1, _⟩ := h1; exact Heap.lt_size e1
        · rw [q]; obtain ⟨_, e2, _⟩ := h2; exact Heap.lt_size e2
      rw [upd_ne (Nat.ne_of_lt hlt)]
      exact (hf c hcm).1
  done := by
    intro X hP hw hK hc i pins s σ H E I hf st hg
    subst hP hw hK
    obtain ⟨hz, hTI, ⟨x0, y0, hTO⟩, h1, h2⟩ := st
    have hg : i = min l.length m.length := hg
    have n1 : (S l).cps.size = l.length := List.size_toArray
    have n2 : (S m).cps.size = m.length := List.size_toArray
    exact wpAny_pyNext_zipD2_end D (Draws.text (A := X.A.in1) (I.ok.hd hc) i1 (S l) t) (Draws.text (A := X.A.in1) (I.ok.hd hc) i2 (S m) u) hz hTI hTO h1 h2 (by omega) (by omega) (by omega) fun h' tk hk => ⟨rfl, I.turnedL (t' := tk) (ch := [z, TI, TO, i1, i2]) (fun c o hb q =>
      hk c o (fun q' => hb (by simp [q'])) (fun q' => hb (by simp [q'])) (fun q' => hb (by simp [q'])) (fun q' => hb (by simp [q'])) q) hf⟩
  self := fun A i s Q E st h => wpAny_pyIter_zip st.1 h
def iZipS (ta : TA) : TI := fun σ H R => ta σ H fun vs H1 => ∃ l m, vs = [.str (S l), .str (S m)] ∧ R (ItzS l m) H1
theorem sep_new (N : Nat) : ZipSep2 (N + 4) (N + 2) (N + 3) N (N + 1) [N] [N + 1] := zip_sep2 (fp1 := []) (fp2 := []) (fun _ h => by cases h) (fun _ h => by cases h)
theorem pi_zipS {X : Cx} {e e2 : Expr} {ta : TA} {p pos tpos : Pos} {elts : List Expr} {kk : Nat} (hg : Gl X "zip") (hm : X.mg "zip" = none) (ha : PA X [e, e2] ta)
    (hs : starEach [e, e2] X.env = (false, eval e X.env) :: starEach [e2] X.env := by rfl) (hpl : (backTo pos (starEach [e2] X.env)).any (·.1) = false := by rfl) :
    PI X (.Tuple elts kk tpos) (.Call (.Name "zip" p) [e, e2] [] pos) (iZipS ta) := by
  refine ⟨fun pins s σ H R I h => ?_⟩
  refine Call_ (ld_blt I hg hm PyProof.Rows.boot_zip (PyProof.Rows.callWith_type1 (thn (ha.run pos pins s σ H _ I h) fun us s1 ⟨vs, H1, I1, r1, q1⟩ => ?_) hs hpl))
  obtain ⟨l, m, ex, q1⟩ := q1
  subst ex
  obtain ⟨u1, u2, rfl, ⟨t1, rfl⟩, ⟨t2, rfl⟩⟩ := Vals.two r1
  have fresh5 : ∀ c, c ∈ [s1.heap.objs.size + 4, s1.heap.objs.size + 2, s1.heap.objs.size + 3, s1.heap.objs.size, s1.heap.objs.size + 1] → FpOk X pins H1 c := fun c hcm => by
    have e' : c = s1.heap.objs.size + 4 ∨ c = s1.heap.objs.size + 2 ∨ c = s1.heap.objs.size + 3 ∨ c = s1.heap.objs.size ∨ c = s1.heap.objs.size + 1 := by simpa using hcm
    have hle : s1.heap.objs.size ≤ c := by
      rcases e' with z | z | z | z | z
      · rw [z]; exact Nat.le_add_right _ _
      · rw [z]; exact Nat.le_add_right _ _
      · rw [z]; exact Nat.le_add_right _ _
      · rw [z]; exact Nat.le_refl _
      · rw [z]; exact Nat.le_add_right _ _
    exact I1.fpOk hle (I1.hok.fresh hle)
  refine zip_begins2 (begins_text (S l) t1) (begins_text (S m) t2) trivial trivial fun h' hz hTI hTO h1 h2 hsz hk => wpAny_pyIter_zip hz ?_
  have I2 : Inv X pins σ H1 { s1 with heap := h' } := I1.kept (t' := s1.toks) hk
  exact ⟨s1.heap.objs.size + 4, [s1.heap.objs.size + 4, s1.heap.objs.size + 2, s1.heap.objs.size + 3, s1.heap.objs.size, s1.heap.objs.size + 1], _, _, H1, rfl, I2, turn_zipS (sep_new _), ⟨hz, hTI, ⟨_, _, hTO⟩, ⟨_, h1, rfl, rfl⟩, ⟨_, h2, rfl, rfl⟩⟩, fresh5, q1⟩

section
variable {prog : Program} {w : World} {A : Around} {E : Value → Shared → Prop} {s : Shared} {z TI TO T i1 i2 : Addr} {f : Bool} {oT : Obj} {fp1 fp2 : List Addr} {n1 n2 i : Nat} {P1 P2 : Nat → Value → Prop} {St1 St2 : Nat → Heap → Prop} {a1 a2 : Value}
open PySem.W in
theorem zipH_next_item {Q : Value → Shared → Prop} (D : ZipSep2 z TI TO i1 i2 fp1 fp2) (D1 : Draws prog w A i1 fp1 n1 P1 St1) (D2 : Draws prog w A i2 fp2 n2 P2 St2)
    (hz : IsZipHeld s.heap z TI TO T f) (hT : s.heap.get? T = some oT) (hTI : IsTupOf2 s.heap TI (.ref i1) (.ref i2)) (st1 : St1 i s.heap) (st2 : St2 i s.heap) (hlt1 : i < n1) (hlt2 : i < n2)
    (hQ : ∀ x1 x2 h' tk, P1 i x1 → P2 i x2 → IsZipHeld h' z TI TO T true → St1 (i + 1) h' → St2 (i + 1) h' → IsTupOf2 h' s.heap.objs.size x1 x2 →
      (∀ c o, c ≠ z → c ≠ i1 → c ≠ i2 → s.heap.get? c = some o → h'.get? c = some o) → Q (.ref s.heap.objs.size) { s with heap := h', toks := tk }) :
    wpAny (model prog w) A (Builtin.«zip.__next__» ⟨[.ref z], []⟩) (fun fin s' => ∃ v, fin = .done (.ret v) ∧ Q v s') E s := by
  obtain ⟨hp, g, d, tk0, os⟩ := s
  show wpAny _ _ (field (.ref z) 2 >>= _) _ _ _
  refine wpAny_bind (wpAny_field hz rfl (x := .bool false) rfl ?_)
  show wpAny _ _ (field (.ref z) 3 >>= _) _ _ _
  refine wpAny_bind (wpAny_field hz rfl (x := .ref TI) rfl ?_)
  refine wpAny_bind (wpAny_seqItems hTI rfl ?_)
  show wpAny _ _ (Builtin.SmallTypes.ownedTupleIsFree (.ref z) >>= _) _ _ _
  refine wpAny_bind (wpAny_tupleHeld_zip hz hT fun g0 hz0 hs0 => ?_)
  replace hz0 : IsZipHeld g0 z TI TO T true := hz0
  replace hs0 : Heap.SameBut z hp g0 := hs0
  simp only [Bool.false_eq_true, if_false]
  refine wpAny_bind ?_
  rw [← Array.forIn_toList]
  simp only [List.forIn_cons, List.forIn_nil]
  refine wpAny_bind (wpAny_bind (wpAny_holding ?_))
  show wpAny _ _ (Builtin.SmallTypes.nextOf (.ref i1) >>= _) _ _ ⟨g0, g, d, tk0, os⟩
  refine wpAny_bind (D1.item i _ _ _ hlt1 (D1.over st1 hs0 D.zf1) fun x1 p1 tk1 hx1 sn1 hp1 => wpAny_pure ?_)
  replace hp1 : Heap.SameBut i1 g0 p1 := hp1
  refine wpAny_pure ?_
  refine wpAny_bind (wpAny_bind (wpAny_holding ?_))
  show wpAny _ _ (Builtin.SmallTypes.nextOf (.ref i2) >>= _) _ _ ⟨p1, g, d, tk1, os⟩
  refine wpAny_bind (D2.item i _ _ _ hlt2 (D2.over (D2.over st2 hs0 D.zf2) hp1 D.sep1_2) fun x2 p2 tk2 hx2 sn2 hp2 => wpAny_pure ?_)
  replace hp2 : Heap.SameBut i2 p1 p2 := hp2
  refine wpAny_pure (wpAny_pure ?_)
  show wpAny _ _ (newTuple [x1, x2] >>= _) _ _ ⟨p2, g, d, tk2, os⟩
  refine wpAny_bind (wpAny_newTuple ?_)
  have hsz : p2.objs.size = hp.objs.size := by rw [hp2.1, hp1.1, hs0.1]
  have hz₃ : IsZipHeld p2 z TI TO T true := hp2.extBut _ _ D.zi2 (hp1.extBut _ _ D.zi1 hz0)
  have hk : ∀ c o, c ≠ z → c ≠ i1 → c ≠ i2 → hp.get? c = some o → p2.get? c = some o := fun c o c1 c2 c3 e => hp2.extBut _ _ c3 (hp1.extBut _ _ c2 (hs0.extBut _ _ c1 e))
  refine wpAny_pure ⟨_, rfl, ?_⟩
  show Q (.ref p2.objs.size) _
  have hpp : IsTupOf2 (p2.push { cls := .type "tuple", data := .seq #[x1, x2] }) p2.objs.size x1 x2 := Heap.get?_push_size _ rfl
  rw [hsz] at hpp ⊢
  refine hQ x1 x2 _ tk2 hx1 hx2 (Heap.get?_push_of_some _ hz₃) (D1.frame _ _ _ (D1.over sn1 hp2 D.sep2_1) fun b _ o e => Heap.get?_push_of_some _ e) (D2.frame _ _ _ sn2 fun b _ o e => Heap.get?_push_of_some _ e) hpp fun c o c1 c2 c3 e => Heap.get?_push_of_some _ (hk c o c1 c2 c3 e)
open PySem.W in
theorem zipH_next_end {Q : Fin → Shared → Prop} (D : ZipSep2 z TI TO i1 i2 fp1 fp2) (D1 : Draws prog w A i1 fp1 n1 P1 St1) (D2 : Draws prog w A i2 fp2 n2 P2 St2)
    (hz : IsZipHeld s.heap z TI TO T f) (hT : s.heap.get? T = some oT) (hTI : IsTupOf2 s.heap TI (.ref i1) (.ref i2)) (st1 : St1 i s.heap) (st2 : St2 i s.heap) (hle1 : i ≤ n1) (hle2 : i ≤ n2) (hend : i = n1 ∨ i = n2)
    (hE : ∀ h' tk e, (∀ c o, c ≠ z → c ≠ i1 → c ≠ i2 → s.heap.get? c = some o → h'.get? c = some o) → (∃ o, h'.get? e = some o ∧ o.cls = .type "StopIteration") → E (.ref e) { s with heap := h', toks := tk }) :
    wpAny (model prog w) A (Builtin.«zip.__next__» ⟨[.ref z], []⟩) Q E s := by
  obtain ⟨hp, g, d, tk0, os⟩ := s
  show wpAny _ _ (field (.ref z) 2 >>= _) _ _ _
  refine wpAny_bind (wpAny_field hz rfl (x := .bool false) rfl ?_)
  show wpAny _ _ (field (.ref z) 3 >>= _) _ _ _
  refine wpAny_bind (wpAny_field hz rfl (x := .ref TI) rfl ?_)
  refine wpAny_bind (wpAny_seqItems hTI rfl ?_)
  show wpAny _ _ (Builtin.SmallTypes.ownedTupleIsFree (.ref z) >>= _) _ _ _
  refine wpAny_bind (wpAny_tupleHeld_zip hz hT fun g0 hz0 hs0 => ?_)
  replace hs0 : Heap.SameBut z hp g0 := hs0
  simp only [Bool.false_eq_true, if_false]
  refine wpAny_bind ?_
  rw [← Array.forIn_toList]
  simp only [List.forIn_cons, List.forIn_nil]
  refine wpAny_bind (wpAny_bind (wpAny_holding ?_))
  show wpAny _ _ (Builtin.SmallTypes.nextOf (.ref i1) >>= _) _ _ ⟨g0, g, d, tk0, os⟩
  by_cases hlt1 : i < n1
  · refine wpAny_bind (D1.item i _ _ _ hlt1 (D1.over st1 hs0 D.zf1) fun x1 p1 tk1 hx1 sn1 hp1 => wpAny_pure ?_)
    replace hp1 : Heap.SameBut i1 g0 p1 := hp1
    refine wpAny_pure ?_
    have hi2 : i = n2 := by omega
    refine wpAny_bind (wpAny_bind (wpAny_holding ?_))
    show wpAny _ _ (Builtin.SmallTypes.nextOf (.ref i2) >>= _) _ _ ⟨p1, g, d, tk1, os⟩
    refine wpAny_bind (D2.done ⟨p1, g, d, tk1, os⟩ _ _ (by rw [← hi2]; exact D2.over (D2.over st2 hs0 D.zf2) hp1 D.sep1_2) fun q e hq he => ?_)
    replace hq : Heap.ExtBut i2 p1 q := hq
    exact hE q tk1 e (fun c o c1 c2 c3 x => hq _ _ c3 (hp1.extBut _ _ c2 (hs0.extBut _ _ c1 x))) he
  · have hi1 : i = n1 := by omega
    refine wpAny_bind (D1.done ⟨g0, g, d, tk0, os⟩ _ _ (by rw [← hi1]; exact D1.over st1 hs0 D.zf1) fun q e hq he => ?_)
    replace hq : Heap.ExtBut i1 g0 q := hq
    exact hE q tk0 e (fun c o c1 c2 c3 x => hq _ _ c2 (hs0.extBut _ _ c1 x)) he
open PySem.W in
theorem pyNext_zipH_item {Q : Option Value → Shared → Prop} (D : ZipSep2 z TI TO i1 i2 fp1 fp2) (D1 : Draws prog w A.in1 i1 fp1 n1 P1 St1) (D2 : Draws prog w A.in1 i2 fp2 n2 P2 St2)
    (hz : IsZipHeld s.heap z TI TO T f) (hT : s.heap.get? T = some oT) (hTI : IsTupOf2 s.heap TI (.ref i1) (.ref i2)) (st1 : St1 i s.heap) (st2 : St2 i s.heap) (hlt1 : i < n1) (hlt2 : i < n2)
    (hQ : ∀ x1 x2 h' tk, P1 i x1 → P2 i x2 → IsZipHeld h' z TI TO T true → St1 (i + 1) h' → St2 (i + 1) h' → IsTupOf2 h' s.heap.objs.size x1 x2 →
      (∀ c o, c ≠ z → c ≠ i1 → c ≠ i2 → s.heap.get? c = some o → h'.get? c = some o) → Q (some (.ref s.heap.objs.size)) { s with heap := h', toks := tk }) :
    wpAny (model prog w) A (pyNext (.ref z)) Q E s := by
  have hTy : s.TypeIs (.ref z) "zip" := ⟨_, hz, rfl⟩
  unfold pyNext
  exact wpAny_bind (wpAny_attempt (wpAny_callSpecial?_slot (name := Str.ofString "__next__") hTy F.slot_zip_next
    (wpAny_call_entry F.slot_zip_next hTy F.entry_zip_next
      (zipH_next_item D D1 D2 hz hT hTI st1 st2 hlt1 hlt2 fun x1 x2 h' tk a1 a3 a4 a5 a6 a7 a8 => wpAny_pure (hQ x1 x2 h' tk a1 a3 a4 a5 a6 a7 a8)) (F.args_zip_next_1 _))))
open PySem.W in
theorem pyNext_zipH_end {Q : Option Value → Shared → Prop} (D : ZipSep2 z TI TO i1 i2 fp1 fp2) (D1 : Draws prog w A.in1 i1 fp1 n1 P1 St1) (D2 : Draws prog w A.in1 i2 fp2 n2 P2 St2)
    (hz : IsZipHeld s.heap z TI TO T f) (hT : s.heap.get? T = some oT) (hTI : IsTupOf2 s.heap TI (.ref i1) (.ref i2)) (st1 : St1 i s.heap) (st2 : St2 i s.heap) (hle1 : i ≤ n1) (hle2 : i ≤ n2) (hend : i = n1 ∨ i = n2)
    (hQ : ∀ h' tk, (∀ c o, c ≠ z → c ≠ i1 → c ≠ i2 → s.heap.get? c = some o → h'.get? c = some o) → Q none { s with heap := h', toks := tk }) : wpAny (model prog w) A (pyNext (.ref z)) Q E s := by
  have hTy : s.TypeIs (.ref z) "zip" := ⟨_, hz, rfl⟩
  unfold pyNext
  refine wpAny_bind (wpAny_attempt (wpAny_callSpecial?_slot (name := Str.ofString "__next__") hTy F.slot_zip_next
    (wpAny_call_entry F.slot_zip_next hTy F.entry_zip_next (zipH_next_end D D1 D2 hz hT hTI st1 st2 hle1 hle2 hend fun h' tk e hk he => ?_) (F.args_zip_next_1 _))))
  obtain ⟨o, ho, hc⟩ := he
  refine wpAny_bind (wpAny_isInstance (T := "StopIteration") (b := true) ⟨o, ho, hc⟩ isSubtype_stop ?_)
  exact wpAny_pure (hQ _ _ hk)
end
section
variable {prog : Program} {w : World} {fp1 fp2 : List Addr} {n1 n2 : Nat} {P1 P2 : Nat → Value → Prop} {St1 St2 : Nat → Heap → Prop}
open PySem.W in
theorem pairArg_zipD (z TI TO i1 i2 : Addr) (D : ZipSep2 z TI TO i1 i2 fp1 fp2) (D1 : ∀ A : Around, A.handled = none → Draws prog w A i1 fp1 n1 P1 St1) (D2 : ∀ A : Around, A.handled = none → Draws prog w A i2 fp2 n2 P2 St2)
    (th : ∀ h, St1 0 h → St2 0 h → ∀ b ∈ fp1 ++ fp2, ∃ o, h.get? b = some o)
    (kp1 : ∀ i h h', St1 i h → (∀ b ∈ fp1, ∀ o, h.get? b = some o → h'.get? b = some o) → St1 i h') (kp2 : ∀ i h h', St2 i h → (∀ b ∈ fp2, ∀ o, h.get? b = some o → h'.get? b = some o) → St2 i h') :
    PairArg prog w "zip" z (z :: TI :: TO :: (fp1 ++ fp2)) [z, TO, i1, i2] (min n1 n2) (fun i k v => P1 i k ∧ P2 i v)
      (fun h => IsZip h z TI TO .none ∧ IsTupOf2 h TI (.ref i1) (.ref i2) ∧ (∃ a b, IsTupOf2 h TO a b) ∧ St1 0 h ∧ St2 0 h) where
  type := fun s ok => ⟨_, ok.1, rfl⟩
  notDict := by decide
  keep := fun h h' ok hk => by
    obtain ⟨hz, hTI, ⟨a, b, hTO⟩, h1, h2⟩ := ok
    exact ⟨hk _ _ hz, hk _ _ hTI, ⟨a, b, hk _ _ hTO⟩, kp1 _ _ _ h1 fun b _ o e => hk _ o e, kp2 _ _ _ h2 fun b _ o e => hk _ o e⟩
  there := fun h ok b hb => by
    obtain ⟨hz, hTI, ⟨a, c, hTO⟩, h1, h2⟩ := ok
    rcases List.mem_cons.mp hb with rfl | hb
    · exact ⟨_, hz⟩
    · rcases List.mem_cons.mp hb with rfl | hb
      · exact ⟨_, hTI⟩
      · rcases List.mem_cons.mp hb with rfl | hb
        · exact ⟨_, hTO⟩
        · exact th h h1 h2 b hb
  sub := fun b hb => by
    have hb' : b = z ∨ b = TO ∨ b = i1 ∨ b = i2 := by simpa using hb
    have m1 := D.mem1
    have m2 := D.mem2
    rcases hb' with rfl | rfl | rfl | rfl <;> simp [m1, m2]
  noKeys := fun A s Q E hA ok h => getAttrOr_miss_zip ok.1 rfl rfl rfl zip_no_keys (by decide +kernel) hA h
  iter := fun A s d Q E hA ok hd hdf h => by
    obtain ⟨hz, hTI, ⟨a, b, hTO⟩, h1, h2⟩ := ok
    have dz : d ≠ z := fun e => hdf (by simp [e])
    have dTI : d ≠ TI := fun e => hdf (by simp [e])
    have dTO : d ≠ TO := fun e => hdf (by simp [e])
    have df1 : d ∉ fp1 := fun e => hdf (by simp [e])
    have df2 : d ∉ fp2 := fun e => hdf (by simp [e])
    have di1 : d ≠ i1 := fun e => df1 (e ▸ D.mem1)
    have di2 : d ≠ i2 := fun e => df2 (e ▸ D.mem2)
    refine wpAny_pyIter_zip hz (h z [z, TO, i1, i2] (fun i h => IsTupOf2 h TI (.ref i1) (.ref i2) ∧ St1 i h ∧ St2 i h ∧
      ((IsZip h z TI TO .none ∧ ∃ a b, IsTupOf2 h TO a b) ∨ ∃ T f oT, IsZipHeld h z TI TO T f ∧ h.get? T = some oT ∧ T ≠ z ∧ T ≠ i1 ∧ T ≠ i2 ∧ T ≠ d)) s.heap s.toks ?_
      ⟨hTI, h1, h2, .inl ⟨hz, a, b, hTO⟩⟩ (fun _ _ e => e) fun b hb => .inl hb)
    exact {
      off := fun hm => by
        have hm' : d = z ∨ d = TO ∨ d = i1 ∨ d = i2 := by simpa using hm
        rcases hm' with e | e | e | e
        · exact dz e
        · exact dTO e
        · exact di1 e
        · exact di2 e
      frame := fun i h₁ h₂ st hk => by
        obtain ⟨hTI, h1, h2, hz⟩ := st
        refine ⟨hk _ _ (Ne.symm dTI) hTI, kp1 _ _ _ h1 fun b hb o e => hk _ o (fun q => df1 (q ▸ hb)) e, kp2 _ _ _ h2 fun b hb o e => hk _ o (fun q => df2 (q ▸ hb)) e, ?_⟩
        rcases hz with ⟨hz, a, b, hTO⟩ | ⟨T, f, oT, hz, hT, r1, r2, r3, r4⟩
        · exact .inl ⟨hk _ _ (Ne.symm dz) hz, a, b, hk _ _ (Ne.symm dTO) hTO⟩
        · exact .inr ⟨T, f, oT, hk _ _ (Ne.symm dz) hz, hk _ _ r4 hT, r1, r2, r3, r4⟩
      item := fun i s₁ Q₁ E₁ hi st hds hQ => by
        obtain ⟨hTI, h1, h2, hz⟩ := st
        have hix : i < n1 := Nat.lt_of_lt_of_le hi (Nat.min_le_left ..)
        have hiy : i < n2 := Nat.lt_of_lt_of_le hi (Nat.min_le_right ..)
        have lt : ∀ {c o}, s₁.heap.get? c = some o → s₁.heap.objs.size ≠ c := fun e => Nat.ne_of_gt (Heap.lt_size e)
        have l1 : s₁.heap.objs.size ≠ i1 := by obtain ⟨_, e⟩ := (D1 _ hA).live _ _ h1; exact lt e
        have l2 : s₁.heap.objs.size ≠ i2 := by obtain ⟨_, e⟩ := (D2 _ hA).live _ _ h2; exact lt e
        rcases hz with ⟨hz, a, b, hTO⟩ | ⟨T, f, oT, hz, hT, r1, r2, r3, r4⟩
        · refine wpAny_pyNext_zipD2_item D (D1 _ hA) (D2 _ hA) hz hTI hTO h1 h2 hix hiy fun x1 x2 h' tk y1 y2 a1 a2 a3 a4 a5 a6 hk => ?_
          exact hQ s₁.heap.objs.size _ _ h' tk ⟨y1, y2⟩ (.inl ⟨_, a5, rfl, _, rfl⟩)
            ⟨hk _ _ D.TIz D.TITO D.TIi1 D.TIi2 hTI, a3, a4, .inr ⟨s₁.heap.objs.size, false, _, a1, a5, lt hz, l1, l2, Nat.ne_of_gt hds⟩⟩
            fun c o hc e => hk c o (fun x => hc (by simp [x])) (fun x => hc (by simp [x])) (fun x => hc (by simp [x])) (fun x => hc (by simp [x])) e
        · refine pyNext_zipH_item D (D1 _ hA) (D2 _ hA) hz hT hTI h1 h2 hix hiy fun x1 x2 h' tk y1 y2 a1 a3 a4 a5 hk => ?_
          exact hQ s₁.heap.objs.size _ _ h' tk ⟨y1, y2⟩ (.inl ⟨_, a5, rfl, _, rfl⟩)
            ⟨hk _ _ D.TIz D.TIi1 D.TIi2 hTI, a3, a4, .inr ⟨T, true, oT, a1, hk _ _ r1 r2 r3 hT, r1, r2, r3, r4⟩⟩
            fun c o hc e => hk c o (fun x => hc (by simp [x])) (fun x => hc (by simp [x])) (fun x => hc (by simp [x])) e
      done := fun s₁ Q₁ E₁ st hQ => by
        obtain ⟨hTI, h1, h2, hz⟩ := st
        rcases hz with ⟨hz, a, b, hTO⟩ | ⟨T, f, oT, hz, hT, r1, r2, r3, r4⟩
        · exact wpAny_pyNext_zipD2_end D (D1 _ hA) (D2 _ hA) hz hTI hTO h1 h2 (by omega) (by omega) (by omega) fun h' tk hk => hQ h' tk fun c o hc e => hk c o (fun x => hc (by simp [x])) (fun x => hc (by simp [x])) (fun x => hc (by simp [x])) (fun x => hc (by simp [x])) e
        · exact pyNext_zipH_end D (D1 _ hA) (D2 _ hA) hz hT hTI h1 h2 (by omega) (by omega) (by omega) fun h' tk hk => hQ h' tk fun c o hc e => hk c o (fun x => hc (by simp [x])) (fun x => hc (by simp [x])) (fun x => hc (by simp [x])) e }
end

/-- the entries of dict(zip(a text, a tuple)) -/
def zipK (l : List Nat) (ys : List Vv) : List (Key × Vv) := (l.zip ys).map fun p => (tk [p.1], p.2)
theorem zipK_kv : ∀ {l : List Nat} {ys : List Vv} {us : List Value}, Vals ys us → KV (zipK l ys) ((l.zip us).map fun p => (tk [p.1], p.2))
  | [], _, _, _ => .nil
  | _ :: _, _, _, .nil => .nil
  | c :: l, _, _, .cons h t => .cons ⟨rfl, h⟩ (zipK_kv (l := l) t)
def tDictZip (K : PySem.W.Frag) (ta : TA) : TE := fun σ H Q => ta σ H fun vs H1 => ∃ l b ys, vs = [.str (S l), .ref b] ∧ SqT K H1 b ys ∧ l.length = ys.length ∧ ∀ p, H1 p = none → Q (.ref p) (upd H1 p (.dK (mergeK [] (zipK l ys))))
theorem pe_dictZip {X : Cx} {e e2 : Expr} {ta : TA} {p p2 pos pos2 : Pos} (hcalm : X.calm = true) (hg : Gl X "zip") (hm : X.mg "zip" = none) (hg2 : Gl X "dict") (hm2 : X.mg "dict" = none) (ha : PA X [e, e2] ta)
    (hs : starEach [e, e2] X.env = (false, eval e X.env) :: starEach [e2] X.env := by rfl) (hpl : (backTo pos (starEach [e2] X.env)).any (·.1) = false := by rfl)
    (hs2 : starEach [.Call (.Name "zip" p) [e, e2] [] pos] X.env = (false, eval (.Call (.Name "zip" p) [e, e2] [] pos) X.env) :: starEach [] X.env := by rfl) :
    PE X (.Call (.Name "dict" p2) [.Call (.Name "zip" p) [e, e2] [] pos] [] pos2) (tDictZip X.K ta) := by
  refine ⟨fun pins s σ H Q I h => ?_⟩
  refine wpAny_Call_Name_kw (ld_blt I hg2 hm2 PyProof.Rows.boot_dict ?_)
  refine PyProof.Rows.callWith_type1 ?_ hs2 rfl
  rw [hs2]
  refine Calls.spliced_cons ?_
  refine Call_ (ld_blt I hg hm PyProof.Rows.boot_zip (PyProof.Rows.callWith_type1 (thn (ha.run pos pins s σ H _ I h) fun us s1 ⟨vs, H1, I1, r1, q1⟩ => ?_) hs hpl))
  obtain ⟨l, b, ys, ex, hq, hlen, q1⟩ := q1
  subst ex
  obtain ⟨u1, u2, rfl, ⟨t1, rfl⟩, r2⟩ := Vals.two r1
  cases r2
  obtain ⟨its, rv, pt, hz⟩ := I1.tuple hq
  have pt : s1.heap.IsTuple b its.toArray := pt
  obtain ⟨ob, hob, _⟩ := id pt
  have hbl : b < s1.heap.objs.size := Heap.lt_size hob
  have n1 : (S l).cps.size = l.length := List.size_toArray
  have n2 : its.toArray.size = ys.length := by rw [List.size_toArray, rv.length]
  refine zip_begins2 (begins_text (S l) t1) (begins_tuple b its.toArray) trivial pt fun h' hz' hTI hTO h1 h2 hsz hk => ?_
  refine Calls.spliced_nil ?_
  have sep : ZipSep2 (s1.heap.objs.size + 4) (s1.heap.objs.size + 2) (s1.heap.objs.size + 3) s1.heap.objs.size (s1.heap.objs.size + 1) [s1.heap.objs.size] [s1.heap.objs.size + 1, b] :=
    zip_sep2 (fp1 := []) (fp2 := [b]) (fun _ h => by cases h) (fun c h => by rw [List.mem_singleton.mp h]; exact hbl)
  have hbk : h'.get? b = some ob := hk _ _ hob
  refine PySem.call_dict_pairs (knd := mixKind X.prog X.w) (kvs := (l.zip its).map fun p => (tk [p.1], p.2)) (n := min l.length ys.length)
    (pairArg_zipD (n1 := l.length) (n2 := ys.length) (P1 := fun i v => ∃ c u, (S l).cps[i]? = some c ∧ v = .str ⟨#[c]⟩ u) (P2 := fun i v => its.toArray[i]? = some v) (St1 := fun i h => h.IsStrIter s1.heap.objs.size (strIterType (S l)) (S l) t1 i) (St2 := fun i h => h.IsTupleIter (s1.heap.objs.size + 1) b i ∧ h.IsTuple b its.toArray) _ _ _ _ _ sep (fun A hh => n1 ▸ Draws.text hh _ (S l) t1) (fun A hh => n2 ▸ Draws.tuple hh _ b (Nat.ne_of_lt (Nat.lt_succ_of_lt hbl)) its.toArray) (fun h a1 a2 c hc => ?_)
      (fun i h h' ⟨o, ho, r⟩ k => ⟨o, k _ (by simp) _ ho, r⟩) (fun i h h' ⟨⟨o, ho, r⟩, ⟨o2, ho2, r2⟩⟩ k => ⟨⟨o, k _ (by simp) _ ho, r⟩, ⟨o2, k _ (by simp) _ ho2, r2⟩⟩)) (I1.ok.hd hcalm) ⟨hz', hTI, ⟨_, _, hTO⟩, ⟨_, h1, rfl, rfl⟩, ⟨_, h2, rfl, rfl⟩, ⟨ob, hbk, (by obtain ⟨o', ho', r⟩ := pt; rw [hob] at ho'; cases ho'; exact r)⟩⟩ ?_ ?_ fun h2' tk hd' hk2 => ?_
  · obtain ⟨o, ho, _⟩ := a1
    obtain ⟨⟨o2, ho2, _⟩, ⟨o3, ho3, _⟩⟩ := a2
    have hc' : c = s1.heap.objs.size ∨ c = s1.heap.objs.size + 1 ∨ c = b := by simpa using hc
    rcases hc' with rfl | rfl | rfl
    · exact ⟨o, ho⟩
    · exact ⟨o2, ho2⟩
    · exact ⟨o3, ho3⟩
  · refine ⟨by rw [List.length_map, List.length_zip, rv.length], fun i key v ⟨⟨c, u, hc, ek⟩, hv⟩ => ?_⟩
    subst ek
    have hc' : l[i]? = some c := by simpa [S] using hc
    have hv' : its[i]? = some v := by simpa using hv
    refine ⟨tk [c], ?_, kV_is (k := tk [c]) ⟨u, rfl⟩⟩
    have hz2 : (l.zip its)[i]? = some (c, v) := List.getElem?_zip_eq_some.mpr ⟨hc', hv'⟩
    rw [List.getElem?_map, hz2]
    rfl
  · rw [hlen, Nat.min_self]; rw [rv.length] at hz ⊢; exact hz
  · have hm' : (h'.objs.size == sysModules) = false := beq_eq_false_iff_ne.mpr (Nat.ne_of_gt (by rw [hsz]; exact Nat.lt_of_lt_of_le I1.big (Nat.le_add_right _ _)))
    have hl2 : (mergeK [] (zipK l ys)).length ≤ sizeLine := by
      refine Nat.le_trans (length_mergeK _ []) ?_
      rw [List.length_nil, Nat.zero_add]
      unfold zipK
      rw [List.length_map, List.length_zip, hlen, Nat.min_self]
      exact hz
    have kp : ∀ c o, s1.heap.get? c = some o → h2'.get? c = some o := fun c o e => hk2 c o (fun hc => by
      have hlt := Heap.lt_size e
      have hc' : c = s1.heap.objs.size + 4 ∨ c = s1.heap.objs.size + 3 ∨ c = s1.heap.objs.size ∨ c = s1.heap.objs.size + 1 := by simpa using hc
      rcases hc' with q | q | q | q
      · rw [q] at hlt; exact absurd hlt (Nat.not_lt_of_le (Nat.le_add_right _ _))
      · rw [q] at hlt; exact absurd hlt (Nat.not_lt_of_le (Nat.le_add_right _ _))
      · rw [q] at hlt; exact absurd hlt (Nat.lt_irrefl _)
      · rw [q] at hlt; exact absurd hlt (Nat.not_lt_of_le (Nat.le_add_right _ _))) (hk _ _ e)
    exact ⟨.ref h'.objs.size, upd H1 h'.objs.size (.dK (mergeK [] (zipK l ys))), I1.laid (t' := tk) kp (by rw [hsz]; exact Nat.le_add_right _ _) (show ObjOk X.prog X.w _ _ _ (.dK _) from ⟨hl2, hm', merged [] _, KV.merge (zipK_kv rv) .nil, hd'⟩), rfl, q1 _ (I1.hok.fresh (by rw [hsz]; exact Nat.le_add_right _ _))⟩
end FW
set_option Elab.async false
set_option linter.all false
set_option maxRecDepth 100000
set_option maxHeartbeats 4000000
/-! FwR: more comprehensions: over zip of texts, of two fors, of dicts; d.update; list slices. -/
namespace FW
open PySem PySem.Spec PyProof.Rows L2
section
variable {U : Vol} {X : Cx} {e a b : Expr} {es : List Expr} {rest body : List Stmt} {σ : Sg} {w w' : Wd U} {P P' : GP} {Ps : List GP} {D : En U} {pos p apos : Pos} {ds : List PyData}
/-! ### dict(zip(text, tuple)) -/
theorem cw_dictZip {e1 e2 : Expr} {l : List Nat} {p2 pos2 : Pos} (hc : X.calm = true) (hm : X.mg "zip" = none) (hm2 : X.mg "dict" = none) (h1 : CE X e1 σ w (T l)) (h2 : CE X e2 σ w (Da X.K (.tuple ds))) (hl : l.length = ds.length) (hg : Gl X "zip" := by rfl) (hg2 : Gl X "dict" := by rfl)
    (hs : starEach [e1, e2] X.env = (false, eval e1 X.env) :: starEach [e2] X.env := by rfl) (hs' : starEach [e2] X.env = (false, eval e2 X.env) :: starEach [] X.env := by rfl) (hpl : (backTo pos (starEach [e2] X.env)).any (·.1) = false := by rfl)
    (hs2 : starEach [.Call (.Name "zip" p) [e1, e2] [] pos] X.env = (false, eval (.Call (.Name "zip" p) [e1, e2] [] pos) X.env) :: starEach [] X.env := by rfl) :
    CW X (.Call (.Name "dict" p2) [.Call (.Name "zip" p) [e1, e2] [] pos] [] pos2) σ w (NwO w fun ob w' => ∃ vs, ob = .dK (mergeK [] (zipK l vs)) ∧ DpAll X.K w'.G vs ds) :=
  cw_lift (pe_dictZip hc hg hm hg2 hm2 pa_can hs hpl hs2) fun w1 l1 Q q => (ca_cons h1 (ca_cons h2 ca_nil hs') hs) w1 l1 _ fun vs w2 l2 hv => by
    obtain ⟨x, y, rfl, hx, hy⟩ := args2 hv
    have hx : x = _ := hx
    subst hx
    have hy : Dp X.K w2.G y (.tuple ds) := hy
    cases hy with
    | @tup a xs _ ht hd =>
      refine ⟨l, a, xs, rfl, Evl.ex_t w2.ex ht, by rw [hl, dpa_len hd], fun p hp => ?_⟩
      have g := gr_newH w2.ex (o := .dK (mergeK [] (zipK l xs))) hp
      exact q _ (w2.grow g.2.1 g.1) (l2.trans (Gr.le g.1)) ⟨p, _, rfl, (l1.trans l2).new hp, owo_new hp, xs, rfl, dpa_ex g.1.g hd⟩
/-! ### d.update(d2) -/
def tDUpd (to te : TE) : TE := fun σ H Q => to σ H fun x H1 => ∃ a, x = .ref a ∧ IsD H1 a ∧ te σ H1 fun y H2 => ∃ b kvs more, y = .ref b ∧ a ≠ b ∧ H2 a = some (.dK kvs) ∧ H2 b = some (.dK more) ∧ kvs.length + more.length ≤ sizeLine ∧ Q .non (upd H2 a (.dK (mergeK kvs more)))
theorem pe_dupd {o e : Expr} {td te : TE} {apos cpos : Pos} (ho : PE X o td) (he : PE X e te) (m : M1 X o "update" apos e cpos) : PE X (.Call (.Attribute o "update" apos) [e] [] cpos) (tDUpd td te) := by
  refine ⟨fun pins s σ H Q I h => ?_⟩
  refine wpAny_Call_method m.base m.few m.line PySem.F.plainAttrs_dict PySem.F.slot_dict_update PySem.F.type_dict_update (thn (ho.run pins s σ H _ I h) fun u s1 ⟨x, H1, I1, rx, a, ex, d, q1⟩ => ?_)
  subst ex
  obtain rfl : u = Value.ref a := rx
  obtain ⟨t1, t2, _⟩ := isD_at I1 d
  refine ⟨t1, t2, ?_⟩
  rw [m.trees]
  refine Calls.callWith_builtin rfl (Calls.evalArgs_plain (Calls.spliced_cons (thn (he.run pins s1 σ H1 _ I1 q1) fun iv s2 ⟨y, H2, I2, ry, b, kvs, more, ey, hne, h1, h2, hsz, q2⟩ => Calls.spliced_nil ?_)))
  subst ey
  obtain rfl : iv = Value.ref b := ry
  obtain ⟨z1, hd1, vs1, rel1, dd1⟩ := dk_of I2.hok h1
  obtain ⟨z2, hd2, vs2, rel2, dd2⟩ := dk_of I2.hok h2
  refine call_meetsIn PySem.F.slot_dict_update dd1.typeIs PySem.F.entry_dict_update (PySem.F.args_dict_update_2 _ _) (PySem.meets_dict_update (mixKind X.prog X.w) a b hne hd2) ⟨vs1, vs2, dd1, dd2, by rw [← rel1.length, ← rel2.length]; exact hsz, fun h' dd' _ hs => ?_⟩
  have he : ∃ q, h'.get? a = some q := let ⟨q, _, _, hq, _⟩ := dd'; ⟨q, hq⟩
  have hl : (mergeK kvs more).length ≤ sizeLine := Nat.le_trans (length_mergeK more kvs) hsz
  exact ⟨.non, _, d_write (t' := s2.toks) I2 (by rw [h1]; exact True.intro) hs he (dk_new hl hd1 (KV.merge rel2 rel1) dd'), rfl, q2⟩
/-- d.update(e) as a statement; e a new dict -/
theorem go_dupd (i : Nat) {x : Str} {p1 cpos : Pos} {q : Addr} {kvs : List (Key × Vv)} {R : HO → Wd U → Prop} (o : OwO w q (.dK kvs)) (he : CW X e σ w (NwO w R)) (hR : ∀ ob w', R ob w' → ∃ more, ob = .dK more ∧ kvs.length + more.length ≤ 1000000)
    (k : ∀ more w' (l' : Le w w') (o' : OwO w' q (.dK kvs)), R (.dK more) w' → Go X rest σ (w'.putO q o' (.dK (mergeK kvs more))) D)
    (hσ : σ[i]? = some (some (.ref q)) := by rfl) (hN : X.N[i]? = some x := by rfl) (hvi : Vis X.env.scope x := by first | exact Or.inl rfl | exact Or.inr (Or.inl rfl) | exact Or.inr (Or.inr rfl)) (hd : (x == ("__debug__" : Str)) = false := by decide) (hcd : (x == ("__classdict__" : Str)) = false := by decide)
    (hm : M1 X (.Name x p1) "update" apos e cpos := by exact ⟨rfl, rfl, rfl, rfl⟩)
    (hsw : swapsWith (.Call (.Attribute (.Name x p1) "update" apos) [e] [] cpos) none p.line X.env = pure false := by rfl) :
    Go X (.Expr (.Call (.Attribute (.Name x p1) "update" apos) [e] [] cpos) p :: rest) σ w D :=
  s_of (pss_cons (ps_expr (pe_dupd (pe_var hN hvi hd hcd) pe_can hm) hsw) pss_can)
    ⟨_, hσ, q, rfl, .inl ⟨kvs, .inl o.h⟩, he w (Le.refl _) _ fun v w2 l ⟨b, ob, ev, hn, ob2, r⟩ => by
      subst ev
      obtain ⟨more, rfl, hz⟩ := hR _ _ r
      have o2 := o.mono l
      exact ⟨b, kvs, more, rfl, owo_ne o hn, o2.h, ob2.h, line_of hz, k more w2 l o2 r⟩⟩
/-! ### {key: value for x in a text} -/
section
variable {kx vx it elt : Expr} {scope : Scope} {j : Nat} {x : Str} {px : Pos}
theorem cw_dcT {l : List Nat} (key : Nat → List Nat) (val : Nat → Vv) (hi : CE X it σ w (T l)) (hl : l.length ≤ 1000000) (hk : ∀ c w', c ∈ l → Le w w' → CEb X scope kx ((wipe σ [j]).set j (some (.str (S [c])))) w' (T (key c)))
    (hv : ∀ c w', c ∈ l → Le w w' → CEb X scope vx ((wipe σ [j]).set j (some (.str (S [c])))) w' (Is (val c)))
    (hc : X.calm = true) (hN : X.N.Nodup) (ok : BlkOk X.N X.env.scope scope [(x, j)])
    (hg : Bk X scope fun B => PG B (.Name x px) (gName j)) (hs : ∀ x, foldedSetIterable it X.env x = pure x := by intro _; rfl) :
    CW X (.DictComp kx vx [⟨.Name x px, it, [], 0⟩] scope pos) σ w (NwO w fun ob _ => ob = .dK (mergeK [] (l.map fun c => (tk (key c), val c)))) := by
  refine cw_lift (pe_dc hc hN (pi_str pe_can) ok hg (fun _ _ _ _ _ => pts_nil) (fun _ _ _ _ _ => pb_can) (fun _ _ _ _ _ => pb_can) hs) fun w1 l1 Q q => ?_
  refine hi w1 l1 _ fun v w2 l2 hv' => ⟨S l, hv', fun Dn hD => ?_⟩
  have esz : (S l).cps.size = l.length := List.size_toArray
  have g0 := gr_newH w2.ex (o := .dK []) hD
  refine ⟨fun i m H => m = l.length - i ∧ i ≤ l.length ∧ ∃ w' : Wd U, w'.H = H ∧ Le w2 w' ∧ OwO w' Dn (.dK (mergeK [] ((l.take i).map fun c => (tk (key c), val c)))), ⟨l.length, by simp, Nat.zero_le _, w2.grow g0.2.1 g0.1, rfl, Gr.le g0.1, owo_new hD⟩, ?_⟩
  rintro i m H ⟨rfl, hi', w', rfl, lw, o⟩
  by_cases hlt : i < l.length
  · refine .inr ⟨by show i < (S l).cps.size; omega, fun H' => i + 1 ≤ l.length ∧ ∃ w' : Wd U, w'.H = H' ∧ Le w2 w' ∧ OwO w' Dn (.dK (mergeK [] ((l.take (i + 1)).map fun c => (tk (key c), val c)))), fun H' h => ⟨l.length - (i + 1), by omega, rfl, h.1, h.2⟩, ?_⟩
    rintro x' H' ⟨rfl, c, hc', rfl⟩
    have hc2 : l[i]? = some c := by simpa [S] using hc'
    have hmem := List.mem_of_getElem? hc2
    refine ⟨by simp [wipe, List.set_set], ?_⟩
    simp only [tYes, ↓reduceIte]
    refine ceb_ev (hk c w' hmem ((l1.trans l2).trans lw)) w' (Le.refl _) _ fun y w3 l3 hy => ?_
    refine ceb_ev (hv c w' hmem ((l1.trans l2).trans lw)) w3 l3 _ fun z w4 l4 hz => ?_
    have hy : y = _ := hy
    have hz : z = _ := hz
    subst hy hz
    have o4 := o.mono (l3.trans l4)
    refine ⟨_, tk (key c), rfl, o4.h, ?_, by omega, w4.putO Dn o4 _, rfl, ((lw.trans l3).trans l4).putO hD o4, ?_⟩
    · refine Nat.lt_of_le_of_lt (length_mergeK _ []) ?_
      rw [List.length_nil, Nat.zero_add, List.length_map, List.length_take]
      exact line_lt (by omega)
    · have e : mergeK [] ((l.take (i + 1)).map fun c => (tk (key c), val c)) = putK (mergeK [] ((l.take i).map fun c => (tk (key c), val c))) (tk (key c)) (val c) := by
        rw [List.take_add_one, hc2, List.map_append]
        unfold mergeK
        rw [List.foldl_append]; rfl
      rw [e]; exact o4.put
  · have e : i = l.length := by omega
    subst e
    rw [List.take_length] at o
    exact .inl ⟨by show (S l).cps.size ≤ _; omega, q _ w' (l2.trans lw) ⟨Dn, _, rfl, (l1.trans l2).new hD, o, rfl⟩⟩
end
/-! ### [elt for a, b in zip(two texts)] -/
theorem wipe2_set {σ : Sg} {i j : Nat} {u v : Option Vv} (hij : i ≠ j) : wipe (((wipe σ [i, j]).set i u).set j v) [i, j] = wipe σ [i, j] := by
  show ((((((σ.set j none).set i none).set i u).set j v).set j none).set i none) = (σ.set j none).set i none
  rw [List.set_set, List.set_set, List.set_comm _ _ hij, List.set_set, List.set_set]
section
variable {elt e1 e2 : Expr} {scope : Scope} {i j : Nat} {x y : Str} {px py pt : Pos} {kt : Nat}
theorem cn_lcZ {l m : List Nat} {p2 pos2 : Pos} (g : Nat × Nat → PyData) (hm : X.mg "zip" = none) (h1 : CE X e1 σ w (T l)) (h2 : CE X e2 σ w (T m)) (hl : l.length ≤ 1000000)
    (he : ∀ c d w', (c, d) ∈ l.zip m → Le w w' → CEb X scope elt (((wipe σ [i, j]).set i (some (.str (S [c])))).set j (some (.str (S [d])))) w' (Da X.K (g (c, d))))
    (hc : X.calm = true) (hN : X.N.Nodup) (ok : BlkOk X.N X.env.scope scope [(x, i), (y, j)])
    (hg : Bk X scope fun B => PG B (.Tuple [.Name x px, .Name y py] kt pt) (gTup X.K 2 (gCons (gName i) (gCons (gName j) gNil)))) (hij : i ≠ j := by decide) (hgl : Gl X "zip" := by rfl)
    (hs : starEach [e1, e2] X.env = (false, eval e1 X.env) :: starEach [e2] X.env := by rfl) (hs' : starEach [e2] X.env = (false, eval e2 X.env) :: starEach [] X.env := by rfl) (hpl : (backTo pos2 (starEach [e2] X.env)).any (·.1) = false := by rfl)
    (hss : ∀ x, foldedSetIterable (.Call (.Name "zip" p2) [e1, e2] [] pos2) X.env x = pure x := by intro _; rfl) :
    CN X (.ListComp elt [⟨.Tuple [.Name x px, .Name y py] kt pt, .Call (.Name "zip" p2) [e1, e2] [] pos2, [], 0⟩] scope pos) σ w ((l.zip m).map g) := by
  refine cn_lift (pe_lc hc hN (pi_zipS hgl hm pa_can hs hpl) ok hg (fun _ _ _ _ _ => pts_nil) (fun _ _ _ _ _ => pb_can) hss) fun w1 l1 Q q => ?_
  refine (ca_cons h1 (ca_cons h2 ca_nil hs') hs) w1 l1 _ fun vs w2 l2 hv => ?_
  obtain ⟨x', y', rfl, hx, hy⟩ := args2 hv
  have hx : x' = _ := hx
  have hy : y' = _ := hy
  subst hx hy
  refine ⟨l, m, rfl, fun Dn hD => ?_⟩
  have hlen : (l.zip m).length = min l.length m.length := List.length_zip
  refine lc_it (walk_zipS (l := l) (m := m)) (fun k H => ∃ (w' : Wd U) (vs : List Vv), w'.H = H ∧ Le w2 w' ∧ Own w' Dn vs ∧ DpAll X.K w'.G vs (((l.zip m).take k).map g)) ?_ (fun _ _ _ _ => trivial) (fun k z H H' hk ⟨w', vs, e, lw, o, d⟩ yy => ?_) (fun H ⟨w', vs, e, lw, o, d⟩ => ?_)
  · exact ⟨w2.grow (gr_newH w2.ex (o := .lst []) hD).2.1 (gr_newH w2.ex (o := .lst []) hD).1, [], rfl, Gr.le (gr_newH w2.ex hD).1, own_new hD, .nil⟩
  · subst e
    obtain ⟨T', c, d', ez, hT, eH, hc', hd'⟩ := yy
    subst ez eH
    have hz2 : (l.zip m)[k]? = some (c, d') := List.getElem?_zip_eq_some.mpr ⟨hc', hd'⟩
    have gg := gr_newH w'.ex (o := .tup [.str (S [c]), .str (S [d'])]) hT
    have lw2 : Le w' (w'.grow gg.2.1 gg.1) := Gr.le gg.1
    refine ⟨T', _, rfl, .inl (.inl upd_same), rfl, _, _, rfl, _, _, rfl, rfl, ?_, ?_⟩
    · exact wipe2_set hij
    · simp only [tYes, ↓reduceIte]
      refine ceb_ev (he c d' (w'.grow gg.2.1 gg.1) (List.mem_of_getElem? hz2) (((l1.trans l2).trans lw).trans lw2)) _ (Le.refl _) _ fun v w3 l3 dv => ?_
      have o3 := (o.mono lw2).mono l3
      refine ⟨vs, o3.h, line_lt (by have e := dpa_len d; rw [List.length_map, List.length_take] at e; omega), w3.put Dn o3 (vs ++ [v]), vs ++ [v], rfl, ((lw.trans lw2).trans l3).put hD o3, o3.put, ?_⟩
      rw [List.take_add_one, hz2, List.map_append]
      exact dpa_app (dpa_ex (lw2.g.trans l3.g) d) (.cons dv .nil)
  · subst e
    rw [← hlen, List.take_length] at d
    exact q Dn vs w' (l2.trans lw) (l2.new hD) o d
end
end
end FW
set_option Elab.async false
set_option linter.all false
set_option maxRecDepth 100000
set_option maxHeartbeats 4000000
/-! FwI: instances; more methods of texts; two-for comprehensions; for over zip; list slices and sums. -/
namespace FW
open PySem PySem.Spec PyProof.Rows L2
/-! ### instances -/
def FldD (K : PySem.W.Frag) (G : Hp) (fs : List (Str × Vv)) (nds : List (Str × PyData)) : Prop := ∀ q ∈ nds, ∃ v, fs.lookup q.1 = some v ∧ Dp K G v q.2
theorem FldD.ex {K : PySem.W.Frag} {G G' : Hp} {fs : List (Str × Vv)} {nds : List (Str × PyData)} (h : FldD K G fs nds) (e : Ex G G') : FldD K G' fs nds := fun q hq => let ⟨v, h1, h2⟩ := h q hq; ⟨v, h1, dp_ex e h2⟩
/-- an instance of C with fields that are data -/
def InsD (K : PySem.W.Frag) (C : Addr) (nds : List (Str × PyData)) : GP := fun v G => ∃ x dx fs, v = .ref x ∧ G x = some (.ins C dx fs) ∧ FldD K G fs nds
instance {K : PySem.W.Frag} {C : Addr} {nds : List (Str × PyData)} : MonoG (InsD K C nds) := ⟨fun _ _ _ e ⟨x, dx, fs, h1, h2, h3⟩ => ⟨x, dx, fs, h1, e x _ h2, h3.ex e⟩⟩
/-- the contract of an __init__: x the new instance -/
def Ini {α : Type} (C : Addr) (A : α → List GP) (pre : α → Prop) (R : α → List (Str × Vv) → Hp → Prop) : Sp := fun vs H Q _ => ∃ (z : α) (G H1 : Hp) (x dx : Addr) (args : List Vv), Ex G H1 ∧ vs = .ref x :: args ∧ H1 x = none ∧ H1 dx = none ∧ dx ≠ x ∧ H = upd (upd H1 dx (.own x)) x (.ins C dx []) ∧ Args (A z) args G ∧ pre z ∧
  ∀ G' H' fs, Ex G' H' → Gr G H1 G' H' → H' x = some (.ins C dx fs) → G' x = none → R z fs G' → Q .non H'
structure Mak (P : Program) (w : World) (K : PySem.W.Frag) (mg : Str → Option Value) (base : Heap) (cn : Str) (C : Addr) (n : Nat) (k : Nat) (sp : Sp) : Prop where
  ex : ∃ f fd ps, mg cn = some (.ref C) ∧ Mk K C f ∧ Binds K fd ps [] ∧ ps.length = n ∧ FnOk P w K mg base CX0 k f fd ps sp
section
variable {U : Vol} {X : Cx} {e a b : Expr} {es : List Expr} {rest body : List Stmt} {σ : Sg} {w w' : Wd U} {P P' : GP} {Ps : List GP} {D : En U} {pos p apos : Pos} {ds : List PyData}
/-- C(args) -/
theorem ce_make {α : Type} {A : α → List GP} {pre : α → Prop} {nds : α → List (Str × PyData)} {cn : Str} {C : Addr} {n k j : Nat} (z : α)
    (M : Mak X.prog X.w X.K X.mg X.base cn C n k (Ini C A pre fun z fs G => FldD X.K G fs (nds z))) (hr : Room j X.A) (ha : CA X (e :: es) σ w (A z)) (hp : pre z) (hk : k + 1 ≤ j := by decide) (hg : Gl X cn := by rfl)
    (hdb : (cn == ("__debug__" : Str)) = false := by decide) (he : starEach (e :: es) X.env = (false, eval e X.env) :: starEach es X.env := by rfl) (hpl : (backTo pos (starEach es X.env)).any (·.1) = false := by rfl) :
    CE X (.Call (.Name cn p) (e :: es) [] pos) σ w (InsD X.K C (nds z)) := by
  obtain ⟨f, fd, ps, hm, mk, hb, _, F⟩ := M.ex
  refine ce_lift (pe_make (E := E0) mk F (hr.mono hk) hg hm hb .nil pass0 pa_can hdb he hpl) fun w1 l Q q => ha w1 l _ fun vs w2 l2 hv => ?_
  intro x dx hx hdx hne
  rw [List.append_nil]
  refine ⟨z, w2.G, w2.H, x, dx, vs, w2.ex, rfl, hx, hdx, hne, rfl, hv, hp, fun G' H' fs e g h1 h2 r => ⟨rfl, ?_⟩⟩
  have o : OwO (w2.grow e g) x (.ins C dx fs) := ⟨h2, fun z => (U.al _ _ _ w2.j z) hx, h1⟩
  exact q _ ((w2.grow e g).iceO x o) (Le.iceO (l2.trans (Gr.le g)) (l2.new hx) o) ⟨x, dx, fs, rfl, iceO_at o, FldD.ex r (iceO_ex o)⟩
/-- e.f -/
theorem ce_fld {C : Addr} {nds : List (Str × PyData)} {f : Str} {d : PyData} (h : CE X e σ w (InsD X.K C nds)) (c : Cls X.K C) (na : NoAttr X.K C f) (hm : (f, d) ∈ nds) (hb : attributeBase e f X.env (eval e X.env) = eval e X.env := by rfl) : CE X (.Attribute e f pos) σ w (Da X.K d) :=
  ce_lift (pe_fld pe_can hb) fun w1 l Q q => h w1 l _ fun v w2 l2 ⟨x, dx, fs, ev, hx, hf⟩ => by
    obtain ⟨u, h1, h2⟩ := hf _ hm
    exact ⟨x, C, dx, fs, u, ev, w2.ex _ _ hx, c, na, h1, q _ w2 l2 h2⟩
/-- self.f = value, self one's own -/
theorem go_fld (i : Nat) {x : Str} {p1 : Pos} {q C dx : Addr} {fs : List (Str × Vv)} {f : Str} (o : OwO w q (.ins C dx fs)) (hv : CE X a σ w P) (c : Cls X.K C) (na : NoAttr X.K C f) (hz : fs.length < 1000)
    (k : ∀ v w' (l' : Le w w') (o' : OwO w' q (.ins C dx fs)), P v w'.G → Go X rest σ (w'.putO q o' (.ins C dx (putF f v fs))) D)
    (hσ : σ[i]? = some (some (.ref q)) := by rfl) (hN : X.N[i]? = some x := by rfl) (hvi : Vis X.env.scope x := by first | exact Or.inl rfl | exact Or.inr (Or.inl rfl) | exact Or.inr (Or.inr rfl)) (hd : (x == ("__debug__" : Str)) = false := by decide) (hcd : (x == ("__classdict__" : Str)) = false := by decide)
    (hsw : swapsWith a (some (.Attribute (.Name x p1) f pos)) p.line X.env = pure false := by rfl) :
    Go X (.Assign [.Attribute (.Name x p1) f pos] a p :: rest) σ w D :=
  s_of (pss_cons (ps_fld (pe_var hN hvi hd hcd) pe_can hsw) pss_can) (hv w (Le.refl _) _ fun v w2 l2 pv => ⟨_, hσ, q, C, dx, fs, rfl, (o.mono l2).h, c, na, hz, k v w2 l2 (o.mono l2) pv⟩)
/-- isinstance(an instance, an own class) -/
theorem ce_isiI {C C2 : Addr} {nds : List (Str × PyData)} {x : Str} {p2 : Pos} {r : Bool} (hm : X.mg "isinstance" = none) (hms : X.mg x = some (.ref C2)) (ha : CE X a σ w (InsD X.K C nds)) (c : Cls X.K C) (xa : PySem.W.findIn X.K (.ref C) "__class__" = some (some (.builtin "object.__class__")))
    (xh : PySem.W.specialIn X.K (.builtin "object.__class__") "__get__" = some (some (.builtin "getset_descriptor.__get__"))) (xg : PySem.W.takesIn X.K (.builtin "object.__class__") = some true) (xm : PySem.W.mroIn X.K C (.type "object") = some true) (hk : PySem.W.kitOne X.K (.ref C) (.ref C2) = some r)
    (hg : Gl X "isinstance" := by rfl) (hg2 : Gl X x := by rfl) (hd : (x == ("__debug__" : Str)) = false := by decide) (hs : starEach (a :: [.Name x p2]) X.env = (false, eval a X.env) :: starEach [.Name x p2] X.env := by rfl) (hs2 : starEach (.Name x p2 :: []) X.env = (false, eval (.Name x p2) X.env) :: starEach [] X.env := by rfl) (hpl : (backTo pos (starEach [.Name x p2] X.env)).any (·.1) = false := by rfl) :
    CE X (.Call (.Name "isinstance" p) [a, .Name x p2] [] pos) σ w (Bo r) :=
  ce_isi (cv := .ref C2) (u := .ref C2) hm ha (ce_glob hg2 hms rfl hd) (.own C2) (t := .ref C) (fun v w' _ ⟨y, dx, fs, ev, hy, _⟩ => by
    subst ev
    exact .base (.ins (w'.ex _ _ hy) c xa xh xg xm)) hk hg hs hs2 hpl
/-- isinstance(a tuple, tuple), isinstance(a tuple, list) -/
theorem tyx_tup {K : PySem.W.Frag} {G H : Hp} (e : Ex G H) {v : Vv} {ds : List PyData} (h : Dp K G v (.tuple ds)) : TyX K H v (.type "tuple") := by
  cases h with
  | tup ht _ =>
    rcases Evl.ex_t e ht with (h | ⟨o, h⟩) | ⟨o, its, n, h, hc, _⟩
    · exact .base (.tup h)
    · exact .fTuple h
    · exact .kTuple h hc
theorem tyx_lst {K : PySem.W.Frag} {G H : Hp} (e : Ex G H) {v : Vv} {ds : List PyData} (h : Dp K G v (.list ds)) : TyX K H v (.type "list") := by
  cases h with
  | lst ht _ =>
    rcases Evl.ex_l e ht with (h | ⟨o, h⟩) | ⟨o, its, n, h, hc, _⟩
    · exact .base (.lst h)
    · exact .base (.frz h)
    · exact .kList h hc
theorem ce_isiTup {t : String} {x : Str} {p2 : Pos} {r : Bool} (hm : X.mg "isinstance" = none) (hms : X.mg x = none) (hb : bootBuiltins x = some (.type t)) (ha : CE X a σ w (Da X.K (.tuple ds))) (hk : PySem.W.kitOne X.K (.type "tuple") (.type t) = some r)
    (hg : Gl X "isinstance" := by rfl) (hg2 : Gl X x := by rfl) (hn : x ≠ "__name__" := by decide) (hd : (x == ("__debug__" : Str)) = false := by decide) (hs : starEach (a :: [.Name x p2]) X.env = (false, eval a X.env) :: starEach [.Name x p2] X.env := by rfl) (hs2 : starEach (.Name x p2 :: []) X.env = (false, eval (.Name x p2) X.env) :: starEach [] X.env := by rfl) (hpl : (backTo pos (starEach [.Name x p2] X.env)).any (·.1) = false := by rfl) :
    CE X (.Call (.Name "isinstance" p) [a, .Name x p2] [] pos) σ w (Bo r) :=
  ce_isi (cv := .ty t) (u := .type t) hm ha (ce_cls t hms hb hg2 hn hd) (.ty t) (t := .type "tuple") (fun v w' _ h => tyx_tup w'.ex h) hk hg hs hs2 hpl
/-! ### methods of texts -/
theorem islower_ok : ∀ c, c < 128 → ((Unicode.isLower c) && !(Unicode.isUpper c || Unicode.isTitle c)) = decide (97 ≤ c ∧ c ≤ 122) := by decide +kernel
theorem isupper_ok : ∀ c, c < 128 → ((Unicode.isUpper c) && !(Unicode.isLower c || Unicode.isTitle c)) = decide (65 ≤ c ∧ c ≤ 90) := by decide +kernel
theorem mt_islower : MtR X "str.islower" (fun x xs H Q => ∃ a, x = .str a ∧ xs = [] ∧ True ∧ Q (.bl (Txt.islower a)) H) :=
  mt0 (C := fun _ => True) (g := fun a => .bl (Txt.islower a)) fun a _ s _ hc h => PySem.SC.islower (h _ s.toks rfl)
theorem mt_isupper : MtR X "str.isupper" (fun x xs H Q => ∃ a, x = .str a ∧ xs = [] ∧ True ∧ Q (.bl (Txt.isupper a)) H) :=
  mt0 (C := fun _ => True) (g := fun a => .bl (Txt.isupper a)) fun a _ s _ hc h => PySem.SC.isupper (h _ s.toks rfl)
theorem ce_islower {c : Nat} (ho : CE X e σ w (T [c])) (hc : c < 128) (hbase : attributeBase e "islower" X.env (eval e X.env) = eval e X.env := by rfl) (hline : (apos.endLine == pos.line) = true := by rfl) :
    CE X (.Call (.Attribute e "islower" apos) [] [] pos) σ w (Bo (decide (97 ≤ c ∧ c ≤ 122))) :=
  (ce_m0 (C := fun _ => True) (g := fun a => .bl (Txt.islower a)) PySem.F.slot_str_islower PySem.F.type_str_islower mt_islower ho trivial hbase hline).cast (by
    rw [← islower_ok c hc]
    unfold Txt.islower S
    simp)
theorem ce_isupper {c : Nat} (ho : CE X e σ w (T [c])) (hc : c < 128) (hbase : attributeBase e "isupper" X.env (eval e X.env) = eval e X.env := by rfl) (hline : (apos.endLine == pos.line) = true := by rfl) :
    CE X (.Call (.Attribute e "isupper" apos) [] [] pos) σ w (Bo (decide (65 ≤ c ∧ c ≤ 90))) :=
  (ce_m0 (C := fun _ => True) (g := fun a => .bl (Txt.isupper a)) PySem.F.slot_str_isupper PySem.F.type_str_isupper mt_isupper ho trivial hbase hline).cast (by
    rw [← isupper_ok c hc]
    unfold Txt.isupper S
    simp)
theorem occ_idx {l : List Nat} {c k : Nat} (hk : l[k]? = some c) (hn : ∀ j, j < k → l[j]? ≠ some c) : ∃ r, Builtin.Str.occurrences (S l) (S [c]) 0 (S l).length 1 = k :: r := by
  have at_iff : ∀ i, StrLaws.At (S l) (S [c]) (S l).length i ↔ l[i]? = some c := fun i => StrLaws.subAt_one (S l) c i
  rcases StrLaws.occ_head (S l) (S [c]) 1 (Nat.le_refl 1) with ⟨_, h⟩ | ⟨i, r, h0, hi, h⟩
  · exact absurd ((at_iff k).mpr hk) (h k)
  · refine ⟨r, ?_⟩
    rw [h0]
    have h1 := (at_iff i).mp hi
    rcases Nat.lt_trichotomy i k with q | q | q
    · exact absurd h1 (hn i q)
    · rw [q]
    · exact absurd ((at_iff k).mpr hk) (h k q)
theorem ce_indexT {l : List Nat} {c k : Nat} (ho : CE X a σ w (T l)) (he : CE X e σ w (T [c])) (hk : l[k]? = some c) (hn : ∀ j, j < k → l[j]? ≠ some c) (hs : starEach [e] X.env = [(false, eval e X.env)] := by rfl)
    (hbase : attributeBase a "index" X.env (eval a X.env) = eval a X.env := by rfl) (hline : (apos.endLine == pos.line) = true := by rfl) : CE X (.Call (.Attribute a "index" apos) [e] [] pos) σ w (I k) :=
  ce_lift (pe_m1 PySem.F.slot_str_index PySem.F.type_str_index mt_sindex pe_can pe_can hs hbase hline) fun w1 l1 Q q => ho w1 l1 _ fun v w2 l2 hv => ⟨⟨_, hv⟩, he w2 (l1.trans l2) _ fun u w3 l3 hu => by
    have hu : u = _ := hu
    have hv : v = _ := hv
    subst hu hv
    obtain ⟨r, h⟩ := occ_idx hk hn
    exact ⟨S l, S [c], k, r, rfl, rfl, h, q _ w3 (l2.trans l3) rfl⟩⟩
/-! ### lists: [::-1], + -/
theorem cn_revL {k : Nat} {p1 p2 p3 : Pos} (h : CQ X e σ w ds) : CN X (.Subscript e (.Slice none none (some (.UnaryOp .USub (.Constant (.int 1) k p1) p2)) p3) pos) σ w ds.reverse :=
  cn_lift (pe_revL pe_can) fun w1 l Q q => h w1 l _ fun v w2 l2 ⟨a, vs, ev, hq, hd⟩ => by
    subst ev
    exact ⟨a, vs, rfl, hq _ (Le.refl _), fun p hp => cn_new q l2 hp (dpa_rev hd)⟩
def rCatS (K : PySem.W.Frag) : R2 := fun x y H Q => ∃ l b xs zs, x = .ref l ∧ y = .ref b ∧ SqL K H l xs ∧ SqL K H b zs ∧ xs.length + zs.length ≤ sizeLine ∧ ∀ p, H p = none → Q (.ref p) (upd H p (.lst (xs ++ zs)))
end
end FW
set_option Elab.async false
set_option linter.all false
set_option maxRecDepth 100000
set_option maxHeartbeats 4000000
/-! FwJ: list + list of any standing; two-for comprehensions; for over zip. -/
namespace PySem
open Sem (wp)
open MeetsSeq AutoSeq1
theorem fw_list_add (l : Addr) (items : Array Value) (n : Nat) (sl : Array (Option Value)) (b : Addr) (items2 : Array Value) (n2 : Nat) (sl2 : Array (Option Value)) (hc0 : items.size + items2.size ≤ sizeLine) :
    Meets (Builtin.«list.__add__» ⟨[.ref l, .ref b], []⟩) (fun _ R s => s.heap.get? l = some { cls := .type "list", dict := none, data := .seq items n, slots := sl } ∧ s.heap.get? b = some { cls := .type "list", dict := none, data := .seq items2 n2, slots := sl2 } ∧ R (.ok (.ret (Value.ref s.heap.objs.size))) { s with heap := s.heap.push { cls := Value.type "list", dict := none, data := .seq (items ++ items2) 0, slots := #[] } }) :=
  .of_wp fun prog w A R s h => by obtain ⟨hp, g, d, tk, os⟩ := s; obtain ⟨hl, hb, h⟩ := h; have f1 := idx_int; have f2 := sub_tuple_tuple; have f3 := sub_list_list; have f4 := sub_tuple_list; have f5 := sub_list_tuple; wp_walk using wpAny_loadPart' hl, wpAny_loadPart' hb; exact ⟨_, rfl, h⟩
end PySem
namespace FW
open PySem PySem.Spec PyProof.Rows L2
theorem op_catS {X : Cx} : OpR X (binaryOp .Add) (rCatS X.K) := by
  intro pins s σ H x y v u Q I rx ry h
  obtain ⟨l, b, xs, zs, rfl, rfl, hH, hB, hz, q⟩ := h
  cases rx
  cases ry
  obtain ⟨its, r, ⟨o, n, ho, hc, hd, hs⟩, _⟩ := I.list hH
  obtain ⟨its2, r2, ⟨o2, n2, ho2, hc2, hd2, hs2⟩, _⟩ := I.list hB
  obtain ⟨c1, d1, a1, s1⟩ := o
  obtain ⟨c2, d2, a2, s2⟩ := o2
  simp only at hc hd hs hc2 hd2 hs2
  subst hc hd hs hc2 hd2 hs2
  have e1 := r.length
  have e2 := r2.length
  refine concat_meets ⟨_, ho, rfl⟩ ⟨_, ho2, rfl⟩ PySem.noFill_list_add PySem.seq_list_add F.slot_list_add F.entry_list_add (F.args_list_add_2 _ _) (PySem.fw_list_add l its.toArray n s1 b its2.toArray n2 s2 (by rw [List.size_toArray, List.size_toArray]; omega)) ⟨ho, ho2, ?_⟩
  have ea : its.toArray ++ its2.toArray = (its ++ its2).toArray := by simp
  rw [ea]
  exact ⟨.ref _, _, I.lnew (t' := s.toks) (r.append r2) (by rw [List.length_append]; omega), rfl, q _ I.fresh⟩
section
variable {U : Vol} {X : Cx} {e a b : Expr} {es : List Expr} {rest body : List Stmt} {σ : Sg} {w w' : Wd U} {P P' : GP} {Ps : List GP} {D : En U} {pos p apos : Pos} {ds : List PyData}
/-- list + list -/
theorem cn_catQ {ds es : List PyData} (ha : CQ X a σ w ds) (hb : CQ X b σ w es) (hz : ds.length + es.length ≤ 1000000) : CN X (.BinOp a .Add b pos) σ w (ds ++ es) :=
  cn_lift (pe_op op_catS pe_can pe_can) fun w1 l Q q => ha w1 l _ fun v w2 l2 ⟨x, vs, ex, hx, hd⟩ => hb w2 (l.trans l2) _ fun u w3 l3 ⟨y, us, ey, hy, hu⟩ => by
    subst ex ey
    refine ⟨x, y, vs, us, rfl, rfl, hx _ l3, hy _ (Le.refl _), by rw [dpa_len hd, dpa_len hu]; exact line_of hz, fun p hp => ?_⟩
    exact cn_new q (l2.trans l3) hp (dpa_app (dpa_ex l3.g hd) hu)
/-! ### for a, b in zip(text, text) -/
theorem go_forZ {i j : Nat} {x y : Str} {px py pt p2 pos2 : Pos} {kt : Nat} {e1 e2 : Expr} {l m : List Nat} (hm : X.mg "zip" = none) (h1 : CE X e1 σ w (T l)) (h2 : CE X e2 σ w (T m)) (Inv : Nat → Sg → Wd U → Prop) (h0 : ∀ w', Le w w' → Inv 0 σ w')
    (hI : ∀ k σ' w' w'', Inv k σ' w' → Le w' w'' → Inv k σ' w'')
    (hs : ∀ k c d σ' w', (l.zip m)[k]? = some (c, d) → Inv k σ' w' → Go X body ((σ'.set i (some (.str (S [c])))).set j (some (.str (S [d])))) w' (Turn1 D rest X Inv k)) (hd : ∀ σ' w', Inv (min l.length m.length) σ' w' → Go X rest σ' w' D)
    (hp : PassesOwn (model X.prog X.w) X.A X.env X.xe) (hc : X.calm = true) (hN : X.N.Nodup) (hi' : X.N[i]? = some x := by rfl) (hj' : X.N[j]? = some y := by rfl) (hx : Loc X.env.scope x := by first | exact Or.inl rfl | exact Or.inr rfl) (hy : Loc X.env.scope y := by first | exact Or.inl rfl | exact Or.inr rfl)
    (hfx : X.fn x = true ∨ X.env.scope.names.lookup x = some .local := by first | exact .inl rfl | exact .inr rfl) (hfy : X.fn y = true ∨ X.env.scope.names.lookup y = some .local := by first | exact .inl rfl | exact .inr rfl) (hgl : Gl X "zip" := by rfl)
    (hst : starEach [e1, e2] X.env = (false, eval e1 X.env) :: starEach [e2] X.env := by rfl) (hst' : starEach [e2] X.env = (false, eval e2 X.env) :: starEach [] X.env := by rfl) (hpl : (backTo pos2 (starEach [e2] X.env)).any (·.1) = false := by rfl)
    (hn : (assignEach [.Name x px, .Name y py] X.env).length = 2 := by rfl) (hst2 : (assignEach [.Name x px, .Name y py] X.env).findIdx? (·.1) = none := by rfl)
    (hp1 : (assignEach [.Name x px, .Name y py] X.env).map (·.2) = assign (.Name x px) X.env :: (assignEach [.Name y py] X.env).map (·.2) := by rfl) (hp2 : (assignEach [.Name y py] X.env).map (·.2) = assign (.Name y py) X.env :: (assignEach [] X.env).map (·.2) := by rfl)
    (hss : ∀ x, foldedSetIterable (.Call (.Name "zip" p2) [e1, e2] [] pos2) X.env x = pure x := by intro _; rfl) :
    Go X (.For (.Tuple [.Name x px, .Name y py] kt pt) (.Call (.Name "zip" p2) [e1, e2] [] pos2) body [] pos :: rest) σ w D := by
  refine s_of (pss_cons (ps_for hp hc (pi_zipS hgl hm pa_can hst hpl) (pg_tup hc (pgs_cons (pg_name hN hi' hx hfx) (pgs_cons (pg_name hN hj' hy hfy) pgs_nil hp2) hp1) hn hst2) pss_can hss) pss_can) ?_
  refine (ca_cons h1 (ca_cons h2 ca_nil hst') hst) w (Le.refl _) _ fun vs w2 l2 hv => ?_
  obtain ⟨x', y', rfl, hx', hy'⟩ := args2 hv
  have hx' : x' = _ := hx'
  have hy' : y' = _ := hy'
  subst hx' hy'
  refine ⟨l, m, rfl, for_core (walk_zipS (l := l) (m := m)) (fun x σ H Q Q' f ⟨a, xs, e, h, hl, u1, r1, e1, u2, r2, e2, e3, q⟩ => ⟨a, xs, e, h, hl, u1, r1, e1, u2, r2, e2, e3, f _ _ q⟩) Inv w2 (h0 w2 l2) (fun _ _ _ _ _ => trivial) (fun k z σ' w' H' hk hInv yy => ?_) hd⟩
  obtain ⟨T', c, d', ez, hT, eH, hc', hd'⟩ := yy
  subst ez eH
  have hz2 : (l.zip m)[k]? = some (c, d') := List.getElem?_zip_eq_some.mpr ⟨hc', hd'⟩
  have gg := gr_newH w'.ex (o := .tup [.str (S [c]), .str (S [d'])]) hT
  exact ⟨T', _, rfl, .inl (.inl upd_same), rfl, _, _, rfl, _, _, rfl, rfl, w'.grow gg.2.1 gg.1, rfl, hs k c d' σ' _ hz2 (hI k σ' w' _ hInv (Le.refl _ |>.trans (Gr.le gg.1)))⟩
/-! ### [elt for x in list for y in (list or text)] -/
section
variable {elt it it1 : Expr} {scope : Scope} {i j : Nat} {x y : Str} {px py : Pos}
/-- an inner source: its items n1, known -/
def Src1 (K : PySem.W.Frag) (wi1 : TI) (σ2 : Sg) (w : Wd U) (n1 : Nat) (It1 : Nat → Vv → Wd U → Prop) : Prop := ∀ w', Le w w' → ∀ R : It → Hp → Prop, (∀ (w2 : Wd U) (J1 : It) (Gc : Hp → Prop) (Y : Nat → Hp → Vv → Hp → Prop), Le w' w2 → Walk J1 n1 Gc Y → (∀ w3 : Wd U, Ex w2.G w3.G → Gc w3.H) →
  (∀ k (w3 : Wd U) x H', k < n1 → Ex w2.G w3.G → Y k w3.H x H' → H' = w3.H ∧ It1 k x w3) → R J1 w2.H) → wi1 σ2 w'.H R
theorem lc2_data {K : PySem.W.Frag} {J : It} {n n1 : Nat} {Gc : Hp → Prop} {Y : Nat → Hp → Vv → Hp → Prop} {σ : Sg} {wi1 : TI} {te : TE} {Dn : Addr} {Qd : Hp → Prop} {w1 : Wd U} (wk : Walk J n Gc Y) (hz : ∀ k, k ≤ n → k * n1 ≤ 1000000) (nD : w1.H Dn = none) (It_ : Nat → Vv → Wd U → Prop) (It1 : Nat → Vv → Wd U → Prop)
    (hG : ∀ w' : Wd U, Le w1 w' → Gc w'.H) (hY : ∀ k (w' : Wd U) x H', k < n → Le w1 w' → Y k w'.H x H' → H' = w'.H ∧ It_ k x w') (g : Nat → Nat → PyData) (hij : i ≠ j)
    (hsrc : ∀ k x (w' : Wd U), k < n → Le w1 w' → It_ k x w' → Src1 K wi1 ((wipe σ [i, j]).set i (some x)) w' n1 It1)
    (he : ∀ k k1 x y (w' w'' : Wd U), k < n → k1 < n1 → Le w1 w' → It_ k x w' → Le w1 w'' → Ex w'.G w''.G → It1 k1 y w'' → Ev te (((wipe σ [i, j]).set i (some x)).set j (some y)) w'' (Da K (g k k1)))
    (hd : ∀ vs (w' : Wd U), Le w1 w' → Own w' Dn vs → DpAll K w'.G vs ((List.range n).flatMap fun k => (List.range n1).map (g k)) → Qd w'.H) :
    ∃ W : Nat → Nat → Hp → Prop, (∃ m, W 0 m (upd w1.H Dn (.lst []))) ∧ ∀ k m H, W k m H →
      (J.stop k H ∧ Qd H) ∨ (J.go k H ∧ ∃ Nx : Hp → Prop, (∀ H', Nx H' → ∃ m', m' < m ∧ W (k + 1) m' H') ∧ ∀ x H', J.yld k H x H' → gName i x (wipe σ [i, j]) H' fun σ2 H2 => wipe σ2 [i, j] = wipe σ [i, j] ∧ tYes σ2 H2 fun b H3 =>
        if b = true then wi1 σ2 H3 fun J1 H4 => ∃ W1 : Nat → Nat → Hp → Prop, (∃ m, W1 0 m H4) ∧ ∀ k1 m1 H, W1 k1 m1 H →
          (J1.stop k1 H ∧ Nx H) ∨ (J1.go k1 H ∧ ∃ Nx1 : Hp → Prop, (∀ H', Nx1 H' → ∃ m', m' < m1 ∧ W1 (k1 + 1) m' H') ∧ ∀ x H', J1.yld k1 H x H' → gName j x (wipe σ2 [j]) H' fun σ3 H5 => wipe σ3 [j] = wipe σ2 [j] ∧ tYes σ3 H5 fun b H6 =>
            if b = true then te σ3 H6 fun y H7 => ∃ acc, H7 Dn = some (.lst acc) ∧ acc.length < sizeLine ∧ Nx1 (upd H7 Dn (.lst (acc ++ [y]))) else Nx1 H6)
        else Nx H3) := by
  have res1 : ∀ k, (List.range (k + 1)).flatMap (fun k => (List.range n1).map (g k)) = (List.range k).flatMap (fun k => (List.range n1).map (g k)) ++ (List.range n1).map (g k) := fun k => by
    rw [List.range_succ, List.flatMap_append]; simp
  have lenr : ∀ k, ((List.range k).flatMap fun k => (List.range n1).map (g k)).length = k * n1 := fun k => by
    induction k with
    | zero => simp
    | succ k ih => rw [res1, List.length_append, ih, List.length_map, List.length_range, Nat.succ_mul]
  let Pv : Nat → Hp → Prop := fun k H => ∃ (w' : Wd U) (vs : List Vv), w'.H = H ∧ Le w1 w' ∧ Own w' Dn vs ∧ DpAll K w'.G vs ((List.range k).flatMap fun k => (List.range n1).map (g k))
  refine ⟨fun k m H => m = n - k ∧ k ≤ n ∧ Pv k H, ⟨n, by simp, Nat.zero_le _, w1.grow (gr_newH w1.ex (o := .lst []) nD).2.1 (gr_newH w1.ex (o := .lst []) nD).1, [], rfl, Gr.le (gr_newH w1.ex nD).1, own_new nD, .nil⟩, ?_⟩
  rintro k m H ⟨rfl, hk, w', vs, rfl, l, o, d⟩
  by_cases hlt : k < n
  · refine .inr ⟨wk.goes k _ hlt (hG w' l), fun H' => k + 1 ≤ n ∧ Pv (k + 1) H', fun H' h => ⟨n - (k + 1), by omega, rfl, h.1, h.2⟩, fun x H' yy => ?_⟩
    obtain ⟨e, hIt⟩ := hY k w' x H' hlt l (wk.yields k _ x H' hlt (hG w' l) yy)
    subst e
    refine ⟨?_, ?_⟩
    · show ((((σ.set j none).set i none).set i (some x)).set j none).set i none = (σ.set j none).set i none
      rw [List.set_set, List.set_comm _ _ hij, List.set_set, List.set_set]
    · simp only [tYes, ↓reduceIte]
      refine hsrc k x w' hlt l hIt w' (Le.refl _) _ fun w2 J1 Gc1 Y1 l2 wk1 hG1 hY1 => ?_
      refine ⟨fun k1 m1 H => m1 = n1 - k1 ∧ k1 ≤ n1 ∧ ∃ (w3 : Wd U) (vs : List Vv), w3.H = H ∧ Le w1 w3 ∧ Ex w2.G w3.G ∧ Own w3 Dn vs ∧ DpAll K w3.G vs (((List.range k).flatMap fun k => (List.range n1).map (g k)) ++ (List.range k1).map (g k)), ⟨n1, by simp, Nat.zero_le _, w2, vs, rfl, l.trans l2, Evl.Ex.refl _, o.mono l2, by simpa using dpa_ex l2.g d⟩, ?_⟩
      rintro k1 m1 H ⟨rfl, hk1, w3, vs3, rfl, l3, g3, o3, d3⟩
      by_cases hlt1 : k1 < n1
      · refine .inr ⟨wk1.goes k1 _ hlt1 (hG1 w3 g3), fun H' => k1 + 1 ≤ n1 ∧ ∃ (w4 : Wd U) (vs : List Vv), w4.H = H' ∧ Le w1 w4 ∧ Ex w2.G w4.G ∧ Own w4 Dn vs ∧ DpAll K w4.G vs (((List.range k).flatMap fun k => (List.range n1).map (g k)) ++ (List.range (k1 + 1)).map (g k)), fun H' h => ⟨n1 - (k1 + 1), by omega, rfl, h.1, h.2⟩, fun y H' yy1 => ?_⟩
        obtain ⟨e, hIt1⟩ := hY1 k1 w3 y H' hlt1 g3 (wk1.yields k1 _ y H' hlt1 (hG1 w3 g3) yy1)
        subst e
        refine ⟨by simp [wipe, List.set_set], ?_⟩
        simp only [tYes, ↓reduceIte]
        have es : wipe ((wipe σ [i, j]).set i (some x)) [j] = (wipe σ [i, j]).set i (some x) := by
          show (((σ.set j none).set i none).set i (some x)).set j none = ((σ.set j none).set i none).set i (some x)
          rw [List.set_set, List.set_comm _ _ hij, List.set_set]
        have h5 := he k k1 x y w' w3 hlt hlt1 l hIt l3 (l2.g.trans g3) hIt1
        show te (List.set (wipe ((wipe σ [i, j]).set i (some x)) [j]) j (some y)) w3.H _
        rw [es]
        refine h5 w3 (Le.refl _) _ fun v w4 l4 dv => ?_
        have o4 := o3.mono l4
        have hl4 : vs3.length = k * n1 + k1 := by rw [dpa_len d3, List.length_append, lenr, List.length_map, List.length_range]
        refine ⟨vs3, o4.h, line_lt ?_, Nat.succ_le_of_lt hlt1, w4.put Dn o4 (vs3 ++ [v]), vs3 ++ [v], rfl, (l3.trans l4).put nD o4, g3.trans l4.g, o4.put, ?_⟩
        · have := hz (k + 1) hlt
          rw [Nat.succ_mul] at this
          omega
        · rw [List.range_succ, List.map_append, ← List.append_assoc]
          exact dpa_app (dpa_ex l4.g d3) (.cons dv .nil)
      · have e : k1 = n1 := by omega
        subst e
        refine .inl ⟨wk1.stops _ (hG1 w3 g3), Nat.succ_le_of_lt hlt, w3, vs3, rfl, l3, o3, ?_⟩
        rw [res1]; exact d3
  · have e : k = n := by omega
    subst e
    exact .inl ⟨wk.stops _ (hG w' l), hd vs w' l o d⟩

abbrev Inn (X : Cx) (scope : Scope) (it1 : Expr) (y : Str) (py : Pos) (wi1 : TI) : Prop := Bk X scope fun B => PI B (.Name y py) it1 wi1
theorem inn_L : Inn X scope it1 y py (iList X.K (eB X scope it1)) := fun _ _ _ _ _ => pi_list pb_can
theorem inn_T : Inn X scope it1 y py (iStr (eB X scope it1)) := fun _ _ _ _ _ => pi_str pb_can
theorem src_L {β : Type} {ys : List β} (enc1 : β → PyData) {σ2 : Sg} (h : CEb X scope it1 σ2 w (Da X.K (.list (ys.map enc1)))) : Src1 X.K (iList X.K (eB X scope it1)) σ2 w ys.length (fun k y w => ∃ b, ys[k]? = some b ∧ Dp X.K w.G y (enc1 b)) := fun w' l R q =>
  ceb_ev h w' l _ fun v w2 l2 hv => by
    have hv : Dp X.K w2.G v (.list (ys.map enc1)) := hv
    cases hv with
    | @lst a vs _ ht hd =>
      have el := dpa_len hd
      rw [List.length_map] at el
      refine ⟨a, rfl, ⟨vs, Evl.ex_l w2.ex ht⟩, q w2 _ _ _ l2 (el ▸ walk_list (xs := vs)) (fun w3 g3 => Evl.ex_l (g3.trans w3.ex) ht) (fun k w3 x H' hk g3 yy => ⟨yy.1, ?_⟩)⟩
      obtain ⟨d, h1, h2⟩ := dpa_get2 hd yy.2
      obtain ⟨b, h3, rfl⟩ := enc_get h1
      exact ⟨b, h3, dp_ex g3 h2⟩
theorem src_T {ys : List Nat} {σ2 : Sg} (h : CEb X scope it1 σ2 w (T ys)) : Src1 X.K (iStr (eB X scope it1)) σ2 w ys.length (fun k y w => ∃ b, ys[k]? = some b ∧ Dp X.K w.G y (strD [b])) := fun w' l R q =>
  ceb_ev h w' l _ fun v w2 l2 hv => by
    have esz : (S ys).cps.size = ys.length := List.size_toArray
    refine ⟨S ys, hv, q w2 _ _ _ l2 (esz ▸ walk_str (z := S ys)) (fun _ _ => trivial) (fun k w3 x H' hk g3 ⟨e, c, hc, ex⟩ => ⟨e, c, by simpa [S] using hc, ?_⟩)⟩
    subst ex
    exact .str _
theorem flat_range {α β γ : Type} [Inhabited α] [Inhabited β] (g : α → β → γ) (xs : List α) (ys : List β) : ((List.range xs.length).flatMap fun k => (List.range ys.length).map fun k1 => g (xs.getD k default) (ys.getD k1 default)) = xs.flatMap fun x => ys.map (g x) := by
  have h1 : ∀ x, ((List.range ys.length).map fun k1 => g x (ys.getD k1 default)) = ys.map (g x) := fun x => by
    have h := picks_map (g x) default ys
    unfold picks at h
    rw [List.filter_eq_self.mpr (fun _ _ => rfl)] at h
    exact h
  have h2 := picks_map (fun x => ys.map (g x)) default xs
  unfold picks at h2
  rw [List.filter_eq_self.mpr (fun _ _ => rfl)] at h2
  rw [List.flatMap_def, List.flatMap_def, ← h2]
  congr 1
  exact List.map_congr_left fun k _ => h1 _
/-- z = [elt for x in list for y in ..] on one line, z a local -/
theorem go_setLc2 {α β : Type} [Inhabited α] [Inhabited β] {xs : List α} {ys : List β} (enc : α → PyData) (enc1 : β → PyData) (g : α → β → PyData) {wi1 : TI} {n : Nat} {z : Str} {pz spos : Pos} (hi : CQ X it σ w (xs.map enc)) (hin : Inn X scope it1 y py wi1)
    (hsrc : ∀ v w', Le w w' → Src1 X.K wi1 ((wipe σ [i, j]).set i (some v)) w' ys.length (fun k y w => ∃ b, ys[k]? = some b ∧ Dp X.K w.G y (enc1 b)))
    (he : ∀ x y u v w', x ∈ xs → y ∈ ys → Le w w' → Dp X.K w'.G u (enc x) → Dp X.K w'.G v (enc1 y) → CEb X scope elt (((wipe σ [i, j]).set i (some u)).set j (some v)) w' (Da X.K (g x y)))
    (hz : xs.length * ys.length ≤ 1000000) (hij : i ≠ j) (hc : X.calm = true) (hN : X.N.Nodup) (ok : BlkOk X.N X.env.scope scope [(x, i), (y, j)])
    (hg : Bk X scope fun B => PG B (.Name x px) (gName i)) (hg1 : Bk X scope fun B => PG B (.Name y py) (gName j))
    (k : ∀ q vs w', Le w w' → w.H q = none → Own w' q vs → DpAll X.K w'.G vs (xs.flatMap fun x => ys.map (g x)) → Go X rest (σ.set n (some (.ref q))) w' D)
    (hsw : swapsWith (.ListComp elt [⟨.Name x px, it, [], 0⟩, ⟨.Name y py, it1, [], 0⟩] scope pos) (some (.Name z pz)) spos.line X.env = pure true) (hzn : X.N[n]? = some z := by rfl) (hzl : X.env.scope.names.lookup z = some .local := by rfl)
    (hs : ∀ x, foldedSetIterable it X.env x = pure x := by intro _; rfl) (hs1 : ∀ env x, foldedSetIterable it1 env x = pure x := by intro _ _; rfl) :
    Go X (.Assign [.Name z pz] (.ListComp elt [⟨.Name x px, it, [], 0⟩, ⟨.Name y py, it1, [], 0⟩] scope pos) spos :: rest) σ w D := by
  refine s_of (pss_cons (ps_setLc2 (vs1 := [j]) hc hN hzn hzl hsw (pi_list pe_can) ok (by simp) hg (fun _ _ _ _ _ => pts_nil) hin hg1 (fun _ _ _ _ _ => pts_nil) (fun _ _ _ _ _ => pb_can) hs hs1) pss_can) ?_
  refine hi w (Le.refl _) _ fun v w2 l2 ⟨a, vs, ev, hq, hd⟩ => ?_
  subst ev
  have el := dpa_len hd
  rw [List.length_map] at el
  refine ⟨a, rfl, ⟨_, hq _ (Le.refl _)⟩, fun Dn hD => ?_⟩
  have getx : ∀ k x (w' : Wd U), Le w2 w' → vs[k]? = some x → ∃ b, xs[k]? = some b ∧ Dp X.K w'.G x (enc b) := fun k x w' l hx => by
    obtain ⟨d, h1, h2⟩ := dpa_get2 hd hx
    obtain ⟨b, h3, rfl⟩ := enc_get h1
    exact ⟨b, h3, dp_ex l.g h2⟩
  refine lc2_data (n := xs.length) (n1 := ys.length) (el ▸ walk_list (xs := vs)) (fun k hk => Nat.le_trans (Nat.mul_le_mul_right _ hk) hz) hD (fun k x w' => ∃ b, xs[k]? = some b ∧ Dp X.K w'.G x (enc b)) (fun k y w => ∃ b, ys[k]? = some b ∧ Dp X.K w.G y (enc1 b))
    (fun w' l => hq _ l) (fun k w' x H' hk l yy => ⟨yy.1, getx k x w' l yy.2⟩) (fun k k1 => g (xs.getD k default) (ys.getD k1 default)) hij (fun k x w' hk l _ => hsrc x w' (l2.trans l)) (fun k k1 u v w' w'' hk hk1 l ⟨b, hb, db⟩ l'' gx ⟨c, hc', dc⟩ => ?_) fun us w' l o d => ?_
  · rw [getD_of hb, getD_of hc']
    exact ceb_ev (he b c u v w'' (List.mem_of_getElem? hb) (List.mem_of_getElem? hc') (l2.trans l'') (dp_ex gx db) dc)
  · rw [flat_range] at d
    exact k Dn us w' (l2.trans l) (l2.new hD) o d
end
end
end FW
set_option Elab.async false
set_option linter.all false
set_option maxRecDepth 100000
set_option maxHeartbeats 4000000
/-! FwK: own classes made, over a head's facts. -/
namespace FW
open PySem PySem.Spec PyProof.Rows L2 He
abbrev IniD {α : Type} (C dx x : Addr) (R : α → List (Str × Vv) → Hp → Prop) (z : α) (w0 : Wd V0) : En V0 :=
  ⟨fun _ w' => Le w0 w' ∧ ∃ fs, OwO w' x (.ins C dx fs) ∧ R z fs w'.G, fun v w' => v = .non ∧ Le w0 w' ∧ ∃ fs, OwO w' x (.ins C dx fs) ∧ R z fs w'.G, fun _ _ => False, fun _ _ => False⟩
section
variable {fa : List Fa} {xs : List (PySem.W.Frag → Bool)} {fn : List DefD} {K : PySem.W.Frag} {mg : Str → Option Value}
theorem Says.cls (c : Says fa xs fn K mg) (i : Nat) {x : Str} (h : fa[i]? = some (.cls x) := by rfl) : Cls K (ga K x) := cls_ok (c.s.fact i h)
theorem Says.noat (c : Says fa xs fn K mg) (i : Nat) {x f : Str} (h : fa[i]? = some (.noat x f) := by rfl) : NoAttr K (ga K x) f := noat_ok (c.s.fact i h)
theorem Says.mak {P : Program} {w : World} {base : Heap} {α : Type} {A : α → List GP} {pre : α → Prop} {R : α → List (Str × Vv) → Hp → Prop} {N ps : List Str} {k : Nat} {cn : Str} (c : Says fa xs fn K mg) (i j jm : Nat) {d : DefD} (S : FnScope N ps d.scope) (hb : ∀ (kV doc pm : Value) (an : Option Addr) (cdv ct : Value) (us : List Value), us.length = ps.length → bindArgs (PySem.W.fnOf d.name d.qual d.params d.body d.scope .none kV doc pm an cdv ct) ⟨us, []⟩ = pure (ps.zip us)) (hl : ∀ z, (A z).length + 1 = ps.length)
    (hbody : ∀ (cdv : Value) (B : Around) (outer : List Env) (s : Shared) (H : Hp) (E : XK) (z : α) (args : List Vv) (w0 w1 : Wd V0) (x dx : Addr), Room k (B.deeper (envOfC d.qual d.scope s.heap.objs.size (fAd K d.at_) cdv)) → Le w0 w1 → w0.H x = none → OwO w1 x (.ins (ga K cn) dx []) → Args (A z) args w1.G → pre z →
      Go (cxOf CX0 P w K mg base N d.qual d.scope (fAd K d.at_) cdv B outer s H E).nox d.body (start N (.ref x :: args)) w1 (IniD (ga K cn) dx x R z w0))
    (hi : fn[i]? = some d := by rfl) (hj : fa[j]? = some (.glo cn) := by rfl) (hjm : fa[jm]? = some (.mkr cn) := by rfl) (hd : d.dfl = [] ∧ d.kwd = [] ∧ d.at_ = (cn, some ("__init__" : Str)) := by exact ⟨rfl, rfl, rfl⟩) :
    Mak P w K mg base cn (ga K cn) ps.length (k + 1) (Ini (ga K cn) A pre R) := by
  obtain ⟨fd, F⟩ := c.s.def_ i hi
  obtain ⟨d1, d2, d3⟩ := hd
  have e1 : d.dvs K = [] := by unfold DefD.dvs; rw [d1]; rfl
  have e2 : d.kws K = [] := by unfold DefD.kws; rw [d2]; rfl
  rw [e1, e2] at F
  have e3 : fAd K d.at_ = ma K (ga K cn) "__init__" := by rw [d3]; rfl
  have m := c.glo j hj
  have mk := mkr_ok (c.s.fact jm hjm)
  rw [← e3] at mk
  have b : Binds K fd ps [] := F.bindsN hb
  refine ⟨fAd K d.at_, fd, ps, m, mk, b, rfl, F.ok S (fun vs H Q E h => ?_) fun cdv B outer s H vs Q E hr h => ?_⟩
  · obtain ⟨z, G, H1, x, dx, args, _, rfl, _, _, _, _, hv, _⟩ := h
    rw [List.length_cons, args_len hv, hl]
  · obtain ⟨z, G, H1, x, dx, args, eG, rfl, hx, hdx, hne, rfl, hv, hp, hq⟩ := h
    have g1 := gr_newH eG (o := .own x) hdx
    have hx2 : upd H1 dx (.own x) x = none := by rw [upd_ne hne.symm]; exact hx
    have g2 := gr_newH g1.2.1 (o := .ins (ga K cn) dx []) hx2
    let w0 : Wd V0 := entry G H1 eG
    let w1 : Wd V0 := ⟨G, upd (upd H1 dx (.own x)) x (.ins (ga K cn) dx []), g2.2.1, trivial⟩
    have l : Le w0 w1 := Gr.le (g1.1.trans g2.1)
    have o : OwO w1 x (.ins (ga K cn) dx []) := ⟨g2.2.2, id, upd_same⟩
    have g := hbody cdv B outer s (upd (upd H1 dx (.own x)) x (.ins (ga K cn) dx [])) E z args w0 w1 x dx hr l hx o hv hp
    refine ⟨_, PSs.nox (pss_can), ?_⟩
    intro pins s' I
    have key : ∀ {w' : Wd V0}, Le w0 w' → (∃ fs, OwO w' x (.ins (ga K cn) dx fs) ∧ R z fs w'.G) → Q .non w'.H := fun {w'} l ⟨fs, o, r⟩ => hq w'.G w'.H fs w'.ex ⟨l.g, fun a o e => l.h a o id e, l.f⟩ o.h o.g r
    refine thn (g pins s' I) fun fl s2 q => ?_
    cases fl with
    | next =>
      obtain ⟨σ', H', I', w2, e2, l, r⟩ := q
      subst e2
      exact ⟨σ', _, I', key l r⟩
    | brk => obtain ⟨_, _, _, w2, _, z⟩ := q; exact z.elim
    | cont => obtain ⟨_, _, _, w2, _, z⟩ := q; exact z.elim
    | ret v =>
      obtain ⟨u, σ', H', I', r0, w2, e2, e3, l, r⟩ := q
      subst e2 e3
      exact ⟨_, σ', _, I', r0, key l r⟩
end
end FW
set_option Elab.async false
set_option linter.all false
set_option maxRecDepth 100000
set_option maxHeartbeats 4000000
/-! FwL: lists that hold lists of one's own: indices, unpacking, writing, append. -/
namespace FW
open PySem PySem.Spec PyProof.Rows L2
section
variable {U : Vol} {X : Cx} {e a b : Expr} {es : List Expr} {rest body : List Stmt} {σ : Sg} {w w' : Wd U} {P P' : GP} {Ps : List GP} {D : En U} {pos p apos : Pos} {ds : List PyData}
/-- a list operand by its values -/
def Vq (K : PySem.W.Frag) (vs : List Vv) : Vv → Wd U → Prop := fun v w => ∃ a, v = .ref a ∧ ∀ w', Le w w' → SqL K w'.H a vs
theorem vq_of {q : Addr} {vs : List Vv} (o : Own w q vs) (h : CE X e σ w (Is (.ref q))) : CW X e σ w (Vq X.K vs) := fun w1 l Q k => h w1 l Q fun v w2 l2 hv => k v w2 l2 ⟨q, hv, fun w' l' => SqL.of ((o.mono ((l.trans l2).trans l')).h)⟩
theorem ce_ixV {vs : List Vv} {i : Int} {x : Vv} (ha : CW X a σ w (Vq X.K vs)) (hb : CE X b σ w (I i)) (hc : atI vs i = some x) (hs : PlainIx b := by intro _ _; rfl) : CE X (.Subscript a b pos) σ w (Is x) :=
  ce_lift (pe_ix ix_list pe_can pe_can hs) fun w1 l Q q => ha w1 l _ fun v w2 l2 ⟨p, ev, hq⟩ => hb w2 (l.trans l2) _ fun u w3 l3 hu => by
    subst ev
    exact ⟨p, vs, i, x, rfl, hu, hq _ l3, hc, q _ w3 (l2.trans l3) rfl⟩
theorem ct_truthV {vs : List Vv} (h : CW X e σ w (Vq X.K vs)) (he : ∀ whole, isTrue e X.env whole = (do let v ← whole; standAt e.pos; holding [v] (truthy v)) := by intro _; rfl) : CT X e σ w (!vs.isEmpty) :=
  ct_lift (pt_truth pe_can he) fun w1 l Q q => h w1 l _ fun v w2 l2 ⟨a, ev, hs⟩ => by
    subst ev
    exact ⟨_, .inl ⟨vs, hs _ (Le.refl _), rfl⟩, q w2 l2⟩
/-- x, y, z = a list of three -/
theorem go_unpackL3 {i j l : Nat} {x y z : Str} {px py pz pt : Pos} {kt : Nat} {u1 u2 u3 : Vv} (hc : X.calm = true) (he : CW X e σ w (Vq X.K [u1, u2, u3])) (k : ∀ w', Le w w' → Go X rest (((σ.set i (some u1)).set j (some u2)).set l (some u3)) w' D)
    (hN : X.N.Nodup) (hi : X.N[i]? = some x := by rfl) (hj : X.N[j]? = some y := by rfl) (hl : X.N[l]? = some z := by rfl) (hx : Loc X.env.scope x := by first | exact Or.inl rfl | exact Or.inr rfl) (hy : Loc X.env.scope y := by first | exact Or.inl rfl | exact Or.inr rfl) (hz : Loc X.env.scope z := by first | exact Or.inl rfl | exact Or.inr rfl)
    (hfx : X.fn x = true ∨ X.env.scope.names.lookup x = some .local := by first | exact .inl rfl | exact .inr rfl) (hfy : X.fn y = true ∨ X.env.scope.names.lookup y = some .local := by first | exact .inl rfl | exact .inr rfl) (hfz : X.fn z = true ∨ X.env.scope.names.lookup z = some .local := by first | exact .inl rfl | exact .inr rfl)
    (hs : swapsWithSole [.Tuple [.Name x px, .Name y py, .Name z pz] kt pt] e pos.line X.env = pure false := by rfl) (hw : swappedStores [.Tuple [.Name x px, .Name y py, .Name z pz] kt pt] e X.env = pure none := by rfl)
    (h1 : (assignEach [.Tuple [.Name x px, .Name y py, .Name z pz] kt pt] X.env).map (·.2) = [assign (.Tuple [.Name x px, .Name y py, .Name z pz] kt pt) X.env] := by rfl)
    (hn : (assignEach [.Name x px, .Name y py, .Name z pz] X.env).length = 3 := by rfl) (hst : (assignEach [.Name x px, .Name y py, .Name z pz] X.env).findIdx? (·.1) = none := by rfl)
    (hp1 : (assignEach [.Name x px, .Name y py, .Name z pz] X.env).map (·.2) = assign (.Name x px) X.env :: (assignEach [.Name y py, .Name z pz] X.env).map (·.2) := by rfl) (hp2 : (assignEach [.Name y py, .Name z pz] X.env).map (·.2) = assign (.Name y py) X.env :: (assignEach [.Name z pz] X.env).map (·.2) := by rfl) (hp3 : (assignEach [.Name z pz] X.env).map (·.2) = assign (.Name z pz) X.env :: (assignEach [] X.env).map (·.2) := by rfl) :
    Go X (.Assign [.Tuple [.Name x px, .Name y py, .Name z pz] kt pt] e pos :: rest) σ w D :=
  s_of (pss_cons (ps_asg pe_can (pg_lst hc (pgs_cons (pg_name hN hi hx hfx) (pgs_cons (pg_name hN hj hy hfy) (pgs_cons (pg_name hN hl hz hfz) pgs_nil hp3) hp2) hp1) hn hst) hs hw h1) pss_can) (he w (Le.refl _) _ fun v w2 l2 ⟨a, ev, hq⟩ =>
    ⟨a, _, ev, hq _ (Le.refl _), rfl, _, _, rfl, _, _, rfl, _, _, rfl, rfl, k w2 l2⟩)
/-- o.append(e), o some list of one's own -/
theorem go_appendR {o : Expr} {q : Addr} {vs : List Vv} (ho : CE X o σ w (Is (.ref q))) (ow : Own w q vs) (he : CE X e σ w P) (hz : vs.length ≤ 1000000) (k : ∀ v w' (l : Le w w') (o' : Own w' q vs), P v w'.G → Go X rest σ (w'.put q o' (vs ++ [v])) D)
    (hbase : attributeBase o "append" X.env (eval o X.env) = eval o X.env := by rfl)
    (hfew : ((backTo pos (starEach (e :: []) X.env)).all (fun x => !x.1) && (backToKw pos (keywordEach [] X.env)).all (fun x => x.1.isSome)
      && decide ((e :: ([] : List Expr)).length + ([] : List Keyword).length + (if ([] : List Keyword).isEmpty then 0 else 1) < 30)) = true := by rfl)
    (hline : (apos.endLine == pos.line) = true := by rfl) (hs : starEach (e :: []) X.env = (false, eval e X.env) :: starEach [] X.env := by rfl) (hplain : (backTo pos (starEach [] X.env)).any (·.1) = false := by rfl)
    (hsw : swapsWith (.Call (.Attribute o "append" apos) [e] [] pos) none p.line X.env = pure false := by rfl) :
    Go X (.Expr (.Call (.Attribute o "append" apos) [e] [] pos) p :: rest) σ w D :=
  s_of (pss_cons (ps_expr (pe_bm PySem.F.plainAttrs_list PySem.F.slot_list_append PySem.F.type_list_append mt_append pe_can (pa_cons pe_can pa_nil hs) hbase hfew hline hs hplain) hsw) pss_can)
    (ho w (Le.refl _) _ fun x w1 l1 hx => by
      have hx : x = _ := hx
      subst hx
      exact ⟨.inl ⟨rfl, vs, SqL.of (ow.mono l1).h⟩, he w1 l1 _ fun v w2 l pv => ⟨q, vs, v, rfl, rfl, (ow.mono (l1.trans l)).h, line_lt hz, k v w2 (l1.trans l) (ow.mono (l1.trans l)) pv⟩⟩)
/-- o[i] = e, o some list of one's own -/
theorem go_setIx {o : Expr} {q : Addr} {vs : List Vv} {i : Int} {j : Nat} (he : CE X e σ w P) (ho : CE X o σ w (Is (.ref q))) (ow : Own w q vs) (hb : CE X b σ w (I i)) (hj : ixN vs.length i = some j) [m : MonoG P] (k : ∀ v w' (l : Le w w') (o' : Own w' q vs), P v w'.G → Go X rest σ (w'.put q o' (vs.set j v)) D)
    (ha : ∀ v, assign (.Subscript o b pos) X.env v = (do
      let ov ← holding [v] (eval o X.env)
      let iv ← holding [v, ov] (eval b X.env)
      standAt pos
      holding [v, ov, iv] (setItem ov iv v)
      release [v, ov, iv] []) := by intro _; rfl)
    (hs : swapsWithSole [.Subscript o b pos] e p.line X.env = pure false := by rfl) (hw : swappedStores [.Subscript o b pos] e X.env = pure none := by rfl)
    (h1 : (assignEach [.Subscript o b pos] X.env).map (·.2) = [assign (.Subscript o b pos) X.env] := by rfl) :
    Go X (.Assign [.Subscript o b pos] e p :: rest) σ w D :=
  s_of (pss_cons (ps_asg pe_can (pg_sub pe_can pe_can set_list ha) hs hw h1) pss_can) (he w (Le.refl _) _ fun v w1 l1 pv => ho w1 l1 _ fun x w2 l2 hx => hb w2 (l1.trans l2) _ fun y w3 l3 hy => by
    have hx : x = _ := hx
    have hy : y = _ := hy
    subst hx hy
    have o3 := ow.mono ((l1.trans l2).trans l3)
    exact ⟨q, vs, i, j, rfl, rfl, o3.h, hj, k v w3 ((l1.trans l2).trans l3) o3 (m.mono _ _ _ (l2.g.trans l3.g) pv)⟩)
/-- isinstance(x, (c1, c2)) -/
theorem ce_isi2 {x1 x2 : Str} {t1 t2 : String} {p1 p2 p3 : Pos} {k : Nat} {t : Vv → Value} {r : Bool} (hm : X.mg "isinstance" = none) (hm1 : X.mg x1 = none) (hm2 : X.mg x2 = none) (hb1 : bootBuiltins x1 = some (.type t1)) (hb2 : bootBuiltins x2 = some (.type t2)) (ha : CE X a σ w P)
    (ty : ∀ v (w' : Wd U), Le w w' → P v w'.G → TyX X.K w'.H v (t v)) (hk : ∀ v (w' : Wd U), Le w w' → P v w'.G → PySem.W.kitAny X.K (t v) [.type t1, .type t2] = some r) [m : MonoG P]
    (hg : Gl X "isinstance" := by rfl) (hg1 : Gl X x1 := by rfl) (hg2 : Gl X x2 := by rfl) (hn1 : x1 ≠ "__name__" := by decide) (hn2 : x2 ≠ "__name__" := by decide) (hd1 : (x1 == ("__debug__" : Str)) = false := by decide) (hd2 : (x2 == ("__debug__" : Str)) = false := by decide)
    (hs : starEach (a :: [.Tuple [.Name x1 p1, .Name x2 p2] k p3]) X.env = (false, eval a X.env) :: starEach [.Tuple [.Name x1 p1, .Name x2 p2] k p3] X.env := by rfl) (hs2 : starEach (.Tuple [.Name x1 p1, .Name x2 p2] k p3 :: []) X.env = (false, eval (.Tuple [.Name x1 p1, .Name x2 p2] k p3) X.env) :: starEach [] X.env := by rfl)
    (hs3 : starEach [.Name x1 p1, .Name x2 p2] X.env = (false, eval (.Name x1 p1) X.env) :: starEach [.Name x2 p2] X.env := by rfl) (hs4 : starEach [.Name x2 p2] X.env = (false, eval (.Name x2 p2) X.env) :: starEach [] X.env := by rfl) (hpl : (backTo pos (starEach [.Tuple [.Name x1 p1, .Name x2 p2] k p3] X.env)).any (·.1) = false := by rfl) :
    CE X (.Call (.Name "isinstance" p) [a, .Tuple [.Name x1 p1, .Name x2 p2] k p3] [] pos) σ w (Bo r) :=
  ce_lift (pe_callB call_isiT hg hm PyProof.Rows.boot_isinstance (pa_cons pe_can (pa_cons (pe_tup pa_can) pa_nil hs2) hs) (by decide) (by decide) hs hpl) fun w1 l1 Q q => ha w1 l1 _ fun v w2 l2 pv =>
    (ca_cons (ce_cls t1 hm1 hb1 hg1 hn1 hd1) (ca_cons (ce_cls t2 hm2 hb2 hg2 hn2 hd2) ca_nil hs4) hs3 : CA X [.Name x1 p1, .Name x2 p2] σ w [Is (.ty t1), Is (.ty t2)]) w2 (l1.trans l2) _ fun vs w3 l3 hv => by
      obtain ⟨y, z, rfl, hy, hz⟩ := args2 hv
      have hy : y = _ := hy
      have hz : z = _ := hz
      subst hy hz
      refine ⟨line_of (n := 2) (by decide), fun tp htp => ?_⟩
      have g := gr_newH w3.ex (o := .tup [.ty t1, .ty t2]) htp
      have l4 : Le w3 (w3.grow g.2.1 g.1) := Gr.le g.1
      have pv4 := m.mono _ _ _ (l3.g.trans l4.g) pv
      exact ⟨v, tp, [.ty t1, .ty t2], t v, [.type t1, .type t2], r, rfl, upd_same, .cons (.ty t1) (.cons (.ty t2) .nil), ty v (w3.grow g.2.1 g.1) (((l1.trans l2).trans l3).trans l4) pv4, hk v (w3.grow g.2.1 g.1) (((l1.trans l2).trans l3).trans l4) pv4, q _ (w3.grow g.2.1 g.1) ((l2.trans l3).trans l4) rfl⟩
end
end FW
set_option Elab.async false
set_option linter.all false
set_option maxRecDepth 100000
set_option maxHeartbeats 4000000
/-! FwN: sorted(a dict with text keys). -/
namespace FW
open PySem PySem.Spec PyProof.Rows L2
open PySem.W (EachIs AllAlike Sortable dataLe)
def srtK (ks : List (List Nat)) : List (List Nat) := ks.mergeSort (dataLe false strD)
theorem srtK_perm (ks : List (List Nat)) : (srtK ks).Perm ks := List.mergeSort_perm _ _
def txR (v : Value) (k : List Nat) : Prop := ∃ t, v = .str (S k) t
theorem tx_vals : ∀ {us : List Value} {l : List (List Nat)}, EachIs txR us l → Vals ((l.map S).map V.str) us
  | _, _, .nil => .nil
  | _, _, .cons ⟨t, e⟩ r => .cons ⟨t, e⟩ (tx_vals r)
theorem keys_at : ∀ {kvs : List (Key × Vv)} {ks : List (List Nat)} {i : Nat} {p : Key × Vv}, kvs.map (·.1) = ks.map tk → kvs[i]? = some p → ∃ k, ks[i]? = some k ∧ p.1 = tk k
  | [], _, i, p, _, h => by simp at h
  | _ :: _, [], _, _, h, _ => by cases h
  | a :: r, k :: ks, 0, p, h, e => by
    have e : a = p := by simpa using e
    subst e
    exact ⟨k, rfl, (List.cons.inj h).1⟩
  | a :: r, k :: ks, i + 1, p, h, e => keys_at (i := i) (List.cons.inj h).2 (by simpa using e)
theorem cr_srtDict {X : Cx} (hu : X.A.units + 64 < cLine) (hc : X.calm = true) : CallR X (.builtin "sorted") (fun xs H Q => ∃ (a : Addr) (kvs : List (Key × Vv)) (ks : List (List Nat)), xs = [.ref a] ∧ H a = some (.dK kvs) ∧ kvs.map (·.1) = ks.map tk ∧ ∀ p, H p = none → Q (.ref p) (upd H p (.lst (((srtK ks).map S).map V.str)))) := by
  intro pins s σ H vs us Q I r h
  obtain ⟨a, kvs, ks, rfl, hd, hk, q⟩ := h
  rw [Vals.ref1 r]
  obtain ⟨hz, hS, vs, rel, dd⟩ := dk_of I.hok hd
  obtain ⟨ep, hat⟩ := dd.dictAt
  have hl1 : vs.length = ks.length := by
    rw [← rel.length]
    have := congrArg List.length hk
    simpa using this
  have hl2 : ks.length ≤ sizeLine := by rw [← hl1, ← rel.length]; exact hz
  have hat' : s.heap.DictAt (mixKind X.prog X.w) a vs ep := hat
  have K := PySem.W.kdl_dict (prog := X.prog) (w := X.w) (knd := mixKind X.prog X.w) (kvs := vs) (ep := ep) (d := a) hS
  have halt := (K.there _ hat).1
  have items : ∀ acc : Array Value, ItemsOf (fun i v => ∃ k x, vs[i]? = some (k, x) ∧ (mixKind X.prog X.w).is k v = true) acc ks.length → EachIs txR acc.toList ks := fun acc hi => each_items (by rw [Array.length_toList]; exact hi.1) fun j v e => by
    obtain ⟨k, x, h1, h2⟩ := hi.2 j v (by rw [← Array.getElem?_toList]; exact e)
    obtain ⟨y, h3⟩ : ∃ y, kvs[j]? = some (k, y) := by
      have e := congrArg (fun l => l[j]?) rel.keys
      simp only [List.getElem?_map, h1, Option.map_some] at e
      cases q : kvs[j]? with
      | none => rw [q] at e; cases e
      | some p => rw [q] at e; obtain ⟨pk, pv⟩ := p; exact ⟨pv, by rw [← (Option.some.inj e)]⟩
    obtain ⟨kk, h4, h5⟩ := keys_at hk h3
    have h5 : k = tk kk := h5
    subst h5
    refine ⟨kk, h4, ?_⟩
    have h2' : keyIs (tk kk) v = true := h2
    rcases keyIs_shape h2' with ⟨i, t, e1, e2⟩ | ⟨z, t, e1, e2⟩
    · cases e1
    · have e1 := Sum.inr.inj e1
      exact ⟨t, by rw [e2, e1]⟩
  refine sorted_by (P := fun i v => ∃ k x, vs[i]? = some (k, x) ∧ (mixKind X.prog X.w).is k v = true) (bs := ks) (enc := strD) (R := txR) (fun R s1 S' res c e1 e2 hS' hR => ?_) (fun vs hv => items vs hv) (fun h vs hv => (items vs hv).mono fun v c ⟨t, e⟩ => by subst e; exact Reads.str _ t)
    (fun d hd d' hd' => ?_) (.inr fun d hd => ?_) hl2 (fun b _ => ?_) fun p h' tk' out c kp hp ho h1 h2 => ?_
  · subst e1 e2
    refine PySem.W.kdl_extend (A := X.A.in1) K (I.ok.hd hc) (K.keep _ _ hat fun b _ o e => Heap.get?_push_of_some _ e) _ (Nat.ne_of_gt halt) (Nat.ne_of_gt halt) res c hS' (fun h' tk acc' c' x y z => hR h' tk acc' c' x y (by rw [← hl1]; exact z)) (by rw [hl1]; exact hl2)
  · obtain ⟨a, _, rfl⟩ := List.mem_map.mp hd
    obtain ⟨b, _, rfl⟩ := List.mem_map.mp hd'
    exact alike_str _ _
  · obtain ⟨a, _, rfl⟩ := List.mem_map.mp hd
    exact ⟨(fun z => by cases z), (fun xs z => by cases z)⟩
  · rw [depth_str]; omega
  · exact ⟨.ref p, upd H p (.lst _), I.laid (t' := tk') kp hp ⟨by rw [List.length_map, List.length_map, List.length_mergeSort]; exact hl2, out, c, tx_vals h2, ho⟩, rfl, q p (I.hok.fresh hp)⟩
section
variable {U : Vol} {X : Cx} {e : Expr} {σ : Sg} {w : Wd U} {pos p : Pos}
theorem cn_srtDict {kvs : List (Key × Vv)} {ks : List (List Nat)} (hu : X.A.units + 64 < cLine) (hm : X.mg "sorted" = none) (h : CW X e σ w (Dq kvs)) (hk : kvs.map (·.1) = ks.map tk) (hc : X.calm = true) (hg : Gl X "sorted" := by rfl) (hs : starEach [e] X.env = [(false, eval e X.env)] := by rfl) : CN X (.Call (.Name "sorted" p) [e] [] pos) σ w ((srtK ks).map strD) := fun w1 l Q q =>
  ew_bi (cr_srtDict hu hc) hm PyProof.Rows.boot_sorted h hg (by decide) (by decide) hs w1 l Q fun v w2 l2 ⟨a, ev, hd⟩ => by
    subst ev
    exact ⟨a, kvs, ks, rfl, hd _ (Le.refl _), hk, fun p hp => cn_new q l2 hp (strs_dpa _)⟩
end
end FW
set_option Elab.async false
set_option linter.all false
set_option maxRecDepth 100000
set_option maxHeartbeats 4000000
/-! FwP: worlds with a pen: a dict that calls may change. -/
namespace FW
open PySem PySem.Spec PyProof.Rows L2 He
/-- the pen's entries -/
def kCells : List Nat := [99, 101, 108, 108, 115]
def kAt : List Nat := [97, 116]
def kDigits : List Nat := [100, 105, 103, 105, 116, 115]
def kCount : List Nat := [99, 111, 117, 110, 116]
def kFold : List Nat := [102, 111, 108, 100]
def penK (cl : Addr) (at_ : Nat) (dg ct fo : Int) : List (Key × Vv) := [(tk kCells, .ref cl), (tk kAt, .int at_), (tk kDigits, .int dg), (tk kCount, .int ct), (tk kFold, .int fo)]
theorem tk_ne {a b : List Nat} (h : a ≠ b) : ¬ ((tk a : Key) = tk b) := fun z => h (S_inj (Sum.inr.inj z))
section
variable {cl : Addr} {a : Nat} {d c f : Int}
theorem pen_cells : valV (penK cl a d c f) (tk kCells) = some (.ref cl) := by simp [penK, valV]
theorem pen_at : valV (penK cl a d c f) (tk kAt) = some (.int a) := by simp [penK, valV, List.find?_cons, tk_ne (a := kCells) (b := kAt) (by decide)]
theorem pen_digits : valV (penK cl a d c f) (tk kDigits) = some (.int d) := by simp [penK, valV, List.find?_cons, tk_ne (a := kCells) (b := kDigits) (by decide), tk_ne (a := kAt) (b := kDigits) (by decide)]
theorem pen_count : valV (penK cl a d c f) (tk kCount) = some (.int c) := by simp [penK, valV, List.find?_cons, tk_ne (a := kCells) (b := kCount) (by decide), tk_ne (a := kAt) (b := kCount) (by decide), tk_ne (a := kDigits) (b := kCount) (by decide)]
theorem pen_fold : valV (penK cl a d c f) (tk kFold) = some (.int f) := by simp [penK, valV, List.find?_cons, tk_ne (a := kCells) (b := kFold) (by decide), tk_ne (a := kAt) (b := kFold) (by decide), tk_ne (a := kDigits) (b := kFold) (by decide), tk_ne (a := kCount) (b := kFold) (by decide)]
theorem put_at (v : Nat) : putK (penK cl a d c f) (tk kAt) (.int v) = penK cl v d c f := by simp [penK, putK, tk_ne (a := kCells) (b := kAt) (by decide), tk_ne (a := kDigits) (b := kAt) (by decide), tk_ne (a := kCount) (b := kAt) (by decide), tk_ne (a := kFold) (b := kAt) (by decide)]
theorem put_digits (v : Int) : putK (penK cl a d c f) (tk kDigits) (.int v) = penK cl a v c f := by simp [penK, putK, tk_ne (a := kCells) (b := kDigits) (by decide), tk_ne (a := kAt) (b := kDigits) (by decide), tk_ne (a := kCount) (b := kDigits) (by decide), tk_ne (a := kFold) (b := kDigits) (by decide)]
theorem put_count (v : Int) : putK (penK cl a d c f) (tk kCount) (.int v) = penK cl a d v f := by simp [penK, putK, tk_ne (a := kCells) (b := kCount) (by decide), tk_ne (a := kAt) (b := kCount) (by decide), tk_ne (a := kDigits) (b := kCount) (by decide), tk_ne (a := kFold) (b := kCount) (by decide)]
theorem put_fold (v : Int) : putK (penK cl a d c f) (tk kFold) (.int v) = penK cl a d c v := by simp [penK, putK, tk_ne (a := kCells) (b := kFold) (by decide), tk_ne (a := kAt) (b := kFold) (by decide), tk_ne (a := kDigits) (b := kFold) (by decide), tk_ne (a := kCount) (b := kFold) (by decide)]
end
def PenOk (K : PySem.W.Frag) (pen : Addr) (G H : Hp) : Prop := Ex G H ∧ G pen = none ∧ ∃ cl at_ dg ct fo ns, H pen = some (.dK (penK cl at_ dg ct fo)) ∧ Dp K G (.ref cl) (.list (List.map PyData.int ns))
theorem ex_updG {G H : Hp} (e : Ex G H) {p : Addr} {o : HO} (h : H p = some o) : Ex G (upd G p o) := fun a u q => by
  by_cases z : a = p
  · subst z
    rw [upd_same]
    have := e a u q
    rw [h] at this
    exact this
  · rw [upd_ne z]; exact q
def VP (K : PySem.W.Frag) (pen : Addr) : Vol where
  Z := fun a => a = pen
  J := PenOk K pen
  stay := fun G H G' H' e e' g ⟨_, h0, cl, a, d, c, f, ns, h1, h2⟩ => ⟨e', g.f pen h0 (by rw [h1]; intro z; cases z), cl, a, d, c, f, ns, g.h _ _ h1, dp_ex g.g h2⟩
  away := fun G H p o hz hg ⟨e, h0, cl, a, d, c, f, ns, h1, h2⟩ => ⟨Evl.Ex.mut e hg, h0, cl, a, d, c, f, ns, by rw [upd_ne (fun z => hz z.symm)]; exact h1, h2⟩
  frz := fun G H p o hz hp ⟨e, h0, cl, a, d, c, f, ns, h1, h2⟩ => by
    refine ⟨fun b u q => ?_, by rw [upd_ne (fun z => hz z.symm)]; exact h0, cl, a, d, c, f, ns, h1, dp_ex (ex_updG e hp) h2⟩
    by_cases z : b = p
    · subst z
      rw [upd_same] at q
      rw [← q]; exact hp
    · rw [upd_ne z] at q; exact e b u q
  al := fun G H a ⟨_, _, cl, _, _, _, _, _, h1, _⟩ z => by
    have z : a = pen := z
    rw [z, h1]; intro z; cases z
/-- a def that takes the pen first -/
def PurP {α : Type} (K : PySem.W.Frag) (A : α → List GP) (pre : α → Prop) (R : α → GP) : Sp := fun vs H Q _ => ∃ (x : α) (pen : Addr) (w0 : Wd (VP K pen)) (args : List Vv), w0.H = H ∧ vs = .ref pen :: args ∧ Args (A x) args w0.G ∧ pre x ∧ ∀ v (w' : Wd (VP K pen)), Le w0 w' → R x v w'.G → Q v w'.H
section
variable {X : Cx} {pen : Addr} {e a b : Expr} {es : List Expr} {rest body : List Stmt} {σ : Sg} {w : Wd (VP X.K pen)} {P : GP} {D : En (VP X.K pen)} {pos p apos : Pos}
theorem ce_callP {α : Type} {A : α → List GP} {pre : α → Prop} {R : α → GP} {f : Str} {n k j : Nat} (x : α)
    (C : Cal X.prog X.w X.K X.mg X.base f n k (PurP X.K A pre R)) (hr : Room j X.A) (he1 : CE X e σ w (Is (.ref pen))) (ha : CA X es σ w (A x)) (hp : pre x) (hk : k ≤ j := by decide) (hg : Gl X f := by rfl)
    (hdb : (f == ("__debug__" : Str)) = false := by decide) (he : starEach (e :: es) X.env = (false, eval e X.env) :: starEach es X.env := by rfl) (hpl : (backTo pos (starEach es X.env)).any (·.1) = false := by rfl) :
    CE X (.Call (.Name f p) (e :: es) [] pos) σ w (R x) := by
  obtain ⟨ad, fd, ps, hm, hkp, hb, _, F⟩ := C.ex
  refine ce_lift (pe_call (E := E0) F (hr.mono hk) hg hm hkp hb .nil pass0 pa_can hdb he hpl) fun w1 l Q q => (ca_cons he1 ha he : CA X (e :: es) σ w (Is (.ref pen) :: A x)) w1 l _ fun vs w2 l2 hv => ?_
  cases vs with
  | nil => exact hv.elim
  | cons v args =>
    obtain ⟨h1, h2⟩ := hv
    have h1 : v = .ref pen := h1
    subst h1
    show PurP X.K A pre R (V.ref pen :: args ++ []) w2.H Q E0
    rw [List.append_nil]
    exact ⟨x, pen, w2, args, rfl, rfl, h2, hp, fun v w' l' r => q v w' (l2.trans l') r⟩
end
abbrev RetP {α : Type} (K : PySem.W.Frag) {pen : Addr} (R : α → GP) (x : α) (w0 : Wd (VP K pen)) : En (VP K pen) := ⟨fun _ w' => Le w0 w' ∧ R x .non w'.G, fun v w' => Le w0 w' ∧ R x v w'.G, fun _ _ => False, fun _ _ => False⟩
section
variable {fa : List Fa} {xs : List (PySem.W.Frag → Bool)} {fn : List DefD} {K : PySem.W.Frag} {mg : Str → Option Value}
theorem Says.calP {P : Program} {w : World} {base : Heap} {α : Type} {A : α → List GP} {pre : α → Prop} {R : α → GP} {N ps : List Str} {k : Nat} {name : Str} (c : Says fa xs fn K mg) (i j : Nat) {d : DefD} (S : FnScope N ps d.scope) (hb : ∀ (kV doc pm : Value) (an : Option Addr) (cdv ct : Value) (us : List Value), us.length = ps.length → bindArgs (PySem.W.fnOf d.name d.qual d.params d.body d.scope .none kV doc pm an cdv ct) ⟨us, []⟩ = pure (ps.zip us)) (hl : ∀ z, (A z).length + 1 = ps.length)
    (hbody : ∀ (cdv : Value) (B : Around) (outer : List Env) (s : Shared) (H : Hp) (E : XK) (z : α) (pen : Addr) (args : List Vv) (w0 : Wd (VP K pen)), Room k (B.deeper (envOfC d.qual d.scope s.heap.objs.size (fAd K d.at_) cdv)) → Args (A z) args w0.G → pre z →
      Go (cxOf CX0 P w K mg base N d.qual d.scope (fAd K d.at_) cdv B outer s H E).nox d.body (start N (.ref pen :: args)) w0 (RetP K R z w0))
    (hi : fn[i]? = some d := by rfl) (hj : fa[j]? = some (.glo name) := by rfl) (hd : d.dfl = [] ∧ d.kwd = [] ∧ d.at_ = (name, none) ∧ d.name = name := by exact ⟨rfl, rfl, rfl, rfl⟩) : Cal P w K mg base name ps.length (k + 1) (PurP K A pre R) := by
  obtain ⟨fd, F⟩ := c.s.def_ i hi
  obtain ⟨d1, d2, d3, d4⟩ := hd
  have e1 : d.dvs K = [] := by unfold DefD.dvs; rw [d1]; rfl
  have e2 : d.kws K = [] := by unfold DefD.kws; rw [d2]; rfl
  rw [e1, e2] at F
  have e3 : fAd K d.at_ = ga K name := by rw [d3]; rfl
  have m := c.glo j hj
  rw [← e3] at m
  have b : Binds K fd ps [] := F.bindsN hb
  refine ⟨fAd K d.at_, fd, ps, m, F.kp, b, rfl, F.ok S (fun vs H Q E h => ?_) fun cdv B outer s H vs Q E hr h => ?_⟩
  · obtain ⟨z, pen, w0, args, _, rfl, hv, _⟩ := h
    rw [List.length_cons, args_len hv, hl]
  · obtain ⟨z, pen, w0, args, rfl, rfl, hv, hp, hq⟩ := h
    have g := hbody cdv B outer s w0.H E z pen args w0 hr hv hp
    refine ⟨_, PSs.nox (pss_can), ?_⟩
    intro pins s' I
    refine thn (g pins s' I) fun fl s2 q => ?_
    cases fl with
    | next =>
      obtain ⟨σ', H', I', w2, e2, l, r⟩ := q
      subst e2
      exact ⟨σ', _, I', hq _ w2 l r⟩
    | brk => obtain ⟨_, _, _, w2, _, z⟩ := q; exact z.elim
    | cont => obtain ⟨_, _, _, w2, _, z⟩ := q; exact z.elim
    | ret v =>
      obtain ⟨u, σ', H', I', r0, w2, e2, l, r⟩ := q
      subst e2
      exact ⟨u, σ', _, I', r0, hq _ w2 l r⟩
end

/-- all stays but the pen -/
structure LeB (pen : Addr) (w w' : Wd V0) : Prop where
  g : Ex w.G w'.G
  h : ∀ a o, a ≠ pen → w.H a = some o → w'.H a = some o
  n : ∀ a, w.H a ≠ none → w'.H a ≠ none
  f : ∀ a, w.G a = none → w.H a ≠ none → w'.G a = none
theorem LeB.refl {pen : Addr} (w : Wd V0) : LeB pen w w := ⟨Evl.Ex.refl _, fun _ _ _ h => h, fun _ h => h, fun _ h _ => h⟩
theorem LeB.le {pen : Addr} {a b c : Wd V0} (x : LeB pen a b) (y : Le b c) : LeB pen a c := ⟨x.g.trans y.g, fun p o z h => y.h p o id (x.h p o z h), fun p h => y.n p (x.n p h), fun p h n => y.f p (x.f p h n) (x.n p n)⟩
theorem LeB.putO {pen : Addr} {a b : Wd V0} {ob u : HO} (x : LeB pen a b) (o : OwO b pen ob) : LeB pen a (b.putO pen o u) where
  g := x.g
  h := fun p q z e => by
    show upd b.H pen _ p = _
    rw [upd_ne z]; exact x.h p q z e
  n := fun p e => by
    show upd b.H pen _ p ≠ _
    by_cases q : p = pen
    · subst q; rw [upd_same]; intro z; cases z
    · rw [upd_ne q]; exact x.n p e
  f := x.f
/-- the pen as it stands, one's own -/
def PenS (K : PySem.W.Frag) (pen : Addr) (w : Wd V0) : Prop := ∃ cl at_ dg ct fo ns, OwO w pen (.dK (penK cl at_ dg ct fo)) ∧ Dp K w.G (.ref cl) (.list (List.map PyData.int ns))
section
variable {fa : List Fa} {xs : List (PySem.W.Frag → Bool)} {fn : List DefD} {K : PySem.W.Frag} {mg : Str → Option Value}
theorem Says.calD {P : Program} {w : World} {base : Heap} {α : Type} {A : α → List GP} {pre : α → Prop} {R : α → GP} {N ps : List Str} {k : Nat} {name : Str} (c : Says fa xs fn K mg) (i j : Nat) {d : DefD} (S : FnScope N ps d.scope) (hb : ∀ (kV doc pm : Value) (an : Option Addr) (cdv ct : Value) (us : List Value), us.length = ps.length → bindArgs (PySem.W.fnOf d.name d.qual d.params d.body d.scope .none kV doc pm an cdv ct) ⟨us, []⟩ = pure (ps.zip us)) (hl : ∀ z, (A z).length + 1 = ps.length)
    (hbody : ∀ (cdv : Value) (B : Around) (outer : List Env) (s : Shared) (H : Hp) (E : XK) (z : α) (pen : Addr) (args : List Vv) (w0 : Wd V0), Room k (B.deeper (envOfC d.qual d.scope s.heap.objs.size (fAd K d.at_) cdv)) → PenS K pen w0 → Args (A z) args w0.G → pre z →
      Go (cxOf CX0 P w K mg base N d.qual d.scope (fAd K d.at_) cdv B outer s H E).nox d.body (start N (.ref pen :: args)) w0 ⟨fun _ w' => LeB pen w0 w' ∧ PenS K pen w' ∧ R z .non w'.G, fun v w' => LeB pen w0 w' ∧ PenS K pen w' ∧ R z v w'.G, fun _ _ => False, fun _ _ => False⟩)
    (hi : fn[i]? = some d := by rfl) (hj : fa[j]? = some (.glo name) := by rfl) (hd : d.dfl = [] ∧ d.kwd = [] ∧ d.at_ = (name, none) ∧ d.name = name := by exact ⟨rfl, rfl, rfl, rfl⟩) : Cal P w K mg base name ps.length (k + 1) (PurP K A pre R) := by
  refine c.calP i j S hb hl (fun cdv B outer s H E z pen args w0 hr hv hp => ?_) hi hj hd
  obtain ⟨e0, hg, cl, at_, dg, ct, fo, ns, h1, h2⟩ := w0.j
  have hps : PenS K pen (⟨w0.G, w0.H, w0.ex, trivial⟩ : Wd V0) := ⟨cl, at_, dg, ct, fo, ns, ⟨hg, id, h1⟩, h2⟩
  have g := hbody cdv B outer s H E z pen args ⟨w0.G, w0.H, w0.ex, trivial⟩ hr hps hv hp
  have conv : ∀ {v : Vv} {w' : Wd V0}, LeB pen ⟨w0.G, w0.H, w0.ex, trivial⟩ w' ∧ PenS K pen w' ∧ R z v w'.G → ∃ w2 : Wd (VP K pen), w2.H = w'.H ∧ Le w0 w2 ∧ R z v w2.G := fun {v w'} ⟨l, ⟨cl, at_, dg, ct, fo, ns, o, h2⟩, r⟩ =>
    ⟨⟨w'.G, w'.H, w'.ex, w'.ex, o.g, cl, at_, dg, ct, fo, ns, o.h, h2⟩, rfl, ⟨l.g, fun a o z e => l.h a o z e, l.n, l.f⟩, r⟩
  have q := go_of_raw (D' := (RetP K R z w0).raw) g (fun σ' w' q => by
      obtain ⟨w2, h1, h2⟩ := conv q
      exact ⟨w2, h1, h2⟩) (fun v w' q => by
      obtain ⟨w2, h1, h2⟩ := conv q
      exact ⟨w2, h1, h2⟩) (fun σ' w' q => q.elim) (fun σ' w' q => q.elim)
  exact q
end
section
variable {U : Vol} {X : Cx} {e : Expr} {es : List Expr} {σ : Sg} {w : Wd U} {pos p : Pos}
theorem ce_int1 {i : Int} (hm : X.mg "int" = none) (h : CE X e σ w (I i)) (hg : Gl X "int" := by rfl) (hs : starEach [e] X.env = [(false, eval e X.env)] := by rfl) : CE X (.Call (.Name "int" p) [e] [] pos) σ w (I i) := fun w1 l Q q =>
  ew_ty call_int1 hm PyProof.Rows.boot_int h.cw hg (by decide) (by decide) hs w1 l Q fun v w2 l2 hv => by
    have hv : v = .int i := hv
    subst hv
    exact .inl ⟨i, rfl, q _ w2 l2 rfl⟩
end
end FW
set_option Elab.async false
set_option linter.all false
set_option maxRecDepth 100000
set_option maxHeartbeats 4000000
/-! FwX: values that are known to be one of some. -/
namespace FW
open PySem PySem.Spec PyProof.Rows L2
def Exi {α : Type} (F : α → Prop) (P : α → GP) : GP := fun v G => ∃ x, F x ∧ P x v G
instance {α : Type} {F : α → Prop} {P : α → GP} [m : ∀ x, MonoG (P x)] : MonoG (Exi F P) := ⟨fun v _ _ e ⟨x, h1, h2⟩ => ⟨x, h1, (m x).mono v _ _ e h2⟩⟩
section
variable {U : Vol} {X : Cx} {e a b : Expr} {es : List Expr} {rest body : List Stmt} {σ : Sg} {w w' : Wd U} {P P' : GP} {Ps : List GP} {D : En U} {pos p apos : Pos} {ds : List PyData}
theorem ce_callE {α : Type} {A : α → List GP} {pre : α → Prop} {R : α → GP} {F : α → Prop} {f : Str} {n k j : Nat}
    (C : Cal X.prog X.w X.K X.mg X.base f n k (Pur A pre R)) (hr : Room j X.A) (ha : CA X (e :: es) σ w Ps) (hx : ∀ vs G, Args Ps vs G → ∃ x, Args (A x) vs G ∧ pre x ∧ F x) (hk : k ≤ j := by decide) (hg : Gl X f := by rfl)
    (hdb : (f == ("__debug__" : Str)) = false := by decide) (he : starEach (e :: es) X.env = (false, eval e X.env) :: starEach es X.env := by rfl) (hpl : (backTo pos (starEach es X.env)).any (·.1) = false := by rfl) :
    CE X (.Call (.Name f p) (e :: es) [] pos) σ w (Exi F R) := by
  obtain ⟨a, fd, ps, hm, hkp, hb, _, G⟩ := C.ex
  refine ce_lift (pe_call (E := E0) G (hr.mono hk) hg hm hkp hb .nil pass0 pa_can hdb he hpl) fun w1 l Q q => ha w1 l _ fun vs w2 l2 hv => ?_
  show Pur A pre R (vs ++ []) w2.H Q E0
  rw [List.append_nil]
  obtain ⟨x, h1, h2, h3⟩ := hx vs w2.G hv
  exact ⟨x, w2.G, w2.ex, h1, h2, fun v G' H' e g r => q v (w2.grow e g) (l2.trans (Gr.le g)) ⟨x, h3, r⟩⟩
/-- indices that are known to be within -/
theorem ce_ixTE {F : List Nat → Prop} (ha : CE X a σ w (Exi F fun l => T l)) (n : Nat) (hF : ∀ l, F l → l.length = n ∧ l.length ≤ 1000000) (hb : CE X b σ w (fun v _ => ∃ r : Int, v = .int r ∧ 0 ≤ r ∧ r < n)) (hs : PlainIx b := by intro _ _; rfl) : CE X (.Subscript a b pos) σ w (fun v _ => ∃ l c, F l ∧ c ∈ l ∧ v = .str (S [c])) :=
  ce_lift (pe_ix ix_str pe_can pe_can hs) fun w1 l Q q => ha w1 l _ fun v w2 l2 ⟨x, hx, hv⟩ => hb w2 (l.trans l2) _ fun u w3 l3 ⟨r, hu, h0, h1⟩ => by
    obtain ⟨j, rfl⟩ : ∃ j : Nat, r = j := ⟨r.toNat, by omega⟩
    have hl := hF x hx
    have hj : x[j]? = some (x[j]'(by omega)) := List.getElem?_eq_getElem _
    exact ⟨S x, j, _, hv, hu, by rw [S_len]; exact line_of hl.2, atI_nat hj, q _ w3 (l2.trans l3) ⟨x, _, hx, List.mem_of_getElem? hj, rfl⟩⟩
theorem ce_ixQE (ha : CQ X a σ w ds) (hb : CE X b σ w (fun v _ => ∃ r : Int, v = .int r ∧ 0 ≤ r ∧ r < ds.length)) (hs : PlainIx b := by intro _ _; rfl) : CE X (.Subscript a b pos) σ w (Exi (fun d => d ∈ ds) fun d => Da X.K d) :=
  ce_lift (pe_ix ix_list pe_can pe_can hs) fun w1 l Q q => ha w1 l _ fun v w2 l2 ⟨p, vs, ev, hq, hd⟩ => hb w2 (l.trans l2) _ fun u w3 l3 ⟨r, hu, h0, h1⟩ => by
    subst ev
    obtain ⟨j, rfl⟩ : ∃ j : Nat, r = j := ⟨r.toNat, by omega⟩
    have hj : ds[j]? = some (ds[j]'(by omega)) := List.getElem?_eq_getElem _
    obtain ⟨x, h3, h4⟩ := dpa_get hd hj
    exact ⟨p, vs, j, x, rfl, hu, hq _ l3, atI_nat h3, q _ w3 (l2.trans l3) ⟨_, List.mem_of_getElem? hj, dp_ex l3.g h4⟩⟩
/-- found.append(left.pop(e)) -/
theorem go_appendPop (i i2 : Nat) {x y : Str} {p1 p2 apos2 pos2 : Pos} {q q2 : Addr} {vs us : List Vv} (o : Own w q vs) (o2 : Own w q2 us) (hne : q ≠ q2) (he : CE X e σ w (fun v _ => ∃ r : Int, v = .int r ∧ 0 ≤ r ∧ r < us.length)) (hz : vs.length ≤ 1000000) (hz2 : us.length ≤ 1000000)
    (k : ∀ j v w' (l : Le w w') (o2' : Own w' q2 us) (o' : Own (w'.put q2 o2' (us.eraseIdx j)) q vs), us[j]? = some v → Go X rest σ ((w'.put q2 o2' (us.eraseIdx j)).put q o' (vs ++ [v])) D)
    (hσ : σ[i]? = some (some (.ref q)) := by rfl) (hσ2 : σ[i2]? = some (some (.ref q2)) := by rfl) (hN : X.N[i]? = some x := by rfl) (hN2 : X.N[i2]? = some y := by rfl) (hv : Vis X.env.scope x := by first | exact Or.inl rfl | exact Or.inr (Or.inl rfl) | exact Or.inr (Or.inr rfl)) (hv2 : Vis X.env.scope y := by first | exact Or.inl rfl | exact Or.inr (Or.inl rfl) | exact Or.inr (Or.inr rfl))
    (hd : (x == ("__debug__" : Str)) = false := by decide) (hcd : (x == ("__classdict__" : Str)) = false := by decide) (hd2 : (y == ("__debug__" : Str)) = false := by decide) (hcd2 : (y == ("__classdict__" : Str)) = false := by decide)
    (hbase : attributeBase (.Name x p1) "append" X.env (eval (.Name x p1) X.env) = eval (.Name x p1) X.env := by rfl) (hbase2 : attributeBase (.Name y p2) "pop" X.env (eval (.Name y p2) X.env) = eval (.Name y p2) X.env := by rfl)
    (hfew : ((backTo pos (starEach (.Call (.Attribute (.Name y p2) "pop" apos2) [e] [] pos2 :: []) X.env)).all (fun x => !x.1) && (backToKw pos (keywordEach [] X.env)).all (fun x => x.1.isSome)
      && decide ((.Call (.Attribute (.Name y p2) "pop" apos2) [e] [] pos2 :: ([] : List Expr)).length + ([] : List Keyword).length + (if ([] : List Keyword).isEmpty then 0 else 1) < 30)) = true := by rfl)
    (hfew2 : ((backTo pos2 (starEach (e :: []) X.env)).all (fun x => !x.1) && (backToKw pos2 (keywordEach [] X.env)).all (fun x => x.1.isSome)
      && decide ((e :: ([] : List Expr)).length + ([] : List Keyword).length + (if ([] : List Keyword).isEmpty then 0 else 1) < 30)) = true := by rfl)
    (hline : (apos.endLine == pos.line) = true := by rfl) (hline2 : (apos2.endLine == pos2.line) = true := by rfl) (hs2 : starEach (e :: []) X.env = (false, eval e X.env) :: starEach [] X.env := by rfl)
    (hs : starEach (.Call (.Attribute (.Name y p2) "pop" apos2) [e] [] pos2 :: []) X.env = (false, eval (.Call (.Attribute (.Name y p2) "pop" apos2) [e] [] pos2) X.env) :: starEach [] X.env := by rfl) (hplain : (backTo pos (starEach [] X.env)).any (·.1) = false := by rfl) (hplain2 : (backTo pos2 (starEach [] X.env)).any (·.1) = false := by rfl)
    (hsw : swapsWith (.Call (.Attribute (.Name x p1) "append" apos) [.Call (.Attribute (.Name y p2) "pop" apos2) [e] [] pos2] [] pos) none p.line X.env = pure false := by rfl) :
    Go X (.Expr (.Call (.Attribute (.Name x p1) "append" apos) [.Call (.Attribute (.Name y p2) "pop" apos2) [e] [] pos2] [] pos) p :: rest) σ w D :=
  s_of (pss_cons (ps_expr (pe_bm PySem.F.plainAttrs_list PySem.F.slot_list_append PySem.F.type_list_append mt_append (pe_var hN hv hd hcd) (pa_cons (pe_bm PySem.F.plainAttrs_list PySem.F.slot_list_pop PySem.F.type_list_pop mt_popAt (pe_var hN2 hv2 hd2 hcd2) (pa_cons pe_can pa_nil hs2) hbase2 hfew2 hline2 hs2 hplain2) pa_nil hs) hbase hfew hline hs hplain) hsw) pss_can)
    ⟨_, hσ, .inl ⟨rfl, vs, SqL.of o.h⟩, _, hσ2, .inl ⟨rfl, us, SqL.of o2.h⟩, he w (Le.refl _) _ fun v w2 l ⟨r, hr, h0, h1⟩ => by
      subst hr
      obtain ⟨j, rfl⟩ : ∃ j : Nat, r = j := ⟨r.toNat, by omega⟩
      have hj : us[j]? = some (us[j]'(by omega)) := List.getElem?_eq_getElem _
      have o2' := o2.mono l
      have o' : Own (w2.put q2 o2' (us.eraseIdx j)) q vs := o2'.put_ne (o.mono l) hne
      refine ⟨q2, us, j, j, _, rfl, rfl, o2'.h, by omega, by omega, ?_, hj, q, vs, _, rfl, rfl, o'.h, line_lt hz, k j _ w2 l o2' o' hj⟩
      unfold seqIndex?
      simp
      omega⟩
end
end FW
set_option Elab.async false
set_option linter.all false
set_option maxRecDepth 100000
set_option maxHeartbeats 4000000
/-! FwY: calls with the pen on values that are known to be one of some; comprehensions of such. -/
namespace FW
open PySem PySem.Spec PyProof.Rows L2 He
section
variable {X : Cx} {pen : Addr} {e a b : Expr} {es : List Expr} {rest body : List Stmt} {σ : Sg} {w : Wd (VP X.K pen)} {P : GP} {Ps : List GP} {D : En (VP X.K pen)} {pos p apos : Pos}
theorem ce_callPE {α : Type} {A : α → List GP} {pre : α → Prop} {R : α → GP} {F : α → Prop} {f : Str} {n k j : Nat}
    (C : Cal X.prog X.w X.K X.mg X.base f n k (PurP X.K A pre R)) (hr : Room j X.A) (he1 : CE X e σ w (Is (.ref pen))) (ha : CA X es σ w Ps) (hx : ∀ vs G, Args Ps vs G → ∃ x, Args (A x) vs G ∧ pre x ∧ F x) (hk : k ≤ j := by decide) (hg : Gl X f := by rfl)
    (hdb : (f == ("__debug__" : Str)) = false := by decide) (he : starEach (e :: es) X.env = (false, eval e X.env) :: starEach es X.env := by rfl) (hpl : (backTo pos (starEach es X.env)).any (·.1) = false := by rfl) :
    CE X (.Call (.Name f p) (e :: es) [] pos) σ w (Exi F R) := by
  obtain ⟨ad, fd, ps, hm, hkp, hb, _, G⟩ := C.ex
  refine ce_lift (pe_call (E := E0) G (hr.mono hk) hg hm hkp hb .nil pass0 pa_can hdb he hpl) fun w1 l Q q => (ca_cons he1 ha he : CA X (e :: es) σ w (Is (.ref pen) :: Ps)) w1 l _ fun vs w2 l2 hv => ?_
  cases vs with
  | nil => exact hv.elim
  | cons v args =>
    obtain ⟨h1, h2⟩ := hv
    have h1 : v = .ref pen := h1
    subst h1
    obtain ⟨x, hx1, hx2, hx3⟩ := hx args w2.G h2
    show PurP X.K A pre R (V.ref pen :: args ++ []) w2.H Q E0
    rw [List.append_nil]
    exact ⟨x, pen, w2, args, rfl, rfl, hx1, hx2, fun v w' l' r => q v w' (l2.trans l') ⟨x, hx3, r⟩⟩
end
section
variable {U : Vol} {X : Cx} {e a b : Expr} {es : List Expr} {rest body : List Stmt} {σ : Sg} {w w' : Wd U} {P P' : GP} {Ps : List GP} {D : En U} {pos p apos : Pos} {ds : List PyData}
/-- a list of signs, known in part -/
def SgE (K : PySem.W.Frag) (F : List Nat → Prop) : GP := Exi F fun l => Da K (.list (l.map fun c => strD [c]))
theorem flat_one : ∀ l : List Nat, (l.map fun c => [c]).flatten = l
  | [] => rfl
  | a :: r => by rw [List.map_cons, List.flatten_cons, flat_one r]; rfl
/-- ''.join(signs) -/
theorem ce_joinE {F : List Nat → Prop} (hF : ∀ l, F l → l.length ≤ 1000000) (ho : CE X a σ w (T [])) (h : CE X e σ w (SgE X.K F)) (hs : starEach [e] X.env = [(false, eval e X.env)] := by rfl) (hbase : attributeBase a "join" X.env (eval a X.env) = eval a X.env := by rfl) (hline : (apos.endLine == pos.line) = true := by rfl) :
    CE X (.Call (.Attribute a "join" apos) [e] [] pos) σ w (Exi F fun l => T l) :=
  ce_lift (pe_join pe_can pe_can hs hbase hline) fun w1 l Q q => ho w1 l _ fun v w2 l2 hv => ⟨⟨_, hv⟩, h w2 (l.trans l2) _ fun u w3 l3 ⟨x, hx, hd⟩ => by
    have hd : Dp X.K w3.G u (.list (x.map fun c => strD [c])) := hd
    cases hd with
    | @lst b vs _ hq hd =>
      have hl := hF x hx
      have e2 : (x.map fun c => strD [c]) = (x.map fun c => [c]).map strD := by rw [List.map_map]; rfl
      rw [e2] at hd
      have ev := dpa_strs hd
      have ef := flat_one x
      refine ⟨S [], b, (x.map fun c => [c]).map S, hv, rfl, .inl (by rw [← ev]; exact Evl.ex_l w3.ex hq), ?_, ?_⟩
      · rw [sum_lens, S_len, ef]; simp only [List.length_nil, Nat.mul_zero, Nat.add_zero]; exact Nat.le_trans hl (by decide)
      · rw [join_S, ef]; exact q _ w3 (l2.trans l3) ⟨x, hx, rfl⟩⟩
/-- xs[:1 + d] -/
theorem ce_slE {F : List Nat → Prop} {n : Nat} {j1 : Nat} {p1 p2 p3 : Pos} (hF : ∀ l, F l → l.length ≤ 1000000) (ha : CE X a σ w (SgE X.K F)) (hb : CE X b σ w (fun v _ => ∃ r : Int, v = .int r ∧ 0 ≤ r ∧ r < n)) :
    CE X (.Subscript a (.Slice none (some (.BinOp (.Constant (.int 1) j1 p1) .Add b p2)) none p3) pos) σ w (SgE X.K fun l => ∃ m k, F m ∧ 1 ≤ k ∧ k ≤ n ∧ l = m.take k) :=
  ce_lift (pe_slice sl_list pe_can po_none (po_some (pe_op op_add pe_int pe_can))) fun w1 l Q q => ha w1 l _ fun v w2 l2 ⟨x, hx, hd⟩ => by
    have hd : Dp X.K w2.G v (.list (x.map fun c => strD [c])) := hd
    refine hb w2 (l.trans l2) _ fun u w3 l3 ⟨r, hu, h0, h1⟩ => ?_
    cases hd with
    | @lst c vs _ hq hd =>
      refine ⟨1, r, rfl, hu, 1 + r, rfl, c, vs, rfl, Evl.ex_l (l3.g.trans w3.ex) hq, fun p hp => ?_⟩
      obtain ⟨k, rfl⟩ : ∃ k : Nat, r = k := ⟨r.toNat, by omega⟩
      have e : cutV vs none (some (1 + (k : Int))) = vs.take (k + 1) := by
        unfold cutV
        rw [show (1 + (k : Int)) = ((k + 1 : Nat) : Int) by omega, HT.sIx_nat, HT.sIx_none, List.drop_zero, Nat.sub_zero]
        by_cases hk : k + 1 ≤ vs.length
        · rw [Nat.min_eq_left hk]
        · rw [Nat.min_eq_right (by omega), List.take_length, List.take_of_length_le (by omega)]
      rw [e]
      have g := gr_new w3.ex (o := .lst (vs.take (k + 1))) hp
      refine q _ (w3.grow g.2 g.1) ((l2.trans l3).trans (Gr.le (w' := w3.grow g.2 g.1) g.1)) ⟨x.take (k + 1), ⟨x, k + 1, hx, by omega, by omega, rfl⟩, ?_⟩
      refine .lst (.inl (.inl upd_same)) ?_
      rw [List.map_take]
      exact dpa_take _ (dpa_ex (l3.g.trans g.1.g) hd)
section
variable {elt it : Expr} {scope : Scope} {j : Nat} {x : Str} {px : Pos}
/-- [a sign that is of F for x in range(some n below N)] -/
theorem ce_lcE {F : Nat → Prop} {N : Nat} {p2 pos2 : Pos} (hN1 : N ≤ 1000000) (hm : X.mg "range" = none) (hi : CE X a σ w (fun v _ => ∃ r : Int, v = .int r ∧ 0 ≤ r ∧ r < N)) (he : ∀ (i : Nat) w', Le w w' → CEb X scope elt ((wipe σ [j]).set j (some (.int i))) w' (fun v _ => ∃ c, F c ∧ v = .str (S [c])))
    (hc : X.calm = true) (hN : X.N.Nodup) (ok : BlkOk X.N X.env.scope scope [(x, j)])
    (hg : Bk X scope fun B => PG B (.Name x px) (gName j)) (hgl : Gl X "range" := by rfl) (hst : starEach [a] X.env = [(false, eval a X.env)] := by rfl) (hs : ∀ x, foldedSetIterable (.Call (.Name "range" p2) [a] [] pos2) X.env x = pure x := by intro _; rfl) :
    CE X (.ListComp elt [⟨.Name x px, .Call (.Name "range" p2) [a] [] pos2, [], 0⟩] scope pos) σ w (SgE X.K fun l => l.length < N ∧ ∀ c ∈ l, F c) := by
  refine ce_lift (pe_lc hc hN (pi_range1 hgl hm (pa_cons pe_can pa_nil hst) hst) ok hg (fun _ _ _ _ _ => pts_nil) (fun _ _ _ _ _ => pb_can) hs) fun w1 l1 Q q => ?_
  refine hi w1 l1 _ fun v w2 l2 ⟨r, hv, h0, h1⟩ => ?_
  subst hv
  obtain ⟨n, rfl⟩ : ∃ n : Nat, r = n := ⟨r.toNat, by omega⟩
  refine ⟨n, rfl, by omega, by omega, fun Dn hD => ?_⟩
  rw [Int.toNat_natCast]
  refine lc_it (walk_range (lo := 0) (n := n)) (fun i H => ∃ (w' : Wd U) (vs : List Vv) (l : List Nat), w'.H = H ∧ Le w2 w' ∧ Own w' Dn vs ∧ DpAll X.K w'.G vs (l.map fun c => strD [c]) ∧ l.length = i ∧ ∀ c ∈ l, F c) ?_ (fun _ _ _ _ => trivial) (fun i y H H' hi' ⟨w', vs, l, e, lw, o, d, hl, hF⟩ yy => ?_) (fun H ⟨w', vs, l, e, lw, o, d, hl, hF⟩ => ?_)
  · exact ⟨w2.grow (gr_newH w2.ex (o := .lst []) hD).2.1 (gr_newH w2.ex (o := .lst []) hD).1, [], [], rfl, Gr.le (gr_newH w2.ex hD).1, own_new hD, .nil, rfl, fun c hc => by cases hc⟩
  · subst e
    obtain ⟨eh, ey⟩ := yy
    subst eh
    have ey : y = .int i := by rw [ey]; exact congrArg V.int (Int.zero_add _)
    subst ey
    refine ⟨by simp [wipe, List.set_set], ?_⟩
    simp only [tYes, ↓reduceIte]
    refine ceb_ev (he i w' ((l1.trans l2).trans lw)) w' (Le.refl _) _ fun u w3 l3 ⟨c, hFc, hu⟩ => ?_
    subst hu
    have o3 := o.mono l3
    refine ⟨vs, o3.h, line_lt (by have e := dpa_len d; rw [List.length_map] at e; omega), w3.put Dn o3 (vs ++ [.str (S [c])]), vs ++ [.str (S [c])], l ++ [c], rfl, (lw.trans l3).put hD o3, o3.put, ?_, by rw [List.length_append, hl]; rfl, fun d hd => ?_⟩
    · rw [List.map_append]
      exact dpa_app (dpa_ex l3.g d) (.cons (.str _) .nil)
    · rcases List.mem_append.mp hd with hd | hd
      · exact hF d hd
      · rw [List.mem_singleton.mp hd]; exact hFc
  · subst e
    exact q (.ref Dn) (w'.ice Dn o) ((l2.trans lw).ice (l2.new hD) o) ⟨l, ⟨by omega, hF⟩, ice_da o d⟩
end
end
end FW
set_option Elab.async false
set_option linter.all false
set_option maxRecDepth 100000
set_option maxHeartbeats 4000000
/-! FwW: a def that hands back something of one's own; the pen's display. -/
namespace FW
open PySem PySem.Spec PyProof.Rows L2 He
def PurW {α : Type} (A : α → List GP) (pre : α → Prop) (RW : α → Vv → Wd V0 → Prop) : Sp := fun vs H Q _ => ∃ (x : α) (w0 : Wd V0), w0.H = H ∧ Args (A x) vs w0.G ∧ pre x ∧ ∀ v (w' : Wd V0), Le w0 w' → RW x v w' → Q v w'.H
section
variable {X : Cx} {e : Expr} {es : List Expr} {σ : Sg} {w : Wd V0} {pos p : Pos}
theorem ce_callW {α : Type} {A : α → List GP} {pre : α → Prop} {RW : α → Vv → Wd V0 → Prop} {f : Str} {n k j : Nat} (x : α)
    (C : Cal X.prog X.w X.K X.mg X.base f n k (PurW A pre RW)) (hr : Room j X.A) (ha : CA X (e :: es) σ w (A x)) (hp : pre x) (hk : k ≤ j := by decide) (hg : Gl X f := by rfl)
    (hdb : (f == ("__debug__" : Str)) = false := by decide) (he : starEach (e :: es) X.env = (false, eval e X.env) :: starEach es X.env := by rfl) (hpl : (backTo pos (starEach es X.env)).any (·.1) = false := by rfl) :
    CW X (.Call (.Name f p) (e :: es) [] pos) σ w (RW x) := by
  obtain ⟨a, fd, ps, hm, hkp, hb, _, F⟩ := C.ex
  refine cw_lift (pe_call (E := E0) F (hr.mono hk) hg hm hkp hb .nil pass0 pa_can hdb he hpl) fun w1 l Q q => ha w1 l _ fun vs w2 l2 hv => ?_
  show PurW A pre RW (vs ++ []) w2.H Q E0
  rw [List.append_nil]
  exact ⟨x, w2, rfl, hv, hp, fun v w' l' r => q v w' (l2.trans l') r⟩
end
section
variable {fa : List Fa} {xs : List (PySem.W.Frag → Bool)} {fn : List DefD} {K : PySem.W.Frag} {mg : Str → Option Value}
theorem Says.calW {P : Program} {w : World} {base : Heap} {α : Type} {A : α → List GP} {pre : α → Prop} {RW : α → Vv → Wd V0 → Prop} {N ps : List Str} {k : Nat} {name : Str} (c : Says fa xs fn K mg) (i j : Nat) {d : DefD} (S : FnScope N ps d.scope) (hb : ∀ (kV doc pm : Value) (an : Option Addr) (cdv ct : Value) (us : List Value), us.length = ps.length → bindArgs (PySem.W.fnOf d.name d.qual d.params d.body d.scope .none kV doc pm an cdv ct) ⟨us, []⟩ = pure (ps.zip us)) (hl : ∀ z, (A z).length = ps.length)
    (hbody : ∀ (cdv : Value) (B : Around) (outer : List Env) (s : Shared) (H : Hp) (E : XK) (z : α) (vs : List Vv) (w0 : Wd V0), Room k (B.deeper (envOfC d.qual d.scope s.heap.objs.size (fAd K d.at_) cdv)) → Args (A z) vs w0.G → pre z →
      Go (cxOf CX0 P w K mg base N d.qual d.scope (fAd K d.at_) cdv B outer s H E).nox d.body (start N vs) w0 ⟨fun _ w' => Le w0 w' ∧ RW z .non w', fun v w' => Le w0 w' ∧ RW z v w', fun _ _ => False, fun _ _ => False⟩)
    (hi : fn[i]? = some d := by rfl) (hj : fa[j]? = some (.glo name) := by rfl) (hd : d.dfl = [] ∧ d.kwd = [] ∧ d.at_ = (name, none) ∧ d.name = name := by exact ⟨rfl, rfl, rfl, rfl⟩) : Cal P w K mg base name ps.length (k + 1) (PurW A pre RW) := by
  obtain ⟨fd, F⟩ := c.s.def_ i hi
  obtain ⟨d1, d2, d3, d4⟩ := hd
  have e1 : d.dvs K = [] := by unfold DefD.dvs; rw [d1]; rfl
  have e2 : d.kws K = [] := by unfold DefD.kws; rw [d2]; rfl
  rw [e1, e2] at F
  have e3 : fAd K d.at_ = ga K name := by rw [d3]; rfl
  have m := c.glo j hj
  rw [← e3] at m
  have b : Binds K fd ps [] := F.bindsN hb
  refine ⟨fAd K d.at_, fd, ps, m, F.kp, b, rfl, F.ok S (fun vs H Q E h => ?_) fun cdv B outer s H vs Q E hr h => ?_⟩
  · obtain ⟨z, w0, _, hv, _⟩ := h
    rw [args_len hv, hl]
  · obtain ⟨z, w0, rfl, hv, hp, hq⟩ := h
    have g := hbody cdv B outer s w0.H E z vs w0 hr hv hp
    refine ⟨_, PSs.nox (pss_can), ?_⟩
    intro pins s' I
    refine thn (g pins s' I) fun fl s2 q => ?_
    cases fl with
    | next =>
      obtain ⟨σ', H', I', w2, e2, l, r⟩ := q
      subst e2
      exact ⟨σ', _, I', hq _ w2 l r⟩
    | brk => obtain ⟨_, _, _, w2, _, z⟩ := q; exact z.elim
    | cont => obtain ⟨_, _, _, w2, _, z⟩ := q; exact z.elim
    | ret v =>
      obtain ⟨u, σ', H', I', r0, w2, e2, l, r⟩ := q
      subst e2
      exact ⟨u, σ', _, I', r0, hq _ w2 l r⟩
end
section
variable {X : Cx} {σ : Sg} {w : Wd V0} {pos : Pos}
theorem merge_pen {cl : Addr} {a : Nat} {d c f : Int} : mergeK [] (penK cl a d c f) = penK cl a d c f := by
  have h : ∀ (kvs : List (Key × Vv)) (k : Key) (v : Vv), (∀ p ∈ kvs, ¬ p.1 = k) → putK kvs k v = kvs ++ [(k, v)] := fun kvs k v h => by
    unfold putK
    rw [if_neg]
    simp only [List.any_eq_true, decide_eq_true_eq, not_exists, not_and]
    exact h
  have n1 : ∀ (a b : List Nat), a ≠ b → ¬ (S a = S b) := fun a b h e => h (S_inj e)
  show putK (putK (putK (putK (putK [] (tk kCells) _) (tk kAt) _) (tk kDigits) _) (tk kCount) _) (tk kFold) _ = _
  rw [h [] _ _ (by simp)]
  rw [h _ (tk kAt) _ (by simp; exact n1 kCells kAt (by decide))]
  rw [h _ (tk kDigits) _ (by simp; exact ⟨n1 kCells kDigits (by decide), n1 kAt kDigits (by decide)⟩)]
  rw [h _ (tk kCount) _ (by simp; exact ⟨n1 kCells kCount (by decide), n1 kAt kCount (by decide), n1 kDigits kCount (by decide)⟩)]
  rw [h _ (tk kFold) _ (by simp; exact ⟨n1 kCells kFold (by decide), n1 kAt kFold (by decide), n1 kDigits kFold (by decide), n1 kCount kFold (by decide)⟩)]
  rfl
theorem cw_pen {k1 k2 k3 k4 k5 v1 v2 v3 v4 v5 : Expr} {ns : List Int} {a : Nat} {d c f : Int} (h1 : CE X k1 σ w (T kCells)) (h2 : CE X k2 σ w (T kAt)) (h3 : CE X k3 σ w (T kDigits)) (h4 : CE X k4 σ w (T kCount)) (h5 : CE X k5 σ w (T kFold))
    (g1 : CE X v1 σ w (Da X.K (.list (List.map PyData.int ns)))) (g2 : CE X v2 σ w (I a)) (g3 : CE X v3 σ w (I d)) (g4 : CE X v4 σ w (I c)) (g5 : CE X v5 σ w (I f)) :
    CW X (.Dict [some k1, some k2, some k3, some k4, some k5] [v1, v2, v3, v4, v5] pos) σ w (fun v w' => ∃ pen, v = .ref pen ∧ PenS X.K pen w') :=
  cw_lift (pe_disp (pps_cons pe_can pe_can (pps_cons pe_can pe_can (pps_cons pe_can pe_can (pps_cons pe_can pe_can (pps_cons pe_can pe_can pps_nil))))) rfl rfl (by simp) (Nat.le_of_ble_eq_true rfl)) fun w1 l1 Q q => fun p hp => by
    have g := gr_newH w1.ex (o := .dK []) hp
    have l0 : Le w1 (w1.grow g.2.1 g.1) := Gr.le g.1
    refine h1 (w1.grow g.2.1 g.1) (l1.trans l0) _ fun x1 w2 l2 e1 => g1 w2 ((l1.trans l0).trans l2) _ fun y1 w3 l3 d1 => ?_
    have b3 := (l1.trans l0).trans (l2.trans l3)
    refine h2 w3 b3 _ fun x2 w4 l4 e2 => g2 w4 (b3.trans l4) _ fun y2 w5 l5 d2 => ?_
    have b5 := b3.trans (l4.trans l5)
    refine h3 w5 b5 _ fun x3 w6 l6 e3 => g3 w6 (b5.trans l6) _ fun y3 w7 l7 d3 => ?_
    have b7 := b5.trans (l6.trans l7)
    refine h4 w7 b7 _ fun x4 w8 l8 e4 => g4 w8 (b7.trans l8) _ fun y4 w9 l9 d4 => ?_
    have b9 := b7.trans (l8.trans l9)
    refine h5 w9 b9 _ fun x5 wa la e5 => g5 wa (b9.trans la) _ fun y5 wb lb d5 => ?_
    have l3b : Le w3 wb := (((((l4.trans l5).trans (l6.trans l7)).trans (l8.trans l9)).trans la).trans lb)
    have lab : Le (w1.grow g.2.1 g.1) wb := (l2.trans l3).trans l3b
    have e1 : x1 = .str (S kCells) := e1
    have e2 : x2 = .str (S kAt) := e2
    have e3 : x3 = .str (S kDigits) := e3
    have e4 : x4 = .str (S kCount) := e4
    have e5 : x5 = .str (S kFold) := e5
    have d2 : y2 = .int a := d2
    have d3 : y3 = .int d := d3
    have d4 : y4 = .int c := d4
    have d5 : y5 = .int f := d5
    subst e1 e2 e3 e4 e5 d2 d3 d4 d5
    have d1 : Dp X.K w3.G y1 (.list (List.map PyData.int ns)) := d1
    have d1b := dp_ex l3b.g d1
    obtain ⟨cl, hcl⟩ : ∃ cl, y1 = .ref cl := by cases d1 with | lst _ _ => exact ⟨_, rfl⟩
    subst hcl
    have ob := (owo_new (o := .dK []) hp).mono lab
    refine ⟨ob.h, penK cl a d c f, rfl, Nat.le_of_ble_eq_true rfl, ?_⟩
    rw [merge_pen]
    exact q _ (wb.putO p ob _) (Le.putO (l0.trans lab) hp ob) ⟨p, rfl, cl, a, d, c, f, ns, ob.put, d1b⟩
end
end FW
set_option Elab.async false
set_option linter.all false
set_option maxRecDepth 100000
set_option maxHeartbeats 4000000
/-! FwV: a list of values known in part; is not False; a law's body, from the pen on. -/
namespace FW
open PySem PySem.Spec PyProof.Rows L2 He
section
variable {U : Vol} {X : Cx} {e a b : Expr} {es : List Expr} {σ : Sg} {w : Wd U} {P : GP} {Ps : List GP} {pos : Pos}
theorem ce_lstE {F : List PyData → Prop} (ha : CA X es σ w Ps) (hF : ∀ vs G, Args Ps vs G → ∃ ds, DpAll X.K G vs ds ∧ F ds ∧ ds.length ≤ 1000000) : CE X (.List es pos) σ w (Exi F fun ds => Da X.K (.list ds)) :=
  ce_lift (pe_lst pa_can) fun w1 l Q q => ha w1 l _ fun vs w2 l2 hv => by
    obtain ⟨ds, hd, hf, hz⟩ := hF vs w2.G hv
    refine ⟨by rw [dpa_len hd]; exact line_of hz, fun p hp => ?_⟩
    have o := own_new (vs := vs) hp
    exact q (.ref p) ((w2.grow (gr_newH w2.ex (o := .lst vs) hp).2.1 (gr_newH w2.ex (o := .lst vs) hp).1).ice p o) ((l2.trans (Gr.le (gr_newH w2.ex (o := .lst vs) hp).1)).ice (l2.new hp) o) ⟨ds, hf, ice_da o (dpa_ex (gr_newH w2.ex (o := .lst vs) hp).1.g hd)⟩
theorem op_notB : OpR X (compareOp .IsNot) (fun x y H Q => ∃ i j, x = .bl i ∧ y = .bl j ∧ Q (.bl (!decide (i = j))) H) := by
  intro pins s σ H x y v u Q I rx ry h
  obtain ⟨i, j, rfl, rfl, q⟩ := h
  cases rx
  cases ry
  show wpAny _ _ ((isSame (Value.bool i) (Value.bool j)) >>= fun z => pure (Value.bool (!z))) _ _ s
  exact wpAny_bind (wpAny_isSame_plain rfl (wpAny_pure (fin_bl I q (by cases i <;> cases j <;> rfl))))
theorem ct_notB {i j : Bool} (ha : CE X a σ w (Bo i)) (hb : CE X b σ w (Bo j)) (hm : behindInMarks .IsNot b = false := by exact nomark _) : CT X (.Compare a [.IsNot] [b] pos) σ w (!decide (i = j)) := ct_cmp op_notB hm ha hb fun u v w1 Q _ hx hy q => by
  have hx : u = _ := hx
  have hy : v = _ := hy
  subst hx hy
  exact ⟨i, j, rfl, rfl, q _ w1 (Le.refl _) rfl⟩
theorem ct_neB {i j : Bool} (ha : CE X a σ w (Bo i)) (hb : CE X b σ w (Bo j)) : CT X (.Compare a [.NotEq] [b] pos) σ w (!decide (i = j)) := by
  have h := ct_ne (pos := pos) ha hb
  have e : (decide (L2.V.bl i = L2.V.bl j)) = decide (i = j) := by cases i <;> cases j <;> rfl
  rw [e] at h; exact h
/-- i + r, r one of 0 to n - 1 -/
theorem ce_addE {i n : Int} (ha : CE X a σ w (I i)) (hb : CE X b σ w (fun v _ => ∃ r : Int, v = .int r ∧ 0 ≤ r ∧ r < n)) : CE X (.BinOp a .Add b pos) σ w (fun v _ => ∃ r : Int, v = .int (i + r) ∧ 0 ≤ r ∧ r < n) := ce_op op_add ha hb fun x y w1 Q _ hx ⟨r, hy, h0, h1⟩ q => ⟨i, r, hx, hy, q _ w1 (Le.refl _) ⟨r, rfl, h0, h1⟩⟩
end
theorem go_vp {X : Cx} {sts : List Stmt} {σ : Sg} {w : Wd V0} {pen : Addr} {D : En V0} {R : Vv → Prop} (h : PenS X.K pen w) (hr : ∀ v (w' : Wd V0), R v → D.rt v w') (k : ∀ w' : Wd (VP X.K pen), Go X sts σ w' ⟨fun _ _ => False, fun v _ => R v, fun _ _ => False, fun _ _ => False⟩) : Go X sts σ w D := by
  obtain ⟨cl, at_, dg, ct, fo, ns, o, hd⟩ := h
  have g := k ⟨w.G, w.H, w.ex, w.ex, o.g, cl, at_, dg, ct, fo, ns, o.h, hd⟩
  have r := go_of_raw (D' := D.raw) g (fun σ' w' z => z.elim) (fun v w' z => ⟨⟨w'.G, w'.H, w'.ex, trivial⟩, rfl, hr v _ z⟩) (fun σ' w' z => z.elim) (fun σ' w' z => z.elim)
  exact r
def spLaw (K : PySem.W.Frag) : Sp := fun vs H Q _ => ∃ (a : Addr) (ns : List Int), vs = [.ref a] ∧ SqL K H a (ns.map V.int) ∧ ns.length ≤ 63 ∧ ∀ H', Q (.bl true) H'
theorem dp_ints {K : PySem.W.Frag} {G : Hp} : ∀ ns : List Int, DpAll K G (ns.map V.int) (ns.map PyData.int)
  | [] => .nil
  | n :: r => .cons (.int n) (dp_ints r)
section
variable {fa : List Fa} {xs : List (PySem.W.Frag → Bool)} {fn : List DefD} {K : PySem.W.Frag} {mg : Str → Option Value}
theorem Says.law {P : Program} {w : World} {base : Heap} {N : List Str} {k : Nat} (c : Says fa xs fn K mg) {d : DefD} {fd : FuncData} (F : FunD K d.name d.qual d.params d.body d.scope [] [] (fAd K d.at_) fd) (S : FnScope N ["script"] d.scope)
    (hbody : ∀ (cdv : Value) (B : Around) (outer : List Env) (s : Shared) (H : Hp) (E : XK) (a : Addr) (ns : List Int) (w0 : Wd V0), Room k (B.deeper (envOfC d.qual d.scope s.heap.objs.size (fAd K d.at_) cdv)) → Dp K w0.G (.ref a) (.list (List.map PyData.int ns)) → ns.length ≤ 63 →
      Go (cxOf CX0 P w K mg base N d.qual d.scope (fAd K d.at_) cdv B outer s H E).nox d.body (start N [.ref a]) w0 ⟨fun _ _ => False, fun v _ => v = .bl true, fun _ _ => False, fun _ _ => False⟩) : FnOk P w K mg base CX0 (k + 1) (fAd K d.at_) fd ["script"] (spLaw K) := by
  refine F.ok S (fun vs H Q E h => ?_) fun cdv B outer s H vs Q E hr h => ?_
  · obtain ⟨a, ns, rfl, _⟩ := h
    rfl
  · obtain ⟨a, ns, rfl, hS, hl, hq⟩ := h
    have g := hbody cdv B outer s H E a ns ⟨H, H, Evl.Ex.refl _, trivial⟩ hr (.lst hS (dp_ints ns)) hl
    refine ⟨_, PSs.nox (pss_can), ?_⟩
    intro pins s' I
    refine thn (g pins s' I) fun fl s2 q => ?_
    cases fl with
    | next => obtain ⟨_, _, _, w2, _, z⟩ := q; exact z.elim
    | brk => obtain ⟨_, _, _, w2, _, z⟩ := q; exact z.elim
    | cont => obtain ⟨_, _, _, w2, _, z⟩ := q; exact z.elim
    | ret v =>
      obtain ⟨u, σ', H', I', r0, w2, e2, z⟩ := q
      have z : u = .bl true := z
      subst z
      exact ⟨_, σ', _, I', r0, hq _⟩
end
end FW
set_option Elab.async false
set_option linter.all false
set_option maxRecDepth 100000
set_option maxHeartbeats 0
namespace FW
open PySem PySem.Spec PyProof.Rows L2 He
def top (i : Nat) : Stmt := PySem.Challenge.pw_foldedwords_k84_rings_and_leading.main.body.getD i (.Pass ⟨0, 0, 0, 0⟩)
abbrev s_as_tuples : Stmt := top 6
abbrev s_are_letters : Stmt := top 11
abbrev s_need_letters : Stmt := top 12
abbrev s_is_word_by : Stmt := top 13
abbrev s_reduced_by : Stmt := top 14
abbrev s_is_reduced_by : Stmt := top 15
abbrev s_undone_by : Stmt := top 16
abbrev s_need_reduced : Stmt := top 18
abbrev s_need_pair_of_words : Stmt := top 19
abbrev s_round_by : Stmt := top 20
abbrev s_round_of : Stmt := top 21
abbrev s_period_of : Stmt := top 22
abbrev s_begun_elsewhere : Stmt := top 23
abbrev s_are_led : Stmt := top 24
abbrev s_are_images : Stmt := top 26
abbrev s_Map_init : Stmt := inClass (top 27) 0
abbrev s_Map_eq : Stmt := inClass (top 27) 1
abbrev s_mapped_by : Stmt := top 29
abbrev s_need_few : Stmt := top 32
abbrev s_signs_of : Stmt := top 33
abbrev s_texts_of : Stmt := top 34
abbrev s_are_own_images : Stmt := top 35
abbrev s_moves_by : Stmt := top 36
abbrev s_image_by : Stmt := top 37
abbrev s_map_by : Stmt := top 38
abbrev s_ring_by : Stmt := top 39
abbrev s_need_word : Stmt := top 40
abbrev s_ring_of : Stmt := top 41
abbrev s_led_ring : Stmt := top 42
abbrev s_undone_by_letter : Stmt := top 43
abbrev s_Basic_init : Stmt := inClass (top 45) 0
abbrev s_Basic_eq : Stmt := inClass (top 45) 1
abbrev s_NotBasic_init : Stmt := inClass (top 46) 0
abbrev s_NotBasic_eq : Stmt := inClass (top 46) 1
abbrev s_need_sign_word : Stmt := top 47
abbrev s_shorter_by : Stmt := top 48
abbrev s_least_by : Stmt := top 49
abbrev s_basic_or_not : Stmt := top 50
abbrev s_is_basic : Stmt := top 51
abbrev s_least_ring : Stmt := top 52
abbrev s_root_by : Stmt := top 54
abbrev s_root_of : Stmt := top 55
abbrev s_Bridge_init : Stmt := inClass (top 58) 0
abbrev s_Bridge_eq : Stmt := inClass (top 58) 1
abbrev s_OtherKind_init : Stmt := inClass (top 59) 0
abbrev s_OtherKind_eq : Stmt := inClass (top 59) 1
abbrev s_kind_by : Stmt := top 60
abbrev s_way_to : Stmt := top 61
abbrev s_need_two_words : Stmt := top 62
abbrev s_bridge_by : Stmt := top 63
abbrev s_are_of_one_kind : Stmt := top 64
abbrev s__law_pen : Stmt := top 66
abbrev s__law_draw : Stmt := top 67
abbrev s__law_pick : Stmt := top 68
abbrev s__law_shuffled : Stmt := top 69
abbrev s__law_undo : Stmt := top 70
abbrev s__law_reduced : Stmt := top 71
abbrev s__law_back : Stmt := top 72
abbrev s__law_join : Stmt := top 73
abbrev s__law_letters : Stmt := top 74
abbrev s__law_word : Stmt := top 75
abbrev s__law_ring : Stmt := top 76
abbrev s__law_full_word : Stmt := top 77
abbrev s_law : Stmt := top 78
def ds_as_tuples : DefD := ⟨("as_tuples", none), "as_tuples", "as_tuples", defArgs s_as_tuples, defBody s_as_tuples, defScope s_as_tuples, [], []⟩
def ds_are_letters : DefD := ⟨("are_letters", none), "are_letters", "are_letters", defArgs s_are_letters, defBody s_are_letters, defScope s_are_letters, [], []⟩
def ds_need_letters : DefD := ⟨("need_letters", none), "need_letters", "need_letters", defArgs s_need_letters, defBody s_need_letters, defScope s_need_letters, [], []⟩
def ds_is_word_by : DefD := ⟨("is_word_by", none), "is_word_by", "is_word_by", defArgs s_is_word_by, defBody s_is_word_by, defScope s_is_word_by, [], []⟩
def ds_reduced_by : DefD := ⟨("reduced_by", none), "reduced_by", "reduced_by", defArgs s_reduced_by, defBody s_reduced_by, defScope s_reduced_by, [], []⟩
def ds_is_reduced_by : DefD := ⟨("is_reduced_by", none), "is_reduced_by", "is_reduced_by", defArgs s_is_reduced_by, defBody s_is_reduced_by, defScope s_is_reduced_by, [], []⟩
def ds_undone_by : DefD := ⟨("undone_by", none), "undone_by", "undone_by", defArgs s_undone_by, defBody s_undone_by, defScope s_undone_by, [], []⟩
def ds_need_reduced : DefD := ⟨("need_reduced", none), "need_reduced", "need_reduced", defArgs s_need_reduced, defBody s_need_reduced, defScope s_need_reduced, [], []⟩
def ds_need_pair_of_words : DefD := ⟨("need_pair_of_words", none), "need_pair_of_words", "need_pair_of_words", defArgs s_need_pair_of_words, defBody s_need_pair_of_words, defScope s_need_pair_of_words, [], []⟩
def ds_round_by : DefD := ⟨("round_by", none), "round_by", "round_by", defArgs s_round_by, defBody s_round_by, defScope s_round_by, [], []⟩
def ds_round_of : DefD := ⟨("round_of", none), "round_of", "round_of", defArgs s_round_of, defBody s_round_of, defScope s_round_of, [], []⟩
def ds_period_of : DefD := ⟨("period_of", none), "period_of", "period_of", defArgs s_period_of, defBody s_period_of, defScope s_period_of, [], []⟩
def ds_begun_elsewhere : DefD := ⟨("begun_elsewhere", none), "begun_elsewhere", "begun_elsewhere", defArgs s_begun_elsewhere, defBody s_begun_elsewhere, defScope s_begun_elsewhere, [], []⟩
def ds_are_led : DefD := ⟨("are_led", none), "are_led", "are_led", defArgs s_are_led, defBody s_are_led, defScope s_are_led, [], []⟩
def ds_are_images : DefD := ⟨("are_images", none), "are_images", "are_images", defArgs s_are_images, defBody s_are_images, defScope s_are_images, [], []⟩
def ds_Map_init : DefD := ⟨("Map", some "__init__"), "__init__", "Map.__init__", defArgs s_Map_init, defBody s_Map_init, defScope s_Map_init, [], []⟩
def ds_Map_eq : DefD := ⟨("Map", some "__eq__"), "__eq__", "Map.__eq__", defArgs s_Map_eq, defBody s_Map_eq, defScope s_Map_eq, [], []⟩
def ds_mapped_by : DefD := ⟨("mapped_by", none), "mapped_by", "mapped_by", defArgs s_mapped_by, defBody s_mapped_by, defScope s_mapped_by, [], []⟩
def ds_need_few : DefD := ⟨("need_few", none), "need_few", "need_few", defArgs s_need_few, defBody s_need_few, defScope s_need_few, [], []⟩
def ds_signs_of : DefD := ⟨("signs_of", none), "signs_of", "signs_of", defArgs s_signs_of, defBody s_signs_of, defScope s_signs_of, [], []⟩
def ds_texts_of : DefD := ⟨("texts_of", none), "texts_of", "texts_of", defArgs s_texts_of, defBody s_texts_of, defScope s_texts_of, [], []⟩
def ds_are_own_images : DefD := ⟨("are_own_images", none), "are_own_images", "are_own_images", defArgs s_are_own_images, defBody s_are_own_images, defScope s_are_own_images, [], []⟩
def ds_moves_by : DefD := ⟨("moves_by", none), "moves_by", "moves_by", defArgs s_moves_by, defBody s_moves_by, defScope s_moves_by, [], []⟩
def ds_image_by : DefD := ⟨("image_by", none), "image_by", "image_by", defArgs s_image_by, defBody s_image_by, defScope s_image_by, [], []⟩
def ds_map_by : DefD := ⟨("map_by", none), "map_by", "map_by", defArgs s_map_by, defBody s_map_by, defScope s_map_by, [], []⟩
def ds_ring_by : DefD := ⟨("ring_by", none), "ring_by", "ring_by", defArgs s_ring_by, defBody s_ring_by, defScope s_ring_by, [], []⟩
def ds_need_word : DefD := ⟨("need_word", none), "need_word", "need_word", defArgs s_need_word, defBody s_need_word, defScope s_need_word, [], []⟩
def ds_ring_of : DefD := ⟨("ring_of", none), "ring_of", "ring_of", defArgs s_ring_of, defBody s_ring_of, defScope s_ring_of, [], []⟩
def ds_led_ring : DefD := ⟨("led_ring", none), "led_ring", "led_ring", defArgs s_led_ring, defBody s_led_ring, defScope s_led_ring, [], []⟩
def ds_undone_by_letter : DefD := ⟨("undone_by_letter", none), "undone_by_letter", "undone_by_letter", defArgs s_undone_by_letter, defBody s_undone_by_letter, defScope s_undone_by_letter, [], []⟩
def ds_Basic_init : DefD := ⟨("Basic", some "__init__"), "__init__", "Basic.__init__", defArgs s_Basic_init, defBody s_Basic_init, defScope s_Basic_init, [], []⟩
def ds_Basic_eq : DefD := ⟨("Basic", some "__eq__"), "__eq__", "Basic.__eq__", defArgs s_Basic_eq, defBody s_Basic_eq, defScope s_Basic_eq, [], []⟩
def ds_NotBasic_init : DefD := ⟨("NotBasic", some "__init__"), "__init__", "NotBasic.__init__", defArgs s_NotBasic_init, defBody s_NotBasic_init, defScope s_NotBasic_init, [], []⟩
def ds_NotBasic_eq : DefD := ⟨("NotBasic", some "__eq__"), "__eq__", "NotBasic.__eq__", defArgs s_NotBasic_eq, defBody s_NotBasic_eq, defScope s_NotBasic_eq, [], []⟩
def ds_need_sign_word : DefD := ⟨("need_sign_word", none), "need_sign_word", "need_sign_word", defArgs s_need_sign_word, defBody s_need_sign_word, defScope s_need_sign_word, [], []⟩
def ds_shorter_by : DefD := ⟨("shorter_by", none), "shorter_by", "shorter_by", defArgs s_shorter_by, defBody s_shorter_by, defScope s_shorter_by, [], []⟩
def ds_least_by : DefD := ⟨("least_by", none), "least_by", "least_by", defArgs s_least_by, defBody s_least_by, defScope s_least_by, [], []⟩
def ds_basic_or_not : DefD := ⟨("basic_or_not", none), "basic_or_not", "basic_or_not", defArgs s_basic_or_not, defBody s_basic_or_not, defScope s_basic_or_not, [], []⟩
def ds_is_basic : DefD := ⟨("is_basic", none), "is_basic", "is_basic", defArgs s_is_basic, defBody s_is_basic, defScope s_is_basic, [], []⟩
def ds_least_ring : DefD := ⟨("least_ring", none), "least_ring", "least_ring", defArgs s_least_ring, defBody s_least_ring, defScope s_least_ring, [], []⟩
def ds_root_by : DefD := ⟨("root_by", none), "root_by", "root_by", defArgs s_root_by, defBody s_root_by, defScope s_root_by, [], []⟩
def ds_root_of : DefD := ⟨("root_of", none), "root_of", "root_of", defArgs s_root_of, defBody s_root_of, defScope s_root_of, [], []⟩
def ds_Bridge_init : DefD := ⟨("Bridge", some "__init__"), "__init__", "Bridge.__init__", defArgs s_Bridge_init, defBody s_Bridge_init, defScope s_Bridge_init, [], []⟩
def ds_Bridge_eq : DefD := ⟨("Bridge", some "__eq__"), "__eq__", "Bridge.__eq__", defArgs s_Bridge_eq, defBody s_Bridge_eq, defScope s_Bridge_eq, [], []⟩
def ds_OtherKind_init : DefD := ⟨("OtherKind", some "__init__"), "__init__", "OtherKind.__init__", defArgs s_OtherKind_init, defBody s_OtherKind_init, defScope s_OtherKind_init, [], []⟩
def ds_OtherKind_eq : DefD := ⟨("OtherKind", some "__eq__"), "__eq__", "OtherKind.__eq__", defArgs s_OtherKind_eq, defBody s_OtherKind_eq, defScope s_OtherKind_eq, [], []⟩
def ds_kind_by : DefD := ⟨("kind_by", none), "kind_by", "kind_by", defArgs s_kind_by, defBody s_kind_by, defScope s_kind_by, [], []⟩
def ds_way_to : DefD := ⟨("way_to", none), "way_to", "way_to", defArgs s_way_to, defBody s_way_to, defScope s_way_to, [], []⟩
def ds_need_two_words : DefD := ⟨("need_two_words", none), "need_two_words", "need_two_words", defArgs s_need_two_words, defBody s_need_two_words, defScope s_need_two_words, [], []⟩
def ds_bridge_by : DefD := ⟨("bridge_by", none), "bridge_by", "bridge_by", defArgs s_bridge_by, defBody s_bridge_by, defScope s_bridge_by, [], []⟩
def ds_are_of_one_kind : DefD := ⟨("are_of_one_kind", none), "are_of_one_kind", "are_of_one_kind", defArgs s_are_of_one_kind, defBody s_are_of_one_kind, defScope s_are_of_one_kind, [], []⟩
def ds__law_pen : DefD := ⟨("_law_pen", none), "_law_pen", "_law_pen", defArgs s__law_pen, defBody s__law_pen, defScope s__law_pen, [], []⟩
def ds__law_draw : DefD := ⟨("_law_draw", none), "_law_draw", "_law_draw", defArgs s__law_draw, defBody s__law_draw, defScope s__law_draw, [], []⟩
def ds__law_pick : DefD := ⟨("_law_pick", none), "_law_pick", "_law_pick", defArgs s__law_pick, defBody s__law_pick, defScope s__law_pick, [], []⟩
def ds__law_shuffled : DefD := ⟨("_law_shuffled", none), "_law_shuffled", "_law_shuffled", defArgs s__law_shuffled, defBody s__law_shuffled, defScope s__law_shuffled, [], []⟩
def ds__law_undo : DefD := ⟨("_law_undo", none), "_law_undo", "_law_undo", defArgs s__law_undo, defBody s__law_undo, defScope s__law_undo, [], []⟩
def ds__law_reduced : DefD := ⟨("_law_reduced", none), "_law_reduced", "_law_reduced", defArgs s__law_reduced, defBody s__law_reduced, defScope s__law_reduced, [], []⟩
def ds__law_back : DefD := ⟨("_law_back", none), "_law_back", "_law_back", defArgs s__law_back, defBody s__law_back, defScope s__law_back, [], []⟩
def ds__law_join : DefD := ⟨("_law_join", none), "_law_join", "_law_join", defArgs s__law_join, defBody s__law_join, defScope s__law_join, [], []⟩
def ds__law_letters : DefD := ⟨("_law_letters", none), "_law_letters", "_law_letters", defArgs s__law_letters, defBody s__law_letters, defScope s__law_letters, [], []⟩
def ds__law_word : DefD := ⟨("_law_word", none), "_law_word", "_law_word", defArgs s__law_word, defBody s__law_word, defScope s__law_word, [], []⟩
def ds__law_ring : DefD := ⟨("_law_ring", none), "_law_ring", "_law_ring", defArgs s__law_ring, defBody s__law_ring, defScope s__law_ring, [], []⟩
def ds__law_full_word : DefD := ⟨("_law_full_word", none), "_law_full_word", "_law_full_word", defArgs s__law_full_word, defBody s__law_full_word, defScope s__law_full_word, [], []⟩
def ds_law : DefD := ⟨("law", none), "law", "law", defArgs s_law, defBody s_law, defScope s_law, [], []⟩
abbrev ix_as_tuples : Nat := 0
abbrev ix_are_letters : Nat := 1
abbrev ix_need_letters : Nat := 2
abbrev ix_is_word_by : Nat := 3
abbrev ix_reduced_by : Nat := 4
abbrev ix_is_reduced_by : Nat := 5
abbrev ix_undone_by : Nat := 6
abbrev ix_need_reduced : Nat := 7
abbrev ix_need_pair_of_words : Nat := 8
abbrev ix_round_by : Nat := 9
abbrev ix_round_of : Nat := 10
abbrev ix_period_of : Nat := 11
abbrev ix_begun_elsewhere : Nat := 12
abbrev ix_are_led : Nat := 13
abbrev ix_are_images : Nat := 14
abbrev ix_Map_init : Nat := 15
abbrev ix_Map_eq : Nat := 16
abbrev ix_mapped_by : Nat := 17
abbrev ix_need_few : Nat := 18
abbrev ix_signs_of : Nat := 19
abbrev ix_texts_of : Nat := 20
abbrev ix_are_own_images : Nat := 21
abbrev ix_moves_by : Nat := 22
abbrev ix_image_by : Nat := 23
abbrev ix_map_by : Nat := 24
abbrev ix_ring_by : Nat := 25
abbrev ix_need_word : Nat := 26
abbrev ix_ring_of : Nat := 27
abbrev ix_led_ring : Nat := 28
abbrev ix_undone_by_letter : Nat := 29
abbrev ix_Basic_init : Nat := 30
abbrev ix_Basic_eq : Nat := 31
abbrev ix_NotBasic_init : Nat := 32
abbrev ix_NotBasic_eq : Nat := 33
abbrev ix_need_sign_word : Nat := 34
abbrev ix_shorter_by : Nat := 35
abbrev ix_least_by : Nat := 36
abbrev ix_basic_or_not : Nat := 37
abbrev ix_is_basic : Nat := 38
abbrev ix_least_ring : Nat := 39
abbrev ix_root_by : Nat := 40
abbrev ix_root_of : Nat := 41
abbrev ix_Bridge_init : Nat := 42
abbrev ix_Bridge_eq : Nat := 43
abbrev ix_OtherKind_init : Nat := 44
abbrev ix_OtherKind_eq : Nat := 45
abbrev ix_kind_by : Nat := 46
abbrev ix_way_to : Nat := 47
abbrev ix_need_two_words : Nat := 48
abbrev ix_bridge_by : Nat := 49
abbrev ix_are_of_one_kind : Nat := 50
abbrev ix__law_pen : Nat := 51
abbrev ix__law_draw : Nat := 52
abbrev ix__law_pick : Nat := 53
abbrev ix__law_shuffled : Nat := 54
abbrev ix__law_undo : Nat := 55
abbrev ix__law_reduced : Nat := 56
abbrev ix__law_back : Nat := 57
abbrev ix__law_join : Nat := 58
abbrev ix__law_letters : Nat := 59
abbrev ix__law_word : Nat := 60
abbrev ix__law_ring : Nat := 61
abbrev ix__law_full_word : Nat := 62
abbrev ix_law : Nat := 63
def fn0 : List DefD := [ds_as_tuples, ds_are_letters, ds_need_letters, ds_is_word_by, ds_reduced_by, ds_is_reduced_by, ds_undone_by, ds_need_reduced, ds_need_pair_of_words, ds_round_by, ds_round_of, ds_period_of, ds_begun_elsewhere, ds_are_led, ds_are_images, ds_Map_init, ds_Map_eq, ds_mapped_by, ds_need_few, ds_signs_of, ds_texts_of, ds_are_own_images, ds_moves_by, ds_image_by, ds_map_by]
def fn1 : List DefD := [ds_ring_by, ds_need_word, ds_ring_of, ds_led_ring, ds_undone_by_letter, ds_Basic_init, ds_Basic_eq, ds_NotBasic_init, ds_NotBasic_eq, ds_need_sign_word, ds_shorter_by, ds_least_by, ds_basic_or_not, ds_is_basic, ds_least_ring, ds_root_by, ds_root_of, ds_Bridge_init, ds_Bridge_eq, ds_OtherKind_init, ds_OtherKind_eq, ds_kind_by, ds_way_to, ds_need_two_words, ds_bridge_by]
def fn2 : List DefD := [ds_are_of_one_kind, ds__law_pen, ds__law_draw, ds__law_pick, ds__law_shuffled, ds__law_undo, ds__law_reduced, ds__law_back, ds__law_join, ds__law_letters, ds__law_word, ds__law_ring, ds__law_full_word, ds_law]
def fn : List DefD := fn0 ++ fn1 ++ fn2
abbrev gl_as_tuples : Nat := 0
abbrev gl_are_letters : Nat := 1
abbrev gl_need_letters : Nat := 2
abbrev gl_is_word_by : Nat := 3
abbrev gl_reduced_by : Nat := 4
abbrev gl_is_reduced_by : Nat := 5
abbrev gl_undone_by : Nat := 6
abbrev gl_need_reduced : Nat := 7
abbrev gl_need_pair_of_words : Nat := 8
abbrev gl_round_by : Nat := 9
abbrev gl_round_of : Nat := 10
abbrev gl_period_of : Nat := 11
abbrev gl_begun_elsewhere : Nat := 12
abbrev gl_are_led : Nat := 13
abbrev gl_are_images : Nat := 14
abbrev gl_mapped_by : Nat := 15
abbrev gl_need_few : Nat := 16
abbrev gl_signs_of : Nat := 17
abbrev gl_texts_of : Nat := 18
abbrev gl_are_own_images : Nat := 19
abbrev gl_moves_by : Nat := 20
abbrev gl_image_by : Nat := 21
abbrev gl_map_by : Nat := 22
abbrev gl_ring_by : Nat := 23
abbrev gl_need_word : Nat := 24
abbrev gl_ring_of : Nat := 25
abbrev gl_led_ring : Nat := 26
abbrev gl_undone_by_letter : Nat := 27
abbrev gl_need_sign_word : Nat := 28
abbrev gl_shorter_by : Nat := 29
abbrev gl_least_by : Nat := 30
abbrev gl_basic_or_not : Nat := 31
abbrev gl_is_basic : Nat := 32
abbrev gl_least_ring : Nat := 33
abbrev gl_root_by : Nat := 34
abbrev gl_root_of : Nat := 35
abbrev gl_kind_by : Nat := 36
abbrev gl_way_to : Nat := 37
abbrev gl_need_two_words : Nat := 38
abbrev gl_bridge_by : Nat := 39
abbrev gl_are_of_one_kind : Nat := 40
abbrev gl__law_pen : Nat := 41
abbrev gl__law_draw : Nat := 42
abbrev gl__law_pick : Nat := 43
abbrev gl__law_shuffled : Nat := 44
abbrev gl__law_undo : Nat := 45
abbrev gl__law_reduced : Nat := 46
abbrev gl__law_back : Nat := 47
abbrev gl__law_join : Nat := 48
abbrev gl__law_letters : Nat := 49
abbrev gl__law_word : Nat := 50
abbrev gl__law_ring : Nat := 51
abbrev gl__law_full_word : Nat := 52
abbrev gl_law : Nat := 53
abbrev gl_Map : Nat := 54
abbrev cl_Map : Nat := 55
abbrev mk_Map : Nat := 56
abbrev na_Map_letters : Nat := 57
abbrev na_Map_images : Nat := 58
abbrev me_Map_eq : Nat := 59
abbrev gl_Basic : Nat := 60
abbrev cl_Basic : Nat := 61
abbrev mk_Basic : Nat := 62
abbrev na_Basic_moves : Nat := 63
abbrev me_Basic_eq : Nat := 64
abbrev gl_NotBasic : Nat := 65
abbrev cl_NotBasic : Nat := 66
abbrev mk_NotBasic : Nat := 67
abbrev na_NotBasic_moves : Nat := 68
abbrev me_NotBasic_eq : Nat := 69
abbrev gl_Bridge : Nat := 70
abbrev cl_Bridge : Nat := 71
abbrev mk_Bridge : Nat := 72
abbrev na_Bridge_moves : Nat := 73
abbrev me_Bridge_eq : Nat := 74
abbrev gl_OtherKind : Nat := 75
abbrev cl_OtherKind : Nat := 76
abbrev mk_OtherKind : Nat := 77
abbrev na_OtherKind_rings : Nat := 78
abbrev me_OtherKind_eq : Nat := 79
abbrev fr_len : Nat := 80
abbrev fr_isinstance : Nat := 81
abbrev fr_str : Nat := 82
abbrev fr_list : Nat := 83
abbrev fr_tuple : Nat := 84
abbrev fr_all : Nat := 85
abbrev fr_any : Nat := 86
abbrev fr_sorted : Nat := 87
abbrev fr_min : Nat := 88
abbrev fr_max : Nat := 89
abbrev fr_range : Nat := 90
abbrev fr_zip : Nat := 91
abbrev fr_dict : Nat := 92
abbrev fr_int : Nat := 93
abbrev fr_enumerate : Nat := 94
abbrev fr_sum : Nat := 95
abbrev fr_abs : Nat := 96
abbrev fr_repr : Nat := 97
abbrev co_MOST_LETTERS_words : Nat := 98
abbrev co_MOST_WORD : Nat := 99
abbrev co_ALL_LETTERS : Nat := 100
abbrev co_MOST_LETTERS_lettermoves : Nat := 101
abbrev co_MOST_RINGS : Nat := 102
def fa0 : List Fa := [.glo "as_tuples", .glo "are_letters", .glo "need_letters", .glo "is_word_by", .glo "reduced_by", .glo "is_reduced_by", .glo "undone_by", .glo "need_reduced", .glo "need_pair_of_words", .glo "round_by", .glo "round_of", .glo "period_of", .glo "begun_elsewhere", .glo "are_led", .glo "are_images", .glo "mapped_by", .glo "need_few", .glo "signs_of", .glo "texts_of", .glo "are_own_images", .glo "moves_by", .glo "image_by", .glo "map_by", .glo "ring_by", .glo "need_word"]
def fa1 : List Fa := [.glo "ring_of", .glo "led_ring", .glo "undone_by_letter", .glo "need_sign_word", .glo "shorter_by", .glo "least_by", .glo "basic_or_not", .glo "is_basic", .glo "least_ring", .glo "root_by", .glo "root_of", .glo "kind_by", .glo "way_to", .glo "need_two_words", .glo "bridge_by", .glo "are_of_one_kind", .glo "_law_pen", .glo "_law_draw", .glo "_law_pick", .glo "_law_shuffled", .glo "_law_undo", .glo "_law_reduced", .glo "_law_back", .glo "_law_join", .glo "_law_letters"]
def fa2 : List Fa := [.glo "_law_word", .glo "_law_ring", .glo "_law_full_word", .glo "law", .glo "Map", .cls "Map", .mkr "Map", .noat "Map" "letters", .noat "Map" "images", .meth "Map" "__eq__", .glo "Basic", .cls "Basic", .mkr "Basic", .noat "Basic" "moves", .meth "Basic" "__eq__", .glo "NotBasic", .cls "NotBasic", .mkr "NotBasic", .noat "NotBasic" "moves", .meth "NotBasic" "__eq__", .glo "Bridge", .cls "Bridge", .mkr "Bridge", .noat "Bridge" "moves", .meth "Bridge" "__eq__"]
def fa3 : List Fa := [.glo "OtherKind", .cls "OtherKind", .mkr "OtherKind", .noat "OtherKind" "rings", .meth "OtherKind" "__eq__", .free "len", .free "isinstance", .free "str", .free "list", .free "tuple", .free "all", .free "any", .free "sorted", .free "min", .free "max", .free "range", .free "zip", .free "dict", .free "int", .free "enumerate", .free "sum", .free "abs", .free "repr", .int "MOST_LETTERS_words" 4, .int "MOST_WORD" 1000]
def fa4 : List Fa := [.str "ALL_LETTERS" "abcdefghijklmnopqrstuvwxyz", .int "MOST_LETTERS_lettermoves" 3, .int "MOST_RINGS" 2000]
def fa : List Fa := fa0 ++ fa1 ++ fa2 ++ fa3 ++ fa4
abbrev xa_Map : Nat := 0
abbrev xm_Map : Nat := 1
abbrev xk_Map_Map : Nat := 2
abbrev xk_Map_Basic : Nat := 3
abbrev xk_Map_NotBasic : Nat := 4
abbrev xk_Map_Bridge : Nat := 5
abbrev xk_Map_OtherKind : Nat := 6
abbrev xt_NoneType_Map : Nat := 7
abbrev xo_Map_NoneType : Nat := 8
abbrev xt_bool_Map : Nat := 9
abbrev xo_Map_bool : Nat := 10
abbrev xt_int_Map : Nat := 11
abbrev xo_Map_int : Nat := 12
abbrev xt_str_Map : Nat := 13
abbrev xo_Map_str : Nat := 14
abbrev xt_list_Map : Nat := 15
abbrev xo_Map_list : Nat := 16
abbrev xt_tuple_Map : Nat := 17
abbrev xo_Map_tuple : Nat := 18
abbrev xt_dict_Map : Nat := 19
abbrev xo_Map_dict : Nat := 20
abbrev xa_Basic : Nat := 21
abbrev xm_Basic : Nat := 22
abbrev xk_Basic_Map : Nat := 23
abbrev xk_Basic_Basic : Nat := 24
abbrev xk_Basic_NotBasic : Nat := 25
abbrev xk_Basic_Bridge : Nat := 26
abbrev xk_Basic_OtherKind : Nat := 27
abbrev xt_NoneType_Basic : Nat := 28
abbrev xo_Basic_NoneType : Nat := 29
abbrev xt_bool_Basic : Nat := 30
abbrev xo_Basic_bool : Nat := 31
abbrev xt_int_Basic : Nat := 32
abbrev xo_Basic_int : Nat := 33
abbrev xt_str_Basic : Nat := 34
abbrev xo_Basic_str : Nat := 35
abbrev xt_list_Basic : Nat := 36
abbrev xo_Basic_list : Nat := 37
abbrev xt_tuple_Basic : Nat := 38
abbrev xo_Basic_tuple : Nat := 39
abbrev xt_dict_Basic : Nat := 40
abbrev xo_Basic_dict : Nat := 41
abbrev xa_NotBasic : Nat := 42
abbrev xm_NotBasic : Nat := 43
abbrev xk_NotBasic_Map : Nat := 44
abbrev xk_NotBasic_Basic : Nat := 45
abbrev xk_NotBasic_NotBasic : Nat := 46
abbrev xk_NotBasic_Bridge : Nat := 47
abbrev xk_NotBasic_OtherKind : Nat := 48
abbrev xt_NoneType_NotBasic : Nat := 49
abbrev xo_NotBasic_NoneType : Nat := 50
abbrev xt_bool_NotBasic : Nat := 51
abbrev xo_NotBasic_bool : Nat := 52
abbrev xt_int_NotBasic : Nat := 53
abbrev xo_NotBasic_int : Nat := 54
abbrev xt_str_NotBasic : Nat := 55
abbrev xo_NotBasic_str : Nat := 56
abbrev xt_list_NotBasic : Nat := 57
abbrev xo_NotBasic_list : Nat := 58
abbrev xt_tuple_NotBasic : Nat := 59
abbrev xo_NotBasic_tuple : Nat := 60
abbrev xt_dict_NotBasic : Nat := 61
abbrev xo_NotBasic_dict : Nat := 62
abbrev xa_Bridge : Nat := 63
abbrev xm_Bridge : Nat := 64
abbrev xk_Bridge_Map : Nat := 65
abbrev xk_Bridge_Basic : Nat := 66
abbrev xk_Bridge_NotBasic : Nat := 67
abbrev xk_Bridge_Bridge : Nat := 68
abbrev xk_Bridge_OtherKind : Nat := 69
abbrev xt_NoneType_Bridge : Nat := 70
abbrev xo_Bridge_NoneType : Nat := 71
abbrev xt_bool_Bridge : Nat := 72
abbrev xo_Bridge_bool : Nat := 73
abbrev xt_int_Bridge : Nat := 74
abbrev xo_Bridge_int : Nat := 75
abbrev xt_str_Bridge : Nat := 76
abbrev xo_Bridge_str : Nat := 77
abbrev xt_list_Bridge : Nat := 78
abbrev xo_Bridge_list : Nat := 79
abbrev xt_tuple_Bridge : Nat := 80
abbrev xo_Bridge_tuple : Nat := 81
abbrev xt_dict_Bridge : Nat := 82
abbrev xo_Bridge_dict : Nat := 83
abbrev xa_OtherKind : Nat := 84
abbrev xm_OtherKind : Nat := 85
abbrev xk_OtherKind_Map : Nat := 86
abbrev xk_OtherKind_Basic : Nat := 87
abbrev xk_OtherKind_NotBasic : Nat := 88
abbrev xk_OtherKind_Bridge : Nat := 89
abbrev xk_OtherKind_OtherKind : Nat := 90
abbrev xt_NoneType_OtherKind : Nat := 91
abbrev xo_OtherKind_NoneType : Nat := 92
abbrev xt_bool_OtherKind : Nat := 93
abbrev xo_OtherKind_bool : Nat := 94
abbrev xt_int_OtherKind : Nat := 95
abbrev xo_OtherKind_int : Nat := 96
abbrev xt_str_OtherKind : Nat := 97
abbrev xo_OtherKind_str : Nat := 98
abbrev xt_list_OtherKind : Nat := 99
abbrev xo_OtherKind_list : Nat := 100
abbrev xt_tuple_OtherKind : Nat := 101
abbrev xo_OtherKind_tuple : Nat := 102
abbrev xt_dict_OtherKind : Nat := 103
abbrev xo_OtherKind_dict : Nat := 104
abbrev xh_ : Nat := 105
abbrev xg_ : Nat := 106
def xs0 : List (PySem.W.Frag → Bool) := [(fun K => eqO (PySem.W.findIn K (.ref (ga K "Map")) "__class__") (some (some (.builtin "object.__class__")))), (fun K => decide (PySem.W.mroIn K (ga K "Map") (.type "object") = some true)), (fun K => decide (PySem.W.kitOne K (.ref (ga K "Map")) (.ref (ga K "Map")) = some true)), (fun K => decide (PySem.W.kitOne K (.ref (ga K "Map")) (.ref (ga K "Basic")) = some false)), (fun K => decide (PySem.W.kitOne K (.ref (ga K "Map")) (.ref (ga K "NotBasic")) = some false)), (fun K => decide (PySem.W.kitOne K (.ref (ga K "Map")) (.ref (ga K "Bridge")) = some false)), (fun K => decide (PySem.W.kitOne K (.ref (ga K "Map")) (.ref (ga K "OtherKind")) = some false)), (fun K => decide (PySem.W.kitOne K (.type "NoneType") (.ref (ga K "Map")) = some false)), (fun K => decide (PySem.W.kitOne K (.ref (ga K "Map")) (.type "NoneType") = some false)), (fun K => decide (PySem.W.kitOne K (.type "bool") (.ref (ga K "Map")) = some false)), (fun K => decide (PySem.W.kitOne K (.ref (ga K "Map")) (.type "bool") = some false)), (fun K => decide (PySem.W.kitOne K (.type "int") (.ref (ga K "Map")) = some false)), (fun K => decide (PySem.W.kitOne K (.ref (ga K "Map")) (.type "int") = some false)), (fun K => decide (PySem.W.kitOne K (.type "str") (.ref (ga K "Map")) = some false)), (fun K => decide (PySem.W.kitOne K (.ref (ga K "Map")) (.type "str") = some false)), (fun K => decide (PySem.W.kitOne K (.type "list") (.ref (ga K "Map")) = some false)), (fun K => decide (PySem.W.kitOne K (.ref (ga K "Map")) (.type "list") = some false)), (fun K => decide (PySem.W.kitOne K (.type "tuple") (.ref (ga K "Map")) = some false)), (fun K => decide (PySem.W.kitOne K (.ref (ga K "Map")) (.type "tuple") = some false)), (fun K => decide (PySem.W.kitOne K (.type "dict") (.ref (ga K "Map")) = some false)), (fun K => decide (PySem.W.kitOne K (.ref (ga K "Map")) (.type "dict") = some false)), (fun K => eqO (PySem.W.findIn K (.ref (ga K "Basic")) "__class__") (some (some (.builtin "object.__class__")))), (fun K => decide (PySem.W.mroIn K (ga K "Basic") (.type "object") = some true)), (fun K => decide (PySem.W.kitOne K (.ref (ga K "Basic")) (.ref (ga K "Map")) = some false)), (fun K => decide (PySem.W.kitOne K (.ref (ga K "Basic")) (.ref (ga K "Basic")) = some true))]
def xs1 : List (PySem.W.Frag → Bool) := [(fun K => decide (PySem.W.kitOne K (.ref (ga K "Basic")) (.ref (ga K "NotBasic")) = some false)), (fun K => decide (PySem.W.kitOne K (.ref (ga K "Basic")) (.ref (ga K "Bridge")) = some false)), (fun K => decide (PySem.W.kitOne K (.ref (ga K "Basic")) (.ref (ga K "OtherKind")) = some false)), (fun K => decide (PySem.W.kitOne K (.type "NoneType") (.ref (ga K "Basic")) = some false)), (fun K => decide (PySem.W.kitOne K (.ref (ga K "Basic")) (.type "NoneType") = some false)), (fun K => decide (PySem.W.kitOne K (.type "bool") (.ref (ga K "Basic")) = some false)), (fun K => decide (PySem.W.kitOne K (.ref (ga K "Basic")) (.type "bool") = some false)), (fun K => decide (PySem.W.kitOne K (.type "int") (.ref (ga K "Basic")) = some false)), (fun K => decide (PySem.W.kitOne K (.ref (ga K "Basic")) (.type "int") = some false)), (fun K => decide (PySem.W.kitOne K (.type "str") (.ref (ga K "Basic")) = some false)), (fun K => decide (PySem.W.kitOne K (.ref (ga K "Basic")) (.type "str") = some false)), (fun K => decide (PySem.W.kitOne K (.type "list") (.ref (ga K "Basic")) = some false)), (fun K => decide (PySem.W.kitOne K (.ref (ga K "Basic")) (.type "list") = some false)), (fun K => decide (PySem.W.kitOne K (.type "tuple") (.ref (ga K "Basic")) = some false)), (fun K => decide (PySem.W.kitOne K (.ref (ga K "Basic")) (.type "tuple") = some false)), (fun K => decide (PySem.W.kitOne K (.type "dict") (.ref (ga K "Basic")) = some false)), (fun K => decide (PySem.W.kitOne K (.ref (ga K "Basic")) (.type "dict") = some false)), (fun K => eqO (PySem.W.findIn K (.ref (ga K "NotBasic")) "__class__") (some (some (.builtin "object.__class__")))), (fun K => decide (PySem.W.mroIn K (ga K "NotBasic") (.type "object") = some true)), (fun K => decide (PySem.W.kitOne K (.ref (ga K "NotBasic")) (.ref (ga K "Map")) = some false)), (fun K => decide (PySem.W.kitOne K (.ref (ga K "NotBasic")) (.ref (ga K "Basic")) = some false)), (fun K => decide (PySem.W.kitOne K (.ref (ga K "NotBasic")) (.ref (ga K "NotBasic")) = some true)), (fun K => decide (PySem.W.kitOne K (.ref (ga K "NotBasic")) (.ref (ga K "Bridge")) = some false)), (fun K => decide (PySem.W.kitOne K (.ref (ga K "NotBasic")) (.ref (ga K "OtherKind")) = some false)), (fun K => decide (PySem.W.kitOne K (.type "NoneType") (.ref (ga K "NotBasic")) = some false))]
def xs2 : List (PySem.W.Frag → Bool) := [(fun K => decide (PySem.W.kitOne K (.ref (ga K "NotBasic")) (.type "NoneType") = some false)), (fun K => decide (PySem.W.kitOne K (.type "bool") (.ref (ga K "NotBasic")) = some false)), (fun K => decide (PySem.W.kitOne K (.ref (ga K "NotBasic")) (.type "bool") = some false)), (fun K => decide (PySem.W.kitOne K (.type "int") (.ref (ga K "NotBasic")) = some false)), (fun K => decide (PySem.W.kitOne K (.ref (ga K "NotBasic")) (.type "int") = some false)), (fun K => decide (PySem.W.kitOne K (.type "str") (.ref (ga K "NotBasic")) = some false)), (fun K => decide (PySem.W.kitOne K (.ref (ga K "NotBasic")) (.type "str") = some false)), (fun K => decide (PySem.W.kitOne K (.type "list") (.ref (ga K "NotBasic")) = some false)), (fun K => decide (PySem.W.kitOne K (.ref (ga K "NotBasic")) (.type "list") = some false)), (fun K => decide (PySem.W.kitOne K (.type "tuple") (.ref (ga K "NotBasic")) = some false)), (fun K => decide (PySem.W.kitOne K (.ref (ga K "NotBasic")) (.type "tuple") = some false)), (fun K => decide (PySem.W.kitOne K (.type "dict") (.ref (ga K "NotBasic")) = some false)), (fun K => decide (PySem.W.kitOne K (.ref (ga K "NotBasic")) (.type "dict") = some false)), (fun K => eqO (PySem.W.findIn K (.ref (ga K "Bridge")) "__class__") (some (some (.builtin "object.__class__")))), (fun K => decide (PySem.W.mroIn K (ga K "Bridge") (.type "object") = some true)), (fun K => decide (PySem.W.kitOne K (.ref (ga K "Bridge")) (.ref (ga K "Map")) = some false)), (fun K => decide (PySem.W.kitOne K (.ref (ga K "Bridge")) (.ref (ga K "Basic")) = some false)), (fun K => decide (PySem.W.kitOne K (.ref (ga K "Bridge")) (.ref (ga K "NotBasic")) = some false)), (fun K => decide (PySem.W.kitOne K (.ref (ga K "Bridge")) (.ref (ga K "Bridge")) = some true)), (fun K => decide (PySem.W.kitOne K (.ref (ga K "Bridge")) (.ref (ga K "OtherKind")) = some false)), (fun K => decide (PySem.W.kitOne K (.type "NoneType") (.ref (ga K "Bridge")) = some false)), (fun K => decide (PySem.W.kitOne K (.ref (ga K "Bridge")) (.type "NoneType") = some false)), (fun K => decide (PySem.W.kitOne K (.type "bool") (.ref (ga K "Bridge")) = some false)), (fun K => decide (PySem.W.kitOne K (.ref (ga K "Bridge")) (.type "bool") = some false)), (fun K => decide (PySem.W.kitOne K (.type "int") (.ref (ga K "Bridge")) = some false))]
def xs3 : List (PySem.W.Frag → Bool) := [(fun K => decide (PySem.W.kitOne K (.ref (ga K "Bridge")) (.type "int") = some false)), (fun K => decide (PySem.W.kitOne K (.type "str") (.ref (ga K "Bridge")) = some false)), (fun K => decide (PySem.W.kitOne K (.ref (ga K "Bridge")) (.type "str") = some false)), (fun K => decide (PySem.W.kitOne K (.type "list") (.ref (ga K "Bridge")) = some false)), (fun K => decide (PySem.W.kitOne K (.ref (ga K "Bridge")) (.type "list") = some false)), (fun K => decide (PySem.W.kitOne K (.type "tuple") (.ref (ga K "Bridge")) = some false)), (fun K => decide (PySem.W.kitOne K (.ref (ga K "Bridge")) (.type "tuple") = some false)), (fun K => decide (PySem.W.kitOne K (.type "dict") (.ref (ga K "Bridge")) = some false)), (fun K => decide (PySem.W.kitOne K (.ref (ga K "Bridge")) (.type "dict") = some false)), (fun K => eqO (PySem.W.findIn K (.ref (ga K "OtherKind")) "__class__") (some (some (.builtin "object.__class__")))), (fun K => decide (PySem.W.mroIn K (ga K "OtherKind") (.type "object") = some true)), (fun K => decide (PySem.W.kitOne K (.ref (ga K "OtherKind")) (.ref (ga K "Map")) = some false)), (fun K => decide (PySem.W.kitOne K (.ref (ga K "OtherKind")) (.ref (ga K "Basic")) = some false)), (fun K => decide (PySem.W.kitOne K (.ref (ga K "OtherKind")) (.ref (ga K "NotBasic")) = some false)), (fun K => decide (PySem.W.kitOne K (.ref (ga K "OtherKind")) (.ref (ga K "Bridge")) = some false)), (fun K => decide (PySem.W.kitOne K (.ref (ga K "OtherKind")) (.ref (ga K "OtherKind")) = some true)), (fun K => decide (PySem.W.kitOne K (.type "NoneType") (.ref (ga K "OtherKind")) = some false)), (fun K => decide (PySem.W.kitOne K (.ref (ga K "OtherKind")) (.type "NoneType") = some false)), (fun K => decide (PySem.W.kitOne K (.type "bool") (.ref (ga K "OtherKind")) = some false)), (fun K => decide (PySem.W.kitOne K (.ref (ga K "OtherKind")) (.type "bool") = some false)), (fun K => decide (PySem.W.kitOne K (.type "int") (.ref (ga K "OtherKind")) = some false)), (fun K => decide (PySem.W.kitOne K (.ref (ga K "OtherKind")) (.type "int") = some false)), (fun K => decide (PySem.W.kitOne K (.type "str") (.ref (ga K "OtherKind")) = some false)), (fun K => decide (PySem.W.kitOne K (.ref (ga K "OtherKind")) (.type "str") = some false)), (fun K => decide (PySem.W.kitOne K (.type "list") (.ref (ga K "OtherKind")) = some false))]
def xs4 : List (PySem.W.Frag → Bool) := [(fun K => decide (PySem.W.kitOne K (.ref (ga K "OtherKind")) (.type "list") = some false)), (fun K => decide (PySem.W.kitOne K (.type "tuple") (.ref (ga K "OtherKind")) = some false)), (fun K => decide (PySem.W.kitOne K (.ref (ga K "OtherKind")) (.type "tuple") = some false)), (fun K => decide (PySem.W.kitOne K (.type "dict") (.ref (ga K "OtherKind")) = some false)), (fun K => decide (PySem.W.kitOne K (.ref (ga K "OtherKind")) (.type "dict") = some false)), (fun K => decide (PySem.W.specialIn K (.builtin "object.__class__") "__get__" = some (some (.builtin "getset_descriptor.__get__")))), (fun K => decide (PySem.W.takesIn K (.builtin "object.__class__") = some true))]
def xs : List (PySem.W.Frag → Bool) := xs0 ++ xs1 ++ xs2 ++ xs3 ++ xs4
def nms0 : List Str := ["WordsError", "BadRow", "Unlike", "TooMany", "as_tuples", "MOST_LETTERS_words", "MOST_WORD", "ALL_LETTERS", "are_letters", "need_letters", "is_word_by", "reduced_by", "is_reduced_by", "undone_by", "need_reduced", "need_pair_of_words", "round_by", "round_of", "period_of", "begun_elsewhere", "are_led", "are_images", "Map", "mapped_by", "MOST_LETTERS_lettermoves"]
def nms1 : List Str := ["need_few", "signs_of", "texts_of", "are_own_images", "moves_by", "image_by", "map_by", "ring_by", "need_word", "ring_of", "led_ring", "undone_by_letter", "Basic", "NotBasic", "need_sign_word", "shorter_by", "least_by", "basic_or_not", "is_basic", "least_ring", "root_by", "root_of", "MOST_RINGS", "Bridge", "OtherKind"]
def nms2 : List Str := ["kind_by", "way_to", "need_two_words", "bridge_by", "are_of_one_kind", "_law_pen", "_law_draw", "_law_pick", "_law_shuffled", "_law_undo", "_law_reduced", "_law_back", "_law_join", "_law_letters", "_law_word", "_law_ring", "_law_full_word"]
def nms : List Str := nms0 ++ nms1 ++ nms2
abbrev lawAt : Nat := 78
abbrev TxtR : PySem.W.OpenRow := PySem.W.OpenLaw.row PySem.Challenge.rw_foldedwords_k84_rings_and_leading
abbrev hk : PySem.W.Hook := hookX 4 fa xs fn
def ob (s : PySem.W.SharedT) : AlD := obsXG 4 fa xs fn (HandSHeadRun.getT s)
theorem ob_eq (s : PySem.W.SharedT) : ob s = hk.obs s.abs := obsXG_eq (HandSHeadRun.getT_eq s)
abbrev Tx (K : PySem.W.Frag) (mg : Str → Option Value) : Prop := Says fa xs fn K mg
theorem run (w : World) : HandSHeadRun.RunEq TxtR (PySem.W.view TxtR.prog [78]) hk ob 8000 nms w := by
  intro os
  kernel_rfl
end FW
set_option Elab.async false
set_option linter.all false
set_option maxRecDepth 100000
set_option maxHeartbeats 4000000
namespace FW
open PySem PySem.Spec PyProof.Rows L2 He
section
variable {P : Program} {w : World} {K : PySem.W.Frag} {mg : Str → Option Value} {base : Heap}
theorem args3 {P1 P2 P3 : GP} {v : List Vv} {G : Hp} (h : Args [P1, P2, P3] v G) : ∃ x y z, v = [x, y, z] ∧ P1 x G ∧ P2 y G ∧ P3 z G := by
  match v, h with
  | [x, y, z], h => exact ⟨x, y, z, rfl, h.1, h.2.1, h.2.2.1⟩
  | [], h => exact h.elim
  | [_], h => exact h.2.elim
  | [_, _], h => exact h.2.2.elim
  | _ :: _ :: _ :: _ :: _, h => exact h.2.2.2.elim
theorem args4 {P1 P2 P3 P4 : GP} {v : List Vv} {G : Hp} (h : Args [P1, P2, P3, P4] v G) : ∃ x y z u, v = [x, y, z, u] ∧ P1 x G ∧ P2 y G ∧ P3 z G ∧ P4 u G := by
  match v, h with
  | [x, y, z, u], h => exact ⟨x, y, z, u, rfl, h.1, h.2.1, h.2.2.1, h.2.2.2.1⟩
  | [], h => exact h.elim
  | [_], h => exact h.2.elim
  | [_, _], h => exact h.2.2.elim
  | [_, _, _], h => exact h.2.2.2.elim
  | _ :: _ :: _ :: _ :: _ :: _, h => exact h.2.2.2.2.elim
/-! ### letters -/
def LetOk (l : List Nat) : Prop := 1 ≤ l.length ∧ l.length ≤ 4 ∧ l.Nodup ∧ ∀ c ∈ l, 97 ≤ c ∧ c ≤ 122
def az : List Nat := [97, 98, 99, 100, 101, 102, 103, 104, 105, 106, 107, 108, 109, 110, 111, 112, 113, 114, 115, 116, 117, 118, 119, 120, 121, 122]
theorem az_mem {c : Nat} (h : 97 ≤ c ∧ c ≤ 122) : c ∈ az := by
  have : ∀ c, c < 123 → 97 ≤ c → c ∈ az := by decide
  exact this c (by omega) h.1
abbrev spLet : Sp := Pur (fun l : List Nat => [T l]) LetOk (fun _ => Bo true)
theorem sc_are_letters : FnScope ["value", "sign"] ["value"] (defScope s_are_letters) := ⟨rfl, rfl, rfl, by decide +kernel, rfl, by decide +kernel, by decide +kernel⟩
theorem ok_are_letters (C : Tx K mg) : Cal P w K mg base "are_letters" 1 1 spLet := by
  refine C.cal (k := 0) ix_are_letters gl_are_letters (ps := ["value"]) sc_are_letters (fun _ _ _ _ _ _ us hl => match us, hl with | [_], _ => rfl) (fun _ => rfl) (fun cdv B outer s H E z vs w0 hr hv hp => ?_)
  have nd := sc_are_letters.nd
  obtain ⟨v1, rfl, e1⟩ := args1 hv
  have e1 : v1 = .str (S (z)) := e1
  subst e1
  obtain ⟨h1, h4, hnd, hc⟩ := hp
  obtain ⟨t4, m4⟩ := C.int co_MOST_LETTERS_words
  obtain ⟨tz, mz⟩ := C.str co_ALL_LETTERS
  refine go_skip (ct_or2 (ct_not (ct_val (ce_isiT (C.free fr_isinstance) (C.free fr_str) (cv 0)))) fun _ => ct_not (ct_lele ce_int (ce_lenT (C.free fr_len) (cv 0) (by omega)) (ce_glob rfl m4 ⟨_, rfl⟩))) ?_ fun w1 l1 => ?_
  · simp only [Bool.not_true, Bool.false_or, Bool.not_eq_false', Bool.and_eq_true, decide_eq_true_eq]; omega
  refine go_ret (ce_and2 (ce_eq (ce_lenDc (cv 0) (by omega) hnd (C.free fr_len) rfl nd (blkOk_by (N := ["value", "sign"]) (sc := defScope s_are_letters) (by decide +kernel)) (by show 1 < 2; decide) (fun _ _ _ _ _ => pg_name nd rfl (Or.inl rfl)) (fun _ _ _ _ _ => pv 1))
      (ce_lenT (C.free fr_len) (cv 0) (by omega))) fun _ => ce_allQ (bs := z.map fun c => decide (c ∈ az)) (C.free fr_all) (CN.cq (CN.cast (cn_ln (ln_mT (j := 1) (fun c => .bool (decide (c ∈ az))) (cv 0) (by omega) (fun c w' hi l' => fun _ _ _ _ _ =>
        CE.daB (ce_inT (l := az) (cv 1) (ce_glob rfl mz ⟨_, rfl⟩)))) rfl nd (blkOk_by (N := ["value", "sign"]) (sc := defScope s_are_letters) (by decide +kernel)) (fun _ _ _ _ _ => pg_name nd rfl (Or.inl rfl))) (by rw [List.map_map]; rfl))) rfl) fun v w2 l2 hv => ⟨l1.trans l2, ?_⟩
  rw [hv]
  show V.bl _ = V.bl true
  have e1 : decide (V.int (z.length : Int) = V.int (z.length : Int)) = true := decide_eq_true rfl
  rw [e1, Bool.true_and, List.all_eq_true.mpr]
  intro t ht
  obtain ⟨c, h1, rfl⟩ := List.mem_map.mp ht
  exact decide_eq_true (az_mem (hc c h1))
abbrev spNeedLet : Sp := Pur (fun l : List Nat => [T l]) LetOk (fun l => T l)
theorem sc_need_letters : FnScope ["value"] ["value"] (defScope s_need_letters) := ⟨rfl, rfl, rfl, by decide +kernel, rfl, by decide +kernel, by decide +kernel⟩
theorem ok_need_letters (C : Tx K mg) : Cal P w K mg base "need_letters" 1 2 spNeedLet := by
  refine C.cal (k := 1) ix_need_letters gl_need_letters (ps := ["value"]) sc_need_letters (fun _ _ _ _ _ _ us hl => match us, hl with | [_], _ => rfl) (fun _ => rfl) (fun cdv B outer s H E z vs w0 hr hv hp => ?_)
  have nd := sc_need_letters.nd
  obtain ⟨v1, rfl, e1⟩ := args1 hv
  have e1 : v1 = .str (S (z)) := e1
  subst e1
  refine go_skip (ct_not (ct_val (ce_call (R := fun _ => Bo true) z (ok_are_letters C) hr (ca1 (cv 0)) hp))) rfl fun w1 l1 => ?_
  exact go_ret (cv 0) fun v w2 l2 hv => ⟨l1.trans l2, hv⟩
/-! ### words -/
def signs (ls : List Nat) : List Nat := ls ++ ls.map upc
def isW (ls v : List Nat) : Bool := decide (v.length ≤ 1000) && v.all fun c => decide (c ∈ signs ls)
theorem let_asc {ls : List Nat} (h : LetOk ls) : Asc ls := fun c hc => by have := h.2.2.2 c hc; omega
theorem signs_asc {ls : List Nat} (h : LetOk ls) : Asc (signs ls) := fun c hc => by
  rcases List.mem_append.mp hc with hc | hc
  · exact let_asc h c hc
  · obtain ⟨d, hd, rfl⟩ := List.mem_map.mp hc
    have := h.2.2.2 d hd
    unfold upc
    split <;> omega
theorem isW_asc {ls v : List Nat} (h : LetOk ls) (k : isW ls v = true) : Asc v := fun c hc => by
  have h2 := (Bool.and_eq_true_iff.mp k).2
  exact signs_asc h c (of_decide_eq_true (List.all_eq_true.mp h2 c hc))
theorem isW_len {ls v : List Nat} (k : isW ls v = true) : v.length ≤ 1000 := of_decide_eq_true (Bool.and_eq_true_iff.mp k).1
abbrev spIsWord : Sp := Pur (fun x : List Nat × List Nat => [T x.1, T x.2]) (fun x => LetOk x.1 ∧ x.2.length ≤ 100000) (fun x => Bo (isW x.1 x.2))
theorem sc_is_word_by : FnScope ["letters", "value", "signs", "sign"] ["letters", "value"] (defScope s_is_word_by) := ⟨rfl, rfl, rfl, by decide +kernel, rfl, by decide +kernel, by decide +kernel⟩
theorem ok_is_word_by (C : Tx K mg) : Cal P w K mg base "is_word_by" 2 1 spIsWord := by
  refine C.cal (k := 0) ix_is_word_by gl_is_word_by (ps := ["letters", "value"]) sc_is_word_by (fun _ _ _ _ _ _ us hl => match us, hl with | [_, _], _ => rfl) (fun _ => rfl) (fun cdv B outer s H E z vs w0 hr hv hp => ?_)
  have nd := sc_is_word_by.nd
  obtain ⟨ls, l⟩ := z
  try dsimp only at hp
  obtain ⟨v1, v2, rfl, e1, e2⟩ := args2 hv
  have e1 : v1 = .str (S (ls)) := e1
  subst e1
  have e2 : v2 = .str (S (l)) := e2
  subst e2
  obtain ⟨hL, hl⟩ := hp
  have hl : l.length ≤ 100000 := hl
  obtain ⟨tm, mm⟩ := C.int co_MOST_WORD
  have h4 : ls.length ≤ 4 := hL.2.1
  refine go_if (ct_or2 (ct_not (ct_val (ce_isiT (C.free fr_isinstance) (C.free fr_str) (cv 1)))) fun _ => ct_gt (ce_lenT (C.free fr_len) (cv 1) (by omega)) (ce_glob rfl mm ⟨_, rfl⟩)) (fun ht w1 l1 => ?_) (fun ht w1 l1 => go_nil ?_)
  · refine go_ret ce_bl fun v w2 l2 hv => ⟨l1.trans l2, ?_⟩
    rw [hv]
    have h : ¬ l.length ≤ 1000 := by simp at ht; omega
    show V.bl false = V.bl (isW ls l)
    unfold isW
    rw [decide_eq_false h, Bool.false_and]
  · refine go_set (i := 2) (ce_addT (cv 0) (ce_upper (cv 0) (let_asc hL) (by omega)) (by rw [List.length_map]; omega)) (fun v w2 l2 hv => ?_) nd
    obtain rfl : v = _ := hv
    refine go_ret (ce_allQ (bs := l.map fun c => decide (c ∈ signs ls)) (C.free fr_all) (CN.cq (CN.cast (cn_ln (ln_mT (j := 3) (fun c => .bool (decide (c ∈ signs ls))) (cv 1) (by omega) (fun c w' hi l' => fun _ _ _ _ _ =>
        CE.daB (ce_inT (l := signs ls) (cv 3) (cv 2)))) rfl nd (blkOk_by (N := ["letters", "value", "signs", "sign"]) (sc := defScope s_is_word_by) (by decide +kernel)) (fun _ _ _ _ _ => pg_name nd rfl (Or.inl rfl))) (by rw [List.map_map]; rfl))) rfl) fun v w3 l3 hv => ⟨(l1.trans l2).trans l3, ?_⟩
    rw [hv]
    have h : l.length ≤ 1000 := by simp at ht; omega
    show V.bl _ = V.bl (isW ls l)
    unfold isW
    rw [decide_eq_true h, Bool.true_and, List.all_map]; rfl
end
end FW
set_option Elab.async false
set_option linter.all false
set_option maxRecDepth 100000
set_option maxHeartbeats 4000000
namespace FW
open PySem PySem.Spec PyProof.Rows L2 He
section
variable {P : Program} {w : World} {K : PySem.W.Frag} {mg : Str → Option Value} {base : Heap}
/-! ### words reduced -/
def sg (c : Nat) : Vv := .str (S [c])
theorem sg_dpa {K : PySem.W.Frag} {G : Hp} : ∀ l : List Nat, DpAll K G (l.map sg) (l.map fun c => strD [c])
  | [] => .nil
  | _ :: r => .cons (.str _) (sg_dpa r)
def pushR (st : List Nat) (c : Nat) : List Nat := match st with
  | t :: r => if t = flip c then r else c :: t :: r
  | [] => [c]
def red (l : List Nat) : List Nat := (l.foldl pushR []).reverse
theorem pushR_len (st : List Nat) (c : Nat) : (pushR st c).length ≤ st.length + 1 := by
  unfold pushR
  split
  · split <;> simp only [List.length_cons] <;> omega
  · exact Nat.le_refl _
theorem fold_len (l st : List Nat) : (l.foldl pushR st).length ≤ st.length + l.length := by
  induction l generalizing st with
  | nil => exact Nat.le_refl _
  | cons c r ih =>
    have h1 := ih (pushR st c)
    have h2 := pushR_len st c
    rw [List.foldl_cons, List.length_cons]
    omega
theorem red_len (l : List Nat) : (red l).length ≤ l.length := by
  unfold red
  rw [List.length_reverse]
  have := fold_len l []
  simpa using this
theorem pushR_mem {st : List Nat} {c x : Nat} (h : x ∈ pushR st c) : x ∈ st ∨ x = c := by
  unfold pushR at h
  split at h
  · split at h
    · exact .inl (List.mem_cons_of_mem _ h)
    · rcases List.mem_cons.mp h with e | h
      · exact .inr e
      · exact .inl h
  · exact .inr (by simpa using h)
theorem fold_mem {l st : List Nat} {x : Nat} (h : x ∈ l.foldl pushR st) : x ∈ st ∨ x ∈ l := by
  induction l generalizing st with
  | nil => exact .inl h
  | cons c r ih =>
    rcases ih h with h | h
    · rcases pushR_mem h with h | h
      · exact .inl h
      · exact .inr (h ▸ List.mem_cons_self)
    · exact .inr (List.mem_cons_of_mem _ h)
theorem red_mem {l : List Nat} {x : Nat} (h : x ∈ red l) : x ∈ l := by
  rcases fold_mem (List.mem_reverse.mp h) with h | h
  · cases h
  · exact h
theorem red_asc {l : List Nat} (h : Asc l) : Asc (red l) := fun c hc => h c (red_mem hc)
theorem take_next {α : Type} {l : List α} {k : Nat} {c : α} (h : l[k]? = some c) : l.take (k + 1) = l.take k ++ [c] := by rw [List.take_add_one, h]; rfl
abbrev spReduced : Sp := Pur (fun l : List Nat => [T l]) (fun l => Asc l ∧ l.length ≤ 100000) (fun l => T (red l))
theorem sc_reduced_by : FnScope ["word", "found", "sign"] ["word"] (defScope s_reduced_by) := ⟨rfl, rfl, rfl, by decide +kernel, rfl, by decide +kernel, by decide +kernel⟩
theorem ok_reduced_by (C : Tx K mg) : Cal P w K mg base "reduced_by" 1 1 spReduced := by
  refine C.cal (k := 0) ix_reduced_by gl_reduced_by (ps := ["word"]) sc_reduced_by (fun _ _ _ _ _ _ us hl => match us, hl with | [_], _ => rfl) (fun _ => rfl) (fun cdv B outer s H E z vs w0 hr hv hp => ?_)
  have nd := sc_reduced_by.nd
  obtain ⟨v1, rfl, e1⟩ := args1 hv
  have e1 : v1 = .str (S (z)) := e1
  subst e1
  obtain ⟨ha, hl⟩ := hp
  refine go_setN (i := 1) (cn_lst (ds := []) ca_nil) (fun p vs w1 l1 n1 o d => ?_) nd
  have ev : vs = [] := by cases d; rfl
  subst ev
  refine go_forT (i := 2) (cv 0) (fun k σ' w' => ∃ v, σ' = [some (.str (S z)), some (.ref p), v] ∧ Own w' p (((z.take k).foldl pushR []).reverse.map sg) ∧ Le w0 w') (fun w' l => ⟨_, rfl, o.mono l, l1.trans l⟩) ?_ ?_ PassesOwn.never rfl nd
  · rintro k c σ' w' hc ⟨v, rfl, o, l⟩
    have hc128 : Asc [c] := fun x hx => by rw [List.mem_singleton.mp hx]; exact ha c (List.mem_of_getElem? hc)
    have hk : k < z.length := (List.getElem?_eq_some_iff.mp hc).1
    have hlen : ((z.take k).foldl pushR []).length ≤ 100000 := by
      have := fold_len (z.take k) []
      rw [List.length_take] at this
      simp only [List.length_nil] at this
      omega
    have step : (z.take (k + 1)).foldl pushR [] = pushR ((z.take k).foldl pushR []) c := by rw [take_next hc, List.foldl_append]; rfl
    generalize hst : (z.take k).foldl pushR [] = st at o hlen step
    cases st with
    | nil =>
      refine go_if (ct_and2 (ct_truthQ (cq_own 1 o (sg_dpa _))) (t := false) (fun h => absurd h (by decide))) (fun h => absurd h (by decide)) (fun _ w2 l2 => ?_)
      refine go_append 1 (o.mono l2) (cv 2) (by simp) (fun u w3 l3 o3 hu => ?_)
      refine go_nil (go_nil ⟨_, rfl, ?_, ((l.trans l2).trans l3).put n1 o3⟩)
      rw [step]
      have hu : u = _ := hu
      subst hu
      exact Own.put o3
    | cons t r =>
      refine go_if (t := decide ([t] = [flip c])) (CT.cast (ct_and2 (ct_truthQ (cq_own 1 o (sg_dpa _))) (fun _ => ct_eqT (CE.toT (ce_ixQ (d := strD [t]) (cq_own 1 o (sg_dpa _)) (ce_neg ce_int) ?_)) (ce_swapcase (cv 2) hc128 (by simp)))) (by rw [show (!((t :: r).reverse.map fun c => strD [c]).isEmpty) = true by simp, Bool.true_and]; rfl)) (fun h w2 l2 => ?_) (fun h w2 l2 => ?_)
      · rw [List.reverse_cons, List.map_append]; exact atI_last _ _
      · have e : t = flip c := by simpa using h
        refine go_pop 1 (o.mono l2) (by simp) (go_nil (go_nil ⟨_, rfl, ?_, (l.trans l2).put n1 (o.mono l2)⟩))
        rw [step]
        show Own _ p ((if t = flip c then r else c :: t :: r).reverse.map sg)
        rw [if_pos e]
        have e2 : ((t :: r).reverse.map sg).dropLast = r.reverse.map sg := by rw [List.reverse_cons, List.map_append]; exact List.dropLast_concat
        rw [e2]
        exact Own.put (o.mono l2)
      · have e : ¬ t = flip c := by simpa using h
        refine go_append 1 (o.mono l2) (cv 2) (by simp only [List.length_map, List.length_reverse]; omega) (fun u w3 l3 o3 hu => ?_)
        refine go_nil (go_nil ⟨_, rfl, ?_, ((l.trans l2).trans l3).put n1 o3⟩)
        have hu : u = _ := hu
        subst hu
        rw [step]
        show Own _ p ((if t = flip c then r else c :: t :: r).reverse.map sg)
        rw [if_neg e, List.reverse_cons (a := c), List.map_append]
        exact Own.put o3
  · rintro σ' w' ⟨v, rfl, o, l⟩
    rw [List.take_length] at o
    refine go_ret (ce_joinQ (xs := (red z).map fun c => [c]) (ce_str []) (CQ.cast (cq_own 1 o (sg_dpa _)) (by unfold red; rw [List.map_map]; rfl)) ?_) (fun v w2 l2 hv => ⟨l.trans l2, ?_⟩)
    · have := red_len z
      have e : ((red z).map fun c => [c]).flatten = red z := by induction red z with
        | nil => rfl
        | cons a r ih => simp only [List.map_cons, List.flatten_cons, ih]; rfl
      rw [e]; omega
    · have e : ((red z).map fun c => [c]).flatten = red z := by induction red z with
        | nil => rfl
        | cons a r ih => simp only [List.map_cons, List.flatten_cons, ih]; rfl
      rw [e] at hv
      exact hv
/-! ### reduced words -/
def isR (ls v : List Nat) : Bool := isW ls v && decide (red v = v)
abbrev spIsReduced : Sp := Pur (fun x : List Nat × List Nat => [T x.1, T x.2]) (fun x => LetOk x.1 ∧ x.2.length ≤ 100000) (fun x => Bo (isR x.1 x.2))
theorem sc_is_reduced_by : FnScope ["letters", "value"] ["letters", "value"] (defScope s_is_reduced_by) := ⟨rfl, rfl, rfl, by decide +kernel, rfl, by decide +kernel, by decide +kernel⟩
theorem ok_is_reduced_by (C : Tx K mg) : Cal P w K mg base "is_reduced_by" 2 2 spIsReduced := by
  refine C.cal (k := 1) ix_is_reduced_by gl_is_reduced_by (ps := ["letters", "value"]) sc_is_reduced_by (fun _ _ _ _ _ _ us hl => match us, hl with | [_, _], _ => rfl) (fun _ => rfl) (fun cdv B outer s H E z vs w0 hr hv hp => ?_)
  have nd := sc_is_reduced_by.nd
  obtain ⟨ls, l⟩ := z
  try dsimp only at hp
  obtain ⟨v1, v2, rfl, e1, e2⟩ := args2 hv
  have e1 : v1 = .str (S (ls)) := e1
  subst e1
  have e2 : v2 = .str (S (l)) := e2
  subst e2
  obtain ⟨hL, hl⟩ := hp
  refine go_ret (ce_and2 (ce_call (R := fun x : List Nat × List Nat => Bo (isW x.1 x.2)) (ls, l) (ok_is_word_by C) hr (ca_cons (cv 0) (ca1 (cv 1))) ⟨hL, hl⟩) fun h => ce_eqT (ce_call (R := fun l => T (red l)) l (ok_reduced_by C) hr (ca1 (cv 1)) ⟨isW_asc hL h, hl⟩) (cv 1)) fun v w2 l2 hv => ⟨l2, hv⟩
def undo (l : List Nat) : List Nat := l.reverse.map flip
abbrev spUndone : Sp := Pur (fun l : List Nat => [T l]) (fun l => Asc l ∧ l.length ≤ 100000) (fun l => T (undo l))
theorem sc_undone_by : FnScope ["word"] ["word"] (defScope s_undone_by) := ⟨rfl, rfl, rfl, by decide +kernel, rfl, by decide +kernel, by decide +kernel⟩
theorem ok_undone_by (C : Tx K mg) : Cal P w K mg base "undone_by" 1 1 spUndone := by
  refine C.cal (k := 0) ix_undone_by gl_undone_by (ps := ["word"]) sc_undone_by (fun _ _ _ _ _ _ us hl => match us, hl with | [_], _ => rfl) (fun _ => rfl) (fun cdv B outer s H E z vs w0 hr hv hp => ?_)
  have nd := sc_undone_by.nd
  obtain ⟨v1, rfl, e1⟩ := args1 hv
  have e1 : v1 = .str (S (z)) := e1
  subst e1
  refine go_ret (ce_swapcase (ce_revT (cv 0) (by have := hp.2; omega)) (fun c hc => hp.1 c (List.mem_reverse.mp hc)) (by rw [List.length_reverse]; have := hp.2; omega)) fun v w2 l2 hv => ⟨l2, hv⟩
end
end FW
set_option Elab.async false
set_option linter.all false
set_option maxRecDepth 100000
set_option maxHeartbeats 4000000
namespace FW
open PySem PySem.Spec PyProof.Rows L2 He
section
variable {P : Program} {w : World} {K : PySem.W.Frag} {mg : Str → Option Value} {base : Heap}
theorem ce_max2 {U : Vol} {X : Cx} {a b : Expr} {σ : Sg} {w : Wd U} {p pos : Pos} {i j : Int} (hm : X.mg "max" = none) (ha : CE X a σ w (I i)) (hb : CE X b σ w (I j)) (hc : X.calm = true)
    (hg : Gl X "max" := by rfl) (hs : starEach (a :: [b]) X.env = (false, eval a X.env) :: starEach [b] X.env := by rfl) (hs2 : starEach (b :: []) X.env = (false, eval b X.env) :: starEach [] X.env := by rfl) (hpl : (backTo pos (starEach [b] X.env)).any (·.1) = false := by rfl) :
    CE X (.Call (.Name "max" p) [a, b] [] pos) σ w (I (if j > i then j else i)) :=
  ce_bi (call_max2 hc) hm PyProof.Rows.boot_max (ca_cons ha (ca_cons hb ca_nil hs2) hs) (fun vs w1 Q l1 hv q => by
    obtain ⟨v, y, rfl, h1, h2⟩ := args2 hv
    have h1 : v = _ := h1
    have h2 : y = _ := h2
    subst h1 h2
    exact ⟨i, j, rfl, q _ w1 (Le.refl _) rfl⟩) hg (by decide) (by decide) hs hpl
/-! ### words led -/
abbrev spNeedRed : Sp := Pur (fun x : List Nat × List Nat × List Nat => [T x.1, T x.2.1, T x.2.2]) (fun x => LetOk x.2.1 ∧ isR x.2.1 x.2.2 = true ∧ x.2.2.length ≤ 100000) (fun x => T x.2.2)
theorem sc_need_reduced : FnScope ["what", "letters", "word"] ["what", "letters", "word"] (defScope s_need_reduced) := ⟨rfl, rfl, rfl, by decide +kernel, rfl, by decide +kernel, by decide +kernel⟩
theorem ok_need_reduced (C : Tx K mg) : Cal P w K mg base "need_reduced" 3 3 spNeedRed := by
  refine C.cal (k := 2) ix_need_reduced gl_need_reduced (ps := ["what", "letters", "word"]) sc_need_reduced (fun _ _ _ _ _ _ us hl => match us, hl with | [_, _, _], _ => rfl) (fun _ => rfl) (fun cdv B outer s H E z vs w0 hr hv hp => ?_)
  have nd := sc_need_reduced.nd
  obtain ⟨wt, ls, l⟩ := z
  try dsimp only at hp
  obtain ⟨v1, v2, v3, rfl, e1, e2, e3⟩ := args3 hv
  have e1 : v1 = .str (S (wt)) := e1
  subst e1
  have e2 : v2 = .str (S (ls)) := e2
  subst e2
  have e3 : v3 = .str (S (l)) := e3
  subst e3
  obtain ⟨hL, hR, hl⟩ := hp
  refine go_skip (ct_not (ct_val (ce_call (R := fun x : List Nat × List Nat => Bo (isR x.1 x.2)) (ls, l) (ok_is_reduced_by C) hr (ca_cons (cv 1) (ca1 (cv 2))) ⟨hL, hl⟩))) (by show (!isR ls l) = false; rw [hR]; rfl) fun w1 l1 => ?_
  exact go_ret (cv 2) fun v w2 l2 hv => ⟨l1.trans l2, hv⟩
def WOk (ls l : List Nat) : Prop := isR ls l = true
theorem isR_len {ls l : List Nat} (h : isR ls l = true) : l.length ≤ 1000 := isW_len (Bool.and_eq_true_iff.mp h).1
theorem isR_asc {ls l : List Nat} (hL : LetOk ls) (h : isR ls l = true) : Asc l := isW_asc hL (Bool.and_eq_true_iff.mp h).1
theorem isR_red {ls l : List Nat} (h : isR ls l = true) : red l = l := of_decide_eq_true (Bool.and_eq_true_iff.mp h).2
abbrev spNeedPair : Sp := Pur (fun x : List Nat × List Nat × List Nat => [T x.1, T x.2.1, T x.2.2]) (fun x => LetOk x.1 ∧ isR x.1 x.2.1 = true ∧ isR x.1 x.2.2 = true) (fun _ => No)
theorem sc_need_pair_of_words : FnScope ["letters", "one", "other"] ["letters", "one", "other"] (defScope s_need_pair_of_words) := ⟨rfl, rfl, rfl, by decide +kernel, rfl, by decide +kernel, by decide +kernel⟩
theorem ok_need_pair_of_words (C : Tx K mg) : Cal P w K mg base "need_pair_of_words" 3 4 spNeedPair := by
  refine C.cal (k := 3) ix_need_pair_of_words gl_need_pair_of_words (ps := ["letters", "one", "other"]) sc_need_pair_of_words (fun _ _ _ _ _ _ us hl => match us, hl with | [_, _, _], _ => rfl) (fun _ => rfl) (fun cdv B outer s H E z vs w0 hr hv hp => ?_)
  have nd := sc_need_pair_of_words.nd
  obtain ⟨ls, l, m⟩ := z
  try dsimp only at hp
  obtain ⟨v1, v2, v3, rfl, e1, e2, e3⟩ := args3 hv
  have e1 : v1 = .str (S (ls)) := e1
  subst e1
  have e2 : v2 = .str (S (l)) := e2
  subst e2
  have e3 : v3 = .str (S (m)) := e3
  subst e3
  obtain ⟨hL, h1, h2⟩ := hp
  have hr2 : Room 2 _ := hr.mono (by decide)
  refine go_drop (ce_call (R := fun l => T l) ls (ok_need_letters C) hr (ca1 (cv 0)) hL) fun w1 l1 => ?_
  refine go_drop (ce_call (R := fun x : List Nat × List Nat × List Nat => T x.2.2) ([111, 110, 101], ls, l) (ok_need_reduced C) hr (ca_cons (ce_str [111, 110, 101]) (ca_cons (cv 0) (ca1 (cv 1)))) ⟨hL, h1, by have := isR_len h1; show l.length ≤ 100000; omega⟩) fun w2 l2 => ?_
  refine go_drop (ce_call (R := fun x : List Nat × List Nat × List Nat => T x.2.2) ([111, 116, 104, 101, 114], ls, m) (ok_need_reduced C) hr (ca_cons (ce_str [111, 116, 104, 101, 114]) (ca_cons (cv 0) (ca1 (cv 2)))) ⟨hL, h2, by have := isR_len h2; show m.length ≤ 100000; omega⟩) fun w3 l3 => ?_
  exact go_nil ⟨(l1.trans l2).trans l3, rfl⟩
/-! ### round words -/
def rgo (l : List Nat) : Nat → Nat → Nat
  | 0, m => m
  | f + 1, m => if l.length - 2 * m > 1 ∧ l.getD m 0 = flip (l.getD (l.length - 1 - m) 0) then rgo l f (m + 1) else m
def rK (l : List Nat) : Nat := rgo l l.length 0
theorem rgo_le (l : List Nat) : ∀ f m, 2 * m ≤ l.length → 2 * rgo l f m ≤ l.length
  | 0, m, h => h
  | f + 1, m, h => by
    unfold rgo
    split
    · exact rgo_le l f (m + 1) (by omega)
    · exact h
theorem rK_le (l : List Nat) : 2 * rK l ≤ l.length := rgo_le l _ 0 (by omega)
def rA (l : List Nat) : List Nat := l.take (rK l)
def rC (l : List Nat) : List Nat := (l.drop (rK l)).take (l.length - 2 * rK l)
theorem getD_some {α : Type} {l : List α} {i : Nat} {z : α} (h : i < l.length) : l[i]? = some (l.getD i z) := by
  rw [List.getD_eq_getElem?_getD, List.getElem?_eq_getElem h]; rfl
abbrev spRound (K : PySem.W.Frag) : Sp := Pur (fun l : List Nat => [T l]) (fun l => Asc l ∧ l.length ≤ 100000) (fun l => Da K (.tuple [strD (rA l), strD (rC l)]))
theorem sc_round_by : FnScope ["word", "many"] ["word"] (defScope s_round_by) := ⟨rfl, rfl, rfl, by decide +kernel, rfl, by decide +kernel, by decide +kernel⟩
theorem ok_round_by (C : Tx K mg) : Cal P w K mg base "round_by" 1 2 (spRound K) := by
  refine C.cal (k := 1) ix_round_by gl_round_by (ps := ["word"]) sc_round_by (fun _ _ _ _ _ _ us hl => match us, hl with | [_], _ => rfl) (fun _ => rfl) (fun cdv B outer s H E z vs w0 hr hv hp => ?_)
  have nd := sc_round_by.nd
  obtain ⟨v1, rfl, e1⟩ := args1 hv
  have e1 : v1 = .str (S (z)) := e1
  subst e1
  obtain ⟨ha, hl⟩ := hp
  have hr1 : Room 1 _ := hr
  refine go_set (i := 1) ce_int (fun v w1 l1 hv => ?_) nd
  have hv : v = _ := hv
  subst hv
  refine go_while (fun m σ' w' => ∃ n : Nat, σ' = [some (.str (S z)), some (.int n)] ∧ m = z.length - n ∧ rgo z m n = rK z ∧ 2 * n ≤ z.length ∧ Le w0 w') z.length ⟨0, rfl, by omega, rfl, by omega, l1⟩ ?_ PassesOwn.never
  rintro m σ' w' ⟨n, rfl, rfl, hg, hn, l⟩
  refine ⟨decide (z.length - 2 * n > 1 ∧ z.getD n 0 = flip (z.getD (z.length - 1 - n) 0)), ?_, fun h w2 l2 => ?_, fun h w2 l2 => ?_⟩
  · refine CT.cast (t := decide (z.length - 2 * n > 1) && decide ([z.getD n 0] = undo [z.getD (z.length - 1 - n) 0])) (ct_and2 (CT.cast (ct_gt (ce_sub (ce_lenT (C.free fr_len) (cv 0) (by omega)) (ce_mul ce_int (cv 1) (.inl ⟨by decide, by decide⟩))) ce_int) ?_) fun h => ?_) ?_
    · exact decide_eq_decide.mpr (by omega)
    · have h1 : z.length - 2 * n > 1 := of_decide_eq_true h
      refine ct_eqT (ce_ixT (cv 0) (cv 1) (by omega) (atI_nat (getD_some (by omega)))) (ce_call (R := fun l => T (undo l)) [z.getD (z.length - 1 - n) 0] (ok_undone_by C) hr1 (ca1 (ce_ixT (cv 0) (ce_sub (ce_sub (ce_lenT (C.free fr_len) (cv 0) (by omega)) ce_int) (cv 1)) (by omega) (atI_of (j := z.length - 1 - n) (by omega) (getD_some (by omega))))) ⟨fun c hc => ?_, by simp⟩)
      rw [List.mem_singleton.mp hc]
      exact ha _ (List.mem_of_getElem? (getD_some (z := 0) (by omega)))
    · rw [← Bool.decide_and]
      exact decide_eq_decide.mpr (by simp [undo])
  · have h1 := of_decide_eq_true h
    refine go_set (i := 1) (ce_add (cv 1) ce_int) (fun v w3 l3 hv => ?_) nd
    have hv : v = _ := hv
    subst hv
    refine go_nil ⟨z.length - (n + 1), by omega, n + 1, rfl, rfl, ?_, by omega, (l.trans l2).trans l3⟩
    rw [← hg, show z.length - n = (z.length - (n + 1)) + 1 by omega]
    show _ = rgo z (z.length - (n + 1) + 1) n
    rw [rgo, if_pos h1]
  · have h1 : ¬ _ := of_decide_eq_false h
    have e : rK z = n := by
      rw [← hg]
      cases hm : z.length - n with
      | zero => rfl
      | succ f => rw [rgo, if_neg h1]
    refine go_ret (ce_tup (ds := [strD (rA z), strD (rC z)]) (ca_cons (CE.daT (CE.castT (ce_upto (cv 0) (cv 1) (by omega)) (by unfold rA; rw [e]))) (ca_cons (CE.daT (CE.castT (ce_cut (k := n) (m := z.length - n) (cv 0) (cv 1) (CE.castI (ce_sub (ce_lenT (C.free fr_len) (cv 0) (by omega)) (cv 1)) (by omega)) (by omega) (by omega)) (by unfold rC; rw [e]; congr 1; omega))) ca_nil))) fun v w3 l3 hv => ⟨(l.trans l2).trans l3, hv⟩
abbrev spRoundOf (K : PySem.W.Frag) : Sp := Pur (fun x : List Nat × List Nat => [T x.1, T x.2]) (fun x => LetOk x.1 ∧ isR x.1 x.2 = true) (fun x => Da K (.tuple [strD (rA x.2), strD (rC x.2)]))
theorem sc_round_of : FnScope ["letters", "word"] ["letters", "word"] (defScope s_round_of) := ⟨rfl, rfl, rfl, by decide +kernel, rfl, by decide +kernel, by decide +kernel⟩
theorem ok_round_of (C : Tx K mg) : Cal P w K mg base "round_of" 2 4 (spRoundOf K) := by
  refine C.cal (k := 3) ix_round_of gl_round_of (ps := ["letters", "word"]) sc_round_of (fun _ _ _ _ _ _ us hl => match us, hl with | [_, _], _ => rfl) (fun _ => rfl) (fun cdv B outer s H E z vs w0 hr hv hp => ?_)
  have nd := sc_round_of.nd
  obtain ⟨ls, l⟩ := z
  try dsimp only at hp
  obtain ⟨v1, v2, rfl, e1, e2⟩ := args2 hv
  have e1 : v1 = .str (S (ls)) := e1
  subst e1
  have e2 : v2 = .str (S (l)) := e2
  subst e2
  obtain ⟨hL, h1⟩ := hp
  have hlen := isR_len h1
  refine go_drop (ce_call (R := fun l => T l) ls (ok_need_letters C) hr (ca1 (cv 0)) hL) fun w1 l1 => ?_
  exact go_ret (ce_call (R := fun l => Da K (.tuple [strD (rA l), strD (rC l)])) l (ok_round_by C) hr (ca1 (ce_call (R := fun x : List Nat × List Nat × List Nat => T x.2.2) ([119, 111, 114, 100], ls, l) (ok_need_reduced C) hr (ca_cons (ce_str [119, 111, 114, 100]) (ca_cons (cv 0) (ca1 (cv 1)))) ⟨hL, h1, by show l.length ≤ 100000; omega⟩)) ⟨isR_asc hL h1, by omega⟩) fun v w2 l2 hv => ⟨l1.trans l2, hv⟩
/-! ### the period -/
def perOk (l : List Nat) (m : Nat) : Bool := decide (l.length % m = 0) && decide (rep (l.take m) (l.length / m) = l)
def per (l : List Nat) : Nat := ((List.range (l.length - 1)).find? fun k => perOk l (k + 1)).elim l.length (· + 1)
theorem find_take {α : Type} {p : α → Bool} {l : List α} {k : Nat} {x : α} (h : l[k]? = some x) (hp : p x = true) (hn : (l.take k).find? p = none) : l.find? p = some x := by
  induction l generalizing k with
  | nil => simp at h
  | cons a r ih =>
    cases k with
    | zero => simp at h; subst h; simp [hp]
    | succ k =>
      rw [List.take_succ_cons, List.find?_cons] at hn
      split at hn
      · cases hn
      · rename_i h2
        rw [List.find?_cons, h2]
        exact ih (by simpa using h) hn
abbrev spPer : Sp := Pur (fun l : List Nat => [T l]) (fun l => l.length ≤ 100000) (fun l => I (per l))
theorem sc_period_of : FnScope ["word", "many"] ["word"] (defScope s_period_of) := ⟨rfl, rfl, rfl, by decide +kernel, rfl, by decide +kernel, by decide +kernel⟩
theorem ok_period_of (C : Tx K mg) : Cal P w K mg base "period_of" 1 1 spPer := by
  refine C.cal (k := 0) ix_period_of gl_period_of (ps := ["word"]) sc_period_of (fun _ _ _ _ _ _ us hl => match us, hl with | [_], _ => rfl) (fun _ => rfl) (fun cdv B outer s H E z vs w0 hr hv hp => ?_)
  have nd := sc_period_of.nd
  obtain ⟨v1, rfl, e1⟩ := args1 hv
  have e1 : v1 = .str (S (z)) := e1
  subst e1
  have hp : z.length ≤ 100000 := hp
  refine go_forR2 (i := 1) (C.free fr_range) ce_int (ce_lenT (C.free fr_len) (cv 0) (by omega)) (by decide) (by omega) (fun k σ' w' => ∃ v, σ' = [some (.str (S z)), v] ∧ ((List.range (z.length - 1)).take k).find? (fun k => perOk z (k + 1)) = none ∧ Le w0 w') (fun w' l => ⟨_, rfl, rfl, l⟩) ?_ ?_ PassesOwn.never rfl nd
  · rintro k σ' w' hk ⟨v, rfl, hf, l⟩
    have hk1 : k + 1 < z.length := by omega
    have hd : z.length / (k + 1) ≤ z.length := Nat.div_le_self _ _
    have hm : z.length / (k + 1) * (z.take (k + 1)).length ≤ 1000000 := by
      rw [List.length_take, Nat.min_eq_left (by omega)]
      have := Nat.div_mul_le_self z.length (k + 1)
      omega
    have hget : (List.range (z.length - 1))[k]? = some k := by rw [List.getElem?_range (by omega)]
    refine go_if (t := perOk z (k + 1)) (CT.cast (ct_and2 (ct_eqI (ce_mod (ce_lenT (C.free fr_len) (cv 0) (by omega)) (cv 1) (by omega)) ce_int) fun _ => ct_eqT (ce_mulT (ce_upto (k := k + 1) (cv 0) (CE.castI (cv 1) (by omega)) (by omega)) (CE.castI (ce_fdiv (ce_lenT (C.free fr_len) (cv 0) (by omega)) (cv 1) ⟨by omega, by omega⟩) (by rw [Int.natCast_ediv]; congr 1; omega)) hm (by omega)) (cv 0)) ?_) (fun h w2 l2 => ?_) (fun h w2 l2 => ?_)
    · unfold perOk
      congr 1
      exact decide_eq_decide.mpr (by rw [show (1 : Int) + (k : Int) = ((k + 1 : Nat) : Int) by omega]; omega)
    · refine go_ret (cv 1) fun v w3 l3 hv => ⟨(l.trans l2).trans l3, ?_⟩
      rw [hv]
      show V.int _ = V.int _
      have e : per z = k + 1 := by unfold per; rw [find_take hget h hf]; rfl
      rw [e]
      congr 1; omega
    · refine go_nil (go_nil ⟨_, rfl, ?_, l.trans l2⟩)
      rw [take_next hget, List.find?_append, hf]
      simp [h]
  · rintro σ' w' ⟨v, rfl, hf, l⟩
    refine go_ret (ce_lenT (C.free fr_len) (cv 0) (by omega)) fun v w3 l3 hv => ⟨l.trans l3, ?_⟩
    rw [hv]
    show V.int _ = V.int _
    have e : per z = z.length := by
      unfold per
      rw [List.take_of_length_le (by rw [List.length_range]; omega)] at hf
      rw [hf]; rfl
    rw [e]
/-! ### rings begun elsewhere -/
def begun (l m : List Nat) : Option Nat := if l.length ≠ m.length then none else (List.range (max 1 l.length)).find? fun k => decide (l.drop k ++ l.take k = m)
def optI : Option Nat → Vv
  | none => .non
  | some n => .int n
abbrev spBegun : Sp := Pur (fun x : List Nat × List Nat => [T x.1, T x.2]) (fun x => x.1.length ≤ 100000 ∧ x.2.length ≤ 100000) (fun x => Is (optI (begun x.1 x.2)))
theorem sc_begun_elsewhere : FnScope ["one", "other", "found", "at"] ["one", "other"] (defScope s_begun_elsewhere) := ⟨rfl, rfl, rfl, by decide +kernel, rfl, by decide +kernel, by decide +kernel⟩
theorem ok_begun_elsewhere (C : Tx K mg) : Cal P w K mg base "begun_elsewhere" 2 1 spBegun := by
  refine C.cal (k := 0) ix_begun_elsewhere gl_begun_elsewhere (ps := ["one", "other"]) sc_begun_elsewhere (fun _ _ _ _ _ _ us hl => match us, hl with | [_, _], _ => rfl) (fun _ => rfl) (fun cdv B outer s H E z vs w0 hr hv hp => ?_)
  have nd := sc_begun_elsewhere.nd
  obtain ⟨l, m⟩ := z
  try dsimp only at hp
  obtain ⟨v1, v2, rfl, e1, e2⟩ := args2 hv
  have e1 : v1 = .str (S (l)) := e1
  subst e1
  have e2 : v2 = .str (S (m)) := e2
  subst e2
  obtain ⟨h1, h2⟩ := hp
  refine go_if (t := decide (l.length ≠ m.length)) (CT.cast (ct_neI (ce_lenT (C.free fr_len) (cv 0) (by omega)) (ce_lenT (C.free fr_len) (cv 1) (by omega))) (by rw [← decide_not]; exact decide_eq_decide.mpr (by omega))) (fun h w1 l1 => ?_) (fun h w1 l1 => go_nil ?_)
  · refine go_ret ce_non fun v w2 l2 hv => ⟨l1.trans l2, ?_⟩
    rw [hv]
    show V.non = optI (begun l m)
    unfold begun
    rw [if_pos (of_decide_eq_true h)]; rfl
  · have he : ¬ l.length ≠ m.length := of_decide_eq_false h
    refine go_setLc (i := 2) (ln_fR (n := max 1 l.length) (j := 3) (fun k => decide (l.drop k ++ l.take k = m)) (fun k => .int k) (C.free fr_range) (CE.castI (ce_max2 (C.free fr_max) ce_int (ce_lenT (C.free fr_len) (cv 0) (by omega)) rfl) (by split <;> omega)) (by omega) (fun k w' hk l' => fun _ _ _ _ _ => ct_eqT (ce_addT (ce_from (cv 0) (cv 3) (by omega)) (ce_upto (cv 0) (cv 3) (by omega)) (by simp only [List.length_drop, List.length_take]; omega)) (cv 1)) (fun k w' hk hf l' => fun _ _ _ _ _ => CE.daI (cv 3))) rfl nd (blkOk_by (N := ["one", "other", "found", "at"]) (sc := defScope s_begun_elsewhere) (by decide +kernel)) (fun _ _ _ _ _ => pg_name nd rfl (Or.inl rfl)) (fun p vs w2 l2 n2 o d => ?_) (sw_true rfl rfl rfl (by decide +kernel))
    cases hf : (List.range (max 1 l.length)).find? fun k => decide (l.drop k ++ l.take k = m) with
    | none =>
      have e : (List.range (max 1 l.length)).filter (fun k => decide (l.drop k ++ l.take k = m)) = [] := by
        rw [List.filter_eq_nil_iff]
        exact List.find?_eq_none.mp hf
      rw [e] at d
      refine go_ret (ce_if (P := No) (ct_truthQ (cq_own 2 o d)) (fun h => absurd h (by decide)) (fun _ => ce_non)) fun v w3 l3 hv => ⟨(l1.trans l2).trans l3, ?_⟩
      rw [hv]
      show V.non = optI (begun l m)
      unfold begun
      rw [if_neg he, hf]; rfl
    | some k =>
      obtain ⟨r, e⟩ : ∃ r, (List.range (max 1 l.length)).filter (fun k => decide (l.drop k ++ l.take k = m)) = k :: r := by
        have h := List.head?_filter (p := fun k => decide (l.drop k ++ l.take k = m)) (l := List.range (max 1 l.length))
        rw [hf] at h
        cases q : (List.range (max 1 l.length)).filter (fun k => decide (l.drop k ++ l.take k = m)) with
        | nil => rw [q] at h; cases h
        | cons a r => rw [q] at h; exact ⟨r, by rw [Option.some.inj h]⟩
      rw [e] at d
      refine go_ret (ce_if (P := I (k : Int)) (ct_truthQ (cq_own 2 o d)) (fun _ => CE.toI (ce_ixQ (cq_own 2 o d) ce_int (atI_of (j := 0) rfl rfl))) (fun h => absurd h (by simp))) fun v w3 l3 hv => ⟨(l1.trans l2).trans l3, ?_⟩
      rw [hv]
      show V.int _ = optI (begun l m)
      unfold begun
      rw [if_neg he, hf]; rfl
end
end FW
set_option Elab.async false
set_option linter.all false
set_option maxRecDepth 100000
set_option maxHeartbeats 4000000
namespace FW
open PySem PySem.Spec PyProof.Rows L2 He
/-! ### words with no sign beside its opposite -/
def NB (l : List Nat) : Prop := ∀ i a b, l[i]? = some a → l[i + 1]? = some b → a ≠ flip b
theorem flip_flip (c : Nat) : flip (flip c) = c := by
  unfold flip
  repeat' split
  all_goals omega
theorem flip_ne (c d : Nat) : (c ≠ flip d) ↔ (d ≠ flip c) := by
  constructor
  · intro h e; exact h (by rw [e, flip_flip])
  · intro h e; exact h (by rw [e, flip_flip])
theorem NB.nil : NB [] := fun i a b h => by simp at h
theorem NB.take {l : List Nat} (h : NB l) (n : Nat) : NB (l.take n) := fun i a b ha hb => by
  rw [List.getElem?_take] at ha hb
  split at ha
  · split at hb
    · exact h i a b ha hb
    · cases hb
  · cases ha
theorem NB.drop {l : List Nat} (h : NB l) (n : Nat) : NB (l.drop n) := fun i a b ha hb => by
  rw [List.getElem?_drop] at ha hb
  exact h (n + i) a b ha (by rw [← hb]; congr 1)
theorem NB.left {l m : List Nat} (h : NB (l ++ m)) : NB l := by
  have := h.take l.length
  rwa [List.take_left'  rfl] at this
theorem NB.right {l m : List Nat} (h : NB (l ++ m)) : NB m := by
  have := h.drop l.length
  rwa [List.drop_left' rfl] at this
theorem NB.mid {l m : List Nat} {a b : Nat} (h : NB (l ++ a :: b :: m)) : a ≠ flip b := by
  refine h l.length a b ?_ ?_
  · rw [List.getElem?_append_right (Nat.le_refl _)]; simp
  · rw [List.getElem?_append_right (Nat.le_succ _)]; simp
/-- joined where the ends do not meet -/
theorem NB.join {l m : List Nat} (h1 : NB l) (h2 : NB m) (h : ∀ a b, l.getLast? = some a → m.head? = some b → a ≠ flip b) : NB (l ++ m) := fun i a b ha hb => by
  rcases Nat.lt_or_ge (i + 1) l.length with q | q
  · rw [List.getElem?_append_left (by omega)] at ha
    rw [List.getElem?_append_left q] at hb
    exact h1 i a b ha hb
  · rcases Nat.lt_or_ge i l.length with q2 | q2
    · rw [List.getElem?_append_left q2] at ha
      rw [List.getElem?_append_right q] at hb
      have e : i = l.length - 1 := by omega
      have e2 : i + 1 - l.length = 0 := by omega
      rw [e2] at hb
      refine h a b ?_ ?_
      · rw [List.getLast?_eq_getElem?, ← e]; exact ha
      · rw [List.head?_eq_getElem?]; exact hb
    · rw [List.getElem?_append_right q2] at ha
      rw [List.getElem?_append_right (by omega)] at hb
      exact h2 (i - l.length) a b ha (by rw [← hb]; congr 1; omega)
theorem NB.undo {l : List Nat} (h : NB l) : NB (undo l) := fun i a b ha hb => by
  unfold FW.undo at ha hb
  rw [List.getElem?_map] at ha hb
  obtain ⟨x, hx, rfl⟩ := Option.map_eq_some_iff.mp ha
  obtain ⟨y, hy, rfl⟩ := Option.map_eq_some_iff.mp hb
  have lx := (List.getElem?_eq_some_iff.mp hx).1
  have ly := (List.getElem?_eq_some_iff.mp hy).1
  rw [List.length_reverse] at lx ly
  rw [List.getElem?_reverse lx] at hx
  rw [List.getElem?_reverse ly] at hy
  have := h (l.length - 1 - (i + 1)) y x hy (by rw [← hx]; congr 1; omega)
  rw [flip_flip]
  intro e
  exact this e.symm
theorem fold_nb (l st : List Nat) (h : NB (st.reverse ++ l)) : l.foldl pushR st = l.reverse ++ st := by
  induction l generalizing st with
  | nil => rfl
  | cons c r ih =>
    have e : pushR st c = c :: st := by
      cases st with
      | nil => rfl
      | cons t q =>
        have : t ≠ flip c := NB.mid (l := q.reverse) (m := r) (by simpa using h)
        show (if t = flip c then q else c :: t :: q) = _
        rw [if_neg this]
    rw [List.foldl_cons, e, ih (c :: st) (by simpa using h)]
    simp
theorem nb_red {l : List Nat} (h : NB l) : red l = l := by
  unfold red
  rw [fold_nb l [] (by simpa using h)]
  simp
theorem push_nb {st : List Nat} (h : NB st.reverse) (c : Nat) : NB (pushR st c).reverse := by
  unfold pushR
  split
  · rename_i t r
    split
    · rw [List.reverse_cons] at h; exact h.left
    · rename_i hne
      rw [List.reverse_cons]
      refine h.join (fun i a b ha hb => by simp at hb) (fun a b ha hb => ?_)
      simp at ha hb
      subst ha hb
      exact hne
  · exact fun i a b ha hb => by simp at hb
theorem red_nb (l : List Nat) : NB (red l) := by
  have key : ∀ (l st : List Nat), NB st.reverse → NB (l.foldl pushR st).reverse := by
    intro l
    induction l with
    | nil => intro st h; exact h
    | cons c r ih => intro st h; exact ih _ (push_nb h c)
  exact key l [] NB.nil
theorem nb_of_red {l : List Nat} (h : red l = l) : NB l := h ▸ red_nb l
theorem red_red (l : List Nat) : red (red l) = red l := nb_red (red_nb l)

/-! ### round words of reduced ones -/
theorem rgo_lt (l : List Nat) (hn : NB l) (hne : l ≠ []) : ∀ f m, 2 * m < l.length → 2 * rgo l f m < l.length
  | 0, m, h => h
  | f + 1, m, h => by
    unfold rgo
    split
    · rename_i h2
      refine rgo_lt l hn hne f (m + 1) ?_
      rcases Nat.lt_or_ge (2 * (m + 1)) l.length with q | q
      · exact q
      · exfalso
        have h3 := h2.1
        have e : l.length - 1 - m = m + 1 := by omega
        rw [e] at h2
        exact hn m _ _ (getD_some (z := 0) (by omega)) (getD_some (z := 0) (by omega)) h2.2
    · exact h
theorem rK_lt {l : List Nat} (hn : NB l) (h : l ≠ []) : 2 * rK l < l.length := rgo_lt l hn h _ 0 (by have := List.length_pos_iff.mpr h; omega)
theorem rC_len (l : List Nat) : (rC l).length ≤ l.length := by
  unfold rC
  rw [List.length_take, List.length_drop]; omega
theorem undo_len (l : List Nat) : (undo l).length = l.length := by unfold undo; rw [List.length_map, List.length_reverse]
theorem rA_len (l : List Nat) : (rA l).length = rK l := by
  unfold rA
  rw [List.length_take]
  have := rK_le l
  omega
theorem rC_len2 (l : List Nat) : (rC l).length = l.length - 2 * rK l := by
  unfold rC
  rw [List.length_take, List.length_drop]
  have := rK_le l
  omega
theorem rC_ne {l : List Nat} (hn : NB l) (h : l ≠ []) : rC l ≠ [] := by
  intro e
  have h1 := rC_len2 l
  have h2 := rK_lt hn h
  rw [e] at h1
  simp at h1
  omega
theorem per_pos {l : List Nat} (h : l ≠ []) : 0 < per l := by
  unfold per
  cases (List.range (l.length - 1)).find? fun k => perOk l (k + 1) with
  | none => exact List.length_pos_iff.mpr h
  | some k => exact Nat.succ_pos _
theorem per_le (l : List Nat) : per l ≤ l.length := by
  unfold per
  cases h : (List.range (l.length - 1)).find? fun k => perOk l (k + 1) with
  | none => exact Nat.le_refl _
  | some k =>
    have := List.mem_range.mp (List.mem_of_find?_eq_some h)
    show k + 1 ≤ _
    omega
end FW
set_option Elab.async false
set_option linter.all false
set_option maxRecDepth 100000
set_option maxHeartbeats 4000000
namespace FW
open PySem PySem.Spec PyProof.Rows L2 He
section
variable {P : Program} {w : World} {K : PySem.W.Frag} {mg : Str → Option Value} {base : Heap}
/-! ### words that are led -/
def ledB (l m : List Nat) : Bool := (begun (rC l) (rC m)).isSome
abbrev spAreLed : Sp := Pur (fun x : List Nat × List Nat × List Nat => [T x.1, T x.2.1, T x.2.2]) (fun x => LetOk x.1 ∧ isR x.1 x.2.1 = true ∧ isR x.1 x.2.2 = true) (fun x => Bo (ledB x.2.1 x.2.2))
theorem sc_are_led : FnScope ["letters", "one", "other"] ["letters", "one", "other"] (defScope s_are_led) := ⟨rfl, rfl, rfl, by decide +kernel, rfl, by decide +kernel, by decide +kernel⟩
theorem ok_are_led (C : Tx K mg) : Cal P w K mg base "are_led" 3 5 spAreLed := by
  refine C.cal (k := 4) ix_are_led gl_are_led (ps := ["letters", "one", "other"]) sc_are_led (fun _ _ _ _ _ _ us hl => match us, hl with | [_, _, _], _ => rfl) (fun _ => rfl) (fun cdv B outer s H E z vs w0 hr hv hp => ?_)
  have nd := sc_are_led.nd
  obtain ⟨ls, l, m⟩ := z
  try dsimp only at hp
  obtain ⟨v1, v2, v3, rfl, e1, e2, e3⟩ := args3 hv
  have e1 : v1 = .str (S (ls)) := e1
  subst e1
  have e2 : v2 = .str (S (l)) := e2
  subst e2
  have e3 : v3 = .str (S (m)) := e3
  subst e3
  obtain ⟨hL, h1, h2⟩ := hp
  have hl := isR_len h1
  have hm := isR_len h2
  have a1 := isR_asc hL h1
  have a2 := isR_asc hL h2
  refine go_drop (ce_call (R := fun _ => No) (ls, l, m) (ok_need_pair_of_words C) hr (ca_cons (cv 0) (ca_cons (cv 1) (ca1 (cv 2)))) ⟨hL, h1, h2⟩) fun w1 l1 => ?_
  refine go_ret (ce_notN (ce_call (R := fun x : List Nat × List Nat => Is (optI (begun x.1 x.2))) (rC l, rC m) (ok_begun_elsewhere C) hr (ca_cons (CE.toT (ce_ixTup (ce_call (R := fun l => Da K (.tuple [strD (rA l), strD (rC l)])) l (ok_round_by C) hr (ca1 (cv 1)) ⟨a1, by omega⟩) ce_int rfl)) (ca1 (CE.toT (ce_ixTup (ce_call (R := fun l => Da K (.tuple [strD (rA l), strD (rC l)])) m (ok_round_by C) hr (ca1 (cv 2)) ⟨a2, by omega⟩) ce_int rfl)))) ⟨by have := rC_len l; show (rC l).length ≤ 100000; omega, by have := rC_len m; show (rC m).length ≤ 100000; omega⟩)) fun v w2 l2 hv => ⟨l1.trans l2, ?_⟩
  rw [hv]
  show V.bl _ = V.bl (ledB l m)
  unfold ledB
  cases begun (rC l) (rC m) <;> rfl
/-! ### roots -/
def rootT (l : List Nat) : List Nat := rA l ++ (rC l).take (per (rC l)) ++ undo (rA l)
def rootN (l : List Nat) : Nat := (rC l).length / per (rC l)
theorem rA_asc {l : List Nat} (h : Asc l) : Asc (rA l) := fun c hc => h c (List.mem_of_mem_take hc)
abbrev spRoot (K : PySem.W.Frag) : Sp := Pur (fun l : List Nat => [T l]) (fun l => Asc l ∧ l.length ≤ 100000 ∧ l ≠ [] ∧ NB l) (fun l => Da K (.tuple [strD (rootT l), .int (rootN l)]))
theorem sc_root_by : FnScope ["word", "ahead", "own", "many"] ["word"] (defScope s_root_by) := ⟨rfl, rfl, rfl, by decide +kernel, rfl, by decide +kernel, by decide +kernel⟩
theorem ok_root_by (C : Tx K mg) : Cal P w K mg base "root_by" 1 3 (spRoot K) := by
  refine C.cal (k := 2) ix_root_by gl_root_by (ps := ["word"]) sc_root_by (fun _ _ _ _ _ _ us hl => match us, hl with | [_], _ => rfl) (fun _ => rfl) (fun cdv B outer s H E z vs w0 hr hv hp => ?_)
  have nd := sc_root_by.nd
  obtain ⟨v1, rfl, e1⟩ := args1 hv
  have e1 : v1 = .str (S (z)) := e1
  subst e1
  obtain ⟨ha, hl, hne, hnb⟩ := hp
  refine go_unpack2 (i := 1) (j := 2) rfl (ce_call (R := fun l => Da K (.tuple [strD (rA l), strD (rC l)])) z (ok_round_by C) hr (ca1 (cv 0)) ⟨ha, hl⟩) (fun u v w1 l1 hu hv => ?_) nd
  have hu : Dp K w1.G u (.str (S (rA z))) := hu
  have hv : Dp K w1.G v (.str (S (rC z))) := hv
  cases hu
  cases hv
  have h1 := rC_len z
  have h2 := rA_len z
  have h3 := rK_le z
  refine go_set (i := 3) (ce_call (R := fun l => I (per l)) (rC z) (ok_period_of C) hr (ca1 (cv 2)) (by show (rC z).length ≤ 100000; omega)) (fun v w2 l2 hv => ?_) nd
  have hv : v = _ := hv
  subst hv
  refine go_ret (ce_tup (ds := [strD (rootT z), .int (rootN z)]) (ca_cons (CE.daT (ce_addT (ce_addT (cv 1) (ce_upto (cv 2) (cv 3) (by omega)) (by rw [List.length_take]; omega)) (ce_call (R := fun l => T (undo l)) (rA z) (ok_undone_by C) hr (ca1 (cv 1)) ⟨rA_asc ha, by omega⟩) (by rw [undo_len, List.length_append, List.length_take]; omega))) (ca_cons (CE.daI (CE.castI (ce_fdiv (ce_lenT (C.free fr_len) (cv 2) (by omega)) (cv 3) ⟨by have := per_pos (rC_ne hnb hne); omega, by have := per_le (rC z); omega⟩) (by unfold rootN; rw [Int.natCast_ediv]))) ca_nil))) fun v w3 l3 hv => ⟨(l1.trans l2).trans l3, hv⟩
abbrev spRootOf (K : PySem.W.Frag) : Sp := Pur (fun x : List Nat × List Nat => [T x.1, T x.2]) (fun x => LetOk x.1 ∧ isR x.1 x.2 = true ∧ x.2 ≠ []) (fun x => Da K (.tuple [strD (rootT x.2), .int (rootN x.2)]))
theorem sc_root_of : FnScope ["letters", "word"] ["letters", "word"] (defScope s_root_of) := ⟨rfl, rfl, rfl, by decide +kernel, rfl, by decide +kernel, by decide +kernel⟩
theorem ok_root_of (C : Tx K mg) : Cal P w K mg base "root_of" 2 4 (spRootOf K) := by
  refine C.cal (k := 3) ix_root_of gl_root_of (ps := ["letters", "word"]) sc_root_of (fun _ _ _ _ _ _ us hl => match us, hl with | [_, _], _ => rfl) (fun _ => rfl) (fun cdv B outer s H E z vs w0 hr hv hp => ?_)
  have nd := sc_root_of.nd
  obtain ⟨ls, l⟩ := z
  try dsimp only at hp
  obtain ⟨v1, v2, rfl, e1, e2⟩ := args2 hv
  have e1 : v1 = .str (S (ls)) := e1
  subst e1
  have e2 : v2 = .str (S (l)) := e2
  subst e2
  obtain ⟨hL, h1, hne⟩ := hp
  have hlen := isR_len h1
  refine go_drop (ce_call (R := fun l => T l) ls (ok_need_letters C) hr (ca1 (cv 0)) hL) fun w1 l1 => ?_
  refine go_skip (ct_not (ct_truthT (ce_call (R := fun x : List Nat × List Nat × List Nat => T x.2.2) ([119, 111, 114, 100], ls, l) (ok_need_reduced C) hr (ca_cons (ce_str [119, 111, 114, 100]) (ca_cons (cv 0) (ca1 (cv 1)))) ⟨hL, h1, by show l.length ≤ 100000; omega⟩) (by show l.length ≤ 1000000; omega))) (by cases l with | nil => exact absurd rfl hne | cons a r => rfl) fun w2 l2 => ?_
  exact go_ret (ce_call (R := fun l => Da K (.tuple [strD (rootT l), .int (rootN l)])) l (ok_root_by C) hr (ca1 (cv 1)) ⟨isR_asc hL h1, by omega, hne, nb_of_red (isR_red h1)⟩) fun v w3 l3 hv => ⟨(l1.trans l2).trans l3, hv⟩
/-! ### maps -/
def imgOk (ls : List Nat) (ws : List (List Nat)) : Prop := ws.length = ls.length ∧ ∀ x ∈ ws, isR ls x = true
abbrev tupT (ws : List (List Nat)) : PyData := .tuple (ws.map strD)
abbrev spAreImages (K : PySem.W.Frag) : Sp := Pur (fun x : List Nat × List (List Nat) => [T x.1, Da K (tupT x.2)]) (fun x => LetOk x.1 ∧ imgOk x.1 x.2) (fun _ => Bo true)
theorem ce_lenTu {U : Vol} {X : Cx} {e : Expr} {σ : Sg} {w : Wd U} {p pos : Pos} {ds : List PyData} (hm : X.mg "len" = none) (h : CE X e σ w (Da X.K (.tuple ds))) (hg : Gl X "len" := by rfl) (hs : starEach [e] X.env = [(false, eval e X.env)] := by rfl) : CE X (.Call (.Name "len" p) [e] [] pos) σ w (I ds.length) := fun w1 l Q q =>
  ew_bi call_len_seq hm PySem.boot_len h.cw hg (by decide) (by decide) hs w1 l Q fun v w2 l2 hv => by
    have hv : Dp X.K w2.G v (.tuple ds) := hv
    cases hv with
    | @tup a xs _ ht hd =>
      refine ⟨a, xs, rfl, .inr (Evl.ex_t w2.ex ht), ?_⟩
      rw [dpa_len hd]; exact q _ w2 l2 rfl
theorem sc_are_images : FnScope ["letters", "value", "word"] ["letters", "value"] (defScope s_are_images) := ⟨rfl, rfl, rfl, by decide +kernel, rfl, by decide +kernel, by decide +kernel⟩
theorem ok_are_images (C : Tx K mg) : Cal P w K mg base "are_images" 2 3 (spAreImages K) := by
  refine C.cal (k := 2) ix_are_images gl_are_images (ps := ["letters", "value"]) sc_are_images (fun _ _ _ _ _ _ us hl => match us, hl with | [_, _], _ => rfl) (fun _ => rfl) (fun cdv B outer s H E z vs w0 hr hv hp => ?_)
  have nd := sc_are_images.nd
  obtain ⟨ls, ws⟩ := z
  try dsimp only at hp
  obtain ⟨v1, v2, rfl, e1, e2⟩ := args2 hv
  have e1 : v1 = .str (S (ls)) := e1
  subst e1
  have e2 : Dp K w0.G v2 (tupT ws) := e2
  obtain ⟨hL, h1, h2⟩ := hp
  have hl4 := hL.2.1
  refine go_skip (ct_or2 (ct_not (ct_val (ce_isiTup (t := "tuple") (r := true) (C.free fr_isinstance) (C.free fr_tuple) PyProof.Rows.boot_tuple (ce_var 1 (P := Da K (tupT ws)) rfl e2) (kit_ty (by decide +kernel))))) fun _ => ct_neI (ce_lenTu (C.free fr_len) (ce_var 1 (P := Da K (tupT ws)) rfl e2)) (ce_lenT (C.free fr_len) (cv 0) (by omega))) ?_ fun w1 l1 => ?_
  · have e : (((ws.map strD).length : Nat) : Int) = ls.length := by rw [List.length_map, h1]
    rw [decide_eq_true e]; rfl
  refine go_ret (ce_allQ (bs := ws.map fun x => isR ls x) (C.free fr_all) (CN.cq (CN.cast (cn_ln (ln_mTu (j := 2) strD (fun x => .bool (isR ls x)) (ce_var 1 (P := Da K (tupT ws)) rfl (dp_ex l1.g e2)) (by omega) (fun x v w' hx l' dv => fun _ _ _ _ _ => by
      have dv : Dp K w'.G v (.str (S x)) := dv
      cases dv
      exact CE.daB (ce_call (R := fun x : List Nat × List Nat => Bo (isR x.1 x.2)) (ls, x) (ok_is_reduced_by C) hr (ca_cons (cv 0) (ca1 (cv 2))) ⟨hL, by have := isR_len (h2 x hx); show x.length ≤ 100000; omega⟩))) rfl nd (blkOk_by (N := ["letters", "value", "word"]) (sc := defScope s_are_images) (by decide +kernel)) (fun _ _ _ _ _ => pg_name nd rfl (Or.inl rfl))) (by rw [List.map_map]; rfl))) rfl) fun v w2 l2 hv => ⟨l1.trans l2, ?_⟩
  rw [hv]
  show V.bl _ = V.bl true
  rw [List.all_eq_true.mpr]
  intro t ht
  obtain ⟨c, h1, rfl⟩ := List.mem_map.mp ht
  exact h2 c h1
end
end FW
set_option Elab.async false
set_option linter.all false
set_option maxRecDepth 100000
set_option maxHeartbeats 4000000
namespace FW
open PySem PySem.Spec PyProof.Rows L2 He
section
variable {P : Program} {w : World} {K : PySem.W.Frag} {mg : Str → Option Value} {base : Heap}
/-! ### Map -/
def mapF (x : List Nat × List (List Nat)) : List (Str × PyData) := [("letters", strD x.1), ("images", tupT x.2)]
theorem fldD2 {K : PySem.W.Frag} {G : Hp} {f g : Str} {u v : Vv} {d e : PyData} (hu : Dp K G u d) (hv : Dp K G v e) (hne : (f == g) = false := by decide) : FldD K G (putF g v (putF f u [])) [(f, d), (g, e)] := by
  intro q hq
  rcases List.mem_cons.mp hq with rfl | hq
  · refine ⟨u, ?_, hu⟩
    rw [lookup_putF, lookup_putF]
    have : ¬ g = f := fun e => by rw [e] at hne; simp at hne
    have h2 : ¬ f = g := fun e => this e.symm
    simp [h2]
  · rcases List.mem_cons.mp hq with rfl | hq
    · refine ⟨v, ?_, hv⟩
      rw [lookup_putF]; simp
    · cases hq
theorem sc_Map_init : FnScope ["self", "letters", "images", "known"] ["self", "letters", "images"] (defScope s_Map_init) := ⟨rfl, rfl, rfl, by decide +kernel, rfl, by decide +kernel, by decide +kernel⟩
theorem mak_Map (C : Tx K mg) : Mak P w K mg base "Map" (ga K "Map") 3 4 (Ini (ga K "Map") (fun x : List Nat × List (List Nat) => [T x.1, Da K (tupT x.2)]) (fun x => LetOk x.1 ∧ imgOk x.1 x.2) (fun z fs G => FldD K G fs (mapF z))) := by
  refine C.mak (k := 3) ix_Map_init gl_Map mk_Map (ps := ["self", "letters", "images"]) sc_Map_init (fun _ _ _ _ _ _ us hl => match us, hl with | [_, _, _], _ => rfl) (fun _ => rfl) (fun cdv B outer s H E z vs w00 w0 x0 dx hr l0 n0 o0 hv hp => ?_)
  have nd := sc_Map_init.nd
  obtain ⟨ls, ws⟩ := z
  try dsimp only at hp
  obtain ⟨v1, v2, rfl, e1, e2⟩ := args2 hv
  have e1 : v1 = .str (S (ls)) := e1
  subst e1
  have e2 : Dp K w0.G v2 (tupT ws) := e2
  obtain ⟨hL, hI⟩ := hp
  refine go_skip (ct_not (ct_val (ce_call (R := fun _ => Bo true) ls (ok_are_letters C) hr (ca1 (cv 1)) hL))) rfl fun w1 l1 => ?_
  refine go_set (i := 3) (P := Da K (tupT ws)) (ce_if (t := false) (ct_val (ce_isiTup (t := "list") (r := false) (C.free fr_isinstance) (C.free fr_list) PyProof.Rows.boot_list (ce_var 2 (P := Da K (tupT ws)) rfl (dp_ex l1.g e2)) (kit_ty (by decide +kernel)))) (fun h => absurd h (by decide)) (fun _ => ce_var 2 (P := Da K (tupT ws)) rfl (dp_ex l1.g e2))) (fun v w2 l2 hv => ?_) nd
  refine go_skip (ct_not (ct_val (ce_call (R := fun _ => Bo true) (ls, ws) (ok_are_images C) hr (ca_cons (cv 1) (ca1 (ce_var 3 (P := Da K (tupT ws)) rfl hv))) ⟨hL, hI⟩))) rfl fun w3 l3 => ?_
  have o3 := o0.mono ((l1.trans l2).trans l3)
  refine go_fld 0 o3 (cv 1) (C.cls cl_Map) (C.noat na_Map_letters) (by decide) fun u w4 l4 o4 hu => ?_
  have l04 := (((l0.trans l1).trans l2).trans l3).trans l4
  have hu : u = _ := hu
  subst hu
  refine go_fld 0 o4.put (ce_var 3 (P := Da K (tupT ws)) rfl (dp_ex (l3.g.trans l4.g) hv)) (C.cls cl_Map) (C.noat na_Map_images) (Nat.le_of_ble_eq_true rfl) fun u w5 l5 o5 hu => ?_
  refine go_nil ⟨((Le.putO l04 n0 o4).trans l5).putO n0 o5, _, o5.put, ?_⟩
  exact fldD2 (.str _) hu
/-! ### words mapped -/
theorem valV_of {kvs : List (Key × Vv)} {k : Key} {v : Vv} (h : (k, v) ∈ kvs) (hu : ∀ u, (k, u) ∈ kvs → u = v) : valV kvs k = some v := by
  unfold valV
  cases q : kvs.find? fun kv => decide (kv.1 = k) with
  | none => 
    have := List.find?_eq_none.mp q _ h
    simp at this
  | some p =>
    have h1 := List.find?_some q
    have h2 := List.mem_of_find?_eq_some q
    obtain ⟨pk, pv⟩ := p
    have h1 : pk = k := of_decide_eq_true h1
    subst h1
    show some pv = some v
    rw [hu pv h2]
theorem valV_no {kvs : List (Key × Vv)} {k : Key} (h : ∀ u, (k, u) ∉ kvs) : valV kvs k = none := by
  unfold valV
  rw [List.find?_eq_none.mpr]
  · rfl
  · rintro ⟨pk, pv⟩ hp z
    have z : pk = k := of_decide_eq_true z
    subst z
    exact h pv hp
theorem valV_merge : ∀ (more kvs : List (Key × Vv)) (k : Key), valV (mergeK kvs more) k = (valV more.reverse k).or (valV kvs k)
  | [], kvs, k => rfl
  | m :: ms, kvs, k => by
    show valV (mergeK (putK kvs m.1 m.2) ms) k = _
    rw [valV_merge ms, valV_put, List.reverse_cons]
    have e : valV (ms.reverse ++ [m]) k = (valV ms.reverse k).or (if k = m.1 then some m.2 else none) := by
      unfold valV
      rw [List.find?_append]
      cases ms.reverse.find? fun kv => decide (kv.1 = k) with
      | some p => rfl
      | none =>
        by_cases h : k = m.1
        · subst h; simp [List.find?_cons]
        · have h' : ¬ m.1 = k := fun e => h e.symm
          simp [List.find?_cons, h, h']
    rw [e, Option.or_assoc]
    congr 1
    split <;> rfl
def img1 (ls : List Nat) (ws : List (List Nat)) (c : Nat) : List Nat := ws.getD (ls.idxOf c) []
def img (ls : List Nat) (ws : List (List Nat)) (c : Nat) : List Nat := if c ∈ ls then img1 ls ws c else undo (img1 ls ws (loc c))
def mp (ls : List Nat) (ws : List (List Nat)) (l : List Nat) : List Nat := red (l.flatMap (img ls ws))
theorem zip_mem {ls : List Nat} {vs : List Vv} (hn : ls.Nodup) (h : vs.length = ls.length) {c : Nat} {u : Vv} : ((tk [c], u) ∈ zipK ls vs) ↔ (c ∈ ls ∧ vs[ls.idxOf c]? = some u) := by
  unfold zipK
  rw [List.mem_map]
  constructor
  · rintro ⟨⟨d, v⟩, hm, e⟩
    have e1 : d = c := by
      have := S_inj (Sum.inr.inj (Prod.mk.inj e).1)
      simpa using this
    have e2 : v = u := (Prod.mk.inj e).2
    subst e1 e2
    obtain ⟨k, hk⟩ := List.mem_iff_getElem?.mp hm
    obtain ⟨h1, h2⟩ := List.getElem?_zip_eq_some.mp hk
    have : ls.idxOf d = k := by
      have hlt := (List.getElem?_eq_some_iff.mp h1).1
      have he := (List.getElem?_eq_some_iff.mp h1).2
      have he : ls[k] = d := he
      rw [← he]
      exact hn.idxOf_getElem k hlt
    exact ⟨List.mem_of_getElem? h1, by rw [this]; exact h2⟩
  · rintro ⟨hc, hu⟩
    refine ⟨(c, u), ?_, rfl⟩
    have hlt := List.idxOf_lt_length_of_mem hc
    refine List.mem_iff_getElem?.mpr ⟨ls.idxOf c, List.getElem?_zip_eq_some.mpr ⟨?_, hu⟩⟩
    rw [List.getElem?_eq_getElem hlt, List.getElem_idxOf]
theorem val_zip {ls : List Nat} {vs : List Vv} (hn : ls.Nodup) (h : vs.length = ls.length) {c : Nat} (hc : c ∈ ls) : ∃ u, vs[ls.idxOf c]? = some u ∧ valV (mergeK [] (zipK ls vs)) (tk [c]) = some u := by
  have hlt := List.idxOf_lt_length_of_mem hc
  refine ⟨vs[ls.idxOf c]'(by omega), List.getElem?_eq_getElem _, ?_⟩
  rw [valV_merge, valV_of (v := vs[ls.idxOf c]'(by omega)) (List.mem_reverse.mpr ((zip_mem hn h).mpr ⟨hc, List.getElem?_eq_getElem _⟩)) fun u hu => ?_]
  · rfl
  · have := ((zip_mem hn h).mp (List.mem_reverse.mp hu)).2
    rw [List.getElem?_eq_getElem (by omega)] at this
    exact (Option.some.inj this).symm
theorem val_zip_no {ls : List Nat} {vs : List Vv} (hn : ls.Nodup) (h : vs.length = ls.length) {c : Nat} (hc : c ∉ ls) : valV (mergeK [] (zipK ls vs)) (tk [c]) = none := by
  rw [valV_merge, valV_no fun u hu => hc ((zip_mem hn h).mp (List.mem_reverse.mp hu)).1]
  rfl
theorem mergeK_nodup : ∀ (more kvs : List (Key × Vv)), ((kvs ++ more).map (·.1)).Nodup → mergeK kvs more = kvs ++ more
  | [], kvs, _ => (List.append_nil _).symm
  | m :: ms, kvs, h => by
    show mergeK (putK kvs m.1 m.2) ms = _
    have hno : valV kvs m.1 = none := valV_no fun u hu => by
      rw [List.map_append, List.nodup_append] at h
      exact h.2.2 m.1 (List.mem_map.mpr ⟨_, hu, rfl⟩) m.1 (List.mem_map.mpr ⟨m, List.mem_cons_self .., rfl⟩) rfl
    rw [putK_new _ hno, mergeK_nodup ms _ (by simpa using h)]
    simp
theorem upc_loc {c : Nat} (h : 97 ≤ c ∧ c ≤ 122) : loc (upc c) = c ∧ loc c = c ∧ upc c = c - 32 ∧ flip c = upc c ∧ flip (upc c) = c := by
  unfold upc loc flip
  simp only [if_pos h]
  refine ⟨?_, ?_, trivial, ?_, ?_⟩
  all_goals (repeat' split) <;> omega
theorem vs_strs {ws : List (List Nat)} {k : Nat} {u : Vv} (h : ((ws.map S).map V.str)[k]? = some u) : u = .str (S (ws.getD k [])) := by
  rw [List.getElem?_map, List.getElem?_map] at h
  cases q : ws[k]? with
  | none => rw [q] at h; cases h
  | some x =>
    rw [q] at h
    rw [List.getD_eq_getElem?_getD, q]
    exact (Option.some.inj h).symm
/-- the dict of the images, of the opposites too -/
def imgK (ls : List Nat) (ws : List (List Nat)) : List (Key × Vv) := mergeK (mergeK [] (zipK ls ((ws.map S).map V.str))) (ls.map fun c => (tk [upc c], V.str (S (undo (img1 ls ws c)))))
theorem imgK_val {ls : List Nat} {ws : List (List Nat)} (hL : LetOk ls) (hw : ws.length = ls.length) {c : Nat} (hc : c ∈ signs ls) : valV (imgK ls ws) (tk [c]) = some (.str (S (img ls ws c))) := by
  have hvs : ((ws.map S).map V.str).length = ls.length := by simp [hw]
  unfold imgK
  rw [valV_merge]
  rcases List.mem_append.mp hc with hc | hc
  · have h1 := hL.2.2.2 c hc
    rw [valV_no fun u hu => ?_]
    · obtain ⟨u, h2, h3⟩ := val_zip hL.2.2.1 hvs hc
      rw [h3, vs_strs h2]
      unfold img
      rw [if_pos hc]; rfl
    · obtain ⟨d, hd, e⟩ := List.mem_map.mp (List.mem_reverse.mp hu)
      have e1 : upc d = c := by
        have := S_inj (Sum.inr.inj (Prod.mk.inj e).1)
        simpa using this
      have h2 := hL.2.2.2 d hd
      have h3 := (upc_loc h2).2.2.1
      omega
  · obtain ⟨d, hd, rfl⟩ := List.mem_map.mp hc
    have h2 := hL.2.2.2 d hd
    have h3 := upc_loc h2
    have hno : upc d ∉ ls := fun h => by
      have := hL.2.2.2 _ h
      omega
    rw [valV_of (v := .str (S (undo (img1 ls ws d)))) (List.mem_reverse.mpr (List.mem_map.mpr ⟨d, hd, rfl⟩)) fun u hu => ?_]
    · unfold img
      rw [if_neg hno, h3.1]; rfl
    · obtain ⟨d', hd', e⟩ := List.mem_map.mp (List.mem_reverse.mp hu)
      have e1 : upc d' = upc d := by
        have := S_inj (Sum.inr.inj (Prod.mk.inj e).1)
        simpa using this
      have h4 := upc_loc (hL.2.2.2 d' hd')
      have : d' = d := by omega
      subst this
      exact (Prod.mk.inj e).2.symm
theorem img1_mem {ls : List Nat} {ws : List (List Nat)} (hI : imgOk ls ws) {c : Nat} (hc : c ∈ ls) : img1 ls ws c ∈ ws := by
  unfold img1
  have hlt := List.idxOf_lt_length_of_mem hc
  rw [List.getD_eq_getElem?_getD, List.getElem?_eq_getElem (by rw [hI.1]; exact hlt)]
  exact List.getElem_mem _
theorem img_len {ls : List Nat} {ws : List (List Nat)} (hL : LetOk ls) (hI : imgOk ls ws) {c : Nat} (hc : c ∈ signs ls) : (img ls ws c).length ≤ 1000 := by
  unfold img
  split
  · rename_i h; exact isR_len (hI.2 _ (img1_mem hI h))
  · rename_i h
    rcases List.mem_append.mp hc with hc | hc
    · exact absurd hc h
    · obtain ⟨d, hd, rfl⟩ := List.mem_map.mp hc
      rw [undo_len, (upc_loc (hL.2.2.2 d hd)).1]
      exact isR_len (hI.2 _ (img1_mem hI hd))
theorem flip_asc {c : Nat} (h : c < 128) : flip c < 128 := by unfold flip; (repeat' split) <;> omega
theorem undo_asc {l : List Nat} (h : Asc l) : Asc (undo l) := fun c hc => by
  unfold undo at hc
  obtain ⟨d, hd, rfl⟩ := List.mem_map.mp hc
  exact flip_asc (h d (List.mem_reverse.mp hd))
theorem img_asc {ls : List Nat} {ws : List (List Nat)} (hL : LetOk ls) (hI : imgOk ls ws) {c : Nat} (hc : c ∈ signs ls) : Asc (img ls ws c) := by
  unfold img
  split
  · rename_i h; exact isR_asc hL (hI.2 _ (img1_mem hI h))
  · rename_i h
    rcases List.mem_append.mp hc with hc | hc
    · exact absurd hc h
    · obtain ⟨d, hd, rfl⟩ := List.mem_map.mp hc
      rw [(upc_loc (hL.2.2.2 d hd)).1]
      exact undo_asc (isR_asc hL (hI.2 _ (img1_mem hI hd)))
theorem flat_len {l : List Nat} {f : Nat → List Nat} {n : Nat} (h : ∀ c ∈ l, (f c).length ≤ n) : (l.flatMap f).length ≤ l.length * n := by
  induction l with
  | nil => simp
  | cons c r ih =>
    rw [List.flatMap_cons, List.length_append, List.length_cons, Nat.succ_mul]
    have h1 := h c (List.mem_cons_self ..)
    have h2 := ih fun d hd => h d (List.mem_cons_of_mem _ hd)
    omega
abbrev spMapped (K : PySem.W.Frag) : Sp := Pur (fun x : (List Nat × List (List Nat)) × List Nat => [InsD K (ga K "Map") (mapF x.1), T x.2]) (fun x => LetOk x.1.1 ∧ imgOk x.1.1 x.1.2 ∧ (∀ c ∈ x.2, c ∈ signs x.1.1) ∧ x.2.length ≤ 100) (fun x => T (mp x.1.1 x.1.2 x.2))
theorem sc_mapped_by : FnScope ["told", "word", "images", "letter", "sign"] ["told", "word"] (defScope s_mapped_by) := ⟨rfl, rfl, rfl, by decide +kernel, rfl, by decide +kernel, by decide +kernel⟩
theorem ok_mapped_by (C : Tx K mg) : Cal P w K mg base "mapped_by" 2 2 (spMapped K) := by
  refine C.cal (k := 1) ix_mapped_by gl_mapped_by (ps := ["told", "word"]) sc_mapped_by (fun _ _ _ _ _ _ us hl => match us, hl with | [_, _], _ => rfl) (fun _ => rfl) (fun cdv B outer s H E z vs w0 hr hv hp => ?_)
  have nd := sc_mapped_by.nd
  obtain ⟨⟨ls, ws⟩, l⟩ := z
  try dsimp only at hp
  obtain ⟨v1, v2, rfl, e1, e2⟩ := args2 hv
  have e2 : v2 = .str (S (l)) := e2
  subst e2
  obtain ⟨hL, hI, hc, hl⟩ := hp
  have hl4 := hL.2.1
  have m1 : (("letters" : Str), strD ls) ∈ mapF (ls, ws) := List.mem_cons_self ..
  have m2 : (("images" : Str), tupT ws) ∈ mapF (ls, ws) := List.mem_cons_of_mem _ (List.mem_cons_self ..)
  have hmn : mergeK [] (ls.map fun c => (tk [upc c], V.str (S (undo (img1 ls ws c))))) = ls.map fun c => (tk [upc c], V.str (S (undo (img1 ls ws c)))) := by
    refine (mergeK_nodup _ [] ?_).trans (List.nil_append _)
    rw [List.nil_append, List.map_map]
    refine List.pairwise_map.mpr (List.Pairwise.imp_of_mem (fun {c d} hc hd hne e => hne ?_) hL.2.2.1)
    have e1 : upc c = upc d := by
      have := S_inj (Sum.inr.inj e)
      simpa using this
    have h1 := (upc_loc (hL.2.2.2 c hc)).1
    have h2 := (upc_loc (hL.2.2.2 d hd)).1
    rw [← h1, ← h2, e1]
  have told : ∀ (w' : Wd V0), Le w0 w' → InsD K (ga K "Map") (mapF (ls, ws)) v1 w'.G := fun w' l => MonoG.mono _ _ _ l.g e1
  refine go_setO (i := 2) (cw_dictZip (ds := ws.map strD) rfl (C.free fr_zip) (C.free fr_dict) (CE.toT (ce_fld (ce_var 0 (P := InsD K (ga K "Map") (mapF (ls, ws))) rfl (told _ (Le.refl _))) (C.cls cl_Map) (C.noat na_Map_letters) m1)) (ce_fld (ce_var 0 (P := InsD K (ga K "Map") (mapF (ls, ws))) rfl (told _ (Le.refl _))) (C.cls cl_Map) (C.noat na_Map_images) m2) (by rw [List.length_map]; exact hI.1.symm)) (fun q ob w1 l1 n1 o hob => ?_) nd
  obtain ⟨vs, rfl, hd⟩ := hob
  have evs := dpa_strs (xs := ws) hd
  subst evs
  have hvs : ((ws.map S).map V.str).length = ls.length := by rw [List.length_map, List.length_map]; exact hI.1
  have hzl : (mergeK [] (zipK ls ((ws.map S).map V.str))).length ≤ 4 := by
    refine Nat.le_trans (length_mergeK _ []) ?_
    unfold zipK
    rw [List.length_nil, Nat.zero_add, List.length_map, List.length_zip]
    omega
  have hu2 : ∀ {A : Around}, Room 1 A → A.units + 1 < cLine := fun h => by have := h.units; omega
  have hr1 : Room 1 _ := hr
  refine go_dupd 2 (x := "images") o (cw_dcT (j := 3) (fun c => [upc c]) (fun c => .str (S (undo (img1 ls ws c)))) (CE.toT (ce_fld (ce_var 0 (P := InsD K (ga K "Map") (mapF (ls, ws))) rfl (told _ l1)) (C.cls cl_Map) (C.noat na_Map_letters) m1)) (by omega)
      (fun c w' hc' l' => fun _ _ _ _ _ => ce_upper (x := [c]) (cv 3) (fun d hd => by rw [List.mem_singleton.mp hd]; exact let_asc hL c hc') (by simp))
      (fun c w' hc' l' => fun _ _ _ _ _ => by
        obtain ⟨u, h1, h2⟩ := val_zip hL.2.2.1 hvs hc'
        have eu := vs_strs h1
        subst eu
        exact ce_call (R := fun l => T (undo l)) (img1 ls ws c) (ok_undone_by C) hr1 (ca1 (ce_dget (l := [c]) (hu2 hr1) (dq_own 2 (o.mono l')) (cv 3) h2 (fun _ _ => rfl))) ⟨isR_asc hL (hI.2 _ (img1_mem hI hc')), by have := isR_len (hI.2 _ (img1_mem hI hc')); omega⟩)
      rfl nd (blkOk_by (N := ["told", "word", "images", "letter", "sign"]) (sc := defScope s_mapped_by) (by decide +kernel)) (fun _ _ _ _ _ => pg_name nd rfl (Or.inl rfl))) (fun ob w' hR => ⟨_, hR, by rw [hmn, List.length_map]; omega⟩) fun more w2 l2 o2 hR => ?_
  have hR := (HO.dK.inj hR).trans hmn
  subst hR
  have o3 : OwO _ q (.dK (imgK ls ws)) := o2.put (u := .dK (mergeK (mergeK [] (zipK ls ((ws.map S).map V.str))) (ls.map fun c => (tk [upc c], V.str (S (undo (img1 ls ws c)))))))
  have l3 : Le w0 (w2.putO q o2 (.dK (imgK ls ws))) := (l1.trans l2).putO n1 o2
  have hfl : (l.flatMap (img ls ws)).length ≤ 100000 := by
    have := flat_len (l := l) (f := img ls ws) (n := 1000) fun c h => img_len hL hI (hc c h)
    omega
  have efl : (l.map (img ls ws)).flatten = l.flatMap (img ls ws) := (List.flatMap_def ..).symm
  refine go_ret (ce_call (R := fun l => T (red l)) (l.flatMap (img ls ws)) (ok_reduced_by C) hr1 (ca1 (CE.castT (ce_joinQ (ce_str []) (CN.cq (CN.cast (cn_ln (ln_mT (j := 4) (fun c => strD (img ls ws c)) (cv 1) (by omega) (fun c w' hc' l' => fun _ _ _ _ _ => CE.daT (ce_dget (l := [c]) (hu2 hr1) (dq_own 2 (o3.mono l')) (cv 4) (imgK_val hL hI.1 (hc c hc')) (fun _ _ => rfl)))) rfl nd (blkOk_by (N := ["told", "word", "images", "letter", "sign"]) (sc := defScope s_mapped_by) (by decide +kernel)) (fun _ _ _ _ _ => pg_name nd rfl (Or.inl rfl))) (by rw [List.map_map]; rfl))) (by rw [efl]; omega)) efl)) ⟨fun c h => ?_, hfl⟩) fun v w4 l4 hv => ⟨l3.trans l4, hv⟩
  obtain ⟨d, hd, hcd⟩ := List.mem_flatMap.mp h
  exact img_asc hL hI (hc d hd) c hcd
end
end FW
set_option Elab.async false
set_option linter.all false
set_option maxRecDepth 100000
set_option maxHeartbeats 4000000
namespace FW
open PySem PySem.Spec PyProof.Rows L2 He
section
variable {P : Program} {w : World} {K : PySem.W.Frag} {mg : Str → Option Value} {base : Heap}
/-! ### returning what is one's own -/
theorem go_retO {U : Vol} {X : Cx} {e : Expr} {rest : List Stmt} {σ : Sg} {w : Wd U} {P : GP} {D : En U} {pos : Pos} (he : CE X e σ w P) (k : ∀ v w', Le w w' → P v w'.G → ∃ w'' : Wd U, w''.H = w'.H ∧ D.rt v w'') : Go X (.Return (some e) pos :: rest) σ w D :=
  s_of (pss_cons (ps_ret pe_can) pss_can) (he w (Le.refl _) _ fun v w2 l p => let ⟨w3, h1, h2⟩ := k v w2 l p; ⟨w3, h1, h2⟩)
abbrev spNeedFew : Sp := Pur (fun l : List Nat => [T l]) (fun l => LetOk l ∧ l.length ≤ 3) (fun l => T l)
theorem sc_need_few : FnScope ["letters"] ["letters"] (defScope s_need_few) := ⟨rfl, rfl, rfl, by decide +kernel, rfl, by decide +kernel, by decide +kernel⟩
theorem ok_need_few (C : Tx K mg) : Cal P w K mg base "need_few" 1 2 spNeedFew := by
  refine C.cal (k := 1) ix_need_few gl_need_few (ps := ["letters"]) sc_need_few (fun _ _ _ _ _ _ us hl => match us, hl with | [_], _ => rfl) (fun _ => rfl) (fun cdv B outer s H E z vs w0 hr hv hp => ?_)
  have nd := sc_need_few.nd
  obtain ⟨v1, rfl, e1⟩ := args1 hv
  have e1 : v1 = .str (S (z)) := e1
  subst e1
  obtain ⟨hL, h3⟩ := hp
  obtain ⟨t3, m3⟩ := C.int co_MOST_LETTERS_lettermoves
  refine go_skip (ct_or2 (ct_not (ct_val (ce_call (R := fun _ => Bo true) z (ok_are_letters C) hr (ca1 (cv 0)) hL))) fun _ => ct_gt (ce_lenT (C.free fr_len) (cv 0) (by omega)) (ce_glob rfl m3 ⟨_, rfl⟩)) (by simp; omega) fun w1 l1 => ?_
  exact go_ret (cv 0) fun v w2 l2 hv => ⟨l1.trans l2, hv⟩
abbrev sgD (l : List Nat) : PyData := .list (l.map fun c => strD [c])
def sl (ls : List Nat) : List Nat := srtT (signs ls)
theorem signs_len (ls : List Nat) : (signs ls).length = 2 * ls.length := by unfold signs; rw [List.length_append, List.length_map]; omega
theorem sl_mem {ls : List Nat} {c : Nat} : c ∈ sl ls ↔ c ∈ signs ls := (srtT_perm _).mem_iff
theorem sl_len (ls : List Nat) : (sl ls).length = 2 * ls.length := by rw [← signs_len]; exact (srtT_perm _).length_eq
abbrev spSignsOf (K : PySem.W.Frag) : Sp := Pur (fun l : List Nat => [T l]) LetOk (fun l => Da K (sgD (sl l)))
theorem sc_signs_of : FnScope ["letters"] ["letters"] (defScope s_signs_of) := ⟨rfl, rfl, rfl, by decide +kernel, rfl, by decide +kernel, by decide +kernel⟩
theorem ok_signs_of (C : Tx K mg) : Cal P w K mg base "signs_of" 1 1 (spSignsOf K) := by
  refine C.cal (k := 0) ix_signs_of gl_signs_of (ps := ["letters"]) sc_signs_of (fun _ _ _ _ _ _ us hl => match us, hl with | [_], _ => rfl) (fun _ => rfl) (fun cdv B outer s H E z vs w0 hr hv hp => ?_)
  have nd := sc_signs_of.nd
  obtain ⟨v1, rfl, e1⟩ := args1 hv
  have e1 : v1 = .str (S (z)) := e1
  subst e1
  have h4 := hp.2.1
  refine go_ret (CN.ce (cn_srtT hr.units (C.free fr_sorted) (ce_addT (cv 0) (ce_upper (cv 0) (let_asc hp) (by omega)) (by rw [List.length_map]; omega)) (by rw [List.length_append, List.length_map]; omega) rfl)) fun v w2 l2 hv => ⟨l2, hv⟩
def txts (ss : List Nat) : Nat → List (List Nat)
  | 0 => [[]]
  | n + 1 => (txts ss n).flatMap fun t => ss.map fun c => t ++ [c]
theorem txts_len (ss : List Nat) : ∀ n, (txts ss n).length = ss.length ^ n
  | 0 => rfl
  | n + 1 => by
    unfold txts
    rw [List.length_flatMap]
    have : ((txts ss n).map fun t => (ss.map fun c => t ++ [c]).length) = (txts ss n).map fun _ => ss.length := List.map_congr_left fun t _ => List.length_map _
    rw [this]
    have h2 : ∀ (l : List (List Nat)), (l.map fun _ => ss.length).sum = l.length * ss.length := fun l => by
      induction l with
      | nil => simp
      | cons a r ih => rw [List.map_cons, List.sum_cons, ih, List.length_cons, Nat.succ_mul]; omega
    rw [h2, txts_len ss n, Nat.pow_succ]
theorem txts_at {ss : List Nat} : ∀ {n : Nat} {t : List Nat}, t ∈ txts ss n → t.length = n ∧ ∀ c ∈ t, c ∈ ss
  | 0, t, h => by
    have h : t ∈ [([] : List Nat)] := h
    rw [List.mem_singleton.mp h]; exact ⟨rfl, fun c hc => by cases hc⟩
  | n + 1, t, h => by
    obtain ⟨u, hu, h⟩ := List.mem_flatMap.mp h
    obtain ⟨c, hc, rfl⟩ := List.mem_map.mp h
    obtain ⟨h1, h2⟩ := txts_at hu
    refine ⟨by rw [List.length_append, h1]; rfl, fun d hd => ?_⟩
    rcases List.mem_append.mp hd with hd | hd
    · exact h2 d hd
    · rw [List.mem_singleton.mp hd]; exact hc
abbrev txD (l : List (List Nat)) : PyData := .list (l.map strD)
abbrev spTextsL (K : PySem.W.Frag) : Sp := Pur (fun x : List Nat × Nat => [Da K (sgD x.1), I x.2]) (fun x => x.1.length ≤ 8 ∧ x.2 ≤ 4) (fun x => Da K (txD (txts x.1 x.2)))
abbrev spTextsT (K : PySem.W.Frag) : Sp := Pur (fun x : List Nat × Nat => [T x.1, I x.2]) (fun x => x.1.length ≤ 8 ∧ x.2 ≤ 4) (fun x => Da K (txD (txts x.1 x.2)))
theorem txts_few {ss : List Nat} {n k : Nat} (h : ss.length ≤ 8) (hk : k ≤ n) (hn : n ≤ 4) : (txts ss k).length ≤ 4096 := by
  rw [txts_len]
  refine Nat.le_trans (Nat.pow_le_pow_left h k) (Nat.le_trans (Nat.pow_le_pow_right (by decide) (Nat.le_trans hk hn)) (by decide))
theorem sc_texts_of : FnScope ["signs", "many", "found", "lap", "text", "sign"] ["signs", "many"] (defScope s_texts_of) := ⟨rfl, rfl, rfl, by decide +kernel, rfl, by decide +kernel, by decide +kernel⟩
theorem ok_texts_of_A (C : Tx K mg) : Cal P w K mg base "texts_of" 2 1 (spTextsL K) := by
  refine C.cal (k := 0) ix_texts_of gl_texts_of (ps := ["signs", "many"]) sc_texts_of (fun _ _ _ _ _ _ us hl => match us, hl with | [_, _], _ => rfl) (fun _ => rfl) (fun cdv B outer s H E z vs w0 hr hv hp => ?_)
  have nd := sc_texts_of.nd
  obtain ⟨ss, n⟩ := z
  try dsimp only at hp
  obtain ⟨v1, v2, rfl, e1, e2⟩ := args2 hv
  have e1 : Dp K w0.G v1 (sgD ss) := e1
  have e2 : v2 = .int ((n : Int)) := e2
  subst e2
  obtain ⟨h8, hn⟩ := hp
  refine go_setN (i := 2) (cn_lst (ds := [strD []]) (ca_cons (CE.daT (ce_str [])) ca_nil)) (fun p vs w1 l1 n1 o d => ?_) nd
  refine go_forR1 (i := 3) (n := (n : Int)) (C.free fr_range) (cv 1) (by omega) (fun k σ' w' => ∃ q us x, σ' = [some v1, some (.int (n : Int)), some (.ref q), x, none, none] ∧ w0.H q = none ∧ Own w' q us ∧ DpAll K w'.G us ((txts ss k).map strD) ∧ Le w0 w') (fun w' l => ⟨p, vs, _, rfl, n1, o.mono l, dpa_ex l.g d, l1.trans l⟩) ?_ ?_ PassesOwn.never rfl nd
  · rintro k σ' w' hk ⟨q, us, x, rfl, nq, oq, dq, l⟩
    have hfew := txts_few (k := k) h8 (by omega) hn
    refine go_setLc2 (i := 4) (j := 5) (n := 2) strD (fun c : Nat => strD [c]) (fun t c => strD (t ++ [c])) (cq_own 2 oq dq) inn_L (fun v w'' l'' => src_L (fun c : Nat => strD [c]) (fun _ _ _ _ _ => ce_var 0 (P := Da K (sgD ss)) rfl (dp_ex (l.g.trans l''.g) e1))) (fun t c u v w'' ht hc l'' du dv => fun _ _ _ _ _ => ?_) (Nat.le_trans (Nat.mul_le_mul hfew h8) (by decide)) (by decide) rfl nd (blkOk_by (N := ["signs", "many", "found", "lap", "text", "sign"]) (sc := defScope s_texts_of) (by decide +kernel)) (fun _ _ _ _ _ => pg_name nd rfl (Or.inl rfl)) (fun _ _ _ _ _ => pg_name nd rfl (Or.inl rfl)) (fun q2 us2 w2 l2 n2 o2 d2 => ?_) (sw_true rfl rfl rfl (by decide +kernel))
    · have du : Dp K w''.G u (.str (S t)) := du
      have dv : Dp K w''.G v (.str (S [c])) := dv
      cases du
      cases dv
      exact CE.daT (ce_addT (cv 4) (cv 5) (by have := (txts_at ht).1; simp; omega))
    · refine go_nil ⟨q2, us2, _, rfl, l.new n2, o2, ?_, l.trans l2⟩
      have e : (txts ss (k + 1)).map strD = (txts ss k).flatMap fun t => ss.map fun c => strD (t ++ [c]) := by
        show ((txts ss k).flatMap fun t => ss.map fun c => t ++ [c]).map strD = _
        rw [List.map_flatMap]
        congr 1
        funext t
        rw [List.map_map]; rfl
      rw [e]; exact d2
  · rintro σ' w' ⟨q, us, x, rfl, nq, oq, dq, l⟩
    refine go_retO (cv 2) fun v w2 l2 hv => ?_
    have hv : v = _ := hv
    subst hv
    have o2 := oq.mono l2
    rw [Int.toNat_natCast] at dq
    exact ⟨w2.ice q o2, rfl, (l.trans l2).ice nq o2, ice_da o2 (dpa_ex l2.g dq)⟩
theorem ok_texts_of_T (C : Tx K mg) : Cal P w K mg base "texts_of" 2 1 (spTextsT K) := by
  refine C.cal (k := 0) ix_texts_of gl_texts_of (ps := ["signs", "many"]) sc_texts_of (fun _ _ _ _ _ _ us hl => match us, hl with | [_, _], _ => rfl) (fun _ => rfl) (fun cdv B outer s H E z vs w0 hr hv hp => ?_)
  have nd := sc_texts_of.nd
  obtain ⟨ss, n⟩ := z
  try dsimp only at hp
  obtain ⟨v1, v2, rfl, e1, e2⟩ := args2 hv
  have e1 : v1 = .str (S (ss)) := e1
  subst e1
  have e2 : v2 = .int ((n : Int)) := e2
  subst e2
  obtain ⟨h8, hn⟩ := hp
  refine go_setN (i := 2) (cn_lst (ds := [strD []]) (ca_cons (CE.daT (ce_str [])) ca_nil)) (fun p vs w1 l1 n1 o d => ?_) nd
  refine go_forR1 (i := 3) (n := (n : Int)) (C.free fr_range) (cv 1) (by omega) (fun k σ' w' => ∃ q us x, σ' = [some (.str (S ss)), some (.int (n : Int)), some (.ref q), x, none, none] ∧ w0.H q = none ∧ Own w' q us ∧ DpAll K w'.G us ((txts ss k).map strD) ∧ Le w0 w') (fun w' l => ⟨p, vs, _, rfl, n1, o.mono l, dpa_ex l.g d, l1.trans l⟩) ?_ ?_ PassesOwn.never rfl nd
  · rintro k σ' w' hk ⟨q, us, x, rfl, nq, oq, dq, l⟩
    have hfew := txts_few (k := k) h8 (by omega) hn
    refine go_setLc2 (i := 4) (j := 5) (n := 2) strD (fun c : Nat => strD [c]) (fun t c => strD (t ++ [c])) (cq_own 2 oq dq) inn_T (fun v w'' l'' => src_T (fun _ _ _ _ _ => cv 0)) (fun t c u v w'' ht hc l'' du dv => fun _ _ _ _ _ => ?_) (Nat.le_trans (Nat.mul_le_mul hfew h8) (by decide)) (by decide) rfl nd (blkOk_by (N := ["signs", "many", "found", "lap", "text", "sign"]) (sc := defScope s_texts_of) (by decide +kernel)) (fun _ _ _ _ _ => pg_name nd rfl (Or.inl rfl)) (fun _ _ _ _ _ => pg_name nd rfl (Or.inl rfl)) (fun q2 us2 w2 l2 n2 o2 d2 => ?_) (sw_true rfl rfl rfl (by decide +kernel))
    · have du : Dp K w''.G u (.str (S t)) := du
      have dv : Dp K w''.G v (.str (S [c])) := dv
      cases du
      cases dv
      exact CE.daT (ce_addT (cv 4) (cv 5) (by have := (txts_at ht).1; simp; omega))
    · refine go_nil ⟨q2, us2, _, rfl, l.new n2, o2, ?_, l.trans l2⟩
      have e : (txts ss (k + 1)).map strD = (txts ss k).flatMap fun t => ss.map fun c => strD (t ++ [c]) := by
        show ((txts ss k).flatMap fun t => ss.map fun c => t ++ [c]).map strD = _
        rw [List.map_flatMap]
        congr 1
        funext t
        rw [List.map_map]; rfl
      rw [e]; exact d2
  · rintro σ' w' ⟨q, us, x, rfl, nq, oq, dq, l⟩
    refine go_retO (cv 2) fun v w2 l2 hv => ?_
    have hv : v = _ := hv
    subst hv
    have o2 := oq.mono l2
    rw [Int.toNat_natCast] at dq
    exact ⟨w2.ice q o2, rfl, (l.trans l2).ice nq o2, ice_da o2 (dpa_ex l2.g dq)⟩
end
end FW
set_option Elab.async false
set_option linter.all false
set_option maxRecDepth 100000
set_option maxHeartbeats 4000000
namespace FW
open PySem PySem.Spec PyProof.Rows L2 He
section
variable {P : Program} {w : World} {K : PySem.W.Frag} {mg : Str → Option Value} {base : Heap}
theorem strOk_S {l : List Nat} (h : Asc l) : PyData.strOk (S l) = true := by
  unfold PyData.strOk S
  rw [Array.all_eq_true']
  intro c hc
  have := h c (by simpa using hc)
  exact decide_eq_true (by omega)
theorem loc_asc {l : List Nat} (h : Asc l) : Asc (l.map loc) := fun c hc => by
  obtain ⟨d, hd, rfl⟩ := List.mem_map.mp hc
  have := h d hd
  unfold loc
  split <;> omega
theorem srt_asc {l : List Nat} (h : Asc l) : Asc (srtT l) := fun c hc => h c ((srtT_perm l).mem_iff.mp hc)
theorem shaped_sg {l : List Nat} (h : Asc l) : SeqAt.shaped (sgD l) = true := by
  have h1 : ∀ l : List Nat, Asc l → PyData.canLayAll0 (l.map fun c => strD [c]) = true := by
    intro l
    induction l with
    | nil => intro _; rfl
    | cons a r ih =>
      intro h
      have h2 : PyData.strOk (S [a]) = true := strOk_S fun c hc => by rw [List.mem_singleton.mp hc]; exact h a (List.mem_cons_self ..)
      simp [PyData.canLayAll0, PyData.canLay0, ih fun c hc => h c (List.mem_cons_of_mem _ hc), h2]
  have h2 : ∀ l : List Nat, PyData.depthAll (l.map fun c => strD [c]) = 0 := by
    intro l
    induction l with
    | nil => rfl
    | cons a r ih => simp [PyData.depthAll, PyData.depth, ih]
  simp [SeqAt.shaped, PyData.canLay0, PyData.depth, h1 l h, h2]
/-! ### images that are the letters, in any order -/
def ownB (ls v : List Nat) : Bool := decide (v.length = ls.length) && PyData.eqv (sgD (srtT (v.map loc))) (sgD (srtT ls))
abbrev spOwnIm : Sp := Pur (fun x : List Nat × List Nat => [T x.1, T x.2]) (fun x => LetOk x.1 ∧ Asc x.2 ∧ x.2.length ≤ 100) (fun x => Bo (ownB x.1 x.2))
theorem sc_are_own_images : FnScope ["letters", "value"] ["letters", "value"] (defScope s_are_own_images) := ⟨rfl, rfl, rfl, by decide +kernel, rfl, by decide +kernel, by decide +kernel⟩
theorem ok_are_own_images (C : Tx K mg) : Cal P w K mg base "are_own_images" 2 1 spOwnIm := by
  refine C.cal (k := 0) ix_are_own_images gl_are_own_images (ps := ["letters", "value"]) sc_are_own_images (fun _ _ _ _ _ _ us hl => match us, hl with | [_, _], _ => rfl) (fun _ => rfl) (fun cdv B outer s H E z vs w0 hr hv hp => ?_)
  have nd := sc_are_own_images.nd
  obtain ⟨ls, l⟩ := z
  try dsimp only at hp
  obtain ⟨v1, v2, rfl, e1, e2⟩ := args2 hv
  have e1 : v1 = .str (S (ls)) := e1
  subst e1
  have e2 : v2 = .str (S (l)) := e2
  subst e2
  obtain ⟨hL, ha, hl⟩ := hp
  have h4 := hL.2.1
  refine go_ret (P := Bo (true && ownB ls l)) (ce_and (ce_isiT (C.free fr_isinstance) (C.free fr_str) (cv 1)) fun _ => CE.castB (ce_and2 (t := PyData.eqv (sgD (srtT (l.map loc))) (sgD (srtT ls))) (ce_eq (ce_lenT (C.free fr_len) (cv 1) (by omega)) (ce_lenT (C.free fr_len) (cv 0) (by omega))) fun _ => ce_eqD hr.units (CN.ce (cn_srtT hr.units (C.free fr_sorted) (ce_lower (cv 1) ha (by omega)) (by rw [List.length_map]; omega) rfl)) (CN.ce (cn_srtT hr.units (C.free fr_sorted) (cv 0) (by omega) rfl)) (shaped_sg (srt_asc (loc_asc ha))) (shaped_sg (srt_asc (let_asc hL)))) ?_) fun v w2 l2 hv => ⟨l2, ?_⟩
  · unfold ownB
    congr 1
    exact decide_eq_decide.mpr ⟨fun h => by have := V.int.inj h; omega, fun h => by rw [h]⟩
  · rw [hv]; rfl
/-! ### moves -/
def mvD (m : List Nat × List Nat) : PyData := .tuple [strD m.1, strD m.2]
def k03 : List Nat := [48, 49, 50, 51]
def kOk (ls : List Nat) (s : Nat) (k : List Nat) : Bool := decide (k.getD (ls.idxOf (loc s)) 0 = 48) && decide (k ≠ rep [48] ls.length)
def mv0 (ls : List Nat) : List (List Nat × List Nat) := ((txts (sl ls) ls.length).filter (ownB ls)).map fun t => ([], t)
def mv1 (ls : List Nat) : List (List Nat × List Nat) := (sl ls).flatMap fun s => ((txts k03 ls.length).filter (kOk ls s)).map fun k => ([s], k)
def mvNe (ls : List Nat) (m : List Nat × List Nat) : Bool := !PyData.eqv (mvD m) (mvD ([], ls))
def mvs (ls : List Nat) : List (List Nat × List Nat) := ((mv0 ls ++ mv1 ls).filter (mvNe ls)).mergeSort (PySem.W.dataLe false mvD)
theorem shaped_mv {m : List Nat × List Nat} (h1 : Asc m.1) (h2 : Asc m.2) : SeqAt.shaped (mvD m) = true := by simp [mvD, SeqAt.shaped, PyData.canLay0, PyData.canLayAll0, PyData.depth, PyData.depthAll, strOk_S h1, strOk_S h2]
theorem k03_asc : Asc k03 := by unfold k03; intro c hc; simp at hc; omega
theorem mv_asc {ls : List Nat} (hL : LetOk ls) {m : List Nat × List Nat} (h : m ∈ mv0 ls ++ mv1 ls) : Asc m.1 ∧ Asc m.2 := by
  rcases List.mem_append.mp h with h | h
  · obtain ⟨t, ht, rfl⟩ := List.mem_map.mp h
    have := txts_at (List.mem_filter.mp ht).1
    exact ⟨(fun c hc => by cases hc), fun c hc => signs_asc hL c (sl_mem.mp (this.2 c hc))⟩
  · obtain ⟨s, hs, h⟩ := List.mem_flatMap.mp h
    obtain ⟨t, ht, rfl⟩ := List.mem_map.mp h
    have := txts_at (List.mem_filter.mp ht).1
    exact ⟨fun c hc => by rw [List.mem_singleton.mp hc]; exact signs_asc hL s (sl_mem.mp hs), fun c hc => k03_asc c (this.2 c hc)⟩
theorem depth_mv (m : List Nat × List Nat) : (mvD m).depth ≤ 32 := by simp [mvD, PyData.depth, PyData.depthAll]
theorem alike_mv (m m' : List Nat × List Nat) : PySem.W.alike (mvD m) (mvD m') = true := by simp [mvD, PySem.W.alike, PySem.W.alikeAll]
theorem srt_mv (ms : List (List Nat × List Nat)) : srtD (ms.map mvD) = (ms.mergeSort (PySem.W.dataLe false mvD)).map mvD :=
  (List.map_mergeSort (r := PySem.W.dataLe false mvD) (s := PySem.W.dataLe false id) (fun _ _ _ _ => rfl)).symm
abbrev mvL (ms : List (List Nat × List Nat)) : PyData := .list (ms.map mvD)
theorem mv_len {ls : List Nat} (hL : LetOk ls) (h3 : ls.length ≤ 3) : (mv0 ls).length ≤ 4096 ∧ ∀ k, (((sl ls).take k).flatMap fun s => ((txts k03 ls.length).filter (kOk ls s)).map fun k => (([s], k) : List Nat × List Nat)).length ≤ k * 4096 := by
  have h8 : (sl ls).length ≤ 8 := by rw [sl_len]; omega
  refine ⟨?_, fun k => ?_⟩
  · unfold mv0
    rw [List.length_map]
    exact Nat.le_trans (List.length_filter_le _ _) (txts_few h8 (Nat.le_refl _) (by omega))
  · have h1 : ∀ s, (((txts k03 ls.length).filter (kOk ls s)).map fun k => (([s], k) : List Nat × List Nat)).length ≤ 4096 := fun s => by
      rw [List.length_map]
      exact Nat.le_trans (List.length_filter_le _ _) (txts_few (by decide) (Nat.le_refl _) (by omega))
    have h2 : ∀ (xs : List Nat), (xs.flatMap fun s => ((txts k03 ls.length).filter (kOk ls s)).map fun k => (([s], k) : List Nat × List Nat)).length ≤ xs.length * 4096 := fun xs => by
      induction xs with
      | nil => simp
      | cons a r ih =>
        have := h1 a
        rw [List.flatMap_cons, List.length_append, List.length_cons, Nat.succ_mul]
        omega
    refine Nat.le_trans (h2 _) (Nat.mul_le_mul_right _ ?_)
    rw [List.length_take]; omega
abbrev spMoves (K : PySem.W.Frag) : Sp := Pur (fun l : List Nat => [T l]) (fun l => LetOk l ∧ l.length ≤ 3) (fun l => Da K (mvL (mvs l)))
theorem sc_moves_by : FnScope ["letters", "found", "sign", "kinds", "text", "move"] ["letters"] (defScope s_moves_by) := ⟨rfl, rfl, rfl, by decide +kernel, rfl, by decide +kernel, by decide +kernel⟩
theorem ok_moves_by (C : Tx K mg) : Cal P w K mg base "moves_by" 1 2 (spMoves K) := by
  refine C.cal (k := 1) ix_moves_by gl_moves_by (ps := ["letters"]) sc_moves_by (fun _ _ _ _ _ _ us hl => match us, hl with | [_], _ => rfl) (fun _ => rfl) (fun cdv B outer s H E z vs w0 hr hv hp => ?_)
  have nd := sc_moves_by.nd
  obtain ⟨v1, rfl, e1⟩ := args1 hv
  have e1 : v1 = .str (S (z)) := e1
  subst e1
  obtain ⟨hL, h3⟩ := hp
  have h1 := hL.1
  have h8 : (sl z).length ≤ 8 := by rw [sl_len]; omega
  have hr1 : Room 1 _ := hr
  have hml := mv_len hL h3
  refine go_setLc (i := 1) (ln_fL (xs := txts (sl z) z.length) (j := 4) strD (ownB z) (fun t => mvD ([], t)) (CE.cq (ce_call (R := fun x : List Nat × Nat => Da K (txD (txts x.1 x.2))) (sl z, z.length) (ok_texts_of_A C) hr1 (ca_cons (ce_call (R := fun l => Da K (sgD (sl l))) z (ok_signs_of C) hr1 (ca1 (cv 0)) hL) (ca1 (ce_lenT (C.free fr_len) (cv 0) (by omega)))) ⟨h8, by show z.length ≤ 4; omega⟩)) (by have := txts_few (n := z.length) h8 (Nat.le_refl _) (by omega); omega)
      (fun t v w' ht l' dv => fun _ _ _ _ _ => by
        have dv : Dp K w'.G v (.str (S t)) := dv
        cases dv
        have ht2 := txts_at ht
        exact ct_val (ce_call (R := fun x : List Nat × List Nat => Bo (ownB x.1 x.2)) (z, t) (ok_are_own_images C) hr1 (ca_cons (cv 0) (ca1 (cv 4))) ⟨hL, fun c hc => signs_asc hL c (sl_mem.mp (ht2.2 c hc)), by have := ht2.1; show t.length ≤ 100; omega⟩))
      (fun t v w' ht hf l' dv => fun _ _ _ _ _ => by
        have dv : Dp K w'.G v (.str (S t)) := dv
        cases dv
        exact ce_tup (ds := [strD [], strD t]) (ca_cons (CE.daT (ce_str [])) (ca_cons (CE.daT (cv 4)) ca_nil)))) rfl nd (blkOk_by (N := ["letters", "found", "sign", "kinds", "text", "move"]) (sc := defScope s_moves_by) (by decide +kernel)) (fun _ _ _ _ _ => pg_name nd rfl (Or.inl rfl)) (fun p vs w1 l1 n1 o d => ?_) (sw_true rfl rfl rfl (by decide +kernel))
  have d0 : DpAll K w1.G vs ((mv0 z).map mvD) := by
    have e : (mv0 z).map mvD = ((txts (sl z) z.length).filter (ownB z)).map fun t => mvD ([], t) := by unfold mv0; rw [List.map_map]; rfl
    rw [e]; exact d
  refine go_forL (i := 2) (ds := (sl z).map fun c => strD [c]) (ce_call (R := fun l => Da K (sgD (sl l))) z (ok_signs_of C) hr1 (ca1 (cv 0)) hL) (fun w2 l2 => ⟨fun k σ' w' => ∃ us x y, σ' = [some (.str (S z)), some (.ref p), x, y, none, none] ∧ Own w' p us ∧ DpAll K w'.G us ((mv0 z ++ ((sl z).take k).flatMap fun s => ((txts k03 z.length).filter (kOk z s)).map fun k => ([s], k)).map mvD) ∧ Le w0 w' ∧ Ex w2.G w'.G, ⟨vs, _, _, rfl, o.mono l2, by simpa using dpa_ex l2.g d0, l1.trans l2, Evl.Ex.refl _⟩, fun k σ' w' ⟨_, _, _, _, _, _, _, g⟩ => g, ?_, ?_⟩) PassesOwn.never rfl nd
  · rintro k d v σ' w' hk dv ⟨us, x, y, rfl, ou, du, l, g⟩
    obtain ⟨s, hs, rfl⟩ := enc_get hk
    have dv : Dp K w'.G v (.str (S [s])) := dv
    cases dv
    have hsm : s ∈ signs z := sl_mem.mp (List.mem_of_getElem? hs)
    have hsa : s < 128 := signs_asc hL s hsm
    have hkl : k < (sl z).length := (List.getElem?_eq_some_iff.mp hs).1
    refine go_forL (i := 3) (ds := (txts k03 z.length).map strD) (ce_call (R := fun x : List Nat × Nat => Da K (txD (txts x.1 x.2))) (k03, z.length) (ok_texts_of_T C) hr1 (ca_cons (ce_str k03) (ca1 (ce_lenT (C.free fr_len) (cv 0) (by omega)))) ⟨by show (4 : Nat) ≤ 8; decide, by show z.length ≤ 4; omega⟩) (fun w3 l3 => ⟨fun k2 σ' w' => ∃ us y, σ' = [some (.str (S z)), some (.ref p), some (.str (S [s])), y, none, none] ∧ Own w' p us ∧ DpAll K w'.G us (((mv0 z ++ ((sl z).take k).flatMap fun s => ((txts k03 z.length).filter (kOk z s)).map fun k => ([s], k)) ++ (((txts k03 z.length).take k2).filter (kOk z s)).map fun k => ([s], k)).map mvD) ∧ Le w0 w' ∧ Ex w3.G w'.G ∧ Ex w2.G w'.G, ⟨us, _, rfl, ou.mono l3, by simpa using dpa_ex l3.g du, l.trans l3, Evl.Ex.refl _, g.trans l3.g⟩, fun k σ' w' ⟨_, _, _, _, _, _, g, _⟩ => g, ?_, ?_⟩) PassesOwn.never rfl nd
    · rintro k2 d2 v2 σ' w4 hk2 dv2 ⟨us, y, rfl, ou, du, l, g3, g2⟩
      obtain ⟨t, ht, rfl⟩ := enc_get hk2
      have dv2 : Dp K w4.G v2 (.str (S t)) := dv2
      cases dv2
      have htm := List.mem_of_getElem? ht
      have htl := (txts_at htm).1
      have hk2l : k2 < (txts k03 z.length).length := (List.getElem?_eq_some_iff.mp ht).1
      have hlm : loc s ∈ z := by
        rcases List.mem_append.mp hsm with h | h
        · rw [(upc_loc (hL.2.2.2 s h)).2.1]; exact h
        · obtain ⟨d, hd, rfl⟩ := List.mem_map.mp h
          rw [(upc_loc (hL.2.2.2 d hd)).1]; exact hd
      have hix := List.idxOf_lt_length_of_mem hlm
      have hget : z[z.idxOf (loc s)]? = some (loc s) := by rw [List.getElem?_eq_getElem hix, List.getElem_idxOf]
      refine go_if (t := kOk z s t) (ct_and2 (CT.cast (ct_eqT (ce_ixT (cv 3) (ce_indexT (cv 0) (ce_lower (x := [s]) (cv 2) (fun c hc => by rw [List.mem_singleton.mp hc]; exact hsa) (by simp)) hget (fun j hj hjc => ?_)) (by omega) (atI_nat (getD_some (z := 0) (by omega)))) (ce_str [48])) ?_) fun _ => CT.cast (ct_neT (cv 3) (ce_mulT (ce_str [48]) (ce_lenT (C.free fr_len) (cv 0) (by omega)) (by simp; omega) (by omega))) ?_) (fun h w5 l5 => ?_) (fun h w5 l5 => ?_)
      · have hjl : j < z.length := by omega
        have e := (List.getElem?_eq_some_iff.mp hjc).2
        have := hL.2.2.1.idxOf_getElem j hjl
        rw [e] at this
        omega
      · exact decide_eq_decide.mpr ⟨fun h => by simpa using h, fun h => by rw [h]⟩
      · rw [decide_not]
      · refine go_append 1 (ou.mono l5) (ce_tup (ds := [strD [s], strD t]) (ca_cons (CE.daT (cv 2)) (ca_cons (CE.daT (cv 3)) ca_nil))) (by
          rw [dpa_len du, List.length_map, List.length_append, List.length_append, List.length_map]
          have h1 := hml.1
          have h2 := hml.2 k
          have h3 : (((txts k03 z.length).take k2).filter (kOk z s)).length ≤ 4096 := Nat.le_trans (List.length_filter_le _ _) (by rw [List.length_take]; have := txts_few (ss := k03) (n := z.length) (by decide) (Nat.le_refl _) (by omega); omega)
          have h4 : k * 4096 ≤ 8 * 4096 := Nat.mul_le_mul_right _ (by omega)
          omega) fun v w6 l6 o6 dv => ?_
        refine go_nil (go_nil ⟨us ++ [v], _, rfl, o6.put, ?_, ((l.trans l5).trans l6).put n1 o6, (g3.trans l5.g).trans l6.g, (g2.trans l5.g).trans l6.g⟩)
        have e : List.filter (kOk z s) [t] = [t] := by rw [List.filter_cons_of_pos h]; rfl
        rw [take_next ht, List.filter_append, e, List.map_append (l₁ := List.filter (kOk z s) _), ← List.append_assoc, List.map_append (l₂ := List.map _ [t])]
        exact dpa_app (dpa_ex (l5.g.trans l6.g) du) (.cons dv .nil)
      · refine go_nil (go_nil ⟨us, _, rfl, ou.mono l5, ?_, l.trans l5, g3.trans l5.g, g2.trans l5.g⟩)
        rw [take_next ht, List.filter_append]
        have e : List.filter (kOk z s) [t] = [] := by rw [List.filter_cons_of_neg (by rw [h]; decide)]; rfl
        rw [e, List.append_nil]
        exact dpa_ex l5.g du
    · rintro σ' w4 ⟨us, y, rfl, ou, du, l, g3, g2⟩
      refine go_nil ⟨us, _, _, rfl, ou, ?_, l, g2⟩
      rw [List.length_map, List.take_length] at du
      rw [take_next hs, List.flatMap_append]
      simpa using du
  · rintro σ' w' ⟨us, x, y, rfl, ou, du, l, g⟩
    rw [List.length_map, List.take_length] at du
    have hlen : (mv0 z ++ mv1 z).length ≤ 40000 := by
      have h1 := hml.1
      have h2 := hml.2 (sl z).length
      rw [List.take_length] at h2
      have h4 : (sl z).length * 4096 ≤ 8 * 4096 := Nat.mul_le_mul_right _ h8
      rw [List.length_append]
      unfold mv1
      omega
    refine go_ret (CN.ce (CN.cast (cn_srtQ hr.units (C.free fr_sorted) (CN.cq (cn_ln (ln_fL (xs := mv0 z ++ mv1 z) (j := 5) mvD (mvNe z) mvD (cq_own 1 ou du) (by omega) (fun m v w'' hm l' dv => fun _ _ _ _ _ => ct_neD hr.units (ce_var 5 (P := Da K (mvD m)) rfl dv) (ce_tup (ds := [strD [], strD z]) (ca_cons (CE.daT (ce_str [])) (ca_cons (CE.daT (cv 0)) ca_nil))) (shaped_mv (mv_asc hL hm).1 (mv_asc hL hm).2) (shaped_mv (m := ([], z)) (fun c hc => by cases hc) (let_asc hL))) (fun m v w'' hm hf l' dv => fun _ _ _ _ _ => ce_var 5 (P := Da K (mvD m)) rfl dv)) rfl nd (blkOk_by (N := ["letters", "found", "sign", "kinds", "text", "move"]) (sc := defScope s_moves_by) (by decide +kernel)) (fun _ _ _ _ _ => pg_name nd rfl (Or.inl rfl)))) ?_ ?_ ?_ ?_) (srt_mv _))) fun v w2 l2 hv => ⟨l.trans l2, hv⟩
    · intro d hd d' hd'
      obtain ⟨m, _, rfl⟩ := List.mem_map.mp hd
      obtain ⟨m', _, rfl⟩ := List.mem_map.mp hd'
      exact alike_mv m m'
    · exact .inl fun d hd => by
        obtain ⟨m, _, rfl⟩ := List.mem_map.mp hd
        exact ⟨_, _, rfl⟩
    · rw [List.length_map]
      exact Nat.le_trans (List.length_filter_le _ _) (by omega)
    · intro d hd
      obtain ⟨m, _, rfl⟩ := List.mem_map.mp hd
      exact depth_mv m
end
end FW
set_option Elab.async false
set_option linter.all false
set_option maxRecDepth 100000
set_option maxHeartbeats 4000000
namespace FW
open PySem PySem.Spec PyProof.Rows L2 He
section
variable {P : Program} {w : World} {K : PySem.W.Frag} {mg : Str → Option Value} {base : Heap}
/-! ### moves make maps -/
def imB (c s k : Nat) : List Nat := (if k = 50 ∨ k = 51 then [flip s] else []) ++ [c] ++ (if k = 49 ∨ k = 51 then [s] else [])
def mapW (ls : List Nat) (m : List Nat × List Nat) : List (List Nat) := match m.1 with
  | [] => m.2.map fun c => [c]
  | s :: _ => (ls.zip m.2).map fun p => imB p.1 s p.2
theorem mvs_mem {ls : List Nat} {m : List Nat × List Nat} (h : m ∈ mvs ls) : m ∈ mv0 ls ++ mv1 ls := (List.mem_filter.mp ((List.mergeSort_perm _ _).mem_iff.mp h)).1
theorem flip_signs {ls : List Nat} (hL : LetOk ls) {s : Nat} (h : s ∈ signs ls) : flip s ∈ signs ls := by
  rcases List.mem_append.mp h with h | h
  · have := upc_loc (hL.2.2.2 s h)
    rw [this.2.2.2.1]
    exact List.mem_append_right _ (List.mem_map.mpr ⟨s, h, rfl⟩)
  · obtain ⟨d, hd, rfl⟩ := List.mem_map.mp h
    rw [(upc_loc (hL.2.2.2 d hd)).2.2.2.2]
    exact List.mem_append_left _ hd
theorem loc_signs {ls : List Nat} (hL : LetOk ls) {s : Nat} (h : s ∈ signs ls) : loc s ∈ ls ∧ (s = loc s ∨ flip s = loc s) := by
  rcases List.mem_append.mp h with h | h
  · have := upc_loc (hL.2.2.2 s h)
    exact ⟨by rw [this.2.1]; exact h, .inl this.2.1.symm⟩
  · obtain ⟨d, hd, rfl⟩ := List.mem_map.mp h
    have := upc_loc (hL.2.2.2 d hd)
    exact ⟨by rw [this.1]; exact hd, .inr (by rw [this.2.2.2.2, this.1])⟩
theorem isR_of {ls v : List Nat} (h1 : v.length ≤ 1000) (h2 : ∀ c ∈ v, c ∈ signs ls) (h3 : NB v) : isR ls v = true := by
  unfold isR isW
  rw [nb_red h3, decide_eq_true h1, List.all_eq_true.mpr (fun c hc => decide_eq_true (h2 c hc))]
  simp
theorem nb_one (c : Nat) : NB [c] := fun i a b ha hb => by simp at hb
theorem nb_cons {a b : Nat} {l : List Nat} (h : a ≠ flip b) (h2 : NB (b :: l)) : NB (a :: b :: l) := by
  refine NB.join (l := [a]) (nb_one a) h2 fun x y hx hy => ?_
  simp at hx hy
  subst hx hy
  exact h
theorem imB_ok {ls : List Nat} (hL : LetOk ls) {c s k : Nat} (hc : c ∈ ls) (hs : s ∈ signs ls) (h : c ≠ loc s ∨ k = 48) : isR ls (imB c s k) = true := by
  have hcs : c ∈ signs ls := List.mem_append_left _ hc
  have hfs := flip_signs hL hs
  have hl := loc_signs hL hs
  rcases h with h | h
  · have hc2 := hL.2.2.2 c hc
    have n1 : c ≠ s ∧ c ≠ flip s := by
      have hl1 := hL.2.2.2 _ hl.1
      rcases hl.2 with e | e
      · refine ⟨fun q => h (q.trans e), fun q => ?_⟩
        have e2 := upc_loc hl1
        rw [e, e2.2.2.2.1, e2.2.2.1] at q
        omega
      · refine ⟨fun q => ?_, fun q => h (q.trans e)⟩
        have e2 := upc_loc hl1
        have e3 : s = flip (loc s) := by rw [← e, flip_flip]
        rw [e2.2.2.2.1, e2.2.2.1] at e3
        omega
    have m1 : flip s ≠ flip c := fun q => n1.1 (by rw [← flip_flip c, ← q, flip_flip])
    have m2 : c ≠ flip s := n1.2
    unfold imB
    refine isR_of (by split <;> split <;> simp) ?_ ?_
    · intro d hd
      rcases List.mem_append.mp hd with hd | hd
      · rcases List.mem_append.mp hd with hd | hd
        · split at hd
          · rw [List.mem_singleton.mp hd]; exact hfs
          · cases hd
        · rw [List.mem_singleton.mp hd]; exact hcs
      · split at hd
        · rw [List.mem_singleton.mp hd]; exact hs
        · cases hd
    · split <;> split
      · exact nb_cons m1 (nb_cons m2 (nb_one s))
      · exact nb_cons m1 (nb_one c)
      · exact nb_cons m2 (nb_one s)
      · exact nb_one c
  · subst h
    have e : imB c s 48 = [c] := rfl
    rw [e]
    exact isR_of (by simp) (fun d hd => by rw [List.mem_singleton.mp hd]; exact hcs) (nb_one c)
theorem mvs_img {ls : List Nat} (hL : LetOk ls) {m : List Nat × List Nat} (h : m ∈ mvs ls) : imgOk ls (mapW ls m) := by
  rcases List.mem_append.mp (mvs_mem h) with h | h
  · obtain ⟨t, ht, rfl⟩ := List.mem_map.mp h
    have hq := txts_at (List.mem_filter.mp ht).1
    refine ⟨by show (t.map fun c => [c]).length = _; rw [List.length_map]; exact hq.1, fun x hx => ?_⟩
    obtain ⟨c, hc, rfl⟩ := List.mem_map.mp (show x ∈ t.map fun c => [c] from hx)
    exact isR_of (by simp) (fun d hd => by rw [List.mem_singleton.mp hd]; exact sl_mem.mp (hq.2 c hc)) (nb_one c)
  · obtain ⟨s, hs, h⟩ := List.mem_flatMap.mp h
    obtain ⟨t, ht, rfl⟩ := List.mem_map.mp h
    have hq := txts_at (List.mem_filter.mp ht).1
    have hk := (List.mem_filter.mp ht).2
    have hsm := sl_mem.mp hs
    refine ⟨by show ((ls.zip t).map _).length = _; rw [List.length_map, List.length_zip, hq.1, Nat.min_self], fun x hx => ?_⟩
    obtain ⟨⟨c, k⟩, hc, rfl⟩ := List.mem_map.mp (show x ∈ (ls.zip t).map fun p => imB p.1 s p.2 from hx)
    obtain ⟨i, hi⟩ := List.mem_iff_getElem?.mp hc
    obtain ⟨h1, h2⟩ := List.getElem?_zip_eq_some.mp hi
    refine imB_ok hL (List.mem_of_getElem? h1) hsm ?_
    by_cases e : c = loc s
    · refine .inr ?_
      have hlt := (List.getElem?_eq_some_iff.mp h1).1
      have hge := (List.getElem?_eq_some_iff.mp h1).2
      have h3 := hL.2.2.1.idxOf_getElem i hlt
      rw [hge, e] at h3
      have h4 := of_decide_eq_true (Bool.and_eq_true_iff.mp hk).1
      rw [h3, List.getD_eq_getElem?_getD, h2] at h4
      exact h4
    · exact .inl e
theorem mvs_shape {ls : List Nat} {m : List Nat × List Nat} (h : m ∈ mvs ls) : m.2.length = ls.length ∧ (m.1 = [] ∨ ∃ s ∈ signs ls, m.1 = [s]) := by
  rcases List.mem_append.mp (mvs_mem h) with h | h
  · obtain ⟨t, ht, rfl⟩ := List.mem_map.mp h
    exact ⟨(txts_at (List.mem_filter.mp ht).1).1, .inl rfl⟩
  · obtain ⟨s, hs, h⟩ := List.mem_flatMap.mp h
    obtain ⟨t, ht, rfl⟩ := List.mem_map.mp h
    exact ⟨(txts_at (List.mem_filter.mp ht).1).1, .inr ⟨s, sl_mem.mp hs, rfl⟩⟩
abbrev spImage : Sp := Pur (fun x : Nat × Nat × Nat => [T [x.1], T [x.2.1], T [x.2.2]]) (fun x => x.2.1 < 128) (fun x => T (imB x.1 x.2.1 x.2.2))
theorem sc_image_by : FnScope ["letter", "sign", "kind", "ahead"] ["letter", "sign", "kind"] (defScope s_image_by) := ⟨rfl, rfl, rfl, by decide +kernel, rfl, by decide +kernel, by decide +kernel⟩
theorem ok_image_by (C : Tx K mg) : Cal P w K mg base "image_by" 3 1 spImage := by
  refine C.cal (k := 0) ix_image_by gl_image_by (ps := ["letter", "sign", "kind"]) sc_image_by (fun _ _ _ _ _ _ us hl => match us, hl with | [_, _, _], _ => rfl) (fun _ => rfl) (fun cdv B outer s H E z vs w0 hr hv hp => ?_)
  have nd := sc_image_by.nd
  obtain ⟨c, s1, k⟩ := z
  try dsimp only at hp
  obtain ⟨v1, v2, v3, rfl, e1, e2, e3⟩ := args3 hv
  have e1 : v1 = .str (S ([c])) := e1
  subst e1
  have e2 : v2 = .str (S ([s1])) := e2
  subst e2
  have e3 : v3 = .str (S ([k])) := e3
  subst e3
  refine go_set (i := 3) (P := T (if k = 50 ∨ k = 51 then [flip s1] else [])) (ce_if (t := decide (k ∈ [50, 51])) (ct_inT (l := [50, 51]) (cv 2) (ce_str [50, 51])) (fun h => ?_) (fun h => ?_)) (fun v w1 l1 hv => ?_) nd
  · have h := of_decide_eq_true h
    have h : k = 50 ∨ k = 51 := by simpa using h
    rw [if_pos h]
    exact ce_swapcase (x := [s1]) (cv 1) (fun d hd => by rw [List.mem_singleton.mp hd]; exact hp) (by simp)
  · have h := of_decide_eq_false h
    have h : ¬ (k = 50 ∨ k = 51) := by simpa using h
    rw [if_neg h]
    exact ce_str []
  · have hv : v = _ := hv
    subst hv
    have hpl : (if k = 50 ∨ k = 51 then [flip s1] else ([] : List Nat)).length ≤ 1 := by split <;> simp
    have hql : (if k = 49 ∨ k = 51 then [s1] else ([] : List Nat)).length ≤ 1 := by split <;> simp
    refine go_ret (ce_addT (ce_addT (cv 3) (cv 0) (by simp; omega)) (y := if k = 49 ∨ k = 51 then [s1] else []) (ce_if (t := decide (k ∈ [49, 51])) (ct_inT (l := [49, 51]) (cv 2) (ce_str [49, 51])) (fun h => ?_) (fun h => ?_)) (by simp; omega)) fun v w2 l2 hv => ⟨l1.trans l2, hv⟩
    · have h := of_decide_eq_true h
      have h : k = 49 ∨ k = 51 := by simpa using h
      rw [if_pos h]
      exact cv 1
    · have h := of_decide_eq_false h
      have h : ¬ (k = 49 ∨ k = 51) := by simpa using h
      rw [if_neg h]
      exact ce_str []
abbrev spMapBy (K : PySem.W.Frag) : Sp := Pur (fun x : List Nat × (List Nat × List Nat) => [T x.1, Da K (mvD x.2)]) (fun x => LetOk x.1 ∧ x.2 ∈ mvs x.1) (fun x => InsD K (ga K "Map") (mapF (x.1, mapW x.1 x.2)))
theorem sc_map_by : FnScope ["letters", "move", "letter", "kind"] ["letters", "move"] (defScope s_map_by) := ⟨rfl, rfl, rfl, by decide +kernel, rfl, by decide +kernel, by decide +kernel⟩
theorem ok_map_by (C : Tx K mg) : Cal P w K mg base "map_by" 2 6 (spMapBy K) := by
  refine C.cal (k := 5) ix_map_by gl_map_by (ps := ["letters", "move"]) sc_map_by (fun _ _ _ _ _ _ us hl => match us, hl with | [_, _], _ => rfl) (fun _ => rfl) (fun cdv B outer s H E z vs w0 hr hv hp => ?_)
  have nd := sc_map_by.nd
  obtain ⟨ls, m⟩ := z
  try dsimp only at hp
  obtain ⟨v1, v2, rfl, e1, e2⟩ := args2 hv
  have e1 : v1 = .str (S (ls)) := e1
  subst e1
  have e2 : Dp K w0.G v2 (mvD m) := e2
  obtain ⟨hL, hm⟩ := hp
  have hI := mvs_img hL hm
  have hsh := mvs_shape hm
  have h4 := hL.2.1
  obtain ⟨m1, m2⟩ := m
  have hm2 : m2.length ≤ 4 := by have := hsh.1; simp only at this; omega
  refine go_if (t := decide (m1 = [])) (ct_eqT (CE.toT (ce_ixTup (i := 0) (ce_var 1 (P := Da K (mvD (m1, m2))) rfl e2) ce_int rfl)) (ce_str [])) (fun h w1 l1 => ?_) (fun h w1 l1 => go_nil ?_)
  · have h := of_decide_eq_true h
    subst h
    refine go_ret (ce_make (z := (ls, mapW ls ([], m2))) (mak_Map C) hr (ca_cons (cv 0) (ca1 (CE.eqP (ce_tupT (l := m2) (C.free fr_tuple) (CE.toT (ce_ixTup (i := 1) (ce_var 1 (P := Da K (mvD ([], m2))) rfl (dp_ex l1.g e2)) ce_int rfl)) (by omega) rfl) (by show Da K (.tuple _) = Da K (.tuple (List.map strD (m2.map fun c => [c]))); rw [List.map_map]; rfl)))) ⟨hL, hI⟩) fun v w2 l2 hv => ⟨l1.trans l2, hv⟩
  · have h := of_decide_eq_false h
    rcases hsh.2 with e | ⟨sg1, hs, e⟩
    · exact absurd e h
    · have e : m1 = [sg1] := e
      subst e
      have hsa := signs_asc hL sg1 hs
      have hr1 : Room 1 _ := hr.mono (by decide)
      refine go_ret (ce_make (z := (ls, mapW ls ([sg1], m2))) (mak_Map C) hr (ca_cons (cv 0) (ca1 (CE.eqP (ce_tupQ (C.free fr_tuple) (CN.cq (cn_lcZ (i := 2) (j := 3) (l := ls) (m := m2) (fun p => strD (imB p.1 sg1 p.2)) (C.free fr_zip) (cv 0) (CE.toT (ce_ixTup (i := 1) (ce_var 1 (P := Da K (mvD ([sg1], m2))) rfl (dp_ex l1.g e2)) ce_int rfl)) (by omega) (fun c d w' hcd l' => fun _ _ _ _ _ => CE.daT (ce_call (R := fun x : Nat × Nat × Nat => T (imB x.1 x.2.1 x.2.2)) (c, sg1, d) (ok_image_by C) hr1 (ca_cons (cv 2) (ca_cons (CE.toT (ce_ixTup (i := 0) (ce_var 1 (P := Da K (mvD ([sg1], m2))) rfl (dp_ex (l1.g.trans l'.g) e2)) ce_int rfl)) (ca1 (cv 3)))) hsa)) rfl nd (blkOk_by (N := ["letters", "move", "letter", "kind"]) (sc := defScope s_map_by) (by decide +kernel)) (fun _ _ _ _ _ => pg_tup rfl (pgs_cons (pg_name nd rfl (Or.inl rfl)) (pgs_cons (pg_name nd rfl (Or.inl rfl)) pgs_nil))))))
        (by show Da K (.tuple _) = Da K (.tuple (List.map strD ((ls.zip m2).map fun p => imB p.1 sg1 p.2))); rw [List.map_map]; rfl)))) ⟨hL, hI⟩) fun v w2 l2 hv => ⟨l1.trans l2, hv⟩
end
end FW
set_option Elab.async false
set_option linter.all false
set_option maxRecDepth 100000
set_option maxHeartbeats 4000000
namespace FW
open PySem PySem.Spec PyProof.Rows L2 He
section
variable {P : Program} {w : World} {K : PySem.W.Frag} {mg : Str → Option Value} {base : Heap}
/-! ### rings -/
def rots (c : List Nat) : List (List Nat) := (List.range (max 1 c.length)).map fun k => c.drop k ++ c.take k
def minL : List (List Nat) → List Nat
  | [] => []
  | x :: xs => minT x xs
def ring (l : List Nat) : List Nat := minL (rots (rC l))
theorem rots_ne (c : List Nat) : ∃ x xs, rots c = x :: xs := by
  have : (rots c).length ≠ 0 := by unfold rots; rw [List.length_map, List.length_range]; omega
  cases h : rots c with
  | nil => rw [h] at this; exact absurd rfl this
  | cons x xs => exact ⟨x, xs, rfl⟩
abbrev spRing : Sp := Pur (fun l : List Nat => [T l]) (fun l => Asc l ∧ l.length ≤ 100000) (fun l => T (ring l))
theorem ce_cut1 {U : Vol} {X : Cx} {a : Expr} {σ : Sg} {w : Wd U} {k1 k2 : Nat} {p1 p2 p3 p4 pos : Pos} {x : List Nat} (ha : CE X a σ w (T x)) (hx : x.length ≤ 1000000) : CE X (.Subscript a (.Slice (some (.Constant (.int 1) k1 p1)) (some (.UnaryOp .USub (.Constant (.int 1) k2 p2) p3)) none p4) pos) σ w (T ((x.drop 1).take (x.length - 2))) := by
  refine CE.castT (ce_slT (lo := some (.Constant (.int 1) k1 p1)) (hi := some (.UnaryOp .USub (.Constant (.int 1) k2 p2) p3)) (ol := some ((1 : Nat) : Int)) (oh := some (-1)) ha ce_int (ce_neg ce_int) hx) ?_
  rw [HT.sIx_nat]
  have e : HT.sIx x.length x.length (some (-1)) = x.length - 1 := by
    unfold HT.sIx
    simp
    omega
  rw [e]
  rcases Nat.lt_or_ge x.length 1 with h | h
  · have : x = [] := List.eq_nil_of_length_eq_zero (by omega)
    subst this; rfl
  · rw [Nat.min_eq_left h]; congr 1
theorem atI_neg {α : Type} {xs : List α} {v : α} (hne : 1 ≤ xs.length) (h : xs[xs.length - 1]? = some v) : atI xs (-1) = some v := by
  unfold atI ixN
  rw [if_neg (by decide), if_pos (by omega)]
  have e : ((-1 : Int) + (xs.length : Int)).toNat = xs.length - 1 := by omega
  rw [e]
  exact h
theorem sc_ring_by : FnScope ["word", "at"] ["word"] (defScope s_ring_by) := ⟨rfl, rfl, rfl, by decide +kernel, rfl, by decide +kernel, by decide +kernel⟩
theorem ok_ring_by (C : Tx K mg) : Cal P w K mg base "ring_by" 1 1 spRing := by
  refine C.cal (k := 0) ix_ring_by gl_ring_by (ps := ["word"]) sc_ring_by (fun _ _ _ _ _ _ us hl => match us, hl with | [_], _ => rfl) (fun _ => rfl) (fun cdv B outer s H E z vs w0 hr hv hp => ?_)
  have nd := sc_ring_by.nd
  obtain ⟨v1, rfl, e1⟩ := args1 hv
  have e1 : v1 = .str (S (z)) := e1
  subst e1
  obtain ⟨ha, hl⟩ := hp
  refine go_while (fun m σ' w' => ∃ n : Nat, σ' = [some (.str (S ((z.drop n).take (z.length - 2 * n)))), none] ∧ m = z.length - n ∧ rgo z m n = rK z ∧ 2 * n ≤ z.length ∧ Le w0 w') z.length ⟨0, by rw [List.drop_zero, Nat.mul_zero, Nat.sub_zero, List.take_length]; rfl, by omega, rfl, by omega, Le.refl _⟩ ?_ PassesOwn.never
  rintro m σ' w' ⟨n, rfl, rfl, hg, hn, l⟩
  have hlen : ((z.drop n).take (z.length - 2 * n)).length = z.length - 2 * n := by rw [List.length_take, List.length_drop]; omega
  have hga : ∀ i, i < z.length - 2 * n → ((z.drop n).take (z.length - 2 * n))[i]? = some (z.getD (n + i) 0) := fun i hi => by
    rw [List.getElem?_take, if_pos hi, List.getElem?_drop]
    exact getD_some (by omega)
  refine ⟨decide (z.length - 2 * n > 1 ∧ z.getD n 0 = flip (z.getD (z.length - 1 - n) 0)), ?_, fun h w2 l2 => ?_, fun h w2 l2 => ?_⟩
  · refine CT.cast (t := decide (z.length - 2 * n > 1) && decide ([z.getD n 0] = [flip (z.getD (z.length - 1 - n) 0)])) (ct_and2 (CT.cast (ct_gt (ce_lenT (C.free fr_len) (cv 0) (by omega)) ce_int) ?_) fun h => ?_) ?_
    · rw [hlen]
      exact decide_eq_decide.mpr (by omega)
    · have h1 : z.length - 2 * n > 1 := of_decide_eq_true h
      refine ct_eqT (ce_ixT (cv 0) ce_int (by omega) (atI_of (j := 0) rfl ?_)) (ce_swapcase (x := [z.getD (z.length - 1 - n) 0]) (ce_ixT (cv 0) (ce_neg ce_int) (by omega) ?_) (fun c hc => ?_) (by simp))
      · exact hga 0 (by omega)
      · have := hga (z.length - 2 * n - 1) (by omega)
        have e : n + (z.length - 2 * n - 1) = z.length - 1 - n := by omega
        rw [e] at this
        refine atI_neg (by rw [hlen]; omega) ?_
        rw [hlen]; exact this
      · rw [List.mem_singleton.mp hc]
        exact ha _ (List.mem_of_getElem? (getD_some (z := 0) (by omega)))
    · rw [← Bool.decide_and]
      exact decide_eq_decide.mpr (by simp)
  · have h1 := of_decide_eq_true h
    refine go_set (i := 0) (ce_cut1 (cv 0) (by omega)) (fun v w3 l3 hv => ?_) nd
    have hv : v = _ := hv
    subst hv
    refine go_nil ⟨z.length - (n + 1), by omega, n + 1, ?_, rfl, ?_, by omega, (l.trans l2).trans l3⟩
    · have e : (((z.drop n).take (z.length - 2 * n)).drop 1).take (((z.drop n).take (z.length - 2 * n)).length - 2) = (z.drop (n + 1)).take (z.length - 2 * (n + 1)) := by
        rw [hlen, List.drop_take, List.drop_drop, List.take_take]
        congr 1
        omega
      rw [e]; rfl
    · rw [← hg, show z.length - n = (z.length - (n + 1)) + 1 by omega]
      show _ = rgo z (z.length - (n + 1) + 1) n
      rw [rgo, if_pos h1]
  · have h1 : ¬ _ := of_decide_eq_false h
    have e : rK z = n := by
      rw [← hg]
      cases hm : z.length - n with
      | zero => rfl
      | succ f => rw [rgo, if_neg h1]
    have eC : (z.drop n).take (z.length - 2 * n) = rC z := by unfold rC; rw [e]
    rw [eC]
    have hcl := rC_len z
    obtain ⟨x, xs, hx⟩ := rots_ne (rC z)
    refine go_ret (P := T (ring z)) (CE.castT (ce_minT (x := x) (xs := xs) hr.units (C.free fr_min) (CN.cq (CN.cast (cn_ln (ln_mR (n := max 1 (rC z).length) (j := 1) (fun k => strD ((rC z).drop k ++ (rC z).take k)) (C.free fr_range) (CE.castI (ce_max2 (C.free fr_max) ce_int (ce_lenT (C.free fr_len) (cv 0) (by omega)) rfl) (by split <;> omega)) (by omega) (fun k w'' hk l'' => fun _ _ _ _ _ => CE.daT (ce_addT (ce_from (cv 0) (cv 1) (by omega)) (ce_upto (cv 0) (cv 1) (by omega)) (by rw [List.length_drop, List.length_take]; omega)))) rfl nd (blkOk_by (N := ["word", "at"]) (sc := defScope s_ring_by) (by decide +kernel)) (fun _ _ _ _ _ => pg_name nd rfl (Or.inl rfl))) (by rw [← hx]; unfold rots; rw [List.map_map]; rfl))) rfl) (by unfold ring; rw [hx]; rfl)) fun v w3 l3 hv => ⟨(l.trans l2).trans l3, hv⟩
abbrev spNeedWord : Sp := Pur (fun x : List Nat × List Nat × List Nat => [T x.1, T x.2.1, T x.2.2]) (fun x => LetOk x.2.1 ∧ isR x.2.1 x.2.2 = true ∧ x.2.2.length ≤ 100000) (fun x => T x.2.2)
theorem sc_need_word : FnScope ["what", "letters", "word"] ["what", "letters", "word"] (defScope s_need_word) := ⟨rfl, rfl, rfl, by decide +kernel, rfl, by decide +kernel, by decide +kernel⟩
theorem ok_need_word (C : Tx K mg) : Cal P w K mg base "need_word" 3 3 spNeedWord := by
  refine C.cal (k := 2) ix_need_word gl_need_word (ps := ["what", "letters", "word"]) sc_need_word (fun _ _ _ _ _ _ us hl => match us, hl with | [_, _, _], _ => rfl) (fun _ => rfl) (fun cdv B outer s H E z vs w0 hr hv hp => ?_)
  have nd := sc_need_word.nd
  obtain ⟨wt, ls, l⟩ := z
  try dsimp only at hp
  obtain ⟨v1, v2, v3, rfl, e1, e2, e3⟩ := args3 hv
  have e1 : v1 = .str (S (wt)) := e1
  subst e1
  have e2 : v2 = .str (S (ls)) := e2
  subst e2
  have e3 : v3 = .str (S (l)) := e3
  subst e3
  obtain ⟨hL, hR, hl⟩ := hp
  refine go_skip (ct_not (ct_val (ce_call (R := fun x : List Nat × List Nat => Bo (isR x.1 x.2)) (ls, l) (ok_is_reduced_by C) hr (ca_cons (cv 1) (ca1 (cv 2))) ⟨hL, hl⟩))) (by show (!isR ls l) = false; rw [hR]; rfl) fun w1 l1 => ?_
  exact go_ret (cv 2) fun v w2 l2 hv => ⟨l1.trans l2, hv⟩
abbrev spRingOf : Sp := Pur (fun x : List Nat × List Nat => [T x.1, T x.2]) (fun x => LetOk x.1 ∧ x.1.length ≤ 3 ∧ isR x.1 x.2 = true) (fun x => T (ring x.2))
theorem sc_ring_of : FnScope ["letters", "word"] ["letters", "word"] (defScope s_ring_of) := ⟨rfl, rfl, rfl, by decide +kernel, rfl, by decide +kernel, by decide +kernel⟩
theorem ok_ring_of (C : Tx K mg) : Cal P w K mg base "ring_of" 2 4 spRingOf := by
  refine C.cal (k := 3) ix_ring_of gl_ring_of (ps := ["letters", "word"]) sc_ring_of (fun _ _ _ _ _ _ us hl => match us, hl with | [_, _], _ => rfl) (fun _ => rfl) (fun cdv B outer s H E z vs w0 hr hv hp => ?_)
  have nd := sc_ring_of.nd
  obtain ⟨ls, l⟩ := z
  try dsimp only at hp
  obtain ⟨v1, v2, rfl, e1, e2⟩ := args2 hv
  have e1 : v1 = .str (S (ls)) := e1
  subst e1
  have e2 : v2 = .str (S (l)) := e2
  subst e2
  obtain ⟨hL, h3, hR⟩ := hp
  have hl := isR_len hR
  refine go_ret (ce_call (R := fun l => T (ring l)) l (ok_ring_by C) hr (ca1 (ce_call (R := fun x : List Nat × List Nat × List Nat => T x.2.2) ([119, 111, 114, 100], ls, l) (ok_need_word C) hr (ca_cons (ce_str [119, 111, 114, 100]) (ca_cons (ce_call (R := fun l => T l) ls (ok_need_few C) hr (ca1 (cv 0)) ⟨hL, h3⟩) (ca1 (cv 1)))) ⟨hL, hR, by show l.length ≤ 100000; omega⟩)) ⟨isR_asc hL hR, by omega⟩) fun v w2 l2 hv => ⟨l2, hv⟩
def led (ls : List Nat) (m : List Nat × List Nat) (l : List Nat) : List Nat := ring (mp ls (mapW ls m) l)
theorem mp_asc {ls : List Nat} (hL : LetOk ls) {ws : List (List Nat)} (hI : imgOk ls ws) {l : List Nat} (hl : ∀ c ∈ l, c ∈ signs ls) : Asc (mp ls ws l) := by
  refine red_asc fun c h => ?_
  obtain ⟨d, hd, hcd⟩ := List.mem_flatMap.mp h
  exact img_asc hL hI (hl d hd) c hcd
theorem mp_len {ls : List Nat} (hL : LetOk ls) {ws : List (List Nat)} (hI : imgOk ls ws) {l : List Nat} (hl : ∀ c ∈ l, c ∈ signs ls) : (mp ls ws l).length ≤ l.length * 1000 :=
  Nat.le_trans (red_len _) (flat_len fun c h => img_len hL hI (hl c h))
abbrev spLed (K : PySem.W.Frag) : Sp := Pur (fun x : List Nat × List Nat × (List Nat × List Nat) => [T x.1, T x.2.1, Da K (mvD x.2.2)]) (fun x => LetOk x.1 ∧ (∀ c ∈ x.2.1, c ∈ signs x.1) ∧ x.2.1.length ≤ 100 ∧ x.2.2 ∈ mvs x.1) (fun x => T (led x.1 x.2.2 x.2.1))
theorem sc_led_ring : FnScope ["letters", "word", "move"] ["letters", "word", "move"] (defScope s_led_ring) := ⟨rfl, rfl, rfl, by decide +kernel, rfl, by decide +kernel, by decide +kernel⟩
theorem ok_led_ring (C : Tx K mg) : Cal P w K mg base "led_ring" 3 7 (spLed K) := by
  refine C.cal (k := 6) ix_led_ring gl_led_ring (ps := ["letters", "word", "move"]) sc_led_ring (fun _ _ _ _ _ _ us hl => match us, hl with | [_, _, _], _ => rfl) (fun _ => rfl) (fun cdv B outer s H E z vs w0 hr hv hp => ?_)
  have nd := sc_led_ring.nd
  obtain ⟨ls, l, m⟩ := z
  try dsimp only at hp
  obtain ⟨v1, v2, v3, rfl, e1, e2, e3⟩ := args3 hv
  have e1 : v1 = .str (S (ls)) := e1
  subst e1
  have e2 : v2 = .str (S (l)) := e2
  subst e2
  have e3 : Dp K w0.G v3 (mvD m) := e3
  obtain ⟨hL, hc, hl, hm⟩ := hp
  have hI := mvs_img hL hm
  refine go_ret (ce_call (R := fun l => T (ring l)) (mp ls (mapW ls m) l) (ok_ring_by C) hr (ca1 (ce_call (R := fun x : (List Nat × List (List Nat)) × List Nat => T (mp x.1.1 x.1.2 x.2)) ((ls, mapW ls m), l) (ok_mapped_by C) hr (ca_cons (ce_call (R := fun x : List Nat × (List Nat × List Nat) => InsD K (ga K "Map") (mapF (x.1, mapW x.1 x.2))) (ls, m) (ok_map_by C) hr (ca_cons (cv 0) (ca1 (ce_var 2 (P := Da K (mvD m)) rfl e3))) ⟨hL, hm⟩) (ca1 (cv 1))) ⟨hL, hI, hc, hl⟩)) ⟨mp_asc hL hI hc, by have := mp_len hL hI hc; omega⟩) fun v w2 l2 hv => ⟨l2, hv⟩
end
end FW
set_option Elab.async false
set_option linter.all false
set_option maxRecDepth 100000
set_option maxHeartbeats 4000000
namespace FW
open PySem PySem.Spec PyProof.Rows L2 He
/-! ### as tuples -/
mutual
def tupd : PyData → PyData
  | .list xs => .tuple (tupdA xs)
  | .tuple xs => .tuple (tupdA xs)
  | d => d
def tupdA : List PyData → List PyData
  | [] => []
  | x :: r => tupd x :: tupdA r
end
theorem tupdA_map : ∀ xs : List PyData, tupdA xs = xs.map tupd
  | [] => rfl
  | x :: r => by rw [tupdA, tupdA_map r]; rfl
mutual
def dsz : PyData → Nat
  | .list xs => 2 + dszA xs
  | .tuple xs => 2 + dszA xs
  | _ => 1
def dszA : List PyData → Nat
  | [] => 0
  | x :: r => dsz x + dszA r
end
theorem dszA_app : ∀ (a b : List PyData), dszA (a ++ b) = dszA a + dszA b
  | [], b => by simp [dszA]
  | x :: r, b => by simp only [List.cons_append, dszA, dszA_app r b]; omega
theorem dsz_pos : ∀ d : PyData, 1 ≤ dsz d
  | .list xs => by simp only [dsz]; omega
  | .tuple xs => by simp only [dsz]; omega
  | .none | .bool _ | .int _ | .str _ | .dict _ => by simp [dsz]
theorem dszA_len : ∀ xs : List PyData, xs.length ≤ dszA xs
  | [] => Nat.le_refl _
  | x :: r => by have := dszA_len r; have := dsz_pos x; simp only [dszA, List.length_cons]; omega
theorem dszA_drop {ds : List PyData} {i : Nat} {d : PyData} (h : ds[i]? = some d) : dszA (ds.drop i) = dsz d + dszA (ds.drop (i + 1)) := by
  have hlt := (List.getElem?_eq_some_iff.mp h).1
  rw [List.drop_eq_getElem_cons hlt, (List.getElem?_eq_some_iff.mp h).2, dszA]
/-- a sequence's items -/
def seqI (d : PyData) (ds : List PyData) : Prop := d = .list ds ∨ d = .tuple ds
theorem seq_tupd {d : PyData} {ds : List PyData} (h : seqI d ds) : tupd d = .tuple (ds.map tupd) ∧ dsz d = 2 + dszA ds := by
  rcases h with rfl | rfl <;> simp [tupd, tupdA_map, dsz]
structure Frm where
  v : Vv
  ds : List PyData
  at_ : Nat
  fa : Addr
  ga : Addr
  us : List Vv
def DSeq (K : PySem.W.Frag) (G : Hp) (v : Vv) (ds : List PyData) : Prop := ∃ d, seqI d ds ∧ Dp K G v d
theorem DSeq.ex {K : PySem.W.Frag} {G G' : Hp} {v : Vv} {ds : List PyData} (h : DSeq K G v ds) (e : Ex G G') : DSeq K G' v ds := let ⟨d, h1, h2⟩ := h; ⟨d, h1, dp_ex e h2⟩
/-- the frames under the top one, ds the items of the one above -/
def Pend (K : PySem.W.Frag) (G : Hp) (tgt : List PyData) : List Frm → List PyData → Prop
  | [], ds => ds = tgt
  | f :: r, ds => (∃ d, 1 ≤ f.at_ ∧ f.ds[f.at_ - 1]? = some d ∧ seqI d ds) ∧ DpAll K G f.us ((f.ds.take (f.at_ - 1)).map tupd) ∧ DSeq K G f.v f.ds ∧ Pend K G tgt r f.ds
theorem Pend.ex {K : PySem.W.Frag} {G G' : Hp} {tgt : List PyData} (e : Ex G G') : ∀ {st : List Frm} {ds : List PyData}, Pend K G tgt st ds → Pend K G' tgt st ds
  | [], _, h => h
  | _ :: _, _, ⟨h1, h2, h3, h4⟩ => ⟨h1, dpa_ex e h2, h3.ex e, h4.ex e⟩
def addrs (p : Addr) : List Frm → List Addr
  | [] => [p]
  | f :: r => f.fa :: f.ga :: addrs p r
def frV (f : Frm) : List Vv := [f.v, .int f.at_, .ref f.ga]
def lineV : List Frm → List Vv
  | [] => []
  | f :: r => lineV r ++ [.ref f.fa]
def fOwn (w : Wd V0) : List Frm → Prop
  | [] => True
  | f :: r => Own w f.fa (frV f) ∧ Own w f.ga f.us ∧ fOwn w r
theorem fOwn.mono {w w' : Wd V0} (l : Le w w') : ∀ {st : List Frm}, fOwn w st → fOwn w' st
  | [], _ => trivial
  | _ :: _, ⟨h1, h2, h3⟩ => ⟨h1.mono l, h2.mono l, h3.mono l⟩
theorem fOwn.put {w : Wd V0} {p q : Addr} {vs u : List Vv} (o : Own w q vs) : ∀ {st : List Frm}, fOwn w st → q ∉ addrs p st → fOwn (w.put q o u) st
  | [], _, _ => trivial
  | f :: r, ⟨h1, h2, h3⟩, h => by
    have h : q ∉ f.fa :: f.ga :: addrs p r := h
    simp only [List.mem_cons, not_or] at h
    exact ⟨o.put_ne h1 (Ne.symm h.1), o.put_ne h2 (Ne.symm h.2.1), h3.put o h.2.2⟩
theorem addr_p (p : Addr) : ∀ st, p ∈ addrs p st
  | [] => List.mem_cons_self ..
  | _ :: r => List.mem_cons_of_mem _ (List.mem_cons_of_mem _ (addr_p p r))
theorem lineV_len : ∀ st : List Frm, (lineV st).length = st.length
  | [] => rfl
  | f :: r => by show (lineV r ++ [_]).length = _; rw [List.length_append, lineV_len r]; rfl
theorem lineV_at : ∀ (f : Frm) (r : List Frm), atI (lineV (f :: r)) (-1) = some (.ref f.fa) := fun f r => by
  refine atI_neg (by rw [lineV_len]; simp) ?_
  rw [lineV_len]
  show (lineV r ++ [_])[_]? = _
  rw [List.getElem?_append_right (by rw [lineV_len]; simp)]
  rw [lineV_len]; simp
def mesF : List Frm → Nat
  | [] => 0
  | f :: r => 1 + dszA (f.ds.drop f.at_) + mesF r
/-- is it a list or a tuple -/
def isSq : PyData → Bool
  | .list _ => true
  | .tuple _ => true
  | _ => false
def tyD : Vv → PyData → Value
  | _, .none => .type "NoneType"
  | _, .bool _ => .type "bool"
  | _, .int _ => .type "int"
  | _, .str _ => .type "str"
  | _, .list _ => .type "list"
  | _, .tuple _ => .type "tuple"
  | _, .dict _ => .type "dict"
theorem tyD_ok {K : PySem.W.Frag} {G H : Hp} (e : Ex G H) {v : Vv} {d : PyData} (h : Dp K G v d) : TyX K H v (tyD v d) := by
  cases d with
  | none => cases h; exact .base .non
  | bool b => cases h; exact .base (.bl b)
  | int b => cases h; exact .base (.int b)
  | str b => cases h; exact .base (.str b)
  | list b => exact tyx_lst e h
  | tuple b => exact tyx_tup e h
  | dict b => cases h
theorem kit_seq {K : PySem.W.Frag} {v : Vv} (d : PyData) : PySem.W.kitAny K (tyD v d) [.type "list", .type "tuple"] = some (isSq d) := by
  cases d
  all_goals first
    | exact kitAny_cons (b := true) (kit_ty (by decide +kernel)) (fun h => absurd h (by decide)) (fun _ => rfl)
    | exact kitAny_cons (b := false) (kit_ty (by decide +kernel)) (fun _ => kitAny_cons (b := true) (kit_ty (by decide +kernel)) (fun h => absurd h (by decide)) (fun _ => rfl)) (fun h => absurd h (by decide))
    | exact kitAny_cons (b := false) (kit_ty (by decide +kernel)) (fun _ => kitAny_cons (b := false) (kit_ty (by decide +kernel)) (fun _ => kitAny_nil) (fun h => absurd h (by decide))) (fun h => absurd h (by decide))
theorem isSq_iff {d : PyData} (h : isSq d = true) : ∃ ds, seqI d ds := by
  cases d with
  | list xs => exact ⟨xs, .inl rfl⟩
  | tuple xs => exact ⟨xs, .inr rfl⟩
  | _ => cases h
theorem isSq_no {d : PyData} (h : isSq d = false) : tupd d = d ∧ dsz d = 1 := by
  cases d with
  | list xs => cases h
  | tuple xs => cases h
  | _ => exact ⟨by simp [tupd], by simp [dsz]⟩
section
variable {U : Vol} {X : Cx} {e a b : Expr} {σ : Sg} {w : Wd U} {p pos : Pos} {ds : List PyData}
/-- len(x), x[i] of a list or tuple -/
theorem ce_lenSq {v : Vv} (hm : X.mg "len" = none) (h : CE X e σ w (Is v)) (hd : DSeq X.K w.G v ds) (hg : Gl X "len" := by rfl) (hs : starEach [e] X.env = [(false, eval e X.env)] := by rfl) : CE X (.Call (.Name "len" p) [e] [] pos) σ w (I ds.length) := fun w1 l Q q =>
  ew_bi call_len_seq hm PySem.boot_len h.cw hg (by decide) (by decide) hs w1 l Q fun x w2 l2 hv => by
    have hv : x = v := hv
    subst hv
    obtain ⟨d, hsq, hdp⟩ := hd.ex (l.trans l2).g
    rcases hsq with rfl | rfl
    · cases hdp with
      | lst hl ha => exact ⟨_, _, rfl, .inl (Evl.ex_l w2.ex hl), by rw [dpa_len ha]; exact q _ w2 l2 rfl⟩
    · cases hdp with
      | tup hl ha => exact ⟨_, _, rfl, .inr (Evl.ex_t w2.ex hl), by rw [dpa_len ha]; exact q _ w2 l2 rfl⟩
theorem CE.daW {v : Vv} {d : PyData} (h : CE X a σ w (Is v)) (hd : Dp X.K w.G v d) : CE X a σ w (Da X.K d) := fun w1 l Q q => h w1 l _ fun x w2 l2 hx => q x w2 l2 (by
  have hx : x = v := hx
  subst hx
  exact dp_ex (l.trans l2).g hd)
theorem ce_ixSq {v : Vv} {i : Int} {d : PyData} (h : CE X a σ w (Is v)) (hd : DSeq X.K w.G v ds) (hb : CE X b σ w (I i)) (hc : atI ds i = some d) (hs : PlainIx b := by intro _ _; rfl) : CE X (.Subscript a b pos) σ w (Da X.K d) := by
  obtain ⟨d0, hsq, hdp⟩ := hd
  rcases hsq with rfl | rfl
  · exact ce_ixQ (CE.cq (CE.daW h hdp)) hb hc hs
  · exact ce_ixTup (CE.daW h hdp) hb hc hs
/-- a list display by its values' world -/
theorem cw_lstP {es : List Expr} {R : List Vv → Wd U → Prop} (h : CP X es σ w R) (hR : ∀ vs w', R vs w' → vs.length ≤ 1000000) : CW X (.List es pos) σ w (fun v w' => ∃ q vs w2, v = .ref q ∧ Le w w2 ∧ R vs w2 ∧ w2.H q = none ∧ Le w2 w' ∧ Own w' q vs) :=
  cw_lift (pe_lst pa_can) fun w1 l Q q => h w1 l _ fun vs w2 l2 r => ⟨line_of (hR _ _ r), fun p hp => by
    have g := gr_newH w2.ex (o := .lst vs) hp
    exact q _ (w2.grow g.2.1 g.1) (l2.trans (Gr.le g.1)) ⟨p, vs, w2, rfl, l.trans l2, r, hp, Gr.le g.1, own_new hp⟩⟩
theorem go_appendW (i : Nat) {rest : List Stmt} {D : En U} {x : Str} {p1 apos : Pos} {q : Addr} {vs : List Vv} {R : Vv → Wd U → Prop} (o : Own w q vs) (he : CW X e σ w R) (hz : vs.length ≤ 1000000) (k : ∀ v w' (l : Le w w') (o' : Own w' q vs), R v w' → Go X rest σ (w'.put q o' (vs ++ [v])) D)
    (hσ : σ[i]? = some (some (.ref q)) := by rfl) (hN : X.N[i]? = some x := by rfl) (hv : Vis X.env.scope x := by first | exact Or.inl rfl | exact Or.inr (Or.inl rfl) | exact Or.inr (Or.inr rfl)) (hd : (x == ("__debug__" : Str)) = false := by decide) (hcd : (x == ("__classdict__" : Str)) = false := by decide)
    (hbase : attributeBase (.Name x p1) "append" X.env (eval (.Name x p1) X.env) = eval (.Name x p1) X.env := by rfl)
    (hfew : ((backTo pos (starEach (e :: []) X.env)).all (fun x => !x.1) && (backToKw pos (keywordEach [] X.env)).all (fun x => x.1.isSome)
      && decide ((e :: ([] : List Expr)).length + ([] : List Keyword).length + (if ([] : List Keyword).isEmpty then 0 else 1) < 30)) = true := by rfl)
    (hline : (apos.endLine == pos.line) = true := by rfl) (hs : starEach (e :: []) X.env = (false, eval e X.env) :: starEach [] X.env := by rfl) (hplain : (backTo pos (starEach [] X.env)).any (·.1) = false := by rfl)
    (hsw : swapsWith (.Call (.Attribute (.Name x p1) "append" apos) [e] [] pos) none p.line X.env = pure false := by rfl) :
    Go X (.Expr (.Call (.Attribute (.Name x p1) "append" apos) [e] [] pos) p :: rest) σ w D :=
  s_of (pss_cons (ps_expr (pe_bm PySem.F.plainAttrs_list PySem.F.slot_list_append PySem.F.type_list_append mt_append (pe_var hN hv hd hcd) (pa_cons pe_can pa_nil hs) hbase hfew hline hs hplain) hsw) pss_can)
    ⟨_, hσ, .inl ⟨rfl, vs, SqL.of o.h⟩, he w (Le.refl _) _ fun v w2 l pv => ⟨q, vs, v, rfl, rfl, (o.mono l).h, line_lt hz, k v w2 l (o.mono l) pv⟩⟩
end
/-! ### the frames keep apart -/
structure Sep (w0 : Wd V0) (p : Addr) (st : List Frm) (w : Wd V0) : Prop where
  nd : (addrs p st).Nodup
  new : ∀ a ∈ addrs p st, w0.H a = none
  line : Own w p (lineV st)
  own : fOwn w st
  le : Le w0 w
theorem Sep.mono {w0 w w' : Wd V0} {p : Addr} {st : List Frm} (h : Sep w0 p st w) (l : Le w w') : Sep w0 p st w' := ⟨h.nd, h.new, h.line.mono l, h.own.mono l, h.le.trans l⟩
theorem Sep.pop {w0 w : Wd V0} {p : Addr} {f : Frm} {r : List Frm} (h : Sep w0 p (f :: r) w) (o : Own w p (lineV (f :: r))) : Sep w0 p r (w.put p o (lineV r)) := by
  have nd : (f.fa :: f.ga :: addrs p r).Nodup := h.nd
  have nd2 := (List.nodup_cons.mp (List.nodup_cons.mp nd).2).2
  refine ⟨nd2, fun a ha => h.new a (List.mem_cons_of_mem _ (List.mem_cons_of_mem _ ha)), o.put, ?_, h.le.put (h.new p (addr_p p _)) o⟩
  have key : ∀ (st : List Frm), (addrs p st).Nodup → fOwn w st → fOwn (w.put p o (lineV r)) st := by
    intro st
    induction st with
    | nil => intro _ _; trivial
    | cons g q ih =>
      intro nd ⟨h1, h2, h3⟩
      have nd : (g.fa :: g.ga :: addrs p q).Nodup := nd
      have n1 := (List.nodup_cons.mp nd).1
      have n2 := (List.nodup_cons.mp (List.nodup_cons.mp nd).2).1
      have n3 := (List.nodup_cons.mp (List.nodup_cons.mp nd).2).2
      refine ⟨o.put_ne h1 fun e => n1 ?_, o.put_ne h2 fun e => n2 ?_, ih n3 h3⟩
      · rw [e]; exact List.mem_cons_of_mem _ (addr_p p q)
      · rw [e]; exact addr_p p q
  exact key r nd2 h.own.2.2
theorem Sep.frm {w0 w : Wd V0} {p : Addr} {f : Frm} {r : List Frm} (h : Sep w0 p (f :: r) w) (n : Nat) (o : Own w f.fa (frV f)) : Sep w0 p ({ f with at_ := n } :: r) (w.put f.fa o (frV { f with at_ := n })) := by
  have nd : (f.fa :: f.ga :: addrs p r).Nodup := h.nd
  have n1 := (List.nodup_cons.mp nd).1
  simp only [List.mem_cons, not_or] at n1
  refine ⟨h.nd, h.new, o.put_ne h.line fun e => n1.2 (e ▸ addr_p p r), ⟨o.put, o.put_ne h.own.2.1 (Ne.symm n1.1), h.own.2.2.put o n1.2⟩, h.le.put (h.new _ (List.mem_cons_self ..)) o⟩
theorem Sep.fnd {w0 w : Wd V0} {p : Addr} {f : Frm} {r : List Frm} (h : Sep w0 p (f :: r) w) (u : List Vv) (o : Own w f.ga f.us) : Sep w0 p ({ f with us := u } :: r) (w.put f.ga o u) := by
  have nd : (f.fa :: f.ga :: addrs p r).Nodup := h.nd
  have n1 := (List.nodup_cons.mp nd).1
  have n2 := (List.nodup_cons.mp (List.nodup_cons.mp nd).2).1
  simp only [List.mem_cons, not_or] at n1
  refine ⟨h.nd, h.new, o.put_ne h.line fun e => n2 (e ▸ addr_p p r), ⟨o.put_ne h.own.1 n1.1, o.put, h.own.2.2.put o n2⟩, h.le.put (h.new _ (List.mem_cons_of_mem _ (List.mem_cons_self ..))) o⟩
theorem Sep.push {w0 w : Wd V0} {p : Addr} {f : Frm} {r : List Frm} (h : Sep w0 p r w) (n1 : f.fa ≠ f.ga) (n2 : f.fa ∉ addrs p r) (n3 : f.ga ∉ addrs p r) (m1 : w0.H f.fa = none) (m2 : w0.H f.ga = none) (o1 : Own w f.fa (frV f)) (o2 : Own w f.ga f.us) (o : Own w p (lineV r)) : Sep w0 p (f :: r) (w.put p o (lineV (f :: r))) := by
  have e1 : f.fa ≠ p := fun e => n2 (e ▸ addr_p p r)
  have e2 : f.ga ≠ p := fun e => n3 (e ▸ addr_p p r)
  refine ⟨List.nodup_cons.mpr ⟨by simp only [List.mem_cons, not_or]; exact ⟨n1, n2⟩, List.nodup_cons.mpr ⟨n3, h.nd⟩⟩, fun a ha => ?_, o.put, ⟨o.put_ne o1 e1, o.put_ne o2 e2, ?_⟩, h.le.put (h.new p (addr_p p r)) o⟩
  · have ha : a ∈ f.fa :: f.ga :: addrs p r := ha
    rcases List.mem_cons.mp ha with rfl | ha
    · exact m1
    · rcases List.mem_cons.mp ha with rfl | ha
      · exact m2
      · exact h.new a ha
  · have key : ∀ (st : List Frm), (addrs p st).Nodup → fOwn w st → fOwn (w.put p o (lineV (f :: r))) st := by
      intro st
      induction st with
      | nil => intro _ _; trivial
      | cons g q ih =>
        intro nd ⟨h1, h2, h3⟩
        have nd : (g.fa :: g.ga :: addrs p q).Nodup := nd
        have n1 := (List.nodup_cons.mp nd).1
        have n2 := (List.nodup_cons.mp (List.nodup_cons.mp nd).2).1
        have n3 := (List.nodup_cons.mp (List.nodup_cons.mp nd).2).2
        refine ⟨o.put_ne h1 fun e => n1 ?_, o.put_ne h2 fun e => n2 ?_, ih n3 h3⟩
        · rw [e]; exact List.mem_cons_of_mem _ (addr_p p q)
        · rw [e]; exact addr_p p q
    exact key r h.nd h.own
theorem sep_alive {w0 w : Wd V0} {p : Addr} {st : List Frm} (h : Sep w0 p st w) : ∀ a ∈ addrs p st, w.H a ≠ none := by
  have key : ∀ (st : List Frm), fOwn w st → Own w p (lineV st) ∨ w.H p ≠ none → ∀ a ∈ addrs p st, w.H a ≠ none := by
    intro st
    induction st with
    | nil =>
      intro _ h a ha
      rw [List.mem_singleton.mp ha]
      rcases h with h | h
      · rw [h.h]; intro z; cases z
      · exact h
    | cons g q ih =>
      intro ⟨h1, h2, h3⟩ hp a ha
      have ha : a ∈ g.fa :: g.ga :: addrs p q := ha
      have hp' : w.H p ≠ none := by
        rcases hp with h | h
        · rw [h.h]; intro z; cases z
        · exact h
      rcases List.mem_cons.mp ha with rfl | ha
      · rw [h1.h]; intro z; cases z
      · rcases List.mem_cons.mp ha with rfl | ha
        · rw [h2.h]; intro z; cases z
        · exact ih h3 (.inr hp') a ha
  exact key st h.own (.inl h.line)
def TopOk (K : PySem.W.Frag) (tgt : List PyData) (G : Hp) : List Frm → Prop
  | [] => True
  | f :: r => DpAll K G f.us ((f.ds.take f.at_).map tupd) ∧ DSeq K G f.v f.ds ∧ f.at_ ≤ f.ds.length ∧ Pend K G tgt r f.ds
theorem TopOk.ex {K : PySem.W.Frag} {tgt : List PyData} {G G' : Hp} (e : Ex G G') : ∀ {st : List Frm}, TopOk K tgt G st → TopOk K tgt G' st
  | [], _ => trivial
  | _ :: _, ⟨h1, h2, h3, h4⟩ => ⟨dpa_ex e h1, h2.ex e, h3, h4.ex e⟩
end FW
set_option Elab.async false
set_option linter.all false
set_option maxRecDepth 100000
set_option maxHeartbeats 4000000
namespace FW
open PySem PySem.Spec PyProof.Rows L2 He
section
variable {P : Program} {w : World} {K : PySem.W.Frag} {mg : Str → Option Value} {base : Heap}
theorem mes_len : ∀ st : List Frm, st.length ≤ mesF st
  | [] => Nat.le_refl _
  | f :: r => by
    have := mes_len r
    show r.length + 1 ≤ 1 + dszA (f.ds.drop f.at_) + mesF r
    omega
abbrev spAsT (K : PySem.W.Frag) : Sp := Pur (fun d : PyData => [Da K d]) (fun d => isSq d = true ∧ dsz d ≤ 900000) (fun d => Da K (tupd d))
theorem sc_as_tuples : FnScope ["value", "line", "done", "source", "at", "found"] ["value"] (defScope s_as_tuples) := ⟨rfl, rfl, rfl, by decide +kernel, rfl, by decide +kernel, by decide +kernel⟩
theorem ok_as_tuples (C : Tx K mg) : Cal P w K mg base "as_tuples" 1 1 (spAsT K) := by
  refine C.cal (k := 0) ix_as_tuples gl_as_tuples (ps := ["value"]) sc_as_tuples (fun _ _ _ _ _ _ us hl => match us, hl with | [_], _ => rfl) (fun _ => rfl) (fun cdv B outer s H E z vs w0 hr hv hp => ?_)
  have nd := sc_as_tuples.nd
  obtain ⟨v1, rfl, e1⟩ := args1 hv
  have e1 : Dp K w0.G v1 (z) := e1
  obtain ⟨hz, hsz⟩ := hp
  obtain ⟨tgt, hsq⟩ := isSq_iff hz
  have htu := seq_tupd hsq
  have isi : ∀ {d : PyData} {x : Vv} {w1 w2 : Wd V0}, Dp K w1.G x d → Le w1 w2 → Dp K w2.G x d := fun h l => dp_ex l.g h
  refine go_skip (ct_not (ct_val (ce_isi2 (P := Da K z) (t := fun v => tyD v z) (t1 := "list") (t2 := "tuple") (C.free fr_isinstance) (C.free fr_list) (C.free fr_tuple) PyProof.Rows.boot_list PyProof.Rows.boot_tuple (ce_var 0 (P := Da K z) rfl e1) (fun v w' _ h => tyD_ok w'.ex h) (fun v w' _ h => kit_seq z)))) (by rw [hz]; rfl) fun w1 l1 => ?_
  have dv1 : DSeq K w1.G v1 tgt := ⟨z, hsq, dp_ex l1.g e1⟩
  refine go_par2 (i := 1) (j := 2) (R := fun us w' => ∃ p fa ga, us = [.ref p, .non] ∧ Sep w1 p [⟨v1, tgt, 0, fa, ga, []⟩] w')
    (cp_cons (R1 := fun v w' => ∃ p fa ga, v = .ref p ∧ Sep w1 p [⟨v1, tgt, 0, fa, ga, []⟩] w') ?_ (fun v w2 l2 ⟨p, fa, ga, ev, hs⟩ => cp_cons (CE.cw ce_non) (fun v2 w3 l3 hv => cp_nil fun w4 l4 => ⟨p, fa, ga, by rw [ev, show v2 = V.non from hv], hs.mono (l3.trans l4)⟩)))
    (fun u v w2 l2 ⟨p, fa, ga, e, hs⟩ => ?_) (fun vs w' ⟨p, fa, ga, e, _⟩ => ⟨_, _, e⟩) rfl nd
  · -- the display
    intro wa la Q q
    refine cw_lstP (R := fun us w' => ∃ fa ga, us = [.ref fa] ∧ w1.H fa = none ∧ w1.H ga = none ∧ fa ≠ ga ∧ Own w' fa [v1, .int 0, .ref ga] ∧ Own w' ga [])
      (cp_cons (cw_lstP (R := fun us w' => ∃ ga, us = [v1, .int 0, .ref ga] ∧ w1.H ga = none ∧ Own w' ga []) (cp_cons (CE.cw (cv 0)) (fun x w3 l3 hx => cp_cons (CE.cw ce_int) (fun y w4 l4 hy => cp_cons (CN.cw (cn_lst (ds := []) ca_nil)) (fun t w5 l5 ⟨ga, us, et, hn, ho, hd⟩ => cp_nil fun w6 l6 => ⟨ga, by rw [show x = v1 from hx, show y = V.int 0 from hy, et], (l3.trans l4).new hn, by
            have e : us = [] := by cases hd; rfl
            subst e
            exact ho.mono l6⟩))))
          (fun us w' ⟨ga, e, _⟩ => by rw [e]; exact Nat.le_of_ble_eq_true rfl))
        (fun x w3 l3 ⟨fa, us, w4, ex, l4, ⟨ga, eu, hga, oga⟩, hfa, l5, ofa⟩ => cp_nil fun w6 l6 => ⟨fa, ga, by rw [ex], l4.new hfa, hga, fun e => own_ne (w' := w4) oga (e ▸ hfa) rfl, by rw [← eu]; exact ofa.mono l6, (oga.mono l5).mono l6⟩))
      (fun us w' ⟨fa, ga, e, _⟩ => by rw [e]; exact Nat.le_of_ble_eq_true rfl) wa la Q fun v w2 l2 ⟨p, us, w3, ev, l3, ⟨fa, ga, eu, hfa, hga, hne, ofa, oga⟩, hp, l4, op⟩ => ?_
    subst eu
    refine q v w2 l2 ⟨p, fa, ga, ev, ⟨?_, ?_, op, ⟨ofa.mono l4, oga.mono l4, trivial⟩, l3.trans l4⟩⟩
    · have n1 : fa ≠ p := own_ne (w' := w3) ofa hp
      have n2 : ga ≠ p := own_ne (w' := w3) oga hp
      show [fa, ga, p].Nodup
      simp [hne, n1, n2]
    · intro a ha
      have ha : a = fa ∨ a = ga ∨ a = p := by simpa [addrs] using ha
      rcases ha with rfl | rfl | rfl
      · exact hfa
      · exact hga
      · exact l3.new hp
  · obtain ⟨rfl, rfl⟩ : u = .ref p ∧ v = .non := by simpa using e
    refine go_while (fun m σ' w' => ∃ st dn x3 x4 x5, σ' = [some v1, some (.ref p), some dn, x3, x4, x5] ∧ Sep w1 p st w' ∧ TopOk K tgt w'.G st ∧ m = mesF st ∧ ((∀ f ∈ st, dszA f.ds ≤ 900000) ∧ mesF st ≤ 1000000) ∧ (st = [] → Dp K w'.G dn (.tuple (tgt.map tupd)))) (mesF [⟨v1, tgt, 0, fa, ga, []⟩]) ⟨_, _, _, _, _, rfl, hs, ⟨.nil, dv1.ex l2.g, Nat.zero_le _, rfl⟩, rfl, ?_, fun h => by cases h⟩ ?_ PassesOwn.never
    · refine ⟨fun f hf => ?_, ?_⟩
      · rw [List.mem_singleton.mp hf]
        have := htu.2
        show dszA tgt ≤ _
        omega
      · show 1 + dszA (tgt.drop 0) + 0 ≤ 1000000
        rw [List.drop_zero]
        have := htu.2
        omega
    rintro m σ' w' ⟨st, dn, x3, x4, x5, rfl, hs, ht, rfl, ⟨hmes, hmm⟩, hdn⟩
    refine ⟨!(lineV st).isEmpty, ct_truthV (vq_of hs.line (cv 1)), fun h w3 l3 => ?_, fun h w3 l3 => ?_⟩
    · cases st with
      | nil => cases h
      | cons f r =>
      have hs := hs.mono l3
      have ht := ht.ex l3.g
      have hdn : True := trivial
      obtain ⟨tf, td, tl, tp⟩ := ht
      have hmf : mesF (f :: r) = 1 + dszA (f.ds.drop f.at_) + mesF r := rfl
      refine go_unpackL3 (i := 3) (j := 4) (l := 5) rfl (vq_of hs.own.1 (ce_ixV (vq_of hs.line (cv 1)) (ce_neg ce_int) (lineV_at f r))) (fun w4 l4 => ?_) nd
      have hs4 := hs.mono l4
      have td4 := td.ex l4.g
      refine go_if (t := decide (f.at_ = f.ds.length)) (CT.cast (ct_eqI (cv 4) (ce_lenSq (C.free fr_len) (cv 3) td4)) (decide_eq_decide.mpr (by omega))) (fun h w5 l5 => ?_) (fun h w5 l5 => ?_)
      · have h := of_decide_eq_true h
        have hs5 := hs4.mono l5
        have tf5 := dpa_ex (l4.trans l5).g tf
        rw [h, List.take_length] at tf5
        refine go_pop 1 hs5.line (by intro z; have := lineV_len (f :: r); rw [z] at this; cases this) ?_
        have edl : (lineV (f :: r)).dropLast = lineV r := List.dropLast_concat
        have hs6 : Sep w1 p r (w5.put p hs5.line (lineV (f :: r)).dropLast) := by
          rw [edl]; exact hs5.pop hs5.line
        have nd5 : (f.fa :: f.ga :: addrs p r).Nodup := hs5.nd
        have ngp : f.ga ≠ p := fun e => (List.nodup_cons.mp (List.nodup_cons.mp nd5).2).1 (e ▸ addr_p p r)
        have og : Own (w5.put p hs5.line (lineV (f :: r)).dropLast) f.ga f.us := hs5.line.put_ne hs5.own.2.1 ngp
        refine go_set (i := 2) (ce_tupQ (C.free fr_tuple) (cq_own 5 og (show DpAll K (w5.put p hs5.line (lineV (f :: r)).dropLast).G f.us _ from tf5))) (fun vd w6 l6 hvd => ?_) nd
        have hs6 := hs6.mono l6
        have tp6 : Pend K w6.G tgt r f.ds := tp.ex ((l4.trans l5).g.trans l6.g)
        refine go_if (t := !(lineV r).isEmpty) (ct_truthV (vq_of hs6.line (cv 1))) (fun h7 w7 l7 => ?_) (fun h7 w7 l7 => ?_)
        · cases r with
          | nil => cases h7
          | cons g r' =>
          have hs7 := hs6.mono l7
          obtain ⟨⟨d, hg1, hgd, hgs⟩, hgu, hgv, hgp⟩ := tp6.ex l7.g
          have hgl := (List.getElem?_eq_some_iff.mp hgd).1
          have ul : g.us.length ≤ 1000000 := by
            rw [dpa_len hgu, List.length_map, List.length_take]
            have h1 := hmes g (List.mem_cons_of_mem _ (List.mem_cons_self ..))
            have h2 := dszA_len g.ds
            omega
          refine go_appendR (ce_ixV (i := 2) (vq_of hs7.own.1 (ce_ixV (vq_of hs7.line (cv 1)) (ce_neg ce_int) (lineV_at g r'))) ce_int rfl) hs7.own.2.1 (ce_var 2 (P := Da K (.tuple (f.ds.map tupd))) rfl (dp_ex l7.g hvd)) ul fun v8 w8 l8 o8 hv8 => ?_
          have hs8 := (hs7.mono l8).fnd (g.us ++ [v8]) o8
          refine go_nil (go_nil (go_nil ⟨mesF ({ g with us := g.us ++ [v8] } :: r'), ?_, { g with us := g.us ++ [v8] } :: r', _, _, _, _, rfl, hs8, ⟨?_, hgv.ex l8.g, ?_, hgp.ex l8.g⟩, rfl, ⟨?_, ?_⟩, fun h => by cases h⟩))
          · show 1 + dszA (g.ds.drop g.at_) + mesF r' < 1 + dszA (f.ds.drop f.at_) + (1 + dszA (g.ds.drop g.at_) + mesF r')
            omega
          · show DpAll K w8.G (g.us ++ [v8]) ((g.ds.take g.at_).map tupd)
            have e : g.at_ = (g.at_ - 1) + 1 := by omega
            rw [e, take_next hgd, List.map_append]
            refine dpa_app (dpa_ex l8.g hgu) (.cons ?_ .nil)
            show Dp K w8.G v8 (tupd d)
            rw [(seq_tupd hgs).1]
            exact hv8
          · show g.at_ ≤ g.ds.length
            omega
          · intro f' hf'
            rcases List.mem_cons.mp hf' with rfl | hf'
            · exact hmes g (List.mem_cons_of_mem _ (List.mem_cons_self ..))
            · exact hmes f' (List.mem_cons_of_mem _ (List.mem_cons_of_mem _ hf'))
          · show 1 + dszA (g.ds.drop g.at_) + mesF r' ≤ _
            have hmf : mesF (f :: g :: r') = 1 + dszA (f.ds.drop f.at_) + (1 + dszA (g.ds.drop g.at_) + mesF r') := rfl
            omega
        · cases r with
          | cons g r' => rw [List.isEmpty_eq_false_iff.mpr (fun z => by have := lineV_len (g :: r'); rw [z] at this; cases this)] at h7; cases h7
          | nil =>
          have et : f.ds = tgt := tp6
          refine go_nil (go_nil (go_nil ⟨0, by show 0 < 1 + dszA (f.ds.drop f.at_) + 0; omega, [], _, _, _, _, rfl, hs6.mono l7, trivial, rfl, ⟨fun f hf => (by cases hf), Nat.zero_le _⟩, fun _ => ?_⟩))
          rw [← et]
          exact dp_ex l7.g hvd
      · have h := of_decide_eq_false h
        have hlt : f.at_ < f.ds.length := by omega
        have hs5 := hs4.mono l5
        have td5 := td4.ex l5.g
        have tf5 := dpa_ex (l4.trans l5).g tf
        have tp5 : Pend K w5.G tgt r f.ds := tp.ex (l4.trans l5).g
        obtain ⟨d, hd⟩ : ∃ d, f.ds[f.at_]? = some d := ⟨_, List.getElem?_eq_getElem hlt⟩
        have hdrop := dszA_drop hd
        have hfb := hmes f (List.mem_cons_self ..)
        have hdsz : dsz d ≤ dszA f.ds := by
          have h1 : dszA f.ds = dszA (f.ds.take f.at_) + dszA (f.ds.drop f.at_) := by rw [← dszA_app, List.take_append_drop]
          omega
        have hset : ∀ v : Vv, v = .int ((f.at_ : Int) + 1) → (frV f).set 1 v = frV { f with at_ := f.at_ + 1 } := fun v hv => by
          subst hv
          show [f.v, V.int ((f.at_ : Int) + 1), V.ref f.ga] = [f.v, V.int ((f.at_ + 1 : Nat) : Int), V.ref f.ga]
          rw [Int.natCast_succ]
        refine go_if (t := isSq d) (ct_val (ce_isi2 (P := Da K d) (t := fun v => tyD v d) (t1 := "list") (t2 := "tuple") (C.free fr_isinstance) (C.free fr_list) (C.free fr_tuple) PyProof.Rows.boot_list PyProof.Rows.boot_tuple (ce_ixSq (cv 3) td5 (cv 4) (atI_nat hd)) (fun v w' _ h => tyD_ok w'.ex h) (fun v w' _ h => kit_seq d))) (fun h6 w6 l6 => ?_) (fun h6 w6 l6 => ?_)
        · obtain ⟨ds2, hds2⟩ := isSq_iff h6
          have hs6 := hs5.mono l6
          refine go_setIx (i := 1) (j := 1) (ce_add (cv 4) ce_int) (ce_ixV (vq_of hs6.line (cv 1)) (ce_neg ce_int) (lineV_at f r)) hs6.own.1 ce_int rfl fun v7 w7 l7 o7 hv7 => ?_
          have hs7 : Sep w1 p ({ f with at_ := f.at_ + 1 } :: r) (w7.put f.fa o7 ((frV f).set 1 v7)) := by
            rw [hset v7 hv7]; exact (hs6.mono l7).frm (f.at_ + 1) o7
          have g57 : Ex w5.G (w7.put f.fa o7 ((frV f).set 1 v7)).G := (l6.trans l7).g
          refine go_appendW 1 (R := fun v w' => ∃ q ga xv, v = .ref q ∧ q ≠ ga ∧ (w7.put f.fa o7 ((frV f).set 1 v7)).H q = none ∧ (w7.put f.fa o7 ((frV f).set 1 v7)).H ga = none ∧ Own w' q [xv, .int 0, .ref ga] ∧ Own w' ga [] ∧ Dp K w'.G xv d) hs7.line ?_ (by rw [lineV_len]; have := mes_len ({ f with at_ := f.at_ + 1 } :: r); have h9 : mesF ({ f with at_ := f.at_ + 1 } :: r) = 1 + dszA (f.ds.drop (f.at_ + 1)) + mesF r := rfl; omega) fun v8 w8 l8 o8 ⟨q, ga, xv, ev, hne, hq, hga, oq, oga, dx⟩ => ?_
          · intro wa la Q k
            refine cw_lstP (R := fun us w' => ∃ ga xv, us = [xv, .int 0, .ref ga] ∧ (w7.put f.fa o7 ((frV f).set 1 v7)).H ga = none ∧ Own w' ga [] ∧ Dp K w'.G xv d) (cp_cons (CE.cw (ce_ixSq (cv 3) (td5.ex g57) (cv 4) (atI_nat hd))) (fun x w3 l3 hx => cp_cons (CE.cw ce_int) (fun y w4 l4 hy => cp_cons (CN.cw (cn_lst (ds := []) ca_nil)) (fun t w5 l5 ⟨ga, us, et, hn, ho, hd⟩ => cp_nil fun w6 l6 => ⟨ga, x, by rw [show y = V.int 0 from hy, et], (l3.trans l4).new hn, by
              have e : us = [] := by cases hd; rfl
              subst e
              exact ho.mono l6, dp_ex ((l4.trans l5).trans l6).g hx⟩))))
              (fun us w' ⟨ga, xv, e, _⟩ => by rw [e]; exact Nat.le_of_ble_eq_true rfl) wa la Q fun v w2 l2 ⟨q, us, w3, ev, l3, ⟨ga, xv, eu, hga, oga, dx⟩, hq, l4, oq⟩ => ?_
            subst eu
            exact k v w2 l2 ⟨q, ga, xv, ev, fun e => own_ne (w' := w3) oga (e ▸ hq) rfl, l3.new hq, hga, oq, oga.mono l4, dp_ex l4.g dx⟩
          · subst ev
            have hs8 := hs7.mono l8
            have al := sep_alive hs7
            have hpush := Sep.push (f := ⟨xv, ds2, 0, q, ga, []⟩) hs8 hne (fun hm => al _ hm hq) (fun hm => al _ hm hga) (hs7.le.new hq) (hs7.le.new hga) oq oga o8
            refine go_nil (go_nil (go_nil ⟨mesF (⟨xv, ds2, 0, q, ga, []⟩ :: { f with at_ := f.at_ + 1 } :: r), ?_, ⟨xv, ds2, 0, q, ga, []⟩ :: { f with at_ := f.at_ + 1 } :: r, _, _, _, _, rfl, hpush, ⟨.nil, ⟨d, hds2, dx⟩, Nat.zero_le _, ⟨⟨d, Nat.succ_pos _, hd, hds2⟩, ?_, td5.ex (g57.trans l8.g), tp5.ex (g57.trans l8.g)⟩⟩, rfl, ⟨?_, ?_⟩, fun h => by cases h⟩))
            · show 1 + dszA (ds2.drop 0) + (1 + dszA (f.ds.drop (f.at_ + 1)) + mesF r) < 1 + dszA (f.ds.drop f.at_) + mesF r
              have := (seq_tupd hds2).2
              rw [List.drop_zero]
              omega
            · exact dpa_ex (g57.trans l8.g) tf5
            · intro f' hf'
              rcases List.mem_cons.mp hf' with rfl | hf'
              · have := (seq_tupd hds2).2
                show dszA ds2 ≤ _
                omega
              · rcases List.mem_cons.mp hf' with rfl | hf'
                · exact hfb
                · exact hmes f' (List.mem_cons_of_mem _ hf')
            · show 1 + dszA (ds2.drop 0) + (1 + dszA (f.ds.drop (f.at_ + 1)) + mesF r) ≤ _
              have := (seq_tupd hds2).2
              rw [List.drop_zero]
              omega
        · have hs6 := hs5.mono l6
          have hno := isSq_no h6
          refine go_setIx (i := 1) (j := 1) (ce_add (cv 4) ce_int) (ce_ixV (vq_of hs6.line (cv 1)) (ce_neg ce_int) (lineV_at f r)) hs6.own.1 ce_int rfl fun v7 w7 l7 o7 hv7 => ?_
          have hs7 : Sep w1 p ({ f with at_ := f.at_ + 1 } :: r) (w7.put f.fa o7 ((frV f).set 1 v7)) := by
            rw [hset v7 hv7]; exact (hs6.mono l7).frm (f.at_ + 1) o7
          have g57 : Ex w5.G (w7.put f.fa o7 ((frV f).set 1 v7)).G := (l6.trans l7).g
          have ul : f.us.length ≤ 1000000 := by
            rw [dpa_len tf5, List.length_map, List.length_take]
            have h2 := dszA_len f.ds
            omega
          refine go_append 5 hs7.own.2.1 (ce_ixSq (cv 3) (td5.ex g57) (cv 4) (atI_nat hd)) ul fun v8 w8 l8 o8 hv8 => ?_
          have hs8 := (hs7.mono l8).fnd (f.us ++ [v8]) o8
          refine go_nil (go_nil (go_nil ⟨mesF ({ f with at_ := f.at_ + 1, us := f.us ++ [v8] } :: r), ?_, { f with at_ := f.at_ + 1, us := f.us ++ [v8] } :: r, _, _, _, _, rfl, hs8, ⟨?_, td5.ex (g57.trans l8.g), hlt, tp5.ex (g57.trans l8.g)⟩, rfl, ⟨?_, ?_⟩, fun h => by cases h⟩))
          · show 1 + dszA (f.ds.drop (f.at_ + 1)) + mesF r < 1 + dszA (f.ds.drop f.at_) + mesF r
            have := dsz_pos d
            omega
          · show DpAll K w8.G (f.us ++ [v8]) ((f.ds.take (f.at_ + 1)).map tupd)
            rw [take_next hd, List.map_append]
            refine dpa_app (dpa_ex (g57.trans l8.g) tf5) (.cons ?_ .nil)
            show Dp K w8.G v8 (tupd d)
            rw [hno.1]
            exact hv8
          · intro f' hf'
            rcases List.mem_cons.mp hf' with rfl | hf'
            · exact hfb
            · exact hmes f' (List.mem_cons_of_mem _ hf')
          · show 1 + dszA (f.ds.drop (f.at_ + 1)) + mesF r ≤ _
            have := dsz_pos d
            omega
    · cases st with
      | cons g r' => rw [List.isEmpty_eq_false_iff.mpr (fun z => by have := lineV_len (g :: r'); rw [z] at this; cases this)] at h; cases h
      | nil =>
      refine go_ret (ce_var 2 (P := Da K (tupd z)) rfl (by rw [htu.1]; exact dp_ex l3.g (hdn rfl))) fun v w4 l4 hv => ⟨((l1.trans (hs.le)).trans l3).trans l4, hv⟩
end
end FW
set_option Elab.async false
set_option linter.all false
set_option maxRecDepth 100000
set_option maxHeartbeats 4000000
namespace FW
open PySem PySem.Spec PyProof.Rows L2 He
section
variable {P : Program} {w : World} {K : PySem.W.Frag} {mg : Str → Option Value} {base : Heap}
/-! ### papers -/
theorem fldD1 {K : PySem.W.Frag} {G : Hp} {f : Str} {u : Vv} {d : PyData} (hu : Dp K G u d) : FldD K G (putF f u []) [(f, d)] := by
  intro q hq
  rw [List.mem_singleton.mp hq]
  exact ⟨u, by rw [lookup_putF]; simp, hu⟩
theorem sc_Basic_init : FnScope ["self", "moves"] ["self", "moves"] (defScope s_Basic_init) := ⟨rfl, rfl, rfl, by decide +kernel, rfl, by decide +kernel, by decide +kernel⟩
theorem mak_Basic (C : Tx K mg) : Mak P w K mg base "Basic" (ga K "Basic") 2 2 (Ini (ga K "Basic") (fun d : PyData => [Da K d]) (fun d => isSq d = true ∧ dsz d ≤ 900000) (fun d fs G => FldD K G fs [("moves", tupd d)])) := by
  refine C.mak (k := 1) ix_Basic_init gl_Basic mk_Basic (ps := ["self", "moves"]) sc_Basic_init (fun _ _ _ _ _ _ us hl => match us, hl with | [_, _], _ => rfl) (fun _ => rfl) (fun cdv B outer s H E z vs w00 w0 x0 dx hr l0 n0 o0 hv hp => ?_)
  have nd := sc_Basic_init.nd
  obtain ⟨v1, rfl, e1⟩ := args1 hv
  have e1 : Dp K w0.G v1 (z) := e1
  refine go_fld 0 o0 (ce_call (R := fun d => Da K (tupd d)) z (ok_as_tuples C) hr (ca1 (ce_var 1 (P := Da K z) rfl e1)) hp) (C.cls cl_Basic) (C.noat na_Basic_moves) (by decide) fun u w4 l4 o4 hu => ?_
  exact go_nil ⟨Le.putO (l0.trans l4) n0 o4, _, o4.put, fldD1 hu⟩
theorem sc_NotBasic_init : FnScope ["self", "moves"] ["self", "moves"] (defScope s_NotBasic_init) := ⟨rfl, rfl, rfl, by decide +kernel, rfl, by decide +kernel, by decide +kernel⟩
theorem mak_NotBasic (C : Tx K mg) : Mak P w K mg base "NotBasic" (ga K "NotBasic") 2 2 (Ini (ga K "NotBasic") (fun d : PyData => [Da K d]) (fun d => isSq d = true ∧ dsz d ≤ 900000) (fun d fs G => FldD K G fs [("moves", tupd d)])) := by
  refine C.mak (k := 1) ix_NotBasic_init gl_NotBasic mk_NotBasic (ps := ["self", "moves"]) sc_NotBasic_init (fun _ _ _ _ _ _ us hl => match us, hl with | [_, _], _ => rfl) (fun _ => rfl) (fun cdv B outer s H E z vs w00 w0 x0 dx hr l0 n0 o0 hv hp => ?_)
  have nd := sc_NotBasic_init.nd
  obtain ⟨v1, rfl, e1⟩ := args1 hv
  have e1 : Dp K w0.G v1 (z) := e1
  refine go_fld 0 o0 (ce_call (R := fun d => Da K (tupd d)) z (ok_as_tuples C) hr (ca1 (ce_var 1 (P := Da K z) rfl e1)) hp) (C.cls cl_NotBasic) (C.noat na_NotBasic_moves) (by decide) fun u w4 l4 o4 hu => ?_
  exact go_nil ⟨Le.putO (l0.trans l4) n0 o4, _, o4.put, fldD1 hu⟩
theorem sc_Bridge_init : FnScope ["self", "moves"] ["self", "moves"] (defScope s_Bridge_init) := ⟨rfl, rfl, rfl, by decide +kernel, rfl, by decide +kernel, by decide +kernel⟩
theorem mak_Bridge (C : Tx K mg) : Mak P w K mg base "Bridge" (ga K "Bridge") 2 2 (Ini (ga K "Bridge") (fun d : PyData => [Da K d]) (fun d => isSq d = true ∧ dsz d ≤ 900000) (fun d fs G => FldD K G fs [("moves", tupd d)])) := by
  refine C.mak (k := 1) ix_Bridge_init gl_Bridge mk_Bridge (ps := ["self", "moves"]) sc_Bridge_init (fun _ _ _ _ _ _ us hl => match us, hl with | [_, _], _ => rfl) (fun _ => rfl) (fun cdv B outer s H E z vs w00 w0 x0 dx hr l0 n0 o0 hv hp => ?_)
  have nd := sc_Bridge_init.nd
  obtain ⟨v1, rfl, e1⟩ := args1 hv
  have e1 : Dp K w0.G v1 (z) := e1
  refine go_fld 0 o0 (ce_call (R := fun d => Da K (tupd d)) z (ok_as_tuples C) hr (ca1 (ce_var 1 (P := Da K z) rfl e1)) hp) (C.cls cl_Bridge) (C.noat na_Bridge_moves) (by decide) fun u w4 l4 o4 hu => ?_
  exact go_nil ⟨Le.putO (l0.trans l4) n0 o4, _, o4.put, fldD1 hu⟩
theorem sc_OtherKind_init : FnScope ["self", "rings"] ["self", "rings"] (defScope s_OtherKind_init) := ⟨rfl, rfl, rfl, by decide +kernel, rfl, by decide +kernel, by decide +kernel⟩
theorem mak_OtherKind (C : Tx K mg) : Mak P w K mg base "OtherKind" (ga K "OtherKind") 2 2 (Ini (ga K "OtherKind") (fun d : PyData => [Da K d]) (fun d => isSq d = true ∧ dsz d ≤ 900000) (fun d fs G => FldD K G fs [("rings", tupd d)])) := by
  refine C.mak (k := 1) ix_OtherKind_init gl_OtherKind mk_OtherKind (ps := ["self", "rings"]) sc_OtherKind_init (fun _ _ _ _ _ _ us hl => match us, hl with | [_, _], _ => rfl) (fun _ => rfl) (fun cdv B outer s H E z vs w00 w0 x0 dx hr l0 n0 o0 hv hp => ?_)
  have nd := sc_OtherKind_init.nd
  obtain ⟨v1, rfl, e1⟩ := args1 hv
  have e1 : Dp K w0.G v1 (z) := e1
  refine go_fld 0 o0 (ce_call (R := fun d => Da K (tupd d)) z (ok_as_tuples C) hr (ca1 (ce_var 1 (P := Da K z) rfl e1)) hp) (C.cls cl_OtherKind) (C.noat na_OtherKind_rings) (by decide) fun u w4 l4 o4 hu => ?_
  exact go_nil ⟨Le.putO (l0.trans l4) n0 o4, _, o4.put, fldD1 hu⟩
/-! ### rings made shorter -/
theorem rots_at {c x : List Nat} (h : x ∈ rots c) : ∃ k, x = c.drop k ++ c.take k := by
  obtain ⟨k, _, rfl⟩ := List.mem_map.mp h
  exact ⟨k, rfl⟩
theorem minT_mem (x : List Nat) (xs : List (List Nat)) : minT x xs ∈ x :: xs := by
  unfold minT
  induction xs generalizing x with
  | nil => exact List.mem_cons_self ..
  | cons y r ih =>
    rw [List.foldl_cons]
    have := ih (if decide (y < x) then y else x)
    rcases List.mem_cons.mp this with h | h
    · rw [h]
      split
      · exact List.mem_cons_of_mem _ (List.mem_cons_self ..)
      · exact List.mem_cons_self ..
    · exact List.mem_cons_of_mem _ (List.mem_cons_of_mem _ h)
theorem ring_in (l : List Nat) : ring l ∈ rots (rC l) := by
  obtain ⟨x, xs, h⟩ := rots_ne (rC l)
  unfold ring
  rw [h]
  exact minT_mem x xs
theorem ring_len (l : List Nat) : (ring l).length = (rC l).length := by
  obtain ⟨k, h⟩ := rots_at (ring_in l)
  rw [h, List.length_append, List.length_drop, List.length_take]
  omega
theorem ring_mem {l : List Nat} {c : Nat} (h : c ∈ ring l) : c ∈ l := by
  obtain ⟨k, e⟩ := rots_at (ring_in l)
  rw [e] at h
  have h2 : c ∈ rC l := by
    rcases List.mem_append.mp h with h | h
    · exact List.mem_of_mem_drop h
    · exact List.mem_of_mem_take h
  exact List.mem_of_mem_drop (List.mem_of_mem_take h2)
theorem img_mem {ls : List Nat} {ws : List (List Nat)} (hL : LetOk ls) (hI : imgOk ls ws) {c d : Nat} (hc : c ∈ signs ls) (hd : d ∈ img ls ws c) : d ∈ signs ls := by
  have key : ∀ x ∈ ws, ∀ d ∈ x, d ∈ signs ls := fun x hx d hd => of_decide_eq_true (List.all_eq_true.mp (Bool.and_eq_true_iff.mp (Bool.and_eq_true_iff.mp (hI.2 x hx)).1).2 d hd)
  unfold img at hd
  split at hd
  · rename_i h; exact key _ (img1_mem hI h) d hd
  · rename_i h
    rcases List.mem_append.mp hc with hc | hc
    · exact absurd hc h
    · obtain ⟨e, he, rfl⟩ := List.mem_map.mp hc
      rw [(upc_loc (hL.2.2.2 e he)).1] at hd
      unfold undo at hd
      obtain ⟨y, hy, rfl⟩ := List.mem_map.mp hd
      exact flip_signs hL (key _ (img1_mem hI he) y (List.mem_reverse.mp hy))
theorem led_mem {ls : List Nat} (hL : LetOk ls) {m : List Nat × List Nat} (hm : m ∈ mvs ls) {l : List Nat} (hl : ∀ c ∈ l, c ∈ signs ls) : ∀ c ∈ led ls m l, c ∈ signs ls := fun c hc => by
  obtain ⟨d, hd, hcd⟩ := List.mem_flatMap.mp (red_mem (ring_mem hc))
  exact img_mem hL (mvs_img hL hm) (hl d hd) hcd
def shortF (ls : List Nat) (ms : List (List Nat × List Nat)) (r : List Nat) : Option (List Nat × List Nat) := ms.find? fun m => decide ((led ls m r).length < r.length)
def optG (K : PySem.W.Frag) (ls : List Nat) (r : List Nat) : Option (List Nat × List Nat) → GP
  | none => No
  | some m => Da K (.tuple [mvD m, strD (led ls m r)])
abbrev spShort (K : PySem.W.Frag) : Sp := Pur (fun x : List Nat × List (List Nat × List Nat) × List Nat => [T x.1, Da K (mvL x.2.1), T x.2.2]) (fun x => LetOk x.1 ∧ (∀ m ∈ x.2.1, m ∈ mvs x.1) ∧ (∀ c ∈ x.2.2, c ∈ signs x.1) ∧ x.2.2.length ≤ 100) (fun x => optG K x.1 x.2.2 (shortF x.1 x.2.1 x.2.2))
theorem sc_shorter_by : FnScope ["letters", "moves", "ring", "move", "made"] ["letters", "moves", "ring"] (defScope s_shorter_by) := ⟨rfl, rfl, rfl, by decide +kernel, rfl, by decide +kernel, by decide +kernel⟩
theorem ok_shorter_by (C : Tx K mg) : Cal P w K mg base "shorter_by" 3 8 (spShort K) := by
  refine C.cal (k := 7) ix_shorter_by gl_shorter_by (ps := ["letters", "moves", "ring"]) sc_shorter_by (fun _ _ _ _ _ _ us hl => match us, hl with | [_, _, _], _ => rfl) (fun _ => rfl) (fun cdv B outer s H E z vs w0 hr hv hp => ?_)
  have nd := sc_shorter_by.nd
  obtain ⟨ls, ms, r⟩ := z
  try dsimp only at hp
  obtain ⟨v1, v2, v3, rfl, e1, e2, e3⟩ := args3 hv
  have e1 : v1 = .str (S (ls)) := e1
  subst e1
  have e2 : Dp K w0.G v2 (mvL ms) := e2
  have e3 : v3 = .str (S (r)) := e3
  subst e3
  obtain ⟨hL, hms, hc, hl⟩ := hp
  refine go_forL (i := 3) (ds := ms.map mvD) (ce_var 1 (P := Da K (mvL ms)) rfl e2) (fun w1 l1 => ⟨fun k σ' w' => ∃ x y, σ' = [some (.str (S ls)), some v2, some (.str (S r)), x, y] ∧ (ms.take k).find? (fun m => decide ((led ls m r).length < r.length)) = none ∧ Le w0 w' ∧ Ex w1.G w'.G, ⟨_, _, rfl, rfl, l1, Evl.Ex.refl _⟩, fun k σ' w' ⟨_, _, _, _, _, g⟩ => g, ?_, ?_⟩) PassesOwn.never rfl nd
  · rintro k d v σ' w' hk dv ⟨x, y, rfl, hn, l, g⟩
    obtain ⟨m, hm, rfl⟩ := enc_get hk
    have hmm := hms m (List.mem_of_getElem? hm)
    have hlm : (led ls m r).length ≤ 100000 := by
      have h1 := ring_len (mp ls (mapW ls m) r)
      have h2 := rC_len (mp ls (mapW ls m) r)
      have h3 := mp_len hL (mvs_img hL hmm) hc
      show (ring _).length ≤ _
      omega
    refine go_set (i := 4) (ce_call (R := fun x : List Nat × List Nat × (List Nat × List Nat) => T (led x.1 x.2.2 x.2.1)) (ls, r, m) (ok_led_ring C) hr (ca_cons (cv 0) (ca_cons (cv 2) (ca1 (ce_var 3 (P := Da K (mvD m)) rfl dv)))) ⟨hL, hc, hl, hmm⟩) (fun u w2 l2 hu => ?_) nd
    have hu : u = .str (S (led ls m r)) := hu
    subst hu
    refine go_if (t := decide ((led ls m r).length < r.length)) (CT.cast (ct_lt (ce_lenT (C.free fr_len) (cv 4) (by omega)) (ce_lenT (C.free fr_len) (cv 2) (by omega))) (decide_eq_decide.mpr (by omega))) (fun h w3 l3 => ?_) (fun h w3 l3 => ?_)
    · refine go_ret (ce_tup (ds := [mvD m, strD (led ls m r)]) (ca_cons (ce_var 3 (P := Da K (mvD m)) rfl (dp_ex (l2.g.trans l3.g) dv)) (ca_cons (CE.daT (cv 4)) ca_nil))) fun v w4 l4 hv => ⟨((l.trans l2).trans l3).trans l4, ?_⟩
      have e : shortF ls ms r = some m := find_take hm h hn
      show optG K ls r (shortF ls ms r) v w4.G
      rw [e]; exact hv
    · refine go_nil (go_nil ⟨_, _, rfl, ?_, (l.trans l2).trans l3, (g.trans l2.g).trans l3.g⟩)
      rw [take_next hm, List.find?_append, hn]
      simp [h]
  · rintro σ' w' ⟨x, y, rfl, hn, l, g⟩
    rw [List.length_map, List.take_length] at hn
    refine go_ret ce_non fun v w2 l2 hv => ⟨l.trans l2, ?_⟩
    have e : shortF ls ms r = none := hn
    show optG K ls r (shortF ls ms r) v w2.G
    rw [e]; exact hv
abbrev spSignWord : Sp := Pur (fun x : List Nat × List Nat × List Nat => [T x.1, T x.2.1, T x.2.2]) (fun x => LetOk x.2.1 ∧ isR x.2.1 x.2.2 = true ∧ x.2.2 ≠ []) (fun x => T x.2.2)
theorem sc_need_sign_word : FnScope ["what", "letters", "word"] ["what", "letters", "word"] (defScope s_need_sign_word) := ⟨rfl, rfl, rfl, by decide +kernel, rfl, by decide +kernel, by decide +kernel⟩
theorem ok_need_sign_word (C : Tx K mg) : Cal P w K mg base "need_sign_word" 3 3 spSignWord := by
  refine C.cal (k := 2) ix_need_sign_word gl_need_sign_word (ps := ["what", "letters", "word"]) sc_need_sign_word (fun _ _ _ _ _ _ us hl => match us, hl with | [_, _, _], _ => rfl) (fun _ => rfl) (fun cdv B outer s H E z vs w0 hr hv hp => ?_)
  have nd := sc_need_sign_word.nd
  obtain ⟨wt, ls, l⟩ := z
  try dsimp only at hp
  obtain ⟨v1, v2, v3, rfl, e1, e2, e3⟩ := args3 hv
  have e1 : v1 = .str (S (wt)) := e1
  subst e1
  have e2 : v2 = .str (S (ls)) := e2
  subst e2
  have e3 : v3 = .str (S (l)) := e3
  subst e3
  obtain ⟨hL, hR, hne⟩ := hp
  have hl := isR_len hR
  refine go_skip (ct_or2 (ct_not (ct_val (ce_call (R := fun x : List Nat × List Nat => Bo (isR x.1 x.2)) (ls, l) (ok_is_reduced_by C) hr (ca_cons (cv 1) (ca1 (cv 2))) ⟨hL, by show l.length ≤ 100000; omega⟩))) fun _ => ct_eqT (cv 2) (ce_str [])) (by show (!isR ls l || decide (l = [])) = false; rw [hR, decide_eq_false hne]; rfl) fun w1 l1 => ?_
  exact go_ret (cv 2) fun v w2 l2 hv => ⟨l1.trans l2, hv⟩
/-! ### least rings -/
def lst (ls : List Nat) : Nat → List Nat → List ((List Nat × List Nat) × List Nat)
  | 0, _ => []
  | f + 1, r => match shortF ls (mvs ls) r with
    | none => []
    | some m => (m, led ls m r) :: lst ls f (led ls m r)
theorem short_lt {ls : List Nat} {ms : List (List Nat × List Nat)} {r : List Nat} {m : List Nat × List Nat} (h : shortF ls ms r = some m) : (led ls m r).length < r.length ∧ m ∈ ms :=
  ⟨by have := List.find?_some h; exact of_decide_eq_true this, List.mem_of_find?_eq_some h⟩
theorem lst_fuel (ls : List Nat) : ∀ (f g : Nat) (r : List Nat), r.length ≤ f → r.length ≤ g → lst ls f r = lst ls g r
  | 0, g, r, hf, hg => by
    have : r = [] := List.eq_nil_of_length_eq_zero (by omega)
    subst this
    cases g with
    | zero => rfl
    | succ g =>
      show [] = lst ls (g + 1) []
      unfold lst
      cases h : shortF ls (mvs ls) [] with
      | none => rfl
      | some m => have := (short_lt h).1; simp at this
  | f + 1, 0, r, hf, hg => by
    have : r = [] := List.eq_nil_of_length_eq_zero (by omega)
    subst this
    show lst ls (f + 1) [] = []
    unfold lst
    cases h : shortF ls (mvs ls) [] with
    | none => rfl
    | some m => have := (short_lt h).1; simp at this
  | f + 1, g + 1, r, hf, hg => by
    unfold lst
    cases h : shortF ls (mvs ls) r with
    | none => rfl
    | some m =>
      have := (short_lt h).1
      show _ :: _ = _ :: _
      rw [lst_fuel ls f g _ (by omega) (by omega)]
def steps (ls r : List Nat) : List ((List Nat × List Nat) × List Nat) := lst ls r.length r
theorem steps_none {ls r : List Nat} (h : shortF ls (mvs ls) r = none) : steps ls r = [] := by
  unfold steps
  cases hr : r.length with
  | zero => rfl
  | succ n => unfold lst; rw [h]
theorem steps_some {ls r : List Nat} {m : List Nat × List Nat} (h : shortF ls (mvs ls) r = some m) : steps ls r = (m, led ls m r) :: steps ls (led ls m r) := by
  have h1 := (short_lt h).1
  unfold steps
  cases hr : r.length with
  | zero => omega
  | succ n =>
    rw [lst, h]
    show _ :: _ = _ :: _
    rw [lst_fuel ls n (led ls m r).length _ (by omega) (Nat.le_refl _)]
theorem steps_len (ls : List Nat) : ∀ (n : Nat) (r : List Nat), r.length ≤ n → (steps ls r).length ≤ r.length
  | 0, r, h => by
    have : r = [] := List.eq_nil_of_length_eq_zero (by omega)
    subst this
    exact Nat.le_refl 0
  | n + 1, r, h => by
    cases hs : shortF ls (mvs ls) r with
    | none => rw [steps_none hs]; exact Nat.zero_le _
    | some m =>
      have h1 := (short_lt hs).1
      have h2 := steps_len ls n (led ls m r) (by omega)
      rw [steps_some hs, List.length_cons]; omega
/-- the rings, the last one first made -/
def ringsL (ls r : List Nat) : List (List Nat) := r :: (steps ls r).map (·.2)
def lastR (ls l : List Nat) : List Nat := (ringsL ls (ring l)).getLastD []
abbrev leastD (ls l : List Nat) : PyData := .tuple [.list ((steps ls (ring l)).map fun s => mvD s.1), .list ((ringsL ls (ring l)).map strD)]
abbrev spLeast (K : PySem.W.Frag) : Sp := Pur (fun x : List Nat × List Nat => [T x.1, T x.2]) (fun x => LetOk x.1 ∧ x.1.length ≤ 3 ∧ (∀ c ∈ x.2, c ∈ signs x.1) ∧ x.2.length ≤ 100) (fun x => Da K (leastD x.1 x.2))
theorem sc_least_by : FnScope ["letters", "word", "moves", "rings", "every", "told"] ["letters", "word"] (defScope s_least_by) := ⟨rfl, rfl, rfl, by decide +kernel, rfl, by decide +kernel, by decide +kernel⟩
theorem ok_least_by (C : Tx K mg) : Cal P w K mg base "least_by" 2 9 (spLeast K) := by
  refine C.cal (k := 8) ix_least_by gl_least_by (ps := ["letters", "word"]) sc_least_by (fun _ _ _ _ _ _ us hl => match us, hl with | [_, _], _ => rfl) (fun _ => rfl) (fun cdv B outer s H E z vs w0 hr hv hp => ?_)
  have nd := sc_least_by.nd
  obtain ⟨ls, l⟩ := z
  try dsimp only at hp
  obtain ⟨v1, v2, rfl, e1, e2⟩ := args2 hv
  have e1 : v1 = .str (S (ls)) := e1
  subst e1
  have e2 : v2 = .str (S (l)) := e2
  subst e2
  obtain ⟨hL, h3, hc, hl⟩ := hp
  have ha : Asc l := fun c h => signs_asc hL c (hc c h)
  have hrl : (ring l).length ≤ 100 := by have h1 := ring_len l; have h2 := rC_len l; omega
  refine go_par3 (i := 2) (j := 3) (l := 4) (R := fun us w' => ∃ pm pr ve, us = [.ref pm, .ref pr, ve] ∧ w0.H pm = none ∧ w0.H pr = none ∧ pm ≠ pr ∧ Own w' pm [] ∧ Own w' pr [.str (S (ring l))] ∧ Dp K w'.G ve (mvL (mvs ls)))
    (cp_cons (CN.cw (cn_lst (ds := []) ca_nil)) fun v w1 l1 ⟨pm, us, ev, nm, om, dm⟩ => cp_cons (CN.cw (cn_lst (ds := [strD (ring l)]) (ca_cons (CE.daT (ce_call (R := fun l => T (ring l)) l (ok_ring_by C) hr (ca1 (cv 1)) ⟨ha, by omega⟩)) ca_nil))) fun v2 w2 l2 ⟨pr, us2, ev2, nr, orr, dr⟩ => cp_cons (CE.cw (ce_call (R := fun l => Da K (mvL (mvs l))) ls (ok_moves_by C) hr (ca1 (cv 0)) ⟨hL, h3⟩)) fun v3 w3 l3 hv3 => cp_nil fun w4 l4 => ⟨pm, pr, v3, by rw [ev, ev2], nm, l1.new nr, own_ne (w' := w1) om nr, by
        have e : us = [] := by cases dm; rfl
        subst e
        exact om.mono ((l2.trans l3).trans l4), by
        have e : us2 = [.str (S (ring l))] := by cases dr with | cons h t => cases t; cases h; rfl
        subst e
        exact orr.mono (l3.trans l4), dp_ex l4.g hv3⟩)
    (fun u1 u2 u3 w1 l1 ⟨pm, pr, ve, e, nm, nr, hne, om, orr, dve⟩ => ?_) (fun vs w' ⟨pm, pr, ve, e, _⟩ => ⟨_, _, _, e⟩) rfl nd
  obtain ⟨rfl, rfl, rfl⟩ : u1 = .ref pm ∧ u2 = .ref pr ∧ u3 = ve := by simpa using e
  have dr1 : DpAll K w1.G [V.str (S (ring l))] [strD (ring l)] := .cons (.str _) .nil
  refine go_set (i := 5) (ce_call (R := fun x : List Nat × List (List Nat × List Nat) × List Nat => optG K x.1 x.2.2 (shortF x.1 x.2.1 x.2.2)) (ls, mvs ls, ring l) (ok_shorter_by C) hr (ca_cons (cv 0) (ca_cons (ce_var 4 (P := Da K (mvL (mvs ls))) rfl dve) (ca1 (CE.toT (ce_ixQ (i := -1) (cq_own 3 orr dr1) (ce_neg ce_int) rfl))))) ⟨hL, fun m h => h, fun c h => hc c (ring_mem h), hrl⟩) (fun vt w2 l2 hvt => ?_) nd
  refine go_while (fun m σ' w' => ∃ (acc : List ((List Nat × List Nat) × List Nat)) (r : List Nat) (vt : Vv) (um ur : List Vv), σ' = [some (.str (S ls)), some (.str (S l)), some (.ref pm), some (.ref pr), some u3, some vt] ∧ Own w' pm um ∧ Own w' pr ur ∧ DpAll K w'.G um (acc.map fun s => mvD s.1) ∧ DpAll K w'.G ur ((ring l :: acc.map (·.2)).map strD) ∧ (ring l :: acc.map (·.2)).getLastD [] = r ∧ steps ls (ring l) = acc ++ steps ls r ∧ m = r.length ∧ r.length ≤ 100 ∧ acc.length + r.length ≤ 100 ∧ (∀ c ∈ r, c ∈ signs ls) ∧ optG K ls r (shortF ls (mvs ls) r) vt w'.G ∧ Dp K w'.G u3 (mvL (mvs ls)) ∧ Le w0 w') (ring l).length ⟨([] : List ((List Nat × List Nat) × List Nat)), ring l, vt, _, _, rfl, om.mono l2, orr.mono l2, .nil, dpa_ex l2.g dr1, rfl, rfl, rfl, hrl, by simpa using hrl, fun c h => hc c (ring_mem h), hvt, dp_ex l2.g dve, l1.trans l2⟩ ?_ PassesOwn.never
  rintro m σ' w' ⟨acc, r, vt, um, ur, rfl, om, orr, dm, dr, hlast, hst, rfl, hr100, hacc, hrc, hvt, dve, lw⟩
  cases hsf : shortF ls (mvs ls) r with
  | none =>
    rw [hsf] at hvt
    have hvt : vt = .non := hvt
    subst hvt
    refine ⟨!decide (V.non = V.non), ct_notN (cv 5), fun h => by simp at h, fun h w3 l3 => ?_⟩
    have ef : acc = steps ls (ring l) := by rw [hst, steps_none hsf, List.append_nil]
    subst ef
    refine go_retO (P := fun v G => ∃ q, v = .ref q ∧ G q = some (.tup [.ref pm, .ref pr])) ?_ fun v w4 l4 ⟨q, ev, hq⟩ => ?_
    · intro wa la Q k
      refine e_of (pe_tup pa_can) ?_
      refine (cp_cons (R := fun us w' => us = [.ref pm, .ref pr]) (CE.cw (cv 2)) fun x w5 l5 hx => cp_cons (CE.cw (cv 3)) fun y w6 l6 hy => cp_nil fun w7 l7 => by rw [show x = _ from hx, show y = _ from hy]) wa la _ fun us w5 l5 hus => ?_
      subst hus
      refine ⟨line_of (n := 2) (by decide), fun p hp => ?_⟩
      have g := gr_new w5.ex (o := .tup [.ref pm, .ref pr]) hp
      exact k _ (w5.grow g.2 g.1) (l5.trans (new_da hp)) ⟨p, rfl, upd_same⟩
    · subst ev
      have om4 := om.mono (l3.trans l4)
      have or4 := orr.mono (l3.trans l4)
      have l04 : Le w0 w4 := (lw.trans l3).trans l4
      have or5 : Own (w4.ice pm om4) pr ur := om4.ice_ne or4 (Ne.symm hne)
      refine ⟨(w4.ice pm om4).ice pr or5, rfl, (l04.ice nm om4).ice nr or5, ?_⟩
      have g1 := ice_ex om4
      have g2 := ice_ex or5
      have d1 : Dp K (w4.ice pm om4).G (.ref pm) (.list ((steps ls (ring l)).map fun s => mvD s.1)) := ice_da om4 (dpa_ex (l3.trans l4).g dm)
      have d2 : Dp K ((w4.ice pm om4).ice pr or5).G (.ref pr) (.list ((ringsL ls (ring l)).map strD)) := ice_da or5 (dpa_ex g1 (dpa_ex (l3.trans l4).g dr))
      exact .tup (.inl (.inl (g2 _ _ (g1 _ _ hq)))) (.cons (dp_ex g2 d1) (.cons d2 .nil))
  | some m =>
    rw [hsf] at hvt
    have hvt : Dp K w'.G vt (.tuple [mvD m, strD (led ls m r)]) := hvt
    have hne2 : vt ≠ .non := by intro e; subst e; cases hvt
    have hsl := short_lt hsf
    refine ⟨!decide (vt = V.non), ct_notN (cv 5), fun h w3 l3 => ?_, fun h => by simp [hne2] at h⟩
    refine go_append 2 (om.mono l3) (ce_ixTup (i := 0) (ce_var 5 (P := Da K (.tuple [mvD m, strD (led ls m r)])) rfl (dp_ex l3.g hvt)) ce_int rfl) (by rw [dpa_len dm, List.length_map]; omega) fun x4 w4 l4 o4 hx4 => ?_
    have or4 : Own (w4.put pm o4 (um ++ [x4])) pr ur := o4.put_ne ((orr.mono l3).mono l4) (Ne.symm hne)
    have hvt4 : Dp K (w4.put pm o4 (um ++ [x4])).G vt (.tuple [mvD m, strD (led ls m r)]) := dp_ex (l3.trans l4).g hvt
    have le4 : Le w0 (w4.put pm o4 (um ++ [x4])) := ((lw.trans l3).trans l4).put nm o4
    refine go_append 3 or4 (CE.toT (ce_ixTup (i := 1) (ce_var 5 (P := Da K (.tuple [mvD m, strD (led ls m r)])) rfl hvt4) ce_int rfl)) (by rw [dpa_len dr, List.length_map, List.length_cons, List.length_map]; omega) fun x5 w5 l5 o5 hx5 => ?_
    have hx5 : x5 = _ := hx5
    subst hx5
    have om5 : Own (w5.put pr o5 (ur ++ [V.str (S (led ls m r))])) pm (um ++ [x4]) := o5.put_ne (o4.put.mono l5) hne
    have dr5 : DpAll K (w5.put pr o5 (ur ++ [V.str (S (led ls m r))])).G (ur ++ [V.str (S (led ls m r))]) ((ring l :: (acc ++ [(m, led ls m r)]).map (·.2)).map strD) := by
      have e : (ring l :: (acc ++ [(m, led ls m r)]).map (·.2)).map strD = (ring l :: acc.map (·.2)).map strD ++ [strD (led ls m r)] := by simp
      rw [e]
      exact dpa_app (dpa_ex ((l3.trans l4).g.trans l5.g) dr) (.cons (.str _) .nil)
    have hl5 : (ring l :: (acc ++ [(m, led ls m r)]).map (·.2)).getLastD [] = led ls m r := by
      rw [List.map_append]
      show (ring l :: (acc.map (·.2) ++ [led ls m r])).getLastD [] = _
      rw [← List.cons_append, List.getLastD_eq_getLast?, List.getLast?_append]
      rfl
    have g35 : Ex w'.G (w5.put pr o5 (ur ++ [V.str (S (led ls m r))])).G := (l3.trans l4).g.trans l5.g
    have hmc := led_mem hL hsl.2 hrc
    refine go_set (i := 5) (ce_call (R := fun x : List Nat × List (List Nat × List Nat) × List Nat => optG K x.1 x.2.2 (shortF x.1 x.2.1 x.2.2)) (ls, mvs ls, led ls m r) (ok_shorter_by C) hr (ca_cons (cv 0) (ca_cons (ce_var 4 (P := Da K (mvL (mvs ls))) rfl (dp_ex g35 dve)) (ca1 (CE.toT (ce_ixQ (i := -1) (cq_own 3 o5.put dr5) (ce_neg ce_int) ?_))))) ⟨hL, fun m h => h, hmc, by show (led ls m r).length ≤ 100; omega⟩) (fun vt2 w6 l6 hvt2 => ?_) nd
    · have e : (ring l :: (acc ++ [(m, led ls m r)]).map (·.2)).map strD = (ring l :: acc.map (·.2)).map strD ++ [strD (led ls m r)] := by simp
      rw [e]; exact atI_last _ _
    · refine go_nil ⟨(led ls m r).length, hsl.1, acc ++ [(m, led ls m r)], led ls m r, vt2, _, _, rfl, om5.mono l6, o5.put.mono l6, ?_, dpa_ex l6.g dr5, hl5, ?_, rfl, by omega, ?_, hmc, hvt2, dp_ex (g35.trans l6.g) dve, ((le4.trans l5).put nr o5).trans l6⟩
      · rw [List.map_append]
        exact dpa_app (dpa_ex (((l3.trans l4).g.trans l5.g).trans l6.g) dm) (.cons (dp_ex (l5.g.trans l6.g) hx4) .nil)
      · rw [hst, steps_some hsf]; simp
      · rw [List.length_append]; simp only [List.length_cons, List.length_nil]; omega
end
end FW
set_option Elab.async false
set_option linter.all false
set_option maxRecDepth 100000
set_option maxHeartbeats 4000000
namespace FW
open PySem PySem.Spec PyProof.Rows L2 He
section
variable {P : Program} {w : World} {K : PySem.W.Frag} {mg : Str → Option Value} {base : Heap}
theorem room_u1 {k : Nat} {A : Around} (h : Room k A) : A.units + 1 < cLine := by have := h.units; omega
theorem flat1 (f : Nat → Nat) : ∀ l : List Nat, (l.map fun c => [f c]).flatten = l.map f
  | [] => rfl
  | a :: r => by rw [List.map_cons, List.flatten_cons, flat1 f r]; rfl
theorem eqv_sg : ∀ (l m : List Nat), PyData.eqvAll (l.map fun c => strD [c]) (m.map fun c => strD [c]) = true → l = m
  | [], [], _ => rfl
  | [], _ :: _, h => by simp [PyData.eqvAll] at h
  | _ :: _, [], h => by simp [PyData.eqvAll] at h
  | a :: l, b :: m, h => by
    simp only [List.map_cons, PyData.eqvAll, Bool.and_eq_true] at h
    have h1 : S [a] = S [b] := by
      have := h.1
      simp only [PyData.eqv] at this
      exact eq_of_beq this
    have h2 := eqv_sg l m h.2
    have h3 := S_inj h1
    simp at h3
    rw [h3, h2]
theorem ownB_perm {ls t : List Nat} (h : ownB ls t = true) : (t.map loc).Perm ls := by
  have h2 := (Bool.and_eq_true_iff.mp h).2
  have h3 : srtT (t.map loc) = srtT ls := eqv_sg _ _ (by simpa [PyData.eqv] using h2)
  exact (srtT_perm _).symm.trans (h3 ▸ srtT_perm ls)
theorem mvs_own {ls : List Nat} {m : List Nat × List Nat} (h : m ∈ mvs ls) (h1 : m.1 = []) : (m.2.map loc).Perm ls ∧ ∀ c ∈ m.2, c ∈ signs ls := by
  rcases List.mem_append.mp (mvs_mem h) with h | h
  · obtain ⟨t, ht, rfl⟩ := List.mem_map.mp h
    exact ⟨ownB_perm (List.mem_filter.mp ht).2, fun c hc => sl_mem.mp ((txts_at (List.mem_filter.mp ht).1).2 c hc)⟩
  · obtain ⟨s, hs, h⟩ := List.mem_flatMap.mp h
    obtain ⟨t, ht, rfl⟩ := List.mem_map.mp h
    cases h1
/-! ### moves undone -/
def unC (p : Nat × Nat) : Nat := if 97 ≤ p.2 ∧ p.2 ≤ 122 then p.1 else upc p.1
def unm (ls t : List Nat) (c : Nat) : Nat := ((ls.zip t).reverse.find? fun p => decide (loc p.2 = c)).elim 0 unC
def und (ls : List Nat) (m : List Nat × List Nat) : List Nat × List Nat := if m.1 ≠ [] then (m.1.map flip, m.2) else ([], ls.map (unm ls m.2))
def ents (ls t : List Nat) : List (Key × Vv) := (ls.zip t).map fun p => (tk [loc p.2], V.str (S [unC p]))
theorem ents_val {ls t : List Nat} {c : Nat} (h : (t.map loc).Perm ls) (hc : c ∈ ls) : valV (mergeK [] (ents ls t)) (tk [c]) = some (.str (S [unm ls t c])) := by
  have hlen : t.length = ls.length := by have := h.length_eq; simpa using this
  rw [valV_merge]
  have e : ∀ xs : List (Nat × Nat), valV ((xs.map fun p => ((tk [loc p.2] : Key), V.str (S [unC p])))) (tk [c]) = (xs.find? fun p => decide (loc p.2 = c)).map fun p => V.str (S [unC p]) := by
    intro xs
    unfold valV
    induction xs with
    | nil => rfl
    | cons a r ih =>
      rw [List.map_cons, List.find?_cons, List.find?_cons]
      by_cases q : loc a.2 = c
      · simp [q]
      · have q2 : ¬ (tk [loc a.2] : Key) = tk [c] := fun z => q (by simpa using S_inj (Sum.inr.inj z))
        simp only [q, q2, decide_false]
        exact ih
  unfold ents
  rw [← List.map_reverse, e]
  have hm := h.mem_iff.mpr hc
  obtain ⟨d, hd, ed⟩ := List.mem_map.mp hm
  obtain ⟨i, hi⟩ := List.mem_iff_getElem?.mp hd
  have hil := (List.getElem?_eq_some_iff.mp hi).1
  cases q : (ls.zip t).reverse.find? fun p => decide (loc p.2 = c) with
  | none =>
    have := List.find?_eq_none.mp q (ls[i]'(by omega), d) (List.mem_reverse.mpr (List.mem_iff_getElem?.mpr ⟨i, List.getElem?_zip_eq_some.mpr ⟨List.getElem?_eq_getElem (by omega), hi⟩⟩))
    simp [ed] at this
  | some p =>
    unfold unm
    rw [q]; rfl
abbrev spUnd (K : PySem.W.Frag) : Sp := Pur (fun x : List Nat × (List Nat × List Nat) => [T x.1, Da K (mvD x.2)]) (fun x => LetOk x.1 ∧ x.2 ∈ mvs x.1) (fun x => Da K (mvD (und x.1 x.2)))
theorem sc_undone_by_letter : FnScope ["letters", "move", "found", "letter", "sign"] ["letters", "move"] (defScope s_undone_by_letter) := ⟨rfl, rfl, rfl, by decide +kernel, rfl, by decide +kernel, by decide +kernel⟩
theorem ok_undone_by_letter (C : Tx K mg) : Cal P w K mg base "undone_by_letter" 2 1 (spUnd K) := by
  refine C.cal (k := 0) ix_undone_by_letter gl_undone_by_letter (ps := ["letters", "move"]) sc_undone_by_letter (fun _ _ _ _ _ _ us hl => match us, hl with | [_, _], _ => rfl) (fun _ => rfl) (fun cdv B outer s H E z vs w0 hr hv hp => ?_)
  have nd := sc_undone_by_letter.nd
  obtain ⟨ls, m⟩ := z
  try dsimp only at hp
  obtain ⟨v1, v2, rfl, e1, e2⟩ := args2 hv
  have e1 : v1 = .str (S (ls)) := e1
  subst e1
  have e2 : Dp K w0.G v2 (mvD m) := e2
  obtain ⟨hL, hm⟩ := hp
  have hsh := mvs_shape hm
  have h4 := hL.2.1
  obtain ⟨m1, m2⟩ := m
  have hm2 : m2.length = ls.length := hsh.1
  refine go_if (t := !decide (m1 = [])) (ct_neT (CE.toT (ce_ixTup (i := 0) (ce_var 1 (P := Da K (mvD (m1, m2))) rfl e2) ce_int rfl)) (ce_str [])) (fun h w1 l1 => ?_) (fun h w1 l1 => go_nil ?_)
  · have h : m1 ≠ [] := by simpa using h
    rcases hsh.2 with e | ⟨s1, hs, e⟩
    · exact absurd e h
    · have e : m1 = [s1] := e
      subst e
      have hsa := signs_asc hL s1 hs
      refine go_ret (ce_tup (ds := [strD [flip s1], strD m2]) (ca_cons (CE.daT (ce_swapcase (x := [s1]) (CE.toT (ce_ixTup (i := 0) (ce_var 1 (P := Da K (mvD ([s1], m2))) rfl (dp_ex l1.g e2)) ce_int rfl)) (fun c hc => by rw [List.mem_singleton.mp hc]; exact hsa) (by simp))) (ca_cons (ce_ixTup (i := 1) (ce_var 1 (P := Da K (mvD ([s1], m2))) rfl (dp_ex l1.g e2)) ce_int rfl) ca_nil))) fun v w2 l2 hv => ⟨l1.trans l2, ?_⟩
      show Dp K w2.G v (mvD (und ls ([s1], m2)))
      exact hv
  · have h : m1 = [] := by simpa using h
    subst h
    obtain ⟨hperm, hsg⟩ := mvs_own hm rfl
    have hsg : ∀ c ∈ m2, c ∈ signs ls := hsg
    refine go_setO (i := 2) cw_dnew (fun q ob w2 l2 n2 o2 hob => ?_) nd
    subst hob
    refine go_forZ (i := 3) (j := 4) (l := ls) (m := m2) (C.free fr_zip) (cv 0) (CE.toT (ce_ixTup (i := 1) (ce_var 1 (P := Da K (mvD ([], m2))) rfl (dp_ex (l1.g.trans l2.g) e2)) ce_int rfl)) (fun k σ' w' => ∃ x y, σ' = [some (.str (S ls)), some v2, some (.ref q), x, y] ∧ OwO w' q (.dK (mergeK [] ((ents ls m2).take k))) ∧ Le w0 w') (fun w' l => ⟨_, _, rfl, o2.mono l, (l1.trans l2).trans l⟩) (fun k σ' w' w'' ⟨x, y, e, o, l⟩ l' => ⟨x, y, e, o.mono l', l.trans l'⟩) ?_ ?_ PassesOwn.never rfl nd
    · rintro k c d σ' w' hk ⟨x, y, rfl, o, l⟩
      obtain ⟨hk1, hk2⟩ := List.getElem?_zip_eq_some.mp hk
      have hcl := hL.2.2.2 c (List.mem_of_getElem? hk1)
      have hda : d < 128 := signs_asc hL d (hsg d (List.mem_of_getElem? hk2))
      have hkl := (List.getElem?_eq_some_iff.mp hk1).1
      refine go_dput 2 (P := T [unC (c, d)]) (l := [loc d]) (room_u1 hr) o (ce_if (t := decide (97 ≤ d ∧ d ≤ 122)) (ct_val (ce_islower (cv 4) hda)) (fun h => ?_) (fun h => ?_)) (ce_lower (x := [d]) (cv 4) (fun z hz => by rw [List.mem_singleton.mp hz]; exact hda) (by simp)) ?_ fun v w3 l3 o3 hv => ?_
      · have h := of_decide_eq_true h
        have e : unC (c, d) = c := if_pos h
        rw [e]; exact cv 3
      · have h := of_decide_eq_false h
        have e : unC (c, d) = upc c := if_neg h
        rw [e]; exact ce_upper (x := [c]) (cv 3) (fun z hz => by rw [List.mem_singleton.mp hz]; omega) (by simp)
      · refine Nat.le_trans (length_mergeK _ []) ?_
        rw [List.length_nil, List.length_take]; omega
      · have hv : v = _ := hv
        subst hv
        refine go_nil ⟨_, _, rfl, ?_, (l.trans l3).putO (l1.new n2) o3⟩
        have he : (ents ls m2)[k]? = some (tk [loc d], V.str (S [unC (c, d)])) := by unfold ents; rw [List.getElem?_map, hk]; rfl
        have e : mergeK [] ((ents ls m2).take (k + 1)) = putK (mergeK [] ((ents ls m2).take k)) (tk [loc d]) (V.str (S [unC (c, d)])) := by
          rw [take_next he]
          unfold mergeK
          rw [List.foldl_append]; rfl
        rw [e]; exact o3.put
    · rintro σ' w' ⟨x, y, rfl, o, l⟩
      have el : (ents ls m2).length = min ls.length m2.length := by unfold ents; rw [List.length_map, List.length_zip]
      rw [← el, List.take_length] at o
      have efl := flat1 (unm ls m2) ls
      refine go_ret (ce_tup (ds := [strD [], strD (ls.map (unm ls m2))]) (ca_cons (CE.daT (ce_str [])) (ca_cons (CE.daT (CE.castT (ce_joinQ (ce_str []) (CN.cq (CN.cast (cn_ln (ln_mT (j := 3) (fun c => strD [unm ls m2 c]) (cv 0) (by omega) (fun c w'' hc' l' => fun _ _ _ _ _ => CE.daT (ce_dget (l := [c]) (room_u1 hr) (dq_own 2 (o.mono l')) (cv 3) (ents_val hperm hc') (fun _ _ => rfl)))) rfl nd (blkOk_by (N := ["letters", "move", "found", "letter", "sign"]) (sc := defScope s_undone_by_letter) (by decide +kernel)) (fun _ _ _ _ _ => pg_name nd rfl (Or.inl rfl))) (by rw [List.map_map]; rfl))) (by rw [efl, List.length_map]; omega)) efl)) ca_nil))) fun v w4 l4 hv => ⟨l.trans l4, hv⟩
end
end FW
set_option Elab.async false
set_option linter.all false
set_option maxRecDepth 100000
set_option maxHeartbeats 4000000
namespace FW
open PySem PySem.Spec PyProof.Rows L2 He
section
variable {P : Program} {w : World} {K : PySem.W.Frag} {mg : Str → Option Value} {base : Heap}
/-! ### basic or not -/
theorem dsz_mv (m : List Nat × List Nat) : dsz (mvD m) = 4 := rfl
theorem dszA_mvs : ∀ ms : List (List Nat × List Nat), dszA (ms.map mvD) = 4 * ms.length
  | [] => rfl
  | m :: r => by
    rw [List.map_cons, dszA, dszA_mvs r, dsz_mv, List.length_cons]; omega
theorem dszA_strs : ∀ ms : List (List Nat), dszA (ms.map strD) = ms.length
  | [] => rfl
  | m :: r => by
    rw [List.map_cons, dszA, dszA_strs r, List.length_cons]
    show 1 + _ = _
    omega
theorem dsz_tup (ds : List PyData) : isSq (.tuple ds) = true ∧ dsz (.tuple ds) = 2 + dszA ds := ⟨rfl, by simp [dsz]⟩
def mvsT (ls l : List Nat) : List (List Nat × List Nat) := (steps ls (ring l)).map (·.1)
theorem ring_len_le (l : List Nat) : (ring l).length ≤ l.length := by have h1 := ring_len l; have h2 := rC_len l; omega
theorem mvsT_len (ls l : List Nat) : (mvsT ls l).length ≤ l.length := by
  unfold mvsT
  rw [List.length_map]
  have h1 := steps_len ls _ (ring l) (Nat.le_refl _)
  have h2 := ring_len_le l
  omega
def BasicG (K : PySem.W.Frag) (b : Bool) : GP := fun v G => if b = true then InsD K (ga K "Basic") [] v G else InsD K (ga K "NotBasic") [] v G
theorem ins_drop {K : PySem.W.Frag} {C : Addr} {nds : List (Str × PyData)} {v : Vv} {G : Hp} (h : InsD K C nds v G) : InsD K C [] v G := let ⟨x, dx, fs, h1, h2, _⟩ := h; ⟨x, dx, fs, h1, h2, fun q hq => by cases hq⟩
def bas (ls l : List Nat) : Bool := decide ((lastR ls l).length = 1)
theorem isR_signs {ls l : List Nat} (h : isR ls l = true) : ∀ c ∈ l, c ∈ signs ls := fun c hc => of_decide_eq_true (List.all_eq_true.mp (Bool.and_eq_true_iff.mp (Bool.and_eq_true_iff.mp h).1).2 c hc)
theorem last_at {ls l : List Nat} : atI ((ringsL ls (ring l)).map strD) (-1) = some (strD (lastR ls l)) := by
  have hne : ringsL ls (ring l) ≠ [] := by unfold ringsL; exact List.cons_ne_nil _ _
  refine atI_neg (by rw [List.length_map]; have := List.length_pos_iff.mpr hne; omega) ?_
  rw [List.getElem?_map, List.length_map, ← List.getLast?_eq_getElem?]
  unfold lastR
  rw [List.getLastD_eq_getLast?, List.getLast?_eq_some_getLast hne]
  rfl
/-- every ring on the way is short and of the letters -/
theorem rings_ok {ls : List Nat} (hL : LetOk ls) : ∀ (n : Nat) (r : List Nat), r.length ≤ n → (∀ c ∈ r, c ∈ signs ls) → ∀ x ∈ ringsL ls r, x.length ≤ r.length ∧ ∀ c ∈ x, c ∈ signs ls
  | 0, r, h, hc, x, hx => by
    have : r = [] := List.eq_nil_of_length_eq_zero (by omega)
    subst this
    have e : ringsL ls [] = [[]] := rfl
    rw [e] at hx
    rw [List.mem_singleton.mp hx]
    exact ⟨Nat.le_refl _, fun c hc => by cases hc⟩
  | n + 1, r, h, hc, x, hx => by
    unfold ringsL at hx
    rcases List.mem_cons.mp hx with rfl | hx
    · exact ⟨Nat.le_refl _, hc⟩
    · cases hs : shortF ls (mvs ls) r with
      | none => rw [steps_none hs] at hx; cases hx
      | some m =>
        have h1 := short_lt hs
        rw [steps_some hs, List.map_cons] at hx
        have h2 := rings_ok hL n (led ls m r) (by omega) (led_mem hL h1.2 hc) x hx
        exact ⟨by omega, h2.2⟩
theorem lastR_mem (ls l : List Nat) : lastR ls l ∈ ringsL ls (ring l) := by
  have hne : ringsL ls (ring l) ≠ [] := by unfold ringsL; exact List.cons_ne_nil _ _
  unfold lastR
  rw [List.getLastD_eq_getLast?, List.getLast?_eq_some_getLast hne]
  exact List.getLast_mem hne
theorem lastR_ok {ls : List Nat} (hL : LetOk ls) {l : List Nat} (hc : ∀ c ∈ l, c ∈ signs ls) : (lastR ls l).length ≤ l.length ∧ ∀ c ∈ lastR ls l, c ∈ signs ls := by
  have h := rings_ok hL _ (ring l) (Nat.le_refl _) (fun c h => hc c (ring_mem h)) _ (lastR_mem ls l)
  exact ⟨Nat.le_trans h.1 (ring_len_le l), h.2⟩
abbrev spBasicOr (K : PySem.W.Frag) : Sp := Pur (fun x : List Nat × List Nat => [T x.1, T x.2]) (fun x => LetOk x.1 ∧ x.1.length ≤ 3 ∧ isR x.1 x.2 = true ∧ x.2 ≠ [] ∧ x.2.length ≤ 100) (fun x => BasicG K (bas x.1 x.2))
theorem sc_basic_or_not : FnScope ["letters", "word", "moves", "rings"] ["letters", "word"] (defScope s_basic_or_not) := ⟨rfl, rfl, rfl, by decide +kernel, rfl, by decide +kernel, by decide +kernel⟩
theorem ok_basic_or_not (C : Tx K mg) : Cal P w K mg base "basic_or_not" 2 10 (spBasicOr K) := by
  refine C.cal (k := 9) ix_basic_or_not gl_basic_or_not (ps := ["letters", "word"]) sc_basic_or_not (fun _ _ _ _ _ _ us hl => match us, hl with | [_, _], _ => rfl) (fun _ => rfl) (fun cdv B outer s H E z vs w0 hr hv hp => ?_)
  have nd := sc_basic_or_not.nd
  obtain ⟨ls, l⟩ := z
  try dsimp only at hp
  obtain ⟨v1, v2, rfl, e1, e2⟩ := args2 hv
  have e1 : v1 = .str (S (ls)) := e1
  subst e1
  have e2 : v2 = .str (S (l)) := e2
  subst e2
  obtain ⟨hL, h3, hR, hne, hl⟩ := hp
  have hc := isR_signs hR
  refine go_drop (ce_call (R := fun l => T l) ls (ok_need_few C) hr (ca1 (cv 0)) ⟨hL, h3⟩) fun w1 l1 => ?_
  refine go_unpack2 (i := 2) (j := 3) (d1 := .list ((steps ls (ring l)).map fun s => mvD s.1)) (d2 := .list ((ringsL ls (ring l)).map strD)) rfl (ce_call (R := fun x : List Nat × List Nat => Da K (leastD x.1 x.2)) (ls, l) (ok_least_by C) hr (ca_cons (cv 0) (ca1 (ce_call (R := fun x : List Nat × List Nat × List Nat => T x.2.2) ([119, 111, 114, 100], ls, l) (ok_need_sign_word C) hr (ca_cons (ce_str [119, 111, 114, 100]) (ca_cons (cv 0) (ca1 (cv 1)))) ⟨hL, hR, hne⟩))) ⟨hL, h3, hc, hl⟩) (fun u v w2 l2 hu hv => ?_) nd
  have hlr := lastR_ok hL hc
  have hml := mvsT_len ls l
  have hu : Dp K w2.G u (mvL (mvsT ls l)) := by
    have e : mvL (mvsT ls l) = .list ((steps ls (ring l)).map fun s => mvD s.1) := by unfold mvL mvsT; rw [List.map_map]; rfl
    rw [e]; exact hu
  have hq : isSq (.tuple ((mvsT ls l).map mvD)) = true ∧ dsz (.tuple ((mvsT ls l).map mvD)) ≤ 900000 := ⟨rfl, by rw [(dsz_tup _).2, dszA_mvs]; omega⟩
  refine go_ret (P := BasicG K (bas ls l)) (ce_if (t := bas ls l) (CT.cast (ct_eqI (ce_lenT (C.free fr_len) (CE.toT (ce_ixQ (i := -1) (CE.cq (ce_var 3 (P := Da K (.list ((ringsL ls (ring l)).map strD))) rfl hv)) (ce_neg ce_int) last_at)) (by omega)) ce_int) (decide_eq_decide.mpr (by omega))) (fun h => ?_) (fun h => ?_)) fun v w3 l3 hv => ⟨(l1.trans l2).trans l3, hv⟩
  · rw [h]
    exact CE.imp (ce_make (z := .tuple ((mvsT ls l).map mvD)) (nds := fun d => [("moves", tupd d)]) (mak_Basic C) hr (ca1 (ce_tupQ (C.free fr_tuple) (CE.cq (ce_var 2 (P := Da K (mvL (mvsT ls l))) rfl hu)))) hq) fun v G h => ins_drop h
  · rw [h]
    exact CE.imp (ce_make (z := .tuple ((mvsT ls l).map mvD)) (nds := fun d => [("moves", tupd d)]) (mak_NotBasic C) hr (ca1 (ce_tupQ (C.free fr_tuple) (CE.cq (ce_var 2 (P := Da K (mvL (mvsT ls l))) rfl hu)))) hq) fun v G h => ins_drop h
/-! ### isinstance of papers -/
structure ClsF (K : PySem.W.Frag) (C : Addr) : Prop where
  c : Cls K C
  a : PySem.W.findIn K (.ref C) "__class__" = some (some (.builtin "object.__class__"))
  m : PySem.W.mroIn K C (.type "object") = some true
theorem xh_ok (C : Tx K mg) : PySem.W.specialIn K (.builtin "object.__class__") "__get__" = some (some (.builtin "getset_descriptor.__get__")) := of_decide_eq_true (C.s.xact xh_)
theorem xg_ok (C : Tx K mg) : PySem.W.takesIn K (.builtin "object.__class__") = some true := of_decide_eq_true (C.s.xact xg_)
theorem cf_Basic (C : Tx K mg) : ClsF K (ga K "Basic") := ⟨C.cls cl_Basic, eqO_ok (C.s.xact xa_Basic), of_decide_eq_true (C.s.xact xm_Basic)⟩
theorem cf_NotBasic (C : Tx K mg) : ClsF K (ga K "NotBasic") := ⟨C.cls cl_NotBasic, eqO_ok (C.s.xact xa_NotBasic), of_decide_eq_true (C.s.xact xm_NotBasic)⟩
theorem cf_Bridge (C : Tx K mg) : ClsF K (ga K "Bridge") := ⟨C.cls cl_Bridge, eqO_ok (C.s.xact xa_Bridge), of_decide_eq_true (C.s.xact xm_Bridge)⟩
theorem cf_OtherKind (C : Tx K mg) : ClsF K (ga K "OtherKind") := ⟨C.cls cl_OtherKind, eqO_ok (C.s.xact xa_OtherKind), of_decide_eq_true (C.s.xact xm_OtherKind)⟩
theorem kk1 (C : Tx K mg) : PySem.W.kitOne K (.ref (ga K "Basic")) (.ref (ga K "Basic")) = some true := of_decide_eq_true (C.s.xact xk_Basic_Basic)
theorem kk2 (C : Tx K mg) : PySem.W.kitOne K (.ref (ga K "NotBasic")) (.ref (ga K "Basic")) = some false := of_decide_eq_true (C.s.xact xk_NotBasic_Basic)
theorem kk3 (C : Tx K mg) : PySem.W.kitOne K (.ref (ga K "Bridge")) (.ref (ga K "Bridge")) = some true := of_decide_eq_true (C.s.xact xk_Bridge_Bridge)
theorem kk4 (C : Tx K mg) : PySem.W.kitOne K (.ref (ga K "OtherKind")) (.ref (ga K "Bridge")) = some false := of_decide_eq_true (C.s.xact xk_OtherKind_Bridge)
abbrev spIsBasic : Sp := Pur (fun x : List Nat × List Nat => [T x.1, T x.2]) (fun x => LetOk x.1 ∧ x.1.length ≤ 3 ∧ isR x.1 x.2 = true ∧ x.2 ≠ [] ∧ x.2.length ≤ 100) (fun x => Bo (bas x.1 x.2))
theorem sc_is_basic : FnScope ["letters", "word"] ["letters", "word"] (defScope s_is_basic) := ⟨rfl, rfl, rfl, by decide +kernel, rfl, by decide +kernel, by decide +kernel⟩
theorem ok_is_basic (C : Tx K mg) : Cal P w K mg base "is_basic" 2 11 spIsBasic := by
  refine C.cal (k := 10) ix_is_basic gl_is_basic (ps := ["letters", "word"]) sc_is_basic (fun _ _ _ _ _ _ us hl => match us, hl with | [_, _], _ => rfl) (fun _ => rfl) (fun cdv B outer s H E z vs w0 hr hv hp => ?_)
  have nd := sc_is_basic.nd
  obtain ⟨ls, l⟩ := z
  try dsimp only at hp
  obtain ⟨v1, v2, rfl, e1, e2⟩ := args2 hv
  have e1 : v1 = .str (S (ls)) := e1
  subst e1
  have e2 : v2 = .str (S (l)) := e2
  subst e2
  cases hb : bas ls l with
  | true =>
    refine go_ret (P := Bo true) (ce_isiI (nds := []) (C.free fr_isinstance) (C.glo gl_Basic) (CE.imp (ce_call (R := fun x : List Nat × List Nat => BasicG K (bas x.1 x.2)) (ls, l) (ok_basic_or_not C) hr (ca_cons (cv 0) (ca1 (cv 1))) hp) fun v G h => by
      have h : BasicG K (bas ls l) v G := h
      rw [hb] at h
      exact h) (cf_Basic C).c (cf_Basic C).a (xh_ok C) (xg_ok C) (cf_Basic C).m (kk1 C)) fun v w2 l2 hv => ⟨l2, ?_⟩
    show v = V.bl (bas ls l)
    rw [hb]; exact hv
  | false =>
    refine go_ret (P := Bo false) (ce_isiI (nds := []) (C.free fr_isinstance) (C.glo gl_Basic) (CE.imp (ce_call (R := fun x : List Nat × List Nat => BasicG K (bas x.1 x.2)) (ls, l) (ok_basic_or_not C) hr (ca_cons (cv 0) (ca1 (cv 1))) hp) fun v G h => by
      have h : BasicG K (bas ls l) v G := h
      rw [hb] at h
      exact h) (cf_NotBasic C).c (cf_NotBasic C).a (xh_ok C) (xg_ok C) (cf_NotBasic C).m (kk2 C)) fun v w2 l2 hv => ⟨l2, ?_⟩
    show v = V.bl (bas ls l)
    rw [hb]; exact hv
abbrev spLeastR : Sp := Pur (fun x : List Nat × List Nat => [T x.1, T x.2]) (fun x => LetOk x.1 ∧ x.1.length ≤ 3 ∧ isR x.1 x.2 = true ∧ x.2 ≠ [] ∧ x.2.length ≤ 100) (fun x => T (lastR x.1 x.2))
theorem sc_least_ring : FnScope ["letters", "word"] ["letters", "word"] (defScope s_least_ring) := ⟨rfl, rfl, rfl, by decide +kernel, rfl, by decide +kernel, by decide +kernel⟩
theorem ok_least_ring (C : Tx K mg) : Cal P w K mg base "least_ring" 2 10 spLeastR := by
  refine C.cal (k := 9) ix_least_ring gl_least_ring (ps := ["letters", "word"]) sc_least_ring (fun _ _ _ _ _ _ us hl => match us, hl with | [_, _], _ => rfl) (fun _ => rfl) (fun cdv B outer s H E z vs w0 hr hv hp => ?_)
  have nd := sc_least_ring.nd
  obtain ⟨ls, l⟩ := z
  try dsimp only at hp
  obtain ⟨v1, v2, rfl, e1, e2⟩ := args2 hv
  have e1 : v1 = .str (S (ls)) := e1
  subst e1
  have e2 : v2 = .str (S (l)) := e2
  subst e2
  obtain ⟨hL, h3, hR, hne, hl⟩ := hp
  have hc := isR_signs hR
  refine go_drop (ce_call (R := fun l => T l) ls (ok_need_few C) hr (ca1 (cv 0)) ⟨hL, h3⟩) fun w1 l1 => ?_
  refine go_ret (CE.toT (ce_ixQ (i := -1) (CE.cq (ce_ixTup (i := 1) (ce_call (R := fun x : List Nat × List Nat => Da K (leastD x.1 x.2)) (ls, l) (ok_least_by C) hr (ca_cons (cv 0) (ca1 (ce_call (R := fun x : List Nat × List Nat × List Nat => T x.2.2) ([119, 111, 114, 100], ls, l) (ok_need_sign_word C) hr (ca_cons (ce_str [119, 111, 114, 100]) (ca_cons (cv 0) (ca1 (cv 1)))) ⟨hL, hR, hne⟩))) ⟨hL, h3, hc, hl⟩) ce_int rfl)) (ce_neg ce_int) last_at)) fun v w2 l2 hv => ⟨l1.trans l2, hv⟩
end
end FW
set_option Elab.async false
set_option linter.all false
set_option maxRecDepth 100000
set_option maxHeartbeats 4000000
namespace FW
open PySem PySem.Spec PyProof.Rows L2 He
section
variable {P : Program} {w : World} {K : PySem.W.Frag} {mg : Str → Option Value} {base : Heap}
/-! ### rings of one kind -/
abbrev Mv := List Nat × List Nat
abbrev KE := List Nat × Option (List Nat × Mv)
def optP : Option (List Nat × Mv) → PyData
  | none => .none
  | some p => .tuple [strD p.1, mvD p.2]
def KvO (K : PySem.W.Frag) (G : Hp) : List KE → List (Key × Vv) → Prop
  | [], [] => True
  | e :: r, kv :: kvs => kv.1 = tk e.1 ∧ Dp K G kv.2 (optP e.2) ∧ KvO K G r kvs
  | _, _ => False
theorem KvO.ex {K : PySem.W.Frag} {G G' : Hp} (e : Ex G G') : ∀ {ln : List KE} {kvs : List (Key × Vv)}, KvO K G ln kvs → KvO K G' ln kvs
  | [], [], _ => trivial
  | _ :: _, _ :: _, ⟨h1, h2, h3⟩ => ⟨h1, dp_ex e h2, h3.ex e⟩
  | [], _ :: _, h => h.elim
  | _ :: _, [], h => h.elim
theorem KvO.app {K : PySem.W.Frag} {G : Hp} {x : List Nat} {o : Option (List Nat × Mv)} {v : Vv} (hv : Dp K G v (optP o)) : ∀ {ln : List KE} {kvs : List (Key × Vv)}, KvO K G ln kvs → KvO K G (ln ++ [(x, o)]) (kvs ++ [(tk x, v)])
  | [], [], _ => ⟨rfl, hv, trivial⟩
  | _ :: _, _ :: _, ⟨h1, h2, h3⟩ => ⟨h1, h2, h3.app hv⟩
  | [], _ :: _, h => h.elim
  | _ :: _, [], h => h.elim
theorem KvO.keys {K : PySem.W.Frag} {G : Hp} : ∀ {ln : List KE} {kvs : List (Key × Vv)}, KvO K G ln kvs → kvs.map (·.1) = (ln.map (·.1)).map tk
  | [], [], _ => rfl
  | _ :: _, _ :: _, ⟨h1, _, h3⟩ => by rw [List.map_cons, h1, h3.keys]; rfl
  | [], _ :: _, h => h.elim
  | _ :: _, [], h => h.elim
theorem KvO.len {K : PySem.W.Frag} {G : Hp} {ln : List KE} {kvs : List (Key × Vv)} (h : KvO K G ln kvs) : kvs.length = ln.length := by
  have := congrArg List.length h.keys
  simpa using this
theorem tk_eq {x y : List Nat} : ((tk x : Key) = tk y) ↔ x = y := ⟨fun h => S_inj (Sum.inr.inj h), fun h => by rw [h]⟩
def look (ln : List KE) (x : List Nat) : Option (Option (List Nat × Mv)) := (ln.find? fun e => decide (e.1 = x)).map (·.2)
theorem KvO.val {K : PySem.W.Frag} {G : Hp} {x : List Nat} : ∀ {ln : List KE} {kvs : List (Key × Vv)}, KvO K G ln kvs → (valV kvs (tk x) = none ∧ look ln x = none) ∨ ∃ v o, valV kvs (tk x) = some v ∧ look ln x = some o ∧ Dp K G v (optP o)
  | [], [], _ => .inl ⟨rfl, rfl⟩
  | e :: _, kv :: _, ⟨h1, h2, h3⟩ => by
    by_cases q : e.1 = x
    · refine .inr ⟨kv.2, e.2, valV_pos (by rw [h1, q]), ?_, h2⟩
      unfold look
      rw [List.find?_cons, decide_eq_true q]; rfl
    · have q2 : ¬ kv.1 = tk x := by rw [h1]; exact fun z => q (tk_eq.mp z)
      rw [valV_neg q2]
      have e2 : ∀ r : List KE, look (e :: r) x = look r x := fun r => by
        unfold look
        rw [List.find?_cons, decide_eq_false q]
      rw [e2]
      exact h3.val
  | [], _ :: _, h => h.elim
  | _ :: _, [], h => h.elim
theorem look_none {ln : List KE} {x : List Nat} : look ln x = none ↔ x ∉ ln.map (·.1) := by
  unfold look
  rw [Option.map_eq_none_iff, List.find?_eq_none]
  constructor
  · intro h hm
    obtain ⟨e, he, rfl⟩ := List.mem_map.mp hm
    have := h e he
    simp at this
  · intro h e he hx
    have hx : e.1 = x := of_decide_eq_true hx
    exact h (List.mem_map.mpr ⟨e, he, hx⟩)
def kstep (ls : List Nat) (L : Nat) (x : List Nat) (ln : List KE) (m : Mv) : List KE := if (led ls m x).length = L ∧ led ls m x ∉ ln.map (·.1) then ln ++ [(led ls m x, some (x, m))] else ln
def kall (ls : List Nat) (L : Nat) (x : List Nat) (ln : List KE) (ms : List Mv) : List KE := ms.foldl (kstep ls L x) ln
def kloop (ls : List Nat) (L : Nat) : Nat → Nat → List KE → List KE
  | 0, _, ln => ln
  | f + 1, i, ln => match ln[i]? with
    | none => ln
    | some e => kloop ls L f (i + 1) (kall ls L e.1 ln (mvs ls))
def kind (ls r : List Nat) : List KE := kloop ls r.length 2001 0 [(r, none)]
def KOk (ls r : List Nat) : Prop := ∃ Q : List Nat → Prop, Q r ∧ (∀ x, Q x → x.length = r.length ∧ ∀ c ∈ x, c ∈ signs ls) ∧ (∀ x m, Q x → m ∈ mvs ls → (led ls m x).length = r.length → Q (led ls m x)) ∧ ∀ xs : List (List Nat), xs.Nodup → (∀ x ∈ xs, Q x) → xs.length ≤ 2000
/-- what holds of the found rings -/
structure KI (ls : List Nat) (Q : List Nat → Prop) (ln : List KE) : Prop where
  nd : (ln.map (·.1)).Nodup
  q : ∀ e ∈ ln, Q e.1
  par : ∀ (i : Nat) (x p : List Nat) (m : Mv), ln[i]? = some (x, some (p, m)) → m ∈ mvs ls ∧ ∃ j : Nat, j < i ∧ ∃ o : Option (List Nat × Mv), ln[j]? = some (p, o)
theorem kstep_at {ls : List Nat} {L : Nat} {x : List Nat} {ln : List KE} {m : Mv} {i : Nat} {e : KE} (h : ln[i]? = some e) : (kstep ls L x ln m)[i]? = some e := by
  unfold kstep
  split
  · rw [List.getElem?_append_left (List.getElem?_eq_some_iff.mp h).1]; exact h
  · exact h
theorem kstep_ki {ls : List Nat} {L : Nat} {Q : List Nat → Prop} {x : List Nat} {ln : List KE} {m : Mv} (hm : m ∈ mvs ls) (hQ : ∀ m, m ∈ mvs ls → (led ls m x).length = L → Q (led ls m x)) {i : Nat} {o : Option (List Nat × Mv)} (hx : ln[i]? = some (x, o)) (h : KI ls Q ln) : KI ls Q (kstep ls L x ln m) := by
  unfold kstep
  split
  · rename_i hc
    refine ⟨?_, fun e he => ?_, fun i' y p m' hy => ?_⟩
    · rw [List.map_append, List.nodup_append]
      refine ⟨h.nd, List.nodup_cons.mpr ⟨by simp, List.nodup_nil⟩, fun a ha b hb => ?_⟩
      intro e
      have hb : b = led ls m x := by simpa using hb
      exact hc.2 (by rw [← hb, ← e]; exact ha)
    · rcases List.mem_append.mp he with he | he
      · exact h.q e he
      · rw [List.mem_singleton.mp he]; exact hQ m hm hc.1
    · have hxl := (List.getElem?_eq_some_iff.mp hx).1
      rcases Nat.lt_or_ge i' ln.length with hi | hi
      · rw [List.getElem?_append_left hi] at hy
        obtain ⟨h1, j, hj, o', h2⟩ := h.par i' y p m' hy
        exact ⟨h1, j, hj, o', by rw [List.getElem?_append_left (List.getElem?_eq_some_iff.mp h2).1]; exact h2⟩
      · rw [List.getElem?_append_right hi] at hy
        have hi0 : i' - ln.length = 0 := by
          have := (List.getElem?_eq_some_iff.mp hy).1
          simp at this
          omega
        rw [hi0] at hy
        have hy : (led ls m x, some (x, m)) = (y, some (p, m')) := Option.some.inj hy
        obtain ⟨rfl, h2⟩ := Prod.mk.inj hy
        obtain ⟨rfl, rfl⟩ := Prod.mk.inj (Option.some.inj h2)
        exact ⟨hm, i, by omega, o, by rw [List.getElem?_append_left hxl]; exact hx⟩
  · exact h
theorem kall_ki {ls : List Nat} {L : Nat} {Q : List Nat → Prop} {x : List Nat} (hQ : ∀ m, m ∈ mvs ls → (led ls m x).length = L → Q (led ls m x)) {i : Nat} {o : Option (List Nat × Mv)} : ∀ {ms : List Mv} {ln : List KE}, (∀ m ∈ ms, m ∈ mvs ls) → ln[i]? = some (x, o) → KI ls Q ln → KI ls Q (kall ls L x ln ms) ∧ (kall ls L x ln ms)[i]? = some (x, o)
  | [], ln, _, hx, h => ⟨h, hx⟩
  | m :: ms, ln, hm, hx, h => kall_ki (ms := ms) hQ (fun m' h' => hm m' (List.mem_cons_of_mem _ h')) (kstep_at hx) (kstep_ki (hm m (List.mem_cons_self ..)) hQ hx h)
theorem ki_len {ls r : List Nat} {Q : List Nat → Prop} (h4 : ∀ xs : List (List Nat), xs.Nodup → (∀ x ∈ xs, Q x) → xs.length ≤ 2000) {ln : List KE} (h : KI ls Q ln) : ln.length ≤ 2000 := by
  have := h4 (ln.map (·.1)) h.nd fun x hx => by
    obtain ⟨e, he, rfl⟩ := List.mem_map.mp hx
    exact h.q e he
  simpa using this
def KindG (K : PySem.W.Frag) (ln : List KE) : GP := fun v G => ∃ q kvs, v = .ref q ∧ G q = some (.dK kvs) ∧ KvO K G ln kvs
instance {K : PySem.W.Frag} {ln : List KE} : MonoG (KindG K ln) := ⟨fun _ _ _ e ⟨q, kvs, h1, h2, h3⟩ => ⟨q, kvs, h1, e q _ h2, h3.ex e⟩⟩
abbrev spKind (K : PySem.W.Frag) : Sp := Pur (fun x : List Nat × List Nat => [T x.1, T x.2]) (fun x => LetOk x.1 ∧ x.1.length ≤ 3 ∧ x.2.length ≤ 100 ∧ KOk x.1 x.2) (fun x => KindG K (kind x.1 x.2))
theorem sc_kind_by : FnScope ["letters", "ring", "found", "line", "at", "moves", "move", "made"] ["letters", "ring"] (defScope s_kind_by) := ⟨rfl, rfl, rfl, by decide +kernel, rfl, by decide +kernel, by decide +kernel⟩
theorem ok_kind_by (C : Tx K mg) : Cal P w K mg base "kind_by" 2 8 (spKind K) := by
  refine C.cal (k := 7) ix_kind_by gl_kind_by (ps := ["letters", "ring"]) sc_kind_by (fun _ _ _ _ _ _ us hl => match us, hl with | [_, _], _ => rfl) (fun _ => rfl) (fun cdv B outer s H E z vs w0 hr hv hp => ?_)
  have nd := sc_kind_by.nd
  obtain ⟨ls, r⟩ := z
  try dsimp only at hp
  obtain ⟨v1, v2, rfl, e1, e2⟩ := args2 hv
  have e1 : v1 = .str (S (ls)) := e1
  subst e1
  have e2 : v2 = .str (S (r)) := e2
  subst e2
  obtain ⟨hL, h3, hl, Q, hq1, hq2, hq3, hq4⟩ := hp
  obtain ⟨tm, mm⟩ := C.int co_MOST_RINGS
  refine go_par4 (i := 2) (j := 3) (l := 4) (m := 5) (R := fun us w' => ∃ q p ve, us = [.ref q, .ref p, .int 0, ve] ∧ w0.H q = none ∧ w0.H p = none ∧ q ≠ p ∧ OwO w' q (.dK [(tk r, .non)]) ∧ Own w' p [.str (S r)] ∧ Dp K w'.G ve (mvL (mvs ls)))
    (cp_cons (cw_disp1 (l := r) (v := .non) (cv 1) ce_non) fun v w1 l1 ⟨q, ob, ev, nq, oq, eo⟩ => cp_cons (CN.cw (cn_lst (ds := [strD r]) (ca_cons (CE.daT (cv 1)) ca_nil))) fun v2 w2 l2 ⟨p, us2, ev2, np, op, dp⟩ => cp_cons (CE.cw ce_int) fun v3 w3 l3 hv3 => cp_cons (CE.cw (ce_call (R := fun l => Da K (mvL (mvs l))) ls (ok_moves_by C) hr (ca1 (cv 0)) ⟨hL, h3⟩)) fun v4 w4 l4 hv4 => cp_nil fun w5 l5 => ⟨q, p, v4, by rw [ev, ev2, show v3 = V.int 0 from hv3], nq, l1.new np, owo_ne oq np, by
        subst eo
        exact oq.mono (((l2.trans l3).trans l4).trans l5), by
        have e : us2 = [.str (S r)] := by cases dp with | cons h t => cases t; cases h; rfl
        subst e
        exact op.mono ((l3.trans l4).trans l5), dp_ex l5.g hv4⟩)
    (fun u1 u2 u3 u4 w1' l1' ⟨q, p, ve, e, nq, np, hne, oq', op', dve'⟩ w1 l1'' => ?_) (fun vs w' ⟨q, p, ve, e, _⟩ => ⟨_, _, _, _, e⟩) rfl nd
  obtain ⟨rfl, rfl, rfl, rfl⟩ : u1 = .ref q ∧ u2 = .ref p ∧ u3 = .int 0 ∧ u4 = ve := by simpa using e
  have l1 := l1'.trans l1''
  have oq := oq'.mono l1''
  have op := op'.mono l1''
  have dve := dp_ex l1''.g dve'
  have ki0 : KI ls Q [(r, none)] := ⟨List.nodup_cons.mpr ⟨by simp, List.nodup_nil⟩, fun e he => by rw [List.mem_singleton.mp he]; exact hq1, fun i x p m h => by
    cases i with
    | zero => simp at h
    | succ i => simp at h⟩
  have isT : ∀ (ln : List KE) (G : Hp) (vs : List Vv), vs = (ln.map fun e : KE => V.str (S e.1)) → DpAll K G vs ((ln.map (·.1)).map strD) := by
    intro ln G vs e
    subst e
    induction ln with
    | nil => exact .nil
    | cons a r ih => exact .cons (.str _) ih
  refine go_while (fun m σ' w' => ∃ (i : Nat) (ln : List KE) (kvs : List (Key × Vv)) (x y : Option Vv), σ' = [some (.str (S ls)), some (.str (S r)), some (.ref q), some (.ref p), some (.int i), some u4, x, y] ∧ i ≤ ln.length ∧ m = 2001 - i ∧ kloop ls r.length (2001 - i) i ln = kind ls r ∧ KI ls Q ln ∧ OwO w' q (.dK kvs) ∧ KvO K w'.G ln kvs ∧ Own w' p (ln.map fun e : KE => V.str (S e.1)) ∧ Dp K w'.G u4 (mvL (mvs ls)) ∧ Le w0 w') 2001 ⟨0, [(r, none)], [(tk r, .non)], _, _, rfl, Nat.zero_le _, rfl, rfl, ki0, oq, ⟨rfl, .non, trivial⟩, op, dve, l1⟩ ?_ PassesOwn.never
  rintro m σ' w' ⟨i, ln, kvs, x, y, rfl, hi, rfl, hkl, hki, oq, hkv, op, dve, l⟩
  have hlen := ki_len (r := r) hq4 hki
  refine ⟨decide (i < ln.length), CT.cast (ct_lt (cv 4) (ce_lenQ (C.free fr_len) (cq_own 3 op (isT ln _ _ rfl)))) (decide_eq_decide.mpr (by rw [List.length_map, List.length_map]; omega)), fun h w2 l2 => ?_, fun h w2 l2 => ?_⟩
  · have h := of_decide_eq_true h
    obtain ⟨⟨xr, xo⟩, hx⟩ : ∃ e, ln[i]? = some e := ⟨_, List.getElem?_eq_getElem h⟩
    have hqx := hki.q _ (List.mem_of_getElem? hx)
    have hqx2 := hq2 xr hqx
    have hQx : ∀ m, m ∈ mvs ls → (led ls m xr).length = r.length → Q (led ls m xr) := fun m hm hl => hq3 xr m hqx hm hl
    refine go_forL (i := 6) (ds := (mvs ls).map mvD) (ce_var 5 (P := Da K (mvL (mvs ls))) rfl (dp_ex l2.g dve)) (fun w3 l3 => ⟨fun k σ' w' => ∃ (ln2 : List KE) (kvs : List (Key × Vv)) (x y : Option Vv), σ' = [some (.str (S ls)), some (.str (S r)), some (.ref q), some (.ref p), some (.int i), some u4, x, y] ∧ ln2 = kall ls r.length xr ln ((mvs ls).take k) ∧ KI ls Q ln2 ∧ ln2[i]? = some (xr, xo) ∧ OwO w' q (.dK kvs) ∧ KvO K w'.G ln2 kvs ∧ Own w' p (ln2.map fun e : KE => V.str (S e.1)) ∧ Ex w3.G w'.G ∧ Le w0 w', ⟨ln, kvs, x, y, rfl, rfl, hki, hx, (oq.mono l2).mono l3, hkv.ex (l2.g.trans l3.g), (op.mono l2).mono l3, Evl.Ex.refl _, (l.trans l2).trans l3⟩, fun k σ' w' ⟨_, _, _, _, _, _, _, _, _, _, _, g, _⟩ => g, ?_, ?_⟩) PassesOwn.never rfl nd
    · rintro k d v σ' w4 hk dv ⟨ln2, kvs2, x, y, rfl, hln2, hki2, hx2, oq4, hkv4, op4, g4, l4⟩
      obtain ⟨m, hm, rfl⟩ := enc_get hk
      have hmm := List.mem_of_getElem? hm
      have hlen2 := ki_len (r := r) hq4 hki2
      have hlm : (led ls m xr).length ≤ 100000 := by
        have h1 := ring_len (mp ls (mapW ls m) xr)
        have h2 := rC_len (mp ls (mapW ls m) xr)
        have h3 := mp_len hL (mvs_img hL hmm) hqx2.2
        have h4 := hqx2.1
        show (ring _).length ≤ _
        omega
      have hat : ∀ G : Hp, atI ((ln2.map (·.1)).map strD) (i : Int) = some (strD xr) := fun _ => atI_nat (by rw [List.getElem?_map, List.getElem?_map, hx2]; rfl)
      refine go_set (i := 7) (ce_call (R := fun x : List Nat × List Nat × (List Nat × List Nat) => T (led x.1 x.2.2 x.2.1)) (ls, xr, m) (ok_led_ring C) hr (ca_cons (cv 0) (ca_cons (CE.toT (ce_ixQ (cq_own 3 op4 (isT ln2 _ _ rfl)) (cv 4) (hat w4.G))) (ca1 (ce_var 6 (P := Da K (mvD m)) rfl dv)))) ⟨hL, hqx2.2, by have := hqx2.1; show xr.length ≤ 100; omega, hmm⟩) (fun u w5 l5 hu => ?_) nd
      have hu : u = .str (S (led ls m xr)) := hu
      subst hu
      have oq5 := oq4.mono l5
      have op5 := op4.mono l5
      have hkv5 := hkv4.ex l5.g
      have hstep : kall ls r.length xr ln ((mvs ls).take (k + 1)) = kstep ls r.length xr ln2 m := by
        rw [take_next hm, hln2]
        unfold kall
        rw [List.foldl_append]; rfl
      have hki6 := kstep_ki (L := r.length) hmm hQx hx2 hki2
      refine go_if (t := decide ((led ls m xr).length = r.length) && !(valV kvs2 (tk (led ls m xr))).isSome) (ct_and2 (CT.cast (ct_eqI (ce_lenT (C.free fr_len) (cv 7) (by omega)) (ce_lenT (C.free fr_len) (cv 1) (by omega))) (decide_eq_decide.mpr (by omega))) fun _ => ct_dnotin (room_u1 hr) (cv 7) (dq_own 2 oq5)) (fun hc w6 l6 => ?_) (fun hc w6 l6 => ?_)
      · obtain ⟨hc1, hc2⟩ := Bool.and_eq_true_iff.mp hc
        have hc1 := of_decide_eq_true hc1
        have hvn : valV kvs2 (tk (led ls m xr)) = none := by
          cases q : valV kvs2 (tk (led ls m xr)) with
          | none => rfl
          | some v => rw [q] at hc2; cases hc2
        have hnm : led ls m xr ∉ ln2.map (·.1) := by
          rcases hkv5.val (x := led ls m xr) with ⟨_, h⟩ | ⟨v, o, h, _⟩
          · exact look_none.mp h
          · rw [h] at hvn; cases hvn
        have eks : kstep ls r.length xr ln2 m = ln2 ++ [(led ls m xr, some (xr, m))] := if_pos ⟨hc1, hnm⟩
        refine go_dput 2 (P := Da K (.tuple [strD xr, mvD m])) (l := led ls m xr) (room_u1 hr) (oq5.mono l6) (ce_tup (ds := [strD xr, mvD m]) (ca_cons (ce_ixQ (cq_own 3 (op5.mono l6) (isT ln2 _ _ rfl)) (cv 4) (hat w4.G)) (ca_cons (ce_var 6 (P := Da K (mvD m)) rfl (dp_ex (l5.g.trans l6.g) dv)) ca_nil))) (cv 7) (by rw [hkv5.len]; omega) fun v7 w7 l7 o7 hv7 => ?_
        rw [putK_new _ hvn]
        have op7 : Own (w7.putO q o7 (.dK (kvs2 ++ [(tk (led ls m xr), v7)]))) p (ln2.map fun e : KE => V.str (S e.1)) := (o7.put_ne ((op5.mono l6).mono l7).o (Ne.symm hne)).l
        refine go_append 3 op7 (cv 7) (by rw [List.length_map]; omega) fun v8 w8 l8 o8 hv8 => ?_
        have hv8 : v8 = .str (S (led ls m xr)) := hv8
        subst hv8
        have elist : (ln2.map fun e : KE => V.str (S e.1)) ++ [V.str (S (led ls m xr))] = (ln2 ++ [(led ls m xr, some (xr, m))]).map fun e : KE => V.str (S e.1) := by rw [List.map_append]; rfl
        rw [elist, ← eks]
        have hlen6 := ki_len (r := r) hq4 hki6
        have oq8 : OwO (w8.put p o8 ((kstep ls r.length xr ln2 m).map fun e : KE => V.str (S e.1))) q (.dK (kvs2 ++ [(tk (led ls m xr), v7)])) := by
          have h := o7.put.mono l8
          exact ⟨h.g, h.z, by show upd w8.H p _ q = _; rw [upd_ne hne]; exact h.h⟩
        have l08 : Le w0 (w8.put p o8 ((kstep ls r.length xr ln2 m).map fun e : KE => V.str (S e.1))) := ((((l4.trans l5).trans l6).trans l7).putO nq o7).trans l8 |>.put np o8
        refine go_skip (CT.cast (ct_gt (ce_lenQ (C.free fr_len) (cq_own 3 o8.put (isT _ _ _ rfl))) (ce_glob rfl mm ⟨_, rfl⟩)) rfl) (by rw [List.length_map, List.length_map]; exact decide_eq_false (by omega)) fun w9 l9 => ?_
        have g59 : Ex w5.G w9.G := ((l6.g.trans l7.g).trans l8.g).trans l9.g
        refine go_nil (go_nil ⟨kstep ls r.length xr ln2 m, _, _, _, rfl, hstep.symm, hki6, kstep_at hx2, oq8.mono l9, ?_, o8.put.mono l9, (g4.trans l5.g).trans g59, l08.trans l9⟩)
        rw [eks]
        exact KvO.app (o := some (xr, m)) (dp_ex (l8.g.trans l9.g) hv7) (hkv5.ex g59)
      · have hno : ¬ ((led ls m xr).length = r.length ∧ led ls m xr ∉ ln2.map (·.1)) := by
          rintro ⟨h1, h2⟩
          rw [decide_eq_true h1, Bool.true_and] at hc
          rcases hkv5.val (x := led ls m xr) with ⟨h, _⟩ | ⟨v, o, _, h, _⟩
          · rw [h] at hc; cases hc
          · rw [look_none.mpr h2] at h; cases h
        have eks : kstep ls r.length xr ln2 m = ln2 := if_neg hno
        refine go_nil (go_nil ⟨ln2, kvs2, _, _, rfl, by rw [hstep, eks], hki2, hx2, oq5.mono l6, hkv5.ex l6.g, op5.mono l6, (g4.trans l5.g).trans l6.g, (l4.trans l5).trans l6⟩)
    · rintro σ' w4 ⟨ln2, kvs2, x, y, rfl, hln2, hki2, hx2, oq4, hkv4, op4, g4, l4⟩
      rw [List.length_map, List.take_length] at hln2
      refine go_set (i := 4) (ce_add (cv 4) ce_int) (fun u w5 l5 hu => ?_) nd
      have hu : u = .int ((i : Int) + 1) := hu
      subst hu
      have e1 : ((i : Int) + 1) = ((i + 1 : Nat) : Int) := by omega
      rw [e1]
      have hx2l := (List.getElem?_eq_some_iff.mp hx2).1
      refine go_nil ⟨2001 - (i + 1), by omega, i + 1, ln2, kvs2, x, y, rfl, by omega, rfl, ?_, hki2, oq4.mono l5, hkv4.ex l5.g, op4.mono l5, dp_ex ((l2.g.trans l3.g).trans (g4.trans l5.g)) dve, l4.trans l5⟩
      rw [← hkl, show 2001 - i = (2001 - (i + 1)) + 1 by omega]
      show _ = kloop ls r.length (2001 - (i + 1) + 1) i ln
      rw [kloop, hx, hln2]
  · have h := of_decide_eq_false h
    have ek : kind ls r = ln := by
      rw [← hkl]
      have : ln[i]? = none := List.getElem?_eq_none (by omega)
      cases 2001 - i with
      | zero => rfl
      | succ f => rw [kloop, this]
    refine go_retO (cv 2) fun v w3 l3 hv => ?_
    have hv : v = .ref q := hv
    subst hv
    have o3 := (oq.mono l2).mono l3
    refine ⟨w3.iceO q o3, rfl, ((l.trans l2).trans l3).iceO nq o3, q, kvs, rfl, iceO_at o3, ?_⟩
    rw [ek]
    exact hkv.ex ((l2.g.trans l3.g).trans (iceO_ex o3))
end
end FW
set_option Elab.async false
set_option linter.all false
set_option maxRecDepth 100000
set_option maxHeartbeats 4000000
namespace FW
open PySem PySem.Spec PyProof.Rows L2 He
section
variable {P : Program} {w : World} {K : PySem.W.Frag} {mg : Str → Option Value} {base : Heap}
/-! ### the way to a ring -/
def wayF (ln : List KE) : Nat → List Nat → List Mv
  | 0, _ => []
  | f + 1, x => match look ln x with
    | some (some p) => p.2 :: wayF ln f p.1
    | _ => []
theorem look_at {ln : List KE} (nd : (ln.map (·.1)).Nodup) {i : Nat} {x : List Nat} {o : Option (List Nat × Mv)} (h : ln[i]? = some (x, o)) : look ln x = some o := by
  unfold look
  cases q : ln.find? fun e => decide (e.1 = x) with
  | none =>
    have := List.find?_eq_none.mp q _ (List.mem_of_getElem? h)
    simp at this
  | some e =>
    have h1 : e.1 = x := by have := List.find?_some q; exact of_decide_eq_true this
    obtain ⟨j, hj⟩ := List.mem_iff_getElem?.mp (List.mem_of_find?_eq_some q)
    have hil := (List.getElem?_eq_some_iff.mp h).1
    have hij : i = j := (List.getElem?_inj (l := ln.map (·.1)) (by rw [List.length_map]; exact hil) nd).mp (by rw [List.getElem?_map, List.getElem?_map, h, hj]; show some x = some e.1; rw [h1])
    subst hij
    rw [h] at hj
    rw [← Option.some.inj hj]; rfl
theorem way_fuel {ls : List Nat} {Q : List Nat → Prop} {ln : List KE} (hk : KI ls Q ln) : ∀ (f g i : Nat) (x : List Nat) (o : Option (List Nat × Mv)), ln[i]? = some (x, o) → i < f → i < g → wayF ln f x = wayF ln g x
  | 0, _, i, _, _, _, h, _ => by omega
  | _ + 1, 0, i, _, _, _, _, h => by omega
  | f + 1, g + 1, i, x, o, h, hf, hg => by
    unfold wayF
    rw [look_at hk.nd h]
    cases o with
    | none => rfl
    | some p =>
      obtain ⟨_, j, hj, o', h2⟩ := hk.par i x p.1 p.2 h
      show _ :: _ = _ :: _
      rw [way_fuel hk f g j p.1 o' h2 (by omega) (by omega)]
theorem way_len {ls : List Nat} {Q : List Nat → Prop} {ln : List KE} (hk : KI ls Q ln) : ∀ (f : Nat) (x : List Nat), (wayF ln f x).length ≤ f
  | 0, _ => Nat.le_refl _
  | f + 1, x => by
    unfold wayF
    split
    · rw [List.length_cons]
      exact Nat.succ_le_succ (way_len hk f _)
    · exact Nat.zero_le _
def way (ln : List KE) (x : List Nat) : List Mv := (wayF ln ln.length x).reverse
abbrev spWay (K : PySem.W.Frag) : Sp := Pur (fun x : List KE × List Nat => [KindG K x.1, T x.2]) (fun x => (∃ ls Q, KI ls Q x.1) ∧ x.1.length ≤ 2000 ∧ x.2 ∈ x.1.map (·.1)) (fun x => Da K (mvL (way x.1 x.2)))
theorem sc_way_to : FnScope ["found", "ring", "moves", "move"] ["found", "ring"] (defScope s_way_to) := ⟨rfl, rfl, rfl, by decide +kernel, rfl, by decide +kernel, by decide +kernel⟩
theorem ok_way_to (C : Tx K mg) : Cal P w K mg base "way_to" 2 1 (spWay K) := by
  refine C.cal (k := 0) ix_way_to gl_way_to (ps := ["found", "ring"]) sc_way_to (fun _ _ _ _ _ _ us hl => match us, hl with | [_, _], _ => rfl) (fun _ => rfl) (fun cdv B outer s H E z vs w0 hr hv hp => ?_)
  have nd := sc_way_to.nd
  obtain ⟨ln, r⟩ := z
  try dsimp only at hp
  obtain ⟨v1, v2, rfl, e1, e2⟩ := args2 hv
  have e2 : v2 = .str (S (r)) := e2
  subst e2
  obtain ⟨⟨ls, Q, hki⟩, hlen, hr0⟩ := hp
  obtain ⟨q, kvs, rfl, hq, hkv⟩ := e1
  obtain ⟨⟨r', o0⟩, hm, e⟩ := List.mem_map.mp hr0
  have e : r' = r := e
  subst e
  obtain ⟨i0, hi0⟩ := List.mem_iff_getElem?.mp hm
  have hi0l := (List.getElem?_eq_some_iff.mp hi0).1
  refine go_setN (i := 2) (cn_lst (ds := []) ca_nil) (fun p vs w1 l1 n1 o d => ?_) nd
  have ev : vs = [] := by cases d; rfl
  subst ev
  have fd : ∀ (w' : Wd V0), Le w0 w' → Fd kvs (.ref q) w'.G := fun w' l => ⟨q, rfl, l.g q _ hq⟩
  refine go_while (fun m σ' w' => ∃ (acc : List Mv) (i : Nat) (x : List Nat) (o : Option (List Nat × Mv)) (us : List Vv) (y : Option Vv), σ' = [some (.ref q), some (.str (S x)), some (.ref p), y] ∧ ln[i]? = some (x, o) ∧ m = i ∧ acc ++ wayF ln (i + 1) x = wayF ln (i0 + 1) r' ∧ acc.length ≤ 2000 ∧ acc.length + i ≤ 2000 ∧ Own w' p us ∧ DpAll K w'.G us (acc.map mvD) ∧ Le w0 w') i0 ⟨[], i0, r', o0, [], _, rfl, hi0, rfl, rfl, Nat.zero_le _, by simp; omega, o, .nil, l1⟩ ?_ PassesOwn.never
  rintro i σ' w' ⟨acc, i', x, ox, us, y, rfl, hx, rfl, hacc, hal, hai, ow, du, l⟩
  have hlk := look_at hki.nd hx
  rcases (hkv.ex l.g).val (x := x) with ⟨_, hn⟩ | ⟨v, o', hv, hl2, dv⟩
  · rw [hlk] at hn; cases hn
  rw [hlk] at hl2
  have hl2 := Option.some.inj hl2
  subst hl2
  have hget : ∀ (w2 : Wd V0), Le w' w2 → Dp K w2.G v (optP ox) := fun w2 l2 => dp_ex l2.g dv
  cases ox with
  | none =>
    have hvn : v = .non := by cases dv; rfl
    subst hvn
    refine ⟨!decide (V.non = V.non), ct_notN (ce_dget (P := Is .non) (l := x) (room_u1 hr) (CE.dq (ce_var 0 (P := Fd kvs) rfl (fd w' l))) (cv 1) hv (fun _ _ => rfl)), fun h => by simp at h, fun h w3 l3 => ?_⟩
    have e : acc = wayF ln (i0 + 1) r' := by
      rw [← hacc]
      have : wayF ln (i + 1) x = [] := by unfold wayF; rw [hlk]
      rw [this, List.append_nil]
    have e2 : wayF ln (i0 + 1) r' = wayF ln ln.length r' := way_fuel hki _ _ i0 r' o0 hi0 (by omega) hi0l
    refine go_ret (CN.ce (CN.cast (cn_revL (cq_own 2 (ow.mono l3) (dpa_ex l3.g du))) (by rw [e, e2]; unfold way; rw [List.map_reverse]))) fun v w4 l4 hv => ⟨(l.trans l3).trans l4, hv⟩
  | some pm =>
    obtain ⟨pr, mv⟩ := pm
    obtain ⟨_, j, hj, o2, hj2⟩ := hki.par i x pr mv hx
    have hvn : v ≠ .non := by intro e; subst e; cases dv
    refine ⟨!decide (v = V.non), ct_notN (ce_dget (P := Is v) (l := x) (room_u1 hr) (CE.dq (ce_var 0 (P := Fd kvs) rfl (fd w' l))) (cv 1) hv (fun _ _ => rfl)), fun h w3 l3 => ?_, fun h => by simp [hvn] at h⟩
    refine go_unpack2 (i := 1) (j := 3) (d1 := strD pr) (d2 := mvD mv) rfl (ce_dget (P := Da K (.tuple [strD pr, mvD mv])) (l := x) (room_u1 hr) (CE.dq (ce_var 0 (P := Fd kvs) rfl (fd w3 (l.trans l3)))) (cv 1) hv (fun w4 l4 => hget w4 (l3.trans l4))) (fun u1 u2 w4 l4 hu1 hu2 => ?_) nd
    have hu1 : Dp K w4.G u1 (.str (S pr)) := hu1
    cases hu1
    refine go_append 2 ((ow.mono l3).mono l4) (ce_var 3 (P := Da K (mvD mv)) rfl hu2) (by rw [dpa_len du, List.length_map]; omega) fun x5 w5 l5 o5 hx5 => ?_
    refine go_nil ⟨j, hj, acc ++ [mv], j, pr, o2, _, _, rfl, hj2, rfl, ?_, by rw [List.length_append]; simp; omega, by rw [List.length_append]; simp; omega, o5.put, ?_, (((l.trans l3).trans l4).trans l5).put n1 o5⟩
    · rw [← hacc]
      have e : wayF ln (i + 1) x = mv :: wayF ln i pr := by
        rw [wayF, hlk]
      rw [e, way_fuel hki i (j + 1) j pr o2 hj2 hj (Nat.lt_succ_self _)]
      simp
    · rw [List.map_append]
      exact dpa_app (dpa_ex ((l3.trans l4).g.trans l5.g) du) (.cons hx5 .nil)
abbrev spTwo : Sp := Pur (fun x : List Nat × List Nat × List Nat => [T x.1, T x.2.1, T x.2.2]) (fun x => LetOk x.1 ∧ x.1.length ≤ 3 ∧ isR x.1 x.2.1 = true ∧ isR x.1 x.2.2 = true ∧ x.2.1 ≠ [] ∧ x.2.2 ≠ []) (fun _ => No)
theorem sc_need_two_words : FnScope ["letters", "one", "other"] ["letters", "one", "other"] (defScope s_need_two_words) := ⟨rfl, rfl, rfl, by decide +kernel, rfl, by decide +kernel, by decide +kernel⟩
theorem ok_need_two_words (C : Tx K mg) : Cal P w K mg base "need_two_words" 3 4 spTwo := by
  refine C.cal (k := 3) ix_need_two_words gl_need_two_words (ps := ["letters", "one", "other"]) sc_need_two_words (fun _ _ _ _ _ _ us hl => match us, hl with | [_, _, _], _ => rfl) (fun _ => rfl) (fun cdv B outer s H E z vs w0 hr hv hp => ?_)
  have nd := sc_need_two_words.nd
  obtain ⟨ls, l, m⟩ := z
  try dsimp only at hp
  obtain ⟨v1, v2, v3, rfl, e1, e2, e3⟩ := args3 hv
  have e1 : v1 = .str (S (ls)) := e1
  subst e1
  have e2 : v2 = .str (S (l)) := e2
  subst e2
  have e3 : v3 = .str (S (m)) := e3
  subst e3
  obtain ⟨hL, h3, h1, h2, n1, n2⟩ := hp
  refine go_drop (ce_call (R := fun l => T l) ls (ok_need_few C) hr (ca1 (cv 0)) ⟨hL, h3⟩) fun w1 l1 => ?_
  refine go_drop (ce_call (R := fun x : List Nat × List Nat × List Nat => T x.2.2) ([111, 110, 101], ls, l) (ok_need_sign_word C) hr (ca_cons (ce_str [111, 110, 101]) (ca_cons (cv 0) (ca1 (cv 1)))) ⟨hL, h1, n1⟩) fun w2 l2 => ?_
  refine go_drop (ce_call (R := fun x : List Nat × List Nat × List Nat => T x.2.2) ([111, 116, 104, 101, 114], ls, m) (ok_need_sign_word C) hr (ca_cons (ce_str [111, 116, 104, 101, 114]) (ca_cons (cv 0) (ca1 (cv 2)))) ⟨hL, h2, n2⟩) fun w3 l3 => ?_
  exact go_nil ⟨(l1.trans l2).trans l3, rfl⟩
/-! ### bridges -/
def BrG (K : PySem.W.Frag) (b : Bool) : GP := fun v G => if b = true then InsD K (ga K "Bridge") [] v G else InsD K (ga K "OtherKind") [] v G
def oneK (ls l m : List Nat) : Bool := (look (kind ls (lastR ls l)) (lastR ls m)).isSome
theorem kloop_ki {ls : List Nat} {Q : List Nat → Prop} {r : List Nat} (h2 : ∀ x, Q x → x.length = r.length ∧ ∀ c ∈ x, c ∈ signs ls) (h3 : ∀ x m, Q x → m ∈ mvs ls → (led ls m x).length = r.length → Q (led ls m x)) : ∀ (f i : Nat) (ln : List KE), KI ls Q ln → KI ls Q (kloop ls r.length f i ln)
  | 0, _, _, h => h
  | f + 1, i, ln, h => by
    unfold kloop
    cases hx : ln[i]? with
    | none => exact h
    | some e =>
      obtain ⟨x, o⟩ := e
      exact kloop_ki h2 h3 f (i + 1) _ (kall_ki (fun m hm hl => h3 x m (h.q _ (List.mem_of_getElem? hx)) hm hl) (fun m hm => hm) hx h).1
theorem kind_ki {ls r : List Nat} (h : KOk ls r) : (∃ Q, KI ls Q (kind ls r)) ∧ (kind ls r).length ≤ 2000 := by
  obtain ⟨Q, hq1, hq2, hq3, hq4⟩ := h
  have ki0 : KI ls Q [(r, none)] := ⟨List.nodup_cons.mpr ⟨by simp, List.nodup_nil⟩, fun e he => by rw [List.mem_singleton.mp he]; exact hq1, fun i x p m h => by
    cases i with
    | zero => simp at h
    | succ i => simp at h⟩
  have hk := kloop_ki hq2 hq3 2001 0 _ ki0
  exact ⟨⟨Q, hk⟩, ki_len (r := r) hq4 hk⟩
abbrev spBridge (K : PySem.W.Frag) : Sp := Pur (fun x : List Nat × List Nat × List Nat => [T x.1, T x.2.1, T x.2.2]) (fun x => LetOk x.1 ∧ x.1.length ≤ 3 ∧ (∀ c ∈ x.2.1, c ∈ signs x.1) ∧ (∀ c ∈ x.2.2, c ∈ signs x.1) ∧ x.2.1.length ≤ 100 ∧ x.2.2.length ≤ 100 ∧ KOk x.1 (lastR x.1 x.2.1)) (fun x => BrG K (oneK x.1 x.2.1 x.2.2))
theorem sc_bridge_by : FnScope ["letters", "one", "other", "first", "rings", "last", "goals", "found", "back", "move"] ["letters", "one", "other"] (defScope s_bridge_by) := ⟨rfl, rfl, rfl, by decide +kernel, rfl, by decide +kernel, by decide +kernel⟩
theorem ok_bridge_by (C : Tx K mg) : Cal P w K mg base "bridge_by" 3 10 (spBridge K) := by
  refine C.cal (k := 9) ix_bridge_by gl_bridge_by (ps := ["letters", "one", "other"]) sc_bridge_by (fun _ _ _ _ _ _ us hl => match us, hl with | [_, _, _], _ => rfl) (fun _ => rfl) (fun cdv B outer s H E z vs w0 hr hv hp => ?_)
  have nd := sc_bridge_by.nd
  obtain ⟨ls, l, m⟩ := z
  try dsimp only at hp
  obtain ⟨v1, v2, v3, rfl, e1, e2, e3⟩ := args3 hv
  have e1 : v1 = .str (S (ls)) := e1
  subst e1
  have e2 : v2 = .str (S (l)) := e2
  subst e2
  have e3 : v3 = .str (S (m)) := e3
  subst e3
  obtain ⟨hL, h3, hc1, hc2, hl1, hl2, hK⟩ := hp
  obtain ⟨⟨Q, hki⟩, hklen⟩ := kind_ki hK
  have eM : ∀ z : List Nat, (.list ((steps ls (ring z)).map fun s => mvD s.1) : PyData) = mvL (mvsT ls z) := fun z => by unfold mvL mvsT; rw [List.map_map]; rfl
  refine go_unpack2 (i := 3) (j := 4) (d1 := .list ((steps ls (ring l)).map fun s => mvD s.1)) (d2 := .list ((ringsL ls (ring l)).map strD)) rfl (ce_call (R := fun x : List Nat × List Nat => Da K (leastD x.1 x.2)) (ls, l) (ok_least_by C) hr (ca_cons (cv 0) (ca1 (cv 1))) ⟨hL, h3, hc1, hl1⟩) (fun u1 u2 w1 l1 hu1 hu2 => ?_) nd
  refine go_unpack2 (i := 5) (j := 6) (d1 := .list ((steps ls (ring m)).map fun s => mvD s.1)) (d2 := .list ((ringsL ls (ring m)).map strD)) rfl (ce_call (R := fun x : List Nat × List Nat => Da K (leastD x.1 x.2)) (ls, m) (ok_least_by C) hr (ca_cons (cv 0) (ca1 (cv 2))) ⟨hL, h3, hc2, hl2⟩) (fun u3 u4 w2 l2 hu3 hu4 => ?_) nd
  rw [eM] at hu1 hu3
  have hlr := lastR_ok hL hc1
  refine go_set (i := 7) (ce_call (R := fun x : List Nat × List Nat => KindG K (kind x.1 x.2)) (ls, lastR ls l) (ok_kind_by C) hr (ca_cons (cv 0) (ca1 (CE.toT (ce_ixQ (i := -1) (CE.cq (ce_var 4 (P := Da K (.list ((ringsL ls (ring l)).map strD))) rfl (dp_ex l2.g hu2))) (ce_neg ce_int) last_at)))) ⟨hL, h3, by have := hlr.1; show (lastR ls l).length ≤ 100; omega, hK⟩) (fun u5 w3 l3 hu5 => ?_) nd
  obtain ⟨q, kvs, rfl, hq, hkv⟩ := hu5
  have hq : w3.G q = some (.dK kvs) := hq
  have hkv : KvO K w3.G (kind ls (lastR ls l)) kvs := hkv
  have fd : ∀ (w' : Wd V0), Le w3 w' → Fd kvs (.ref q) w'.G := fun w' l => ⟨q, rfl, l.g q _ hq⟩
  have hgoal : ∀ (w' : Wd V0), Le w3 w' → Dp K w'.G u4 (.list ((ringsL ls (ring m)).map strD)) := fun w' l => dp_ex (l3.g.trans l.g) hu4
  have hval : (valV kvs (tk (lastR ls m))).isSome = oneK ls l m := by
    unfold oneK
    rcases hkv.val (x := lastR ls m) with ⟨h1, h2⟩ | ⟨v, o, h1, h2, _⟩ <;> rw [h1, h2] <;> rfl
  refine go_if (t := !oneK ls l m) (CT.cast (ct_dnotin (room_u1 hr) (CE.toT (ce_ixQ (i := -1) (CE.cq (ce_var 6 (P := Da K (.list ((ringsL ls (ring m)).map strD))) rfl (hgoal w3 (Le.refl _)))) (ce_neg ce_int) last_at)) (CE.dq (ce_var 7 (P := Fd kvs) rfl (fd w3 (Le.refl _))))) (by rw [hval])) (fun h w4 l4 => ?_) (fun h w4 l4 => go_nil ?_)
  · have h : oneK ls l m = false := by simpa using h
    have hks := hkv.keys
    refine go_ret (P := BrG K (oneK ls l m)) ?_ fun v w5 l5 hv => ⟨(((l1.trans l2).trans l3).trans l4).trans l5, hv⟩
    rw [h]
    exact CE.imp (ce_make (z := .tuple ((srtK ((kind ls (lastR ls l)).map (·.1))).map strD)) (nds := fun d => [("rings", tupd d)]) (mak_OtherKind C) hr (ca1 (ce_tupQ (C.free fr_tuple) (CN.cq (cn_srtDict hr.units (C.free fr_sorted) (CE.dq (ce_var 7 (P := Fd kvs) rfl (fd w4 l4))) hks rfl)))) ⟨rfl, by rw [(dsz_tup _).2, dszA_strs, (srtK_perm _).length_eq, List.length_map]; omega⟩) fun v G h => ins_drop h
  · have h : oneK ls l m = true := by simpa using h
    have hmk : lastR ls m ∈ (kind ls (lastR ls l)).map (·.1) := by
      cases hx : look (kind ls (lastR ls l)) (lastR ls m) with
      | none => unfold oneK at h; rw [hx] at h; cases h
      | some o =>
        refine Classical.byContradiction fun hn => ?_
        rw [look_none.mpr hn] at hx; cases hx
    have hml := mvsT_len ls l
    have hmm := mvsT_len ls m
    have hsub : ∀ x ∈ mvsT ls m, x ∈ mvs ls := by
      have key : ∀ (n : Nat) (r : List Nat), r.length ≤ n → ∀ s ∈ steps ls r, s.1 ∈ mvs ls := by
        intro n
        induction n with
        | zero =>
          intro r hr s hs
          have : r = [] := List.eq_nil_of_length_eq_zero (by omega)
          subst this
          cases hs
        | succ n ih =>
          intro r hr s hs
          cases hsf : shortF ls (mvs ls) r with
          | none => rw [steps_none hsf] at hs; cases hs
          | some m' =>
            rw [steps_some hsf] at hs
            have h1 := short_lt hsf
            rcases List.mem_cons.mp hs with rfl | hs
            · exact h1.2
            · exact ih (led ls m' r) (by omega) s hs
      intro x hx
      obtain ⟨s, hs, rfl⟩ := List.mem_map.mp hx
      exact key _ _ (Nat.le_refl _) s hs
    have hr1 : Room 1 _ := hr.mono (by decide)
    refine go_setLc (i := 8) (ln_mL (xs := (mvsT ls m).reverse) (j := 9) mvD (fun x => mvD (und ls x)) (CQ.cast (CN.cq (cn_revL (CE.cq (ce_var 5 (P := Da K (mvL (mvsT ls m))) rfl (dp_ex (l3.g.trans l4.g) hu3))))) (by rw [List.map_reverse])) (by rw [List.length_reverse]; omega) (fun x v w' hx l' dv => fun _ _ _ _ _ => ce_call (R := fun x : List Nat × (List Nat × List Nat) => Da K (mvD (und x.1 x.2))) (ls, x) (ok_undone_by_letter C) hr1 (ca_cons (cv 0) (ca1 (ce_var 9 (P := Da K (mvD x)) rfl dv))) ⟨hL, hsub x (List.mem_reverse.mp hx)⟩)) rfl nd (blkOk_by (N := ["letters", "one", "other", "first", "rings", "last", "goals", "found", "back", "move"]) (sc := defScope s_bridge_by) (by decide +kernel)) (fun _ _ _ _ _ => pg_name nd rfl (Or.inl rfl)) (fun p vs w5 l5 n5 o5 d5 => ?_) (sw_true rfl rfl rfl (by decide +kernel))
    have g15 : Ex w1.G w5.G := ((l2.g.trans l3.g).trans l4.g).trans l5.g
    have hwl : (way (kind ls (lastR ls l)) (lastR ls m)).length ≤ 2000 := by
      unfold way
      rw [List.length_reverse]
      exact Nat.le_trans (way_len hki _ _) hklen
    have ecat : ((mvsT ls l).map mvD ++ (way (kind ls (lastR ls l)) (lastR ls m)).map mvD) ++ ((mvsT ls m).reverse.map fun x => mvD (und ls x)) = (mvsT ls l ++ way (kind ls (lastR ls l)) (lastR ls m) ++ (mvsT ls m).reverse.map (und ls)).map mvD := by
      rw [List.map_append, List.map_append, List.map_map]; rfl
    refine go_ret (P := BrG K (oneK ls l m)) ?_ fun v w6 l6 hv => ⟨((((l1.trans l2).trans l3).trans l4).trans l5).trans l6, hv⟩
    rw [h]
    exact CE.imp (ce_make (z := .tuple ((mvsT ls l ++ way (kind ls (lastR ls l)) (lastR ls m) ++ (mvsT ls m).reverse.map (und ls)).map mvD)) (nds := fun d => [("moves", tupd d)]) (mak_Bridge C) hr (ca1 (ce_tupQ (C.free fr_tuple) (CN.cq (CN.cast (cn_catQ (CN.cq (cn_catQ (CE.cq (ce_var 3 (P := Da K (mvL (mvsT ls l))) rfl (dp_ex g15 hu1))) (CE.cq (ce_call (R := fun x : List KE × List Nat => Da K (mvL (way x.1 x.2))) (kind ls (lastR ls l), lastR ls m) (ok_way_to C) hr1 (ca_cons (ce_var 7 (P := KindG K (kind ls (lastR ls l))) rfl ⟨q, kvs, rfl, (l4.trans l5).g q _ hq, hkv.ex (l4.trans l5).g⟩) (ca1 (CE.toT (ce_ixQ (i := -1) (CE.cq (ce_var 6 (P := Da K (.list ((ringsL ls (ring m)).map strD))) rfl (hgoal w5 (l4.trans l5)))) (ce_neg ce_int) last_at)))) ⟨⟨ls, Q, hki⟩, hklen, hmk⟩)) (by simp only [List.length_map]; omega))) (cq_own 8 o5 d5) (by simp only [List.length_append, List.length_map, List.length_reverse]; omega)) ecat))))
      ⟨rfl, by rw [(dsz_tup _).2, dszA_mvs, List.length_append, List.length_append, List.length_map, List.length_reverse]; omega⟩) fun v G h => ins_drop h
abbrev spOneKind : Sp := Pur (fun x : List Nat × List Nat × List Nat => [T x.1, T x.2.1, T x.2.2]) (fun x => LetOk x.1 ∧ x.1.length ≤ 3 ∧ isR x.1 x.2.1 = true ∧ isR x.1 x.2.2 = true ∧ x.2.1 ≠ [] ∧ x.2.2 ≠ [] ∧ x.2.1.length ≤ 100 ∧ x.2.2.length ≤ 100 ∧ KOk x.1 (lastR x.1 x.2.1)) (fun x => Bo (oneK x.1 x.2.1 x.2.2))
theorem sc_are_of_one_kind : FnScope ["letters", "one", "other"] ["letters", "one", "other"] (defScope s_are_of_one_kind) := ⟨rfl, rfl, rfl, by decide +kernel, rfl, by decide +kernel, by decide +kernel⟩
theorem ok_are_of_one_kind (C : Tx K mg) : Cal P w K mg base "are_of_one_kind" 3 11 spOneKind := by
  refine C.cal (k := 10) ix_are_of_one_kind gl_are_of_one_kind (ps := ["letters", "one", "other"]) sc_are_of_one_kind (fun _ _ _ _ _ _ us hl => match us, hl with | [_, _, _], _ => rfl) (fun _ => rfl) (fun cdv B outer s H E z vs w0 hr hv hp => ?_)
  have nd := sc_are_of_one_kind.nd
  obtain ⟨ls, l, m⟩ := z
  try dsimp only at hp
  obtain ⟨v1, v2, v3, rfl, e1, e2, e3⟩ := args3 hv
  have e1 : v1 = .str (S (ls)) := e1
  subst e1
  have e2 : v2 = .str (S (l)) := e2
  subst e2
  have e3 : v3 = .str (S (m)) := e3
  subst e3
  obtain ⟨hL, h3, h1, h2, n1, n2, hl1, hl2, hK⟩ := hp
  refine go_drop (ce_call (R := fun _ => No) (ls, l, m) (ok_need_two_words C) hr (ca_cons (cv 0) (ca_cons (cv 1) (ca1 (cv 2)))) ⟨hL, h3, h1, h2, n1, n2⟩) fun w1 l1 => ?_
  have pre : LetOk ls ∧ ls.length ≤ 3 ∧ (∀ c ∈ l, c ∈ signs ls) ∧ (∀ c ∈ m, c ∈ signs ls) ∧ l.length ≤ 100 ∧ m.length ≤ 100 ∧ KOk ls (lastR ls l) := ⟨hL, h3, isR_signs h1, isR_signs h2, hl1, hl2, hK⟩
  cases hb : oneK ls l m with
  | true =>
    refine go_ret (P := Bo true) (ce_isiI (nds := []) (C.free fr_isinstance) (C.glo gl_Bridge) (CE.imp (ce_call (R := fun x : List Nat × List Nat × List Nat => BrG K (oneK x.1 x.2.1 x.2.2)) (ls, l, m) (ok_bridge_by C) hr (ca_cons (cv 0) (ca_cons (cv 1) (ca1 (cv 2)))) pre) fun v G h => by
      have h : BrG K (oneK ls l m) v G := h
      rw [hb] at h
      exact h) (cf_Bridge C).c (cf_Bridge C).a (xh_ok C) (xg_ok C) (cf_Bridge C).m (kk3 C)) fun v w2 l2 hv => ⟨l1.trans l2, ?_⟩
    show v = V.bl (oneK ls l m)
    rw [hb]; exact hv
  | false =>
    refine go_ret (P := Bo false) (ce_isiI (nds := []) (C.free fr_isinstance) (C.glo gl_Bridge) (CE.imp (ce_call (R := fun x : List Nat × List Nat × List Nat => BrG K (oneK x.1 x.2.1 x.2.2)) (ls, l, m) (ok_bridge_by C) hr (ca_cons (cv 0) (ca_cons (cv 1) (ca1 (cv 2)))) pre) fun v G h => by
      have h : BrG K (oneK ls l m) v G := h
      rw [hb] at h
      exact h) (cf_OtherKind C).c (cf_OtherKind C).a (xh_ok C) (xg_ok C) (cf_OtherKind C).m (kk4 C)) fun v w2 l2 hv => ⟨l1.trans l2, ?_⟩
    show v = V.bl (oneK ls l m)
    rw [hb]; exact hv
end
end FW
set_option Elab.async false
set_option linter.all false
set_option maxRecDepth 100000
set_option maxHeartbeats 4000000
namespace FW
open PySem PySem.Spec PyProof.Rows L2 He
section
variable {P : Program} {w : World} {K : PySem.W.Frag} {mg : Str → Option Value} {base : Heap}
/-! ### the law's draws -/
abbrev DrawR (n : Int) : GP := fun v _ => ∃ r : Int, v = .int r ∧ 0 ≤ r ∧ r < n
theorem sc__law_draw : FnScope ["pen", "many", "cell", "digit", "blend"] ["pen", "many"] (defScope s__law_draw) := ⟨rfl, rfl, rfl, by decide +kernel, rfl, by decide +kernel, by decide +kernel⟩
theorem ok__law_draw (C : Tx K mg) : Cal P w K mg base "_law_draw" 2 1 (PurP K (fun n : Int => [I n]) (fun n : Int => 0 < n ∧ n < 1000) (fun n : Int => DrawR n)) := by
  refine C.calD (k := 0) ix__law_draw gl__law_draw (ps := ["pen", "many"]) sc__law_draw (fun _ _ _ _ _ _ us hl => match us, hl with | [_, _], _ => rfl) (fun _ => rfl) (fun cdv B outer s H E z pen vs w0 hr hpen hv hp => ?_)
  have nd := sc__law_draw.nd
  obtain ⟨v1, rfl, e1⟩ := args1 hv
  have e1 : v1 = .int (z) := e1
  subst e1
  obtain ⟨hp0, hp1⟩ := hp
  obtain ⟨cl, at_, dg, ct, fo, ns, o, hd⟩ := hpen
  have u1 := room_u1 hr
  have hz : ∀ {a : Nat} {d c f : Int}, (penK cl a d c f).length ≤ 1000000 := fun {a d c f} => Nat.le_of_ble_eq_true rfl
  -- what is left behind the first four rows
  have tail : ∀ (w' : Wd V0) (a : Nat) (d c f : Int) (x : Option Vv), OwO w' pen (.dK (penK cl a d c f)) → LeB pen w0 w' → Go (cxOf CX0 P w K mg base ["pen", "many", "cell", "digit", "blend"] ds__law_draw.qual ds__law_draw.scope (fAd K ds__law_draw.at_) cdv B outer s H E).nox (ds__law_draw.body.drop 2) [some (.ref pen), some (.int z), x, none, none] w' ⟨fun _ w' => LeB pen w0 w' ∧ PenS K pen w' ∧ DrawR z .non w'.G, fun v w' => LeB pen w0 w' ∧ PenS K pen w' ∧ DrawR z v w'.G, fun _ _ => False, fun _ _ => False⟩ := by
    intro w1 a d c f x o1 l1
    refine go_if (t := decide (0 < d)) (ct_gt (ce_dget (P := I d) (l := kDigits) u1 (dq_own 0 o1) (ce_str kDigits) pen_digits (fun _ _ => rfl)) ce_int) (fun h w2 l2 => ?_) (fun h w2 l2 => go_nil ?_)
    · have o2 := o1.mono l2
      refine go_set (i := 3) (ce_mod (ce_int1 (C.free fr_int) (ce_dget (P := I d) (l := kDigits) u1 (dq_own 0 o2) (ce_str kDigits) pen_digits (fun _ _ => rfl))) (cv 1) hp0) (fun v w3 l3 hv => ?_) nd
      have hv : v = .int (d % z) := hv
      subst hv
      have o3 := o2.mono l3
      refine go_dput 0 (P := I (d / z)) (l := kDigits) u1 o3 (ce_fdiv (ce_dget (P := I d) (l := kDigits) u1 (dq_own 0 o3) (ce_str kDigits) pen_digits (fun _ _ => rfl)) (cv 1) ⟨hp0, by omega⟩) (ce_str kDigits) hz fun v w4 l4 o4 hv => ?_
      have hv : v = .int (d / z) := hv
      subst hv
      rw [put_digits]
      refine go_ret (cv 3) fun v w5 l5 hv => ?_
      have l05 := ((((l1.le l2).le l3).le l4).putO (u := .dK (penK cl a (d / z) c f)) o4).le l5
      exact ⟨l05, ⟨cl, a, d / z, c, f, ns, o4.put.mono l5, dp_ex l05.g hd⟩, d % z, hv, Int.emod_nonneg _ (by omega), Int.emod_lt_of_pos _ hp0⟩
    · have o2 := o1.mono l2
      refine go_set (i := 4) (ce_mod (ce_int1 (C.free fr_int) (ce_add (ce_add (ce_mul (ce_dget (P := I f) (l := kFold) u1 (dq_own 0 o2) (ce_str kFold) pen_fold (fun _ _ => rfl)) ce_int (.inr ⟨by decide, by decide⟩)) (ce_mul (ce_dget (P := I c) (l := kCount) u1 (dq_own 0 o2) (ce_str kCount) pen_count (fun _ _ => rfl)) ce_int (.inr ⟨by decide, by decide⟩))) ce_int)) ce_int (by decide)) (fun v w3 l3 hv => ?_) nd
      have o3 := o2.mono l3
      obtain ⟨b1, eb1⟩ : ∃ b1, b1 = (f * 48271 + c * 7919 + 13) % 2147483647 := ⟨_, rfl⟩
      have hv : v = .int b1 := by rw [eb1]; exact hv
      subst hv
      have hb1 : 0 ≤ b1 ∧ b1 < 2147483647 := by rw [eb1]; exact ⟨Int.emod_nonneg _ (by decide), Int.emod_lt_of_pos _ (by decide)⟩
      refine go_set (i := 4) (ce_mod (ce_int1 (C.free fr_int) (ce_add (ce_add (ce_mul (cv 4) (cv 4) (.inl ⟨by omega, by omega⟩)) (ce_mul ce_int (cv 4) (.inl ⟨by decide, by decide⟩))) (ce_dget (P := I c) (l := kCount) u1 (dq_own 0 o3) (ce_str kCount) pen_count (fun _ _ => rfl)))) ce_int (by decide)) (fun v w4 l4 hv => ?_) nd
      have o4 := o3.mono l4
      obtain ⟨b2, eb2⟩ : ∃ b2, b2 = (b1 * b1 + 31 * b1 + c) % 2147483629 := ⟨_, rfl⟩
      have hv : v = .int b2 := by rw [eb2]; exact hv
      subst hv
      refine go_dput 0 (P := I ((b2 * 16807 + 7) % 2147483647)) (l := kFold) u1 o4 (ce_mod (ce_int1 (C.free fr_int) (ce_add (ce_mul (cv 4) ce_int (.inr ⟨by decide, by decide⟩)) ce_int)) ce_int (by decide)) (ce_str kFold) hz fun v w5 l5 o5 hv => ?_
      have hv : v = .int ((b2 * 16807 + 7) % 2147483647) := hv
      subst hv
      rw [put_fold]
      refine go_ret (ce_mod (ce_int1 (C.free fr_int) (ce_fdiv (cv 4) ce_int ⟨by decide, by decide⟩)) (cv 1) hp0) fun v w6 l6 hv => ?_
      have l06 := (((((l1.le l2).le l3).le l4).le l5).putO (u := .dK (penK cl a d c ((b2 * 16807 + 7) % 2147483647))) o5).le l6
      exact ⟨l06, ⟨cl, a, d, c, _, ns, o5.put.mono l6, dp_ex l06.g hd⟩, (b2 / 64) % z, hv, Int.emod_nonneg _ (by omega), Int.emod_lt_of_pos _ hp0⟩
  refine go_dput 0 (P := I (ct + 1)) (l := kCount) u1 o (ce_add (ce_dget (P := I ct) (l := kCount) u1 (dq_own 0 o) (ce_str kCount) pen_count (fun _ _ => rfl)) ce_int) (ce_str kCount) hz fun v w1 l1 o1 hv => ?_
  have hv : v = .int (ct + 1) := hv
  subst hv
  rw [put_count]
  have lb1 := ((LeB.refl w0).le l1).putO (u := .dK (penK cl at_ dg (ct + 1) fo)) o1
  have o1 := o1.put (u := .dK (penK cl at_ dg (ct + 1) fo))
  have cellsQ : ∀ (w' : Wd V0), LeB pen w0 w' → Dp K w'.G (.ref cl) (.list (List.map PyData.int ns)) := fun w' l => dp_ex l.g hd
  refine go_if (t := decide (dg = 0) && decide (at_ < ns.length)) (ct_and2 (ct_eqI (ce_dget (P := I dg) (l := kDigits) u1 (dq_own 0 o1) (ce_str kDigits) pen_digits (fun _ _ => rfl)) ce_int) fun _ => CT.cast (ct_lt (ce_dget (P := I at_) (l := kAt) u1 (dq_own 0 o1) (ce_str kAt) pen_at (fun _ _ => rfl)) (ce_lenQ (C.free fr_len) (CE.cq (ce_dget (P := Da K (.list (List.map PyData.int ns))) (l := kCells) u1 (dq_own 0 o1) (ce_str kCells) pen_cells (fun w' l => cellsQ w' (lb1.le l)))))) (decide_eq_decide.mpr (by rw [List.length_map]; omega))) (fun h w2 l2 => ?_) (fun h w2 l2 => go_nil (tail w2 at_ dg (ct + 1) fo none (o1.mono l2) (lb1.le l2)))
  have hat := of_decide_eq_true (Bool.and_eq_true_iff.mp h).2
  have o2 := o1.mono l2
  have lb2 := lb1.le l2
  obtain ⟨c0, hc0⟩ : ∃ c0, ns[at_]? = some c0 := ⟨_, List.getElem?_eq_getElem hat⟩
  refine go_set (i := 2) (CE.toI (i := c0) (ce_ixQ (i := (at_ : Int)) (CE.cq (ce_dget (P := Da K (.list (List.map PyData.int ns))) (l := kCells) u1 (dq_own 0 o2) (ce_str kCells) pen_cells (fun w' l => cellsQ w' (lb2.le l)))) (ce_dget (P := I at_) (l := kAt) u1 (dq_own 0 o2) (ce_str kAt) pen_at (fun _ _ => rfl)) (atI_nat (by rw [List.getElem?_map, hc0]; rfl)))) (fun v w3 l3 hv => ?_) nd
  have hv : v = .int c0 := hv
  subst hv
  have o3 := o2.mono l3
  refine go_dput 0 (P := I ((at_ : Int) + 1)) (l := kAt) u1 o3 (ce_add (ce_dget (P := I at_) (l := kAt) u1 (dq_own 0 o3) (ce_str kAt) pen_at (fun _ _ => rfl)) ce_int) (ce_str kAt) hz fun v w4 l4 o4 hv => ?_
  have hv : v = .int (((at_ + 1 : Nat) : Int)) := by rw [show (((at_ + 1 : Nat) : Int)) = (at_ : Int) + 1 by omega]; exact hv
  subst hv
  rw [put_at]
  have lb4 := ((lb2.le l3).le l4).putO (u := .dK (penK cl (at_ + 1) dg (ct + 1) fo)) o4
  have o4 := o4.put (u := .dK (penK cl (at_ + 1) dg (ct + 1) fo))
  refine go_if (t := decide ((10 : Int) ^ 18 ≤ c0)) (ct_ge (cv 2) (ce_pow ce_int ce_int ⟨by decide, by decide, by decide⟩)) (fun h w5 l5 => ?_) (fun h w5 l5 => ?_)
  · have o5 := o4.mono l5
    refine go_dput 0 (P := I (c0 - 10 ^ 18)) (l := kDigits) u1 o5 (ce_sub (cv 2) (ce_pow ce_int ce_int ⟨by decide, by decide, by decide⟩)) (ce_str kDigits) hz fun v w6 l6 o6 hv => ?_
    have hv : v = .int (c0 - 10 ^ 18) := hv
    subst hv
    rw [put_digits]
    exact go_nil (go_nil (tail _ (at_ + 1) (c0 - 10 ^ 18) (ct + 1) fo _ o6.put (((lb4.le l5).le l6).putO o6)))
  · have o5 := o4.mono l5
    refine go_dput 0 (P := I ((fo * 69069 + c0) % 2147483587)) (l := kFold) u1 o5 (ce_mod (ce_int1 (C.free fr_int) (ce_add (ce_mul (ce_dget (P := I fo) (l := kFold) u1 (dq_own 0 o5) (ce_str kFold) pen_fold (fun _ _ => rfl)) ce_int (.inr ⟨by decide, by decide⟩)) (cv 2))) ce_int (by decide)) (ce_str kFold) hz fun v w6 l6 o6 hv => ?_
    have hv : v = .int ((fo * 69069 + c0) % 2147483587) := hv
    subst hv
    rw [put_fold]
    exact go_nil (go_nil (tail _ (at_ + 1) dg (ct + 1) _ _ o6.put (((lb4.le l5).le l6).putO o6)))
end
end FW
set_option Elab.async false
set_option linter.all false
set_option maxRecDepth 100000
set_option maxHeartbeats 4000000
namespace FW
open PySem PySem.Spec PyProof.Rows L2 He
section
variable {P : Program} {w : World} {K : PySem.W.Frag} {mg : Str → Option Value} {base : Heap}
/-! ### the law's own words -/
theorem flip_is {c : Nat} (h : c < 128) : (if 65 ≤ c ∧ c ≤ 90 then loc c else upc c) = flip c := by
  unfold loc upc flip
  (repeat' split) <;> omega
abbrev spUndoL : Sp := Pur (fun c : Nat => [T [c]]) (fun c => c < 128) (fun c => T [flip c])
theorem sc__law_undo : FnScope ["sign"] ["sign"] (defScope s__law_undo) := ⟨rfl, rfl, rfl, by decide +kernel, rfl, by decide +kernel, by decide +kernel⟩
theorem ok__law_undo (C : Tx K mg) : Cal P w K mg base "_law_undo" 1 1 spUndoL := by
  refine C.cal (k := 0) ix__law_undo gl__law_undo (ps := ["sign"]) sc__law_undo (fun _ _ _ _ _ _ us hl => match us, hl with | [_], _ => rfl) (fun _ => rfl) (fun cdv B outer s H E z vs w0 hr hv hp => ?_)
  have nd := sc__law_undo.nd
  obtain ⟨v1, rfl, e1⟩ := args1 hv
  have e1 : v1 = .str (S ([z])) := e1
  subst e1
  have hz : z < 128 := hp
  refine go_ret (P := T [flip z]) (ce_if (t := decide (65 ≤ z ∧ z ≤ 90)) (ct_val (ce_isupper (cv 0) hz)) (fun h => ?_) (fun h => ?_)) fun v w2 l2 hv => ⟨l2, hv⟩
  · have h := of_decide_eq_true h
    rw [← flip_is hz, if_pos h]
    exact ce_lower (x := [z]) (cv 0) (fun c hc => by rw [List.mem_singleton.mp hc]; exact hz) (by simp)
  · have h := of_decide_eq_false h
    rw [← flip_is hz, if_neg h]
    exact ce_upper (x := [z]) (cv 0) (fun c hc => by rw [List.mem_singleton.mp hc]; exact hz) (by simp)
theorem ce_cutLast {U : Vol} {X : Cx} {a : Expr} {σ : Sg} {w : Wd U} {k2 : Nat} {p2 p3 p4 pos : Pos} {x : List Nat} (ha : CE X a σ w (T x)) (hx : x.length ≤ 1000000) : CE X (.Subscript a (.Slice none (some (.UnaryOp .USub (.Constant (.int 1) k2 p2) p3)) none p4) pos) σ w (T x.dropLast) := by
  refine CE.castT (ce_slT (lo := none) (hi := some (.UnaryOp .USub (.Constant (.int 1) k2 p2) p3)) (ol := none) (oh := some (-1)) ha True.intro (ce_neg ce_int) hx) ?_
  have e : HT.sIx x.length x.length (some (-1)) = x.length - 1 := by
    unfold HT.sIx
    simp
    omega
  rw [HT.sIx_none, e, List.drop_zero, Nat.sub_zero, List.dropLast_eq_take]
theorem fold_asc {l st : List Nat} (h1 : Asc l) (h2 : Asc st) : Asc (l.foldl pushR st) := fun c hc => by
  rcases fold_mem hc with h | h
  · exact h2 c h
  · exact h1 c h
abbrev spRedL : Sp := Pur (fun l : List Nat => [T l]) (fun l => Asc l ∧ l.length ≤ 1000) (fun l => T (red l))
theorem sc__law_reduced : FnScope ["word", "found", "sign"] ["word"] (defScope s__law_reduced) := ⟨rfl, rfl, rfl, by decide +kernel, rfl, by decide +kernel, by decide +kernel⟩
theorem ok__law_reduced (C : Tx K mg) : Cal P w K mg base "_law_reduced" 1 2 spRedL := by
  refine C.cal (k := 1) ix__law_reduced gl__law_reduced (ps := ["word"]) sc__law_reduced (fun _ _ _ _ _ _ us hl => match us, hl with | [_], _ => rfl) (fun _ => rfl) (fun cdv B outer s H E z vs w0 hr hv hp => ?_)
  have nd := sc__law_reduced.nd
  obtain ⟨v1, rfl, e1⟩ := args1 hv
  have e1 : v1 = .str (S (z)) := e1
  subst e1
  obtain ⟨ha, hl⟩ := hp
  refine go_set (i := 1) (ce_str []) (fun v w1 l1 hv => ?_) nd
  have hv : v = .str (S []) := hv
  subst hv
  refine go_forT (i := 2) (cv 0) (fun k σ' w' => ∃ x, σ' = [some (.str (S z)), some (.str (S ((z.take k).foldl pushR []).reverse)), x] ∧ Le w0 w') (fun w' l => ⟨_, rfl, l1.trans l⟩) ?_ ?_ PassesOwn.never rfl nd
  · rintro k c σ' w' hk ⟨x, rfl, l⟩
    have hc : c < 128 := ha c (List.mem_of_getElem? hk)
    have hfl := fold_len (z.take k) []
    have hkl := (List.getElem?_eq_some_iff.mp hk).1
    have hstep : (z.take (k + 1)).foldl pushR [] = pushR ((z.take k).foldl pushR []) c := by rw [take_next hk, List.foldl_append]; rfl
    obtain ⟨st, est⟩ : ∃ st, st = (z.take k).foldl pushR [] := ⟨_, rfl⟩
    rw [← est] at hfl hstep ⊢
    have hst : st.length ≤ 1000 := by rw [List.length_take] at hfl; simp at hfl; omega
    refine go_set (i := 1) (P := T (pushR st c).reverse) (ce_if (t := !decide (st.reverse = []) && decide (st.head? = some (flip c))) (ct_and2 (ct_neT (cv 1) (ce_str [])) fun h => ?_) (fun h => ?_) (fun h => ?_)) (fun v w2 l2 hv => ?_) nd
    · cases st with
      | nil => simp at h
      | cons t r =>
        refine CT.cast (ct_eqT (x := [t]) (y := [flip c]) (ce_ixT (cv 1) (ce_neg ce_int) (by simp; simp at hst; omega) (atI_neg (by simp) (by simp))) (ce_call (R := fun c => T [flip c]) c (ok__law_undo C) hr (ca1 (cv 2)) hc)) ?_
        exact decide_eq_decide.mpr (by simp)
    · cases st with
      | nil => simp at h
      | cons t r =>
        have h2 : t = flip c := by simpa using h
        have e : pushR (t :: r) c = r := by
          show (if t = flip c then r else c :: t :: r) = r
          rw [if_pos h2]
        rw [e]
        exact CE.castT (ce_cutLast (cv 1) (by simp; simp at hst; omega)) (by simp)
    · have e : pushR st c = c :: st := by
        cases st with
        | nil => rfl
        | cons t r =>
          have h2 : ¬ t = flip c := by simpa using h
          show (if t = flip c then r else c :: t :: r) = _
          rw [if_neg h2]
      rw [e]
      exact CE.castT (ce_addT (cv 1) (cv 2) (by simp; omega)) (by simp)
    · have hv : v = .str (S (pushR st c).reverse) := hv
      subst hv
      exact go_nil ⟨_, by rw [hstep]; rfl, l.trans l2⟩
  · rintro σ' w' ⟨x, rfl, l⟩
    rw [List.take_length]
    exact go_ret (P := T (red z)) (cv 1) fun v w2 l2 hv => ⟨l.trans l2, hv⟩
abbrev spBackL : Sp := Pur (fun l : List Nat => [T l]) (fun l => Asc l ∧ l.length ≤ 1000) (fun l => T (undo l))
theorem sc__law_back : FnScope ["word", "sign"] ["word"] (defScope s__law_back) := ⟨rfl, rfl, rfl, by decide +kernel, rfl, by decide +kernel, by decide +kernel⟩
theorem ok__law_back (C : Tx K mg) : Cal P w K mg base "_law_back" 1 2 spBackL := by
  refine C.cal (k := 1) ix__law_back gl__law_back (ps := ["word"]) sc__law_back (fun _ _ _ _ _ _ us hl => match us, hl with | [_], _ => rfl) (fun _ => rfl) (fun cdv B outer s H E z vs w0 hr hv hp => ?_)
  have nd := sc__law_back.nd
  obtain ⟨v1, rfl, e1⟩ := args1 hv
  have e1 : v1 = .str (S (z)) := e1
  subst e1
  obtain ⟨ha, hl⟩ := hp
  have hr1 : Room 1 _ := hr
  have ef := flat1 flip z.reverse
  refine go_ret (P := T (undo z)) (CE.castT (ce_joinQ (ce_str []) (CN.cq (CN.cast (cn_ln (ln_mT (l := z.reverse) (j := 1) (fun c => strD [flip c]) (ce_revT (cv 0) (by omega)) (by rw [List.length_reverse]; omega) (fun c w' hc l' => fun _ _ _ _ _ => CE.daT (ce_call (R := fun c => T [flip c]) c (ok__law_undo C) hr1 (ca1 (cv 1)) (ha c (List.mem_reverse.mp hc))))) rfl nd (blkOk_by (N := ["word", "sign"]) (sc := defScope s__law_back) (by decide +kernel)) (fun _ _ _ _ _ => pg_name nd rfl (Or.inl rfl))) (by rw [List.map_map]; rfl))) (by rw [ef, List.length_map, List.length_reverse]; omega)) ef) fun v w2 l2 hv => ⟨l2, hv⟩
abbrev spJoinL : Sp := Pur (fun x : List Nat × List Nat => [T x.1, T x.2]) (fun x => Asc x.1 ∧ Asc x.2 ∧ x.1.length ≤ 300 ∧ x.2.length ≤ 300) (fun x => T (red (x.1 ++ x.2)))
theorem sc__law_join : FnScope ["one", "other"] ["one", "other"] (defScope s__law_join) := ⟨rfl, rfl, rfl, by decide +kernel, rfl, by decide +kernel, by decide +kernel⟩
theorem ok__law_join (C : Tx K mg) : Cal P w K mg base "_law_join" 2 3 spJoinL := by
  refine C.cal (k := 2) ix__law_join gl__law_join (ps := ["one", "other"]) sc__law_join (fun _ _ _ _ _ _ us hl => match us, hl with | [_, _], _ => rfl) (fun _ => rfl) (fun cdv B outer s H E z vs w0 hr hv hp => ?_)
  have nd := sc__law_join.nd
  obtain ⟨l, m⟩ := z
  try dsimp only at hp
  obtain ⟨v1, v2, rfl, e1, e2⟩ := args2 hv
  have e1 : v1 = .str (S (l)) := e1
  subst e1
  have e2 : v2 = .str (S (m)) := e2
  subst e2
  obtain ⟨h1, h2, h3, h4⟩ := hp
  refine go_ret (ce_call (R := fun l => T (red l)) (l ++ m) (ok__law_reduced C) hr (ca1 (ce_addT (cv 0) (cv 1) (by omega))) ⟨fun c hc => (List.mem_append.mp hc).elim (h1 c) (h2 c), by rw [List.length_append]; omega⟩) fun v w2 l2 hv => ⟨l2, hv⟩
abbrev spRingL : Sp := Pur (fun l : List Nat => [T l]) (fun l => Asc l ∧ l.length ≤ 1000) (fun l => T (ring l))
theorem sc__law_ring : FnScope ["word", "at"] ["word"] (defScope s__law_ring) := ⟨rfl, rfl, rfl, by decide +kernel, rfl, by decide +kernel, by decide +kernel⟩
theorem ok__law_ring (C : Tx K mg) : Cal P w K mg base "_law_ring" 1 2 spRingL := by
  refine C.cal (k := 1) ix__law_ring gl__law_ring (ps := ["word"]) sc__law_ring (fun _ _ _ _ _ _ us hl => match us, hl with | [_], _ => rfl) (fun _ => rfl) (fun cdv B outer s H E z vs w0 hr hv hp => ?_)
  have nd := sc__law_ring.nd
  obtain ⟨v1, rfl, e1⟩ := args1 hv
  have e1 : v1 = .str (S (z)) := e1
  subst e1
  obtain ⟨ha, hl⟩ := hp
  have hr1 : Room 1 _ := hr
  refine go_while (fun m σ' w' => ∃ n : Nat, σ' = [some (.str (S ((z.drop n).take (z.length - 2 * n)))), none] ∧ m = z.length - n ∧ rgo z m n = rK z ∧ 2 * n ≤ z.length ∧ Le w0 w') z.length ⟨0, by rw [List.drop_zero, Nat.mul_zero, Nat.sub_zero, List.take_length]; rfl, by omega, rfl, by omega, Le.refl _⟩ ?_ PassesOwn.never
  rintro m σ' w' ⟨n, rfl, rfl, hg, hn, l⟩
  have hlen : ((z.drop n).take (z.length - 2 * n)).length = z.length - 2 * n := by rw [List.length_take, List.length_drop]; omega
  have hga : ∀ i, i < z.length - 2 * n → ((z.drop n).take (z.length - 2 * n))[i]? = some (z.getD (n + i) 0) := fun i hi => by
    rw [List.getElem?_take, if_pos hi, List.getElem?_drop]
    exact getD_some (by omega)
  refine ⟨decide (z.length - 2 * n > 1 ∧ z.getD n 0 = flip (z.getD (z.length - 1 - n) 0)), ?_, fun h w2 l2 => ?_, fun h w2 l2 => ?_⟩
  · refine CT.cast (t := decide (z.length - 2 * n > 1) && decide ([z.getD n 0] = [flip (z.getD (z.length - 1 - n) 0)])) (ct_and2 (CT.cast (ct_gt (ce_lenT (C.free fr_len) (cv 0) (by omega)) ce_int) ?_) fun h => ?_) ?_
    · rw [hlen]
      exact decide_eq_decide.mpr (by omega)
    · have h1 : z.length - 2 * n > 1 := of_decide_eq_true h
      refine ct_eqT (ce_ixT (cv 0) ce_int (by omega) (atI_of (j := 0) rfl ?_)) (ce_call (R := fun c => T [flip c]) (z.getD (z.length - 1 - n) 0) (ok__law_undo C) hr1 (ca1 (ce_ixT (cv 0) (ce_neg ce_int) (by omega) ?_)) ?_)
      · exact hga 0 (by omega)
      · have := hga (z.length - 2 * n - 1) (by omega)
        have e : n + (z.length - 2 * n - 1) = z.length - 1 - n := by omega
        rw [e] at this
        refine atI_neg (by rw [hlen]; omega) ?_
        rw [hlen]; exact this
      · exact ha _ (List.mem_of_getElem? (getD_some (z := 0) (by omega)))
    · rw [← Bool.decide_and]
      exact decide_eq_decide.mpr (by simp)
  · have h1 := of_decide_eq_true h
    refine go_set (i := 0) (ce_cut1 (cv 0) (by omega)) (fun v w3 l3 hv => ?_) nd
    have hv : v = _ := hv
    subst hv
    refine go_nil ⟨z.length - (n + 1), by omega, n + 1, ?_, rfl, ?_, by omega, (l.trans l2).trans l3⟩
    · have e : (((z.drop n).take (z.length - 2 * n)).drop 1).take (((z.drop n).take (z.length - 2 * n)).length - 2) = (z.drop (n + 1)).take (z.length - 2 * (n + 1)) := by
        rw [hlen, List.drop_take, List.drop_drop, List.take_take]
        congr 1
        omega
      rw [e]; rfl
    · rw [← hg, show z.length - n = (z.length - (n + 1)) + 1 by omega]
      show _ = rgo z (z.length - (n + 1) + 1) n
      rw [rgo, if_pos h1]
  · have h1 : ¬ _ := of_decide_eq_false h
    have e : rK z = n := by
      rw [← hg]
      cases hm : z.length - n with
      | zero => rfl
      | succ f => rw [rgo, if_neg h1]
    have eC : (z.drop n).take (z.length - 2 * n) = rC z := by unfold rC; rw [e]
    rw [eC]
    have hcl := rC_len z
    obtain ⟨x, xs, hx⟩ := rots_ne (rC z)
    refine go_ret (P := T (ring z)) (CE.castT (ce_minT (x := x) (xs := xs) hr.units (C.free fr_min) (CN.cq (CN.cast (cn_ln (ln_mR (n := max 1 (rC z).length) (j := 1) (fun k => strD ((rC z).drop k ++ (rC z).take k)) (C.free fr_range) (CE.castI (ce_max2 (C.free fr_max) ce_int (ce_lenT (C.free fr_len) (cv 0) (by omega)) rfl) (by split <;> omega)) (by omega) (fun k w'' hk l'' => fun _ _ _ _ _ => CE.daT (ce_addT (ce_from (cv 0) (cv 1) (by omega)) (ce_upto (cv 0) (cv 1) (by omega)) (by rw [List.length_drop, List.length_take]; omega)))) rfl nd (blkOk_by (N := ["word", "at"]) (sc := defScope s__law_ring) (by decide +kernel)) (fun _ _ _ _ _ => pg_name nd rfl (Or.inl rfl))) (by rw [← hx]; unfold rots; rw [List.map_map]; rfl))) rfl) (by unfold ring; rw [hx]; rfl)) fun v w3 l3 hv => ⟨(l.trans l2).trans l3, hv⟩
end
end FW
set_option Elab.async false
set_option linter.all false
set_option maxRecDepth 100000
set_option maxHeartbeats 4000000
namespace FW
open PySem PySem.Spec PyProof.Rows L2 He
section
variable {P : Program} {w : World} {K : PySem.W.Frag} {mg : Str → Option Value} {base : Heap}
/-! ### the law's drawn words -/
theorem erase_perm {rs : List Nat} {j c : Nat} (h : rs[j]? = some c) : ([c] ++ rs.eraseIdx j).Perm rs := by
  have hl := (List.getElem?_eq_some_iff.mp h).1
  have e : rs = rs.take j ++ c :: rs.drop (j + 1) := by
    rw [← (List.getElem?_eq_some_iff.mp h).2, ← List.drop_eq_getElem_cons hl, List.take_append_drop]
  rw [List.eraseIdx_eq_take_drop_succ]
  have h2 : (c :: (rs.take j ++ rs.drop (j + 1))).Perm (rs.take j ++ c :: rs.drop (j + 1)) := List.perm_middle.symm
  rw [← e] at h2
  exact h2
theorem sc__law_pick : FnScope ["pen", "some"] ["pen", "some"] (defScope s__law_pick) := ⟨rfl, rfl, rfl, by decide +kernel, rfl, by decide +kernel, by decide +kernel⟩
theorem ok__law_pick_A (C : Tx K mg) : Cal P w K mg base "_law_pick" 2 2 (PurP K (fun l : List Nat => [T l]) (fun l : List Nat => 0 < l.length ∧ l.length < 1000) (fun (l : List Nat) v _ => ∃ c, c ∈ l ∧ v = V.str (S [c]))) := by
  refine C.calP (k := 1) ix__law_pick gl__law_pick (ps := ["pen", "some"]) sc__law_pick (fun _ _ _ _ _ _ us hl => match us, hl with | [_, _], _ => rfl) (fun _ => rfl) (fun cdv B outer s H E z pen vs w0 hr hv hp => ?_)
  have nd := sc__law_pick.nd
  obtain ⟨v1, rfl, e1⟩ := args1 hv
  have e1 : v1 = .str (S (z)) := e1
  subst e1
  obtain ⟨h0, h1⟩ := hp
  refine go_ret (ce_ixTE (F := fun l => l = z) (CE.imp (cv 1) fun v G h => ⟨z, rfl, h⟩) z.length (fun l h => by subst h; exact ⟨rfl, by omega⟩) (ce_callP (R := fun n : Int => DrawR n) (z.length : Int) (ok__law_draw C) hr (cv 0) (ca1 (ce_lenT (C.free fr_len) (cv 1) (by omega))) ⟨by omega, by omega⟩)) fun v w2 l2 ⟨l, c, h1, h2, h3⟩ => ⟨l2, c, h1 ▸ h2, h3⟩
theorem ok__law_pick_L (C : Tx K mg) : Cal P w K mg base "_law_pick" 2 2 (PurP K (fun xs : List (List Nat) => [Da K (txD xs)]) (fun xs : List (List Nat) => 0 < xs.length ∧ xs.length < 1000) (fun (xs : List (List Nat)) v _ => ∃ x, x ∈ xs ∧ v = V.str (S x))) := by
  refine C.calP (k := 1) ix__law_pick gl__law_pick (ps := ["pen", "some"]) sc__law_pick (fun _ _ _ _ _ _ us hl => match us, hl with | [_, _], _ => rfl) (fun _ => rfl) (fun cdv B outer s H E z pen vs w0 hr hv hp => ?_)
  have nd := sc__law_pick.nd
  obtain ⟨v1, rfl, e1⟩ := args1 hv
  have e1 : Dp K w0.G v1 (txD z) := e1
  obtain ⟨h0, h1⟩ := hp
  refine go_ret (ce_ixQE (ds := z.map strD) (CE.cq (ce_var 1 (P := Da K (txD z)) rfl e1)) (by rw [List.length_map]; exact ce_callP (R := fun n : Int => DrawR n) (z.length : Int) (ok__law_draw C) hr (cv 0) (ca1 (CE.castI (ce_lenQ (C.free fr_len) (CE.cq (ce_var 1 (P := Da K (txD z)) rfl e1))) (by rw [List.length_map]))) ⟨by omega, by omega⟩)) fun v w2 l2 ⟨d, h1, h2⟩ => ⟨l2, ?_⟩
  obtain ⟨x, hx, rfl⟩ := List.mem_map.mp h1
  have h2 : Dp K w2.G v (.str (S x)) := h2
  cases h2
  exact ⟨x, hx, rfl⟩
theorem sc__law_shuffled : FnScope ["pen", "some", "left", "found", "lap"] ["pen", "some"] (defScope s__law_shuffled) := ⟨rfl, rfl, rfl, by decide +kernel, rfl, by decide +kernel, by decide +kernel⟩
theorem ok__law_shuffled (C : Tx K mg) : Cal P w K mg base "_law_shuffled" 2 2 (PurP K (fun l : List Nat => [T l]) (fun l : List Nat => l.length < 1000) (fun l : List Nat => SgE K fun l' => l'.Perm l)) := by
  refine C.calP (k := 1) ix__law_shuffled gl__law_shuffled (ps := ["pen", "some"]) sc__law_shuffled (fun _ _ _ _ _ _ us hl => match us, hl with | [_, _], _ => rfl) (fun _ => rfl) (fun cdv B outer s H E z pen vs w0 hr hv hp => ?_)
  have nd := sc__law_shuffled.nd
  obtain ⟨v1, rfl, e1⟩ := args1 hv
  have e1 : v1 = .str (S (z)) := e1
  subst e1
  have hz : z.length < 1000 := hp
  refine go_par2 (i := 2) (j := 3) (R := fun us w' => ∃ pl pf, us = [.ref pl, .ref pf] ∧ w0.H pl = none ∧ w0.H pf = none ∧ pl ≠ pf ∧ Own w' pl (z.map sg) ∧ Own w' pf [])
    (cp_cons (CN.cw (cn_listT (l := z) (C.free fr_list) (cv 1) (by omega) rfl)) fun v w1 l1 ⟨pl, us, ev, nl, ol, dl⟩ => cp_cons (CN.cw (cn_lst (ds := []) ca_nil)) fun v2 w2 l2 ⟨pf, us2, ev2, nf, of, df⟩ => cp_nil fun w4 l4 => ⟨pl, pf, by rw [ev, ev2], nl, l1.new nf, own_ne (w' := w1) ol nf, by
        have e : us = z.map sg := by
          have e2 : (z.map fun c => strD [c]) = (z.map fun c => [c]).map strD := by rw [List.map_map]; rfl
          rw [e2] at dl
          rw [dpa_strs dl, List.map_map, List.map_map]; rfl
        subst e
        exact ol.mono (l2.trans l4), by
        have e : us2 = [] := by cases df; rfl
        subst e
        exact of.mono l4⟩)
    (fun u1 u2 w1 l1 ⟨pl, pf, e, nl, nf, hne, ol, of⟩ => ?_) (fun vs w' ⟨pl, pf, e, _⟩ => ⟨_, _, e⟩) rfl nd
  obtain ⟨rfl, rfl⟩ : u1 = .ref pl ∧ u2 = .ref pf := by simpa using e
  refine go_forR1 (i := 4) (n := (z.length : Int)) (C.free fr_range) (ce_lenT (C.free fr_len) (cv 1) (by omega)) (by omega) (fun k σ' w' => ∃ (fs rs : List Nat) (x : Option Vv), σ' = [some (.ref pen), some (.str (S z)), some (.ref pl), some (.ref pf), x] ∧ (fs ++ rs).Perm z ∧ fs.length = k ∧ Own w' pl (rs.map sg) ∧ Own w' pf (fs.map sg) ∧ Le w0 w') (fun w' l => ⟨[], z, _, rfl, List.Perm.refl _, rfl, ol.mono l, of.mono l, l1.trans l⟩) ?_ ?_ PassesOwn.never rfl nd
  · rintro k σ' w' hk ⟨fs, rs, x, rfl, hperm, hfl, orr, off, l⟩
    have hlen := hperm.length_eq
    rw [List.length_append] at hlen
    have hrl : 0 < rs.length := by omega
    refine go_appendPop 3 2 off orr (Ne.symm hne) (by rw [List.length_map]; exact ce_callP (R := fun n : Int => DrawR n) (rs.length : Int) (ok__law_draw C) hr (cv 0) (ca1 (CE.castI (ce_lenQ (C.free fr_len) (cq_own 2 orr (sg_dpa rs))) (by rw [List.length_map]))) ⟨by omega, by omega⟩) (by rw [List.length_map]; omega) (by rw [List.length_map]; omega) fun j v w2 l2 o2 o1 hj => ?_
    rw [List.getElem?_map] at hj
    obtain ⟨c, hc, rfl⟩ := Option.map_eq_some_iff.mp hj
    have hjl := (List.getElem?_eq_some_iff.mp hc).1
    have e1 : (rs.map sg).eraseIdx j = (rs.eraseIdx j).map sg := by
      rw [List.eraseIdx_eq_take_drop_succ, List.eraseIdx_eq_take_drop_succ, List.map_append, List.map_take, List.map_drop]
    have e2 : fs.map sg ++ [sg c] = (fs ++ [c]).map sg := by rw [List.map_append]; rfl
    refine go_nil ⟨fs ++ [c], rs.eraseIdx j, _, rfl, ?_, by rw [List.length_append, hfl]; rfl, ?_, ?_, ((l.trans l2).put nl o2).put nf o1⟩
    · refine List.Perm.trans ?_ hperm
      rw [List.append_assoc]
      refine List.Perm.append_left fs ?_
      exact erase_perm hc
    · rw [← e1]; exact o1.put_ne o2.put hne
    · rw [← e2]; exact o1.put
  · rintro σ' w' ⟨fs, rs, x, rfl, hperm, hfl, orr, off, l⟩
    rw [Int.toNat_natCast] at hfl
    have hrs : rs = [] := by
      have hlen := hperm.length_eq
      rw [List.length_append] at hlen
      exact List.eq_nil_of_length_eq_zero (by omega)
    subst hrs
    rw [List.append_nil] at hperm
    refine go_retO (cv 3) fun v w2 l2 hv => ?_
    have hv : v = .ref pf := hv
    subst hv
    have o2 := off.mono l2
    exact ⟨w2.ice pf o2, rfl, (l.trans l2).ice nf o2, fs, hperm, ice_da o2 (sg_dpa fs)⟩
def abc : List (List Nat) := [[97, 98, 99], [120, 121, 122], [107, 109, 112]]
theorem let_take {x l : List Nat} (hx : x ∈ abc) (hp : l.Perm x) {k : Nat} (h1 : 1 ≤ k) (h2 : k ≤ 2) : LetOk (l.take k) ∧ (l.take k).length ≤ 2 := by
  have hlen : l.length = 3 := by
    rw [hp.length_eq]
    unfold abc at hx
    simp at hx
    rcases hx with rfl | rfl | rfl <;> rfl
  have hxn : x.Nodup ∧ ∀ c ∈ x, 97 ≤ c ∧ c ≤ 122 := by
    unfold abc at hx
    simp at hx
    rcases hx with rfl | rfl | rfl <;> decide
  have hln : l.Nodup := hp.nodup_iff.mpr hxn.1
  have htl : (l.take k).length = k := by rw [List.length_take]; omega
  refine ⟨⟨by omega, by omega, (List.take_sublist k l).nodup hln, fun c hc => hxn.2 c (hp.mem_iff.mp (List.mem_of_mem_take hc))⟩, by omega⟩
abbrev LetR : List Nat → Prop := fun l => LetOk l ∧ l.length ≤ 2
theorem sc__law_letters : FnScope ["pen", "most"] ["pen", "most"] (defScope s__law_letters) := ⟨rfl, rfl, rfl, by decide +kernel, rfl, by decide +kernel, by decide +kernel⟩
theorem ok__law_letters (C : Tx K mg) : Cal P w K mg base "_law_letters" 2 3 (PurP K (fun _ : Unit => [I 2]) (fun _ : Unit => True) (fun _ : Unit => Exi LetR fun l => T l)) := by
  refine C.calP (k := 2) ix__law_letters gl__law_letters (ps := ["pen", "most"]) sc__law_letters (fun _ _ _ _ _ _ us hl => match us, hl with | [_, _], _ => rfl) (fun _ => rfl) (fun cdv B outer s H E z pen vs w0 hr hv hp => ?_)
  have nd := sc__law_letters.nd
  obtain ⟨v1, rfl, e1⟩ := args1 hv
  have e1 : v1 = .int (2) := e1
  subst e1
  have hr2 : Room 2 _ := hr
  refine go_ret (CE.imp (ce_joinE (F := fun l : List Nat => ∃ (m : List Nat) (k : Nat), (∃ x, x ∈ abc ∧ m.Perm x) ∧ 1 ≤ k ∧ k ≤ 2 ∧ l = m.take k) ?_ (ce_str []) (ce_slE (F := fun m : List Nat => ∃ x, x ∈ abc ∧ m.Perm x) (n := 2) ?_ (CE.imp (ce_callPE (F := fun x : List Nat => x ∈ abc) (R := fun l : List Nat => SgE K fun l' => l'.Perm l) (Ps := [fun v _ => ∃ x, x ∈ abc ∧ v = V.str (S x)]) (ok__law_shuffled C) hr2 (cv 0) (ca_cons (m := ⟨fun _ _ _ _ h => h⟩) (ce_callP (R := fun (xs : List (List Nat)) v _ => ∃ x, x ∈ xs ∧ v = V.str (S x)) abc (ok__law_pick_L C) hr2 (cv 0) (ca1 (CN.ce (cn_lst (ds := abc.map strD) (ca_cons (CE.daT (ce_str [97, 98, 99])) (ca_cons (CE.daT (ce_str [120, 121, 122])) (ca_cons (CE.daT (ce_str [107, 109, 112])) ca_nil)))))) ⟨by decide, by decide⟩) ca_nil) ?_) ?_) (ce_callP (R := fun n : Int => DrawR n) (2 : Int) (ok__law_draw C) hr2 (cv 0) (ca1 (cv 1)) ⟨by decide, by decide⟩))) ?_) fun v w2 l2 hv => ⟨l2, hv⟩
  · rintro l ⟨m, k, ⟨x, hx, hm⟩, h1, h2, rfl⟩
    have := (let_take hx hm h1 h2).2
    omega
  · rintro l ⟨x, hx, hm⟩
    have : l.length = 3 := by
      rw [hm.length_eq]
      unfold abc at hx
      simp at hx
      rcases hx with rfl | rfl | rfl <;> rfl
    omega
  · rintro vs G hv
    obtain ⟨v, rfl, x, hx, rfl⟩ := args1 hv
    refine ⟨x, ⟨rfl, trivial⟩, ?_, hx⟩
    unfold abc at hx
    simp at hx
    rcases hx with rfl | rfl | rfl <;> decide
  · rintro v G ⟨x, hx, l', hl', hd⟩
    exact ⟨l', ⟨x, hx, hl'⟩, hd⟩
  · rintro v G ⟨l, ⟨m, k, ⟨x, hx, hm⟩, h1, h2, rfl⟩, hv⟩
    exact ⟨m.take k, let_take hx hm h1 h2, hv⟩
abbrev WordR (ls : List Nat) (n : Nat) : List Nat → Prop := fun l => isR ls l = true ∧ l.length ≤ n
theorem red_isR {ls l : List Nat} {n : Nat} (h1 : l.length ≤ n) (hn : n ≤ 1000) (h2 : ∀ c ∈ l, c ∈ signs ls) : WordR ls n (red l) := ⟨isR_of (by have := red_len l; omega) (fun c hc => h2 c (red_mem hc)) (red_nb l), by have := red_len l; omega⟩
theorem sc__law_word : FnScope ["pen", "letters", "most", "at"] ["pen", "letters", "most"] (defScope s__law_word) := ⟨rfl, rfl, rfl, by decide +kernel, rfl, by decide +kernel, by decide +kernel⟩
theorem ok__law_word (C : Tx K mg) : Cal P w K mg base "_law_word" 3 3 (PurP K (fun x : List Nat × Nat => [T x.1, I x.2]) (fun x : List Nat × Nat => LetOk x.1 ∧ x.2 ≤ 10) (fun x : List Nat × Nat => Exi (WordR x.1 x.2) fun l => T l)) := by
  refine C.calP (k := 2) ix__law_word gl__law_word (ps := ["pen", "letters", "most"]) sc__law_word (fun _ _ _ _ _ _ us hl => match us, hl with | [_, _, _], _ => rfl) (fun _ => rfl) (fun cdv B outer s H E z pen vs w0 hr hv hp => ?_)
  have nd := sc__law_word.nd
  obtain ⟨ls, n⟩ := z
  try dsimp only at hp
  obtain ⟨v1, v2, rfl, e1, e2⟩ := args2 hv
  have e1 : v1 = .str (S (ls)) := e1
  subst e1
  have e2 : v2 = .int ((n : Int)) := e2
  subst e2
  obtain ⟨hL, hn⟩ := hp
  have hr2 : Room 2 _ := hr
  have h4 := hL.2.1
  have hup : (ls.map upc).length = ls.length := List.length_map _
  refine go_ret (CE.imp (ce_callE (F := fun l => l.length < n + 1 ∧ ∀ c ∈ l, c ∈ signs ls) (R := fun l => T (red l)) (Ps := [Exi (fun l => l.length < n + 1 ∧ ∀ c ∈ l, c ∈ signs ls) fun l => T l]) (ok__law_reduced C) hr2 (ca1 (ce_joinE (fun l h => by have := h.1; omega) (ce_str []) (ce_lcE (F := fun c => c ∈ signs ls) (N := n + 1) (j := 3) (by omega) (C.free fr_range) (CE.imp (ce_callP (R := fun n : Int => DrawR n) ((n : Int) + 1) (ok__law_draw C) hr2 (cv 0) (ca1 (ce_add (cv 2) ce_int)) ⟨by omega, by omega⟩) fun v G ⟨r, h1, h2, h3⟩ => ⟨r, h1, h2, by omega⟩) (fun i w' l' => fun _ _ _ _ _ => ce_callP (R := fun (l : List Nat) v _ => ∃ c, c ∈ l ∧ v = V.str (S [c])) (signs ls) (ok__law_pick_A C) hr2 (cv 0) (ca1 (ce_addT (cv 1) (ce_upper (cv 1) (let_asc hL) (by omega)) (by omega))) ⟨by rw [signs_len]; have := hL.1; omega, by rw [signs_len]; omega⟩) rfl nd (blkOk_by (N := ["pen", "letters", "most", "at"]) (sc := defScope s__law_word) (by decide +kernel)) (fun _ _ _ _ _ => pg_name nd rfl (Or.inl rfl))))) ?_) ?_) fun v w2 l2 hv => ⟨l2, hv⟩
  · rintro vs G hv
    obtain ⟨v, rfl, l, hl, hv⟩ := args1 hv
    exact ⟨l, ⟨hv, trivial⟩, ⟨fun c hc => signs_asc hL c (hl.2 c hc), by have := hl.1; omega⟩, hl⟩
  · rintro v G ⟨l, hl, hv⟩
    exact ⟨red l, red_isR (by have := hl.1; omega) (by omega) hl.2, hv⟩
theorem sc__law_full_word : FnScope ["pen", "letters", "most", "word"] ["pen", "letters", "most"] (defScope s__law_full_word) := ⟨rfl, rfl, rfl, by decide +kernel, rfl, by decide +kernel, by decide +kernel⟩
theorem ok__law_full_word (C : Tx K mg) : Cal P w K mg base "_law_full_word" 3 4 (PurP K (fun x : List Nat × Nat => [T x.1, I x.2]) (fun x : List Nat × Nat => LetOk x.1 ∧ 1 ≤ x.2 ∧ x.2 ≤ 10) (fun x : List Nat × Nat => Exi (fun l => WordR x.1 x.2 l ∧ l ≠ []) fun l => T l)) := by
  refine C.calP (k := 3) ix__law_full_word gl__law_full_word (ps := ["pen", "letters", "most"]) sc__law_full_word (fun _ _ _ _ _ _ us hl => match us, hl with | [_, _, _], _ => rfl) (fun _ => rfl) (fun cdv B outer s H E z pen vs w0 hr hv hp => ?_)
  have nd := sc__law_full_word.nd
  obtain ⟨ls, n⟩ := z
  try dsimp only at hp
  obtain ⟨v1, v2, rfl, e1, e2⟩ := args2 hv
  have e1 : v1 = .str (S (ls)) := e1
  subst e1
  have e2 : v2 = .int ((n : Int)) := e2
  subst e2
  obtain ⟨hL, hn1, hn⟩ := hp
  have h4 := hL.2.1
  refine go_set (i := 3) (ce_callP (R := fun x : List Nat × Nat => Exi (WordR x.1 x.2) fun l => T l) (ls, n) (ok__law_word C) hr (cv 0) (ca_cons (cv 1) (ca1 (cv 2))) ⟨hL, hn⟩) (fun v w1 l1 ⟨l, hl, hv⟩ => ?_) nd
  have hv : v = .str (S l) := hv
  subst hv
  refine go_ret (P := Exi (fun l => WordR ls n l ∧ l ≠ []) fun l => T l) (ce_if (ct_neT (cv 3) (ce_str [])) (fun h => ?_) (fun h => ?_)) fun v w2 l2 hv => ⟨l1.trans l2, hv⟩
  · have h : l ≠ [] := by simpa using h
    exact CE.imp (cv 3) fun v G hv => ⟨l, ⟨hl, h⟩, hv⟩
  · refine CE.imp (ce_callP (R := fun (l : List Nat) v _ => ∃ c, c ∈ l ∧ v = V.str (S [c])) ls (ok__law_pick_A C) hr (cv 0) (ca1 (cv 1)) ⟨by have := hL.1; omega, by omega⟩) ?_
    rintro v G ⟨c, hc, hv⟩
    refine ⟨[c], ⟨⟨isR_of (by simp) (fun d hd => by rw [List.mem_singleton.mp hd]; exact List.mem_append_left _ hc) (nb_one c), by simp; omega⟩, by simp⟩, hv⟩
end
end FW
set_option Elab.async false
set_option linter.all false
set_option maxRecDepth 100000
set_option maxHeartbeats 4000000
namespace FW
open PySem PySem.Spec PyProof.Rows L2 He
section
variable {P : Program} {w : World} {K : PySem.W.Frag} {mg : Str → Option Value} {base : Heap}
theorem go_retW {U : Vol} {X : Cx} {e : Expr} {rest : List Stmt} {σ : Sg} {w : Wd U} {R : Vv → Wd U → Prop} {D : En U} {pos : Pos} (he : CW X e σ w R) (k : ∀ v w', Le w w' → R v w' → D.rt v w') : Go X (.Return (some e) pos :: rest) σ w D :=
  s_of (pss_cons (ps_ret pe_can) pss_can) (he w (Le.refl _) _ fun v w2 l p => ⟨w2, rfl, k v w2 l p⟩)
abbrev insD (ns : List Int) : PyData := .list (List.map PyData.int ns)
theorem sc__law_pen : FnScope ["script", "fold", "cell"] ["script"] (defScope s__law_pen) := ⟨rfl, rfl, rfl, by decide +kernel, rfl, by decide +kernel, by decide +kernel⟩
theorem ok__law_pen (C : Tx K mg) : Cal P w K mg base "_law_pen" 1 1 (PurW (fun ns : List Int => [Da K (insD ns)]) (fun _ => True) (fun _ v w' => ∃ pen, v = .ref pen ∧ PenS K pen w')) := by
  refine C.calW (k := 0) ix__law_pen gl__law_pen (ps := ["script"]) sc__law_pen (fun _ _ _ _ _ _ us hl => match us, hl with | [_], _ => rfl) (fun _ => rfl) (fun cdv B outer s H E ns vs w0 hr hv hp => ?_)
  have nd := sc__law_pen.nd
  obtain ⟨v1, rfl, e1⟩ := args1 hv
  have e1 : Dp K w0.G v1 (insD ns) := e1
  refine go_set (i := 1) ce_int (fun v w1 l1 hv => ?_) nd
  have hv : v = .int 0 := hv
  subst hv
  refine go_forL (i := 2) (ds := List.map PyData.int ns) (ce_var 0 (P := Da K (insD ns)) rfl (dp_ex l1.g e1)) (fun w2 l2 => ⟨fun k σ' w' => ∃ (f : Int) (x : Option Vv), σ' = [some v1, some (.int f), x] ∧ -1000000007 < f ∧ f < 1000000007 ∧ Le w0 w' ∧ Ex w2.G w'.G, ⟨0, _, rfl, by decide, by decide, l1.trans l2, Evl.Ex.refl _⟩, fun k σ' w' ⟨_, _, _, _, _, _, g⟩ => g, ?_, ?_⟩) PassesOwn.never rfl nd
  · rintro k d v σ' w' hk dv ⟨f, x, rfl, hf1, hf2, l, g⟩
    obtain ⟨c, hc, rfl⟩ := enc_get hk
    have dv : Dp K w'.G v (.int c) := dv
    cases dv
    refine go_set (i := 1) (ce_mod (ce_int1 (C.free fr_int) (ce_add (ce_mul (cv 1) ce_int (.inr ⟨by decide, by decide⟩)) (cv 2))) ce_int (by decide)) (fun v w3 l3 hv => ?_) nd
    have hv : v = .int ((f * 47 + c) % 1000000007) := hv
    subst hv
    have h1 := Int.emod_nonneg (f * 47 + c) (b := 1000000007) (by decide)
    have h2 := Int.emod_lt_of_pos (f * 47 + c) (b := 1000000007) (by decide)
    exact go_nil ⟨_, _, rfl, by omega, h2, l.trans l3, g.trans l3.g⟩
  · rintro σ' w' ⟨f, x, rfl, hf1, hf2, l, g⟩
    have e1' := dp_ex l.g e1
    refine go_retW (cw_pen (a := 0) (ns := ns) (ce_str kCells) (ce_str kAt) (ce_str kDigits) (ce_str kCount) (ce_str kFold) (CN.ce (cn_listQ (C.free fr_list) (CE.cq (ce_var 0 (P := Da K (insD ns)) rfl e1')))) ce_int ce_int ce_int (cv 1)) fun v w3 l3 hv => ⟨l.trans l3, hv⟩
end
end FW
set_option Elab.async false
set_option linter.all false
set_option maxRecDepth 100000
set_option maxHeartbeats 4000000
namespace FW
open PySem PySem.Spec PyProof.Rows L2 He
/-! ### words joined and reduced -/
def act (st l : List Nat) : List Nat := l.foldl pushR st
theorem act_app (st a b : List Nat) : act st (a ++ b) = act (act st a) b := List.foldl_append
theorem red_act (l : List Nat) : red l = (act [] l).reverse := rfl
theorem act_nb {st : List Nat} (h : NB st.reverse) : ∀ l : List Nat, NB (act st l).reverse
  | [] => h
  | c :: r => act_nb (st := pushR st c) (push_nb h c) r
theorem push_push {st : List Nat} (h : NB st.reverse) (c : Nat) : pushR (pushR st c) (flip c) = st := by
  cases st with
  | nil =>
    show (if c = flip (flip c) then [] else _) = []
    rw [flip_flip, if_pos rfl]
  | cons t r =>
    by_cases e : t = flip c
    · have e1 : pushR (t :: r) c = r := by
        show (if t = flip c then r else _) = r
        rw [if_pos e]
      rw [e1]
      cases r with
      | nil => rw [e]; rfl
      | cons t2 r2 =>
        have h2 : t2 ≠ flip t := by
          have h' : NB (r2.reverse ++ t2 :: t :: []) := by simpa using h
          exact h'.mid
        show (if t2 = flip (flip c) then r2 else flip c :: t2 :: r2) = _
        rw [if_neg (by rw [← e]; exact h2), e]
    · have e1 : pushR (t :: r) c = c :: t :: r := by
        show (if t = flip c then r else _) = _
        rw [if_neg e]
      rw [e1]
      show (if c = flip (flip c) then t :: r else _) = _
      rw [flip_flip, if_pos rfl]
theorem act_red {st : List Nat} (h : NB st.reverse) (l : List Nat) : act st (red l) = act st l := by
  have key : ∀ (n : Nat) (l : List Nat), l.length = n → act st (act [] l).reverse = act st l := by
    intro n
    induction n with
    | zero => intro l hl; rw [List.eq_nil_of_length_eq_zero hl]; rfl
    | succ n ih =>
      intro l hl
      have hne : l ≠ [] := fun e => by rw [e] at hl; cases hl
      obtain ⟨l', c, rfl⟩ : ∃ l' c, l = l' ++ [c] := ⟨l.dropLast, l.getLast hne, (List.dropLast_concat_getLast hne).symm⟩
      have hl' : l'.length = n := by rw [List.length_append] at hl; simpa using hl
      have ih' := ih l' hl'
      rw [act_app, act_app]
      show act st (pushR (act [] l') c).reverse = pushR (act st l') c
      rw [← ih']
      cases hs : act [] l' with
      | nil => rfl
      | cons t r =>
        by_cases e : t = flip c
        · have e1 : pushR (t :: r) c = r := by
            show (if t = flip c then r else _) = r
            rw [if_pos e]
          rw [e1, List.reverse_cons, act_app]
          show _ = pushR (pushR (act st r.reverse) t) c
          have e2 : c = flip t := by rw [e, flip_flip]
          rw [e2, push_push (act_nb h _)]
        · have e1 : pushR (t :: r) c = c :: t :: r := by
            show (if t = flip c then r else _) = _
            rw [if_neg e]
          rw [e1, List.reverse_cons, act_app]
          rfl
  exact key _ l rfl
theorem red_left (a b : List Nat) : red (red a ++ b) = red (a ++ b) := by
  show (act [] (red a ++ b)).reverse = (act [] (a ++ b)).reverse
  rw [act_app, act_app, act_red (by simpa using NB.nil)]
theorem red_right (a b : List Nat) : red (a ++ red b) = red (a ++ b) := by
  show (act [] (a ++ red b)).reverse = (act [] (a ++ b)).reverse
  rw [act_app, act_app, act_red (act_nb (by simpa using NB.nil) a)]
theorem act_undo {st : List Nat} (h : NB st.reverse) : ∀ a : List Nat, act st (a ++ undo a) = st
  | [] => rfl
  | c :: r => by
    have e : (c :: r) ++ undo (c :: r) = [c] ++ ((r ++ undo r) ++ [flip c]) := by
      unfold undo
      simp
    rw [e, act_app, act_app]
    show act (act (pushR st c) (r ++ undo r)) [flip c] = st
    rw [act_undo (push_nb h c) r]
    exact push_push h c
theorem undo_undo (a : List Nat) : undo (undo a) = a := by
  unfold undo
  rw [← List.map_reverse, List.reverse_reverse, List.map_map]
  have : (flip ∘ flip) = id := funext flip_flip
  rw [this, List.map_id]
/-- x⁻¹ x in the middle goes -/
theorem red_mid (a b c : List Nat) : red (a ++ undo b ++ (b ++ c)) = red (a ++ c) := by
  rw [red_act, red_act]
  have e : a ++ undo b ++ (b ++ c) = a ++ ((undo b ++ undo (undo b)) ++ c) := by rw [undo_undo]; simp
  rw [e, act_app, act_app, act_undo (act_nb (by simpa using NB.nil) a), act_app]
theorem red_mid2 (a b c : List Nat) : red (a ++ b ++ (undo b ++ c)) = red (a ++ c) := by
  have := red_mid a (undo b) c
  rwa [undo_undo] at this
/-! ### powers -/
def pw (w : List Nat) : Nat → List Nat
  | 0 => []
  | n + 1 => red (pw w n ++ w)
theorem rep_zero (x : List Nat) : rep x 0 = [] := rfl
theorem rep_succ (x : List Nat) (n : Nat) : rep x (n + 1) = rep x n ++ x := by
  unfold rep
  rw [List.replicate_succ', List.flatten_append]
  simp
theorem rep_succ' (x : List Nat) (n : Nat) : rep x (n + 1) = x ++ rep x n := by
  unfold rep
  rw [List.replicate_succ, List.flatten_cons]
theorem pw_red (y : List Nat) : ∀ n, pw (red y) n = red (rep y n)
  | 0 => rfl
  | n + 1 => by
    show red (pw (red y) n ++ red y) = _
    rw [pw_red y n, red_left, red_right, rep_succ]
theorem pw_conj (A C : List Nat) : ∀ n, pw (red (A ++ C ++ undo A)) n = red (A ++ rep C n ++ undo A)
  | 0 => by
    show [] = red (A ++ [] ++ undo A)
    rw [List.append_nil, red_act, act_undo (by simpa using NB.nil)]; rfl
  | n + 1 => by
    show red (pw _ n ++ red (A ++ C ++ undo A)) = _
    rw [pw_conj A C n, red_left, red_right, rep_succ]
    have e : A ++ rep C n ++ undo A ++ (A ++ C ++ undo A) = (A ++ rep C n) ++ undo A ++ (A ++ (C ++ undo A)) := by simp
    rw [e, red_mid]
    simp
/-- a word by its round word -/
theorem rgo_pre (l : List Nat) : ∀ f m, 2 * m ≤ l.length → (∀ i, i < m → l.getD i 0 = flip (l.getD (l.length - 1 - i) 0)) → ∀ i, i < rgo l f m → l.getD i 0 = flip (l.getD (l.length - 1 - i) 0)
  | 0, m, _, h, i, hi => h i hi
  | f + 1, m, hm, h, i, hi => by
    unfold rgo at hi
    split at hi
    · rename_i hc
      refine rgo_pre l f (m + 1) (by omega) (fun j hj => ?_) i hi
      rcases Nat.lt_or_ge j m with q | q
      · exact h j q
      · have : j = m := by omega
        subst this
        exact hc.2
    · exact h i hi
theorem round_eq (l : List Nat) : l = rA l ++ rC l ++ undo (rA l) := by
  have hk := rK_le l
  have hp := rgo_pre l l.length 0 (by omega) (fun i hi => absurd hi (Nat.not_lt_zero _))
  have e3 : undo (rA l) = l.drop (l.length - rK l) := by
    apply List.ext_getElem?
    intro i
    unfold undo
    rw [List.getElem?_map, List.getElem?_drop]
    by_cases hi : i < rK l
    · have hl : (rA l).length = rK l := rA_len l
      rw [List.getElem?_reverse (by omega), hl]
      have h1 : (rA l)[rK l - 1 - i]? = some (l.getD (rK l - 1 - i) 0) := by
        unfold rA
        rw [List.getElem?_take, if_pos (by omega)]
        exact getD_some (by omega)
      rw [h1, hp (rK l - 1 - i) (by show _ < rK l; omega)]
      show some (flip (flip _)) = _
      rw [flip_flip]
      have e : l.length - 1 - (rK l - 1 - i) = l.length - rK l + i := by omega
      rw [e]
      exact (getD_some (by omega)).symm
    · rw [List.getElem?_eq_none (by rw [List.length_reverse, rA_len]; omega), List.getElem?_eq_none (by omega)]; rfl
  rw [e3]
  unfold rA rC
  have e4 : l.take (rK l) ++ (l.drop (rK l)).take (l.length - 2 * rK l) = l.take (l.length - rK l) := by
    have e5 : l.length - rK l = rK l + (l.length - 2 * rK l) := by omega
    rw [e5, List.take_add]
  rw [e4, List.take_append_drop]
end FW
set_option Elab.async false
set_option linter.all false
set_option maxRecDepth 100000
set_option maxHeartbeats 4000000
namespace FW
open PySem PySem.Spec PyProof.Rows L2 He
/-! ### round words, told by their parts -/
theorem NB.glue {X Y : List Nat} (h : NB (X ++ Y)) : ∀ a b, X.getLast? = some a → Y.head? = some b → a ≠ flip b := fun a b ha hb => by
  obtain ⟨X', rfl⟩ := List.getLast?_eq_some_iff.mp ha
  obtain ⟨Y', rfl⟩ := List.head?_eq_some_iff.mp hb
  have h' : NB (X' ++ a :: b :: Y') := by simpa using h
  exact h'.mid
theorem last_app {X C : List Nat} (h : C ≠ []) : (X ++ C).getLast? = C.getLast? := by
  rw [List.getLast?_append]
  cases e : C.getLast? with
  | none => exact absurd (List.getLast?_eq_none_iff.mp e) h
  | some c => rfl
theorem rgo_stop (l : List Nat) : ∀ f m, l.length ≤ f + m → ¬ (l.length - 2 * rgo l f m > 1 ∧ l.getD (rgo l f m) 0 = flip (l.getD (l.length - 1 - rgo l f m) 0))
  | 0, m, h, q => by
    have := q.1
    unfold rgo at this
    omega
  | f + 1, m, h, q => by
    unfold rgo at q
    split at q
    · exact rgo_stop l f (m + 1) (by omega) q
    · rename_i h2
      exact h2 q
theorem rC_get {l : List Nat} {i : Nat} (h : i < l.length - 2 * rK l) : (rC l)[i]? = some (l.getD (rK l + i) 0) := by
  unfold rC
  rw [List.getElem?_take, if_pos h, List.getElem?_drop]
  exact getD_some (by omega)
theorem rC_nb {l : List Nat} (hn : NB l) : NB (rC l) := (hn.drop _).take _
theorem rC_cyc {l : List Nat} (hn : NB l) (hf : ∀ c ∈ l, c ≠ flip c) : NB (rC l ++ rC l) := by
  refine (rC_nb hn).join (rC_nb hn) fun a b ha hb => ?_
  have hl := rC_len2 l
  have hk := rK_le l
  rw [List.getLast?_eq_getElem?, hl] at ha
  rw [List.head?_eq_getElem?] at hb
  have hpos : 0 < l.length - 2 * rK l := by
    rcases Nat.eq_zero_or_pos (l.length - 2 * rK l) with e | e
    · rw [List.getElem?_eq_none (by omega)] at hb; cases hb
    · exact e
  rw [rC_get (by omega)] at ha hb
  have ha := Option.some.inj ha
  have hb := Option.some.inj hb
  rcases Nat.lt_or_ge 1 (l.length - 2 * rK l) with q | q
  · have hs := rgo_stop l l.length 0 (by omega)
    have h2 : ¬ l.getD (rK l) 0 = flip (l.getD (l.length - 1 - rK l) 0) := fun e => hs ⟨q, e⟩
    have e : rK l + (l.length - 2 * rK l - 1) = l.length - 1 - rK l := by omega
    rw [e] at ha
    rw [Nat.add_zero] at hb
    rw [ha, hb] at h2
    exact (flip_ne _ _).mp h2
  · have e : l.length - 2 * rK l - 1 = 0 := by omega
    rw [e] at ha
    rw [← ha, ← hb]
    refine hf _ ?_
    exact List.mem_of_getElem? (getD_some (z := 0) (by omega))
theorem rgo_to (l : List Nat) (K : Nat) (h1 : 2 * K ≤ l.length) (h2 : ∀ i, i < K → l.length - 2 * i > 1 ∧ l.getD i 0 = flip (l.getD (l.length - 1 - i) 0)) (h3 : ¬ (l.length - 2 * K > 1 ∧ l.getD K 0 = flip (l.getD (l.length - 1 - K) 0))) : ∀ f m, m ≤ K → K ≤ f + m → rgo l f m = K
  | 0, m, a, b => by unfold rgo; omega
  | f + 1, m, a, b => by
    unfold rgo
    split
    · rename_i q
      have : m ≠ K := fun e => h3 (e ▸ q)
      exact rgo_to l K h1 h2 h3 f (m + 1) (by omega) (by omega)
    · rename_i q
      rcases Nat.lt_or_ge m K with r | r
      · exact absurd (h2 m r) q
      · omega
theorem rK_of {A D : List Nat} (hD : NB (D ++ D)) (hne : D ≠ []) : rK (A ++ D ++ undo A) = A.length := by
  have hdl : 0 < D.length := List.length_pos_iff.mpr hne
  have hlen : (A ++ D ++ undo A).length = 2 * A.length + D.length := by
    rw [List.length_append, List.length_append, undo_len]; omega
  refine rgo_to _ A.length (by omega) (fun i hi => ⟨by omega, ?_⟩) ?_ _ 0 (by omega) (by omega)
  · rw [List.getD_eq_getElem?_getD, List.getD_eq_getElem?_getD, hlen, List.append_assoc, List.getElem?_append_left hi, List.getElem?_append_right (by omega), List.getElem?_append_right (by omega)]
    unfold undo
    rw [List.getElem?_map, List.getElem?_reverse (by omega)]
    have e : A.length - 1 - (2 * A.length + D.length - 1 - i - A.length - D.length) = i := by omega
    rw [e, List.getElem?_eq_getElem hi]
    show A[i] = flip (flip A[i])
    rw [flip_flip]
  · rintro ⟨h, e⟩
    have g : ∀ j, j < D.length → (A ++ D ++ undo A).getD (A.length + j) 0 = D.getD j 0 := fun j hj => by
      rw [List.getD_eq_getElem?_getD, List.append_assoc, List.getElem?_append_right (by omega), List.getElem?_append_left (by omega), Nat.add_sub_cancel_left, List.getD_eq_getElem?_getD]
    have e1 := g 0 hdl
    have e2 := g (D.length - 1) (by omega)
    have e3 : (A ++ D ++ undo A).length - 1 - A.length = A.length + (D.length - 1) := by omega
    rw [e3, e2, ← Nat.add_zero A.length, e1, List.getD_eq_getElem?_getD, List.getD_eq_getElem?_getD, List.getElem?_eq_getElem hdl, List.getElem?_eq_getElem (by omega)] at e
    refine hD.glue D[D.length - 1] D[0] ?_ ?_ ?_
    · rw [List.getLast?_eq_getElem?]; exact List.getElem?_eq_getElem (by omega)
    · rw [List.head?_eq_getElem?]; exact List.getElem?_eq_getElem hdl
    · have e : D[0] = flip D[D.length - 1] := e
      rw [e, flip_flip]
theorem rA_of {A D : List Nat} (hD : NB (D ++ D)) (hne : D ≠ []) : rA (A ++ D ++ undo A) = A := by
  unfold rA
  rw [rK_of hD hne, List.append_assoc, List.take_left' rfl]
theorem rC_of {A D : List Nat} (hD : NB (D ++ D)) (hne : D ≠ []) : rC (A ++ D ++ undo A) = D := by
  unfold rC
  rw [rK_of hD hne, List.append_assoc, List.drop_left' rfl, List.take_left']
  rw [List.length_append, List.length_append, undo_len]
  omega
/-! ### powers, told by their round words -/
theorem rep_one (x : List Nat) : rep x 1 = x := by rw [rep_succ, rep_zero]; rfl
theorem rep_ne {C : List Nat} (h : C ≠ []) {n : Nat} (hn : 1 ≤ n) : rep C n ≠ [] := by
  intro e
  have := rep_len C n
  rw [e] at this
  have h2 := List.length_pos_iff.mpr h
  have : 0 < n * C.length := Nat.mul_pos hn h2
  simp at *
  omega
theorem nb_rep_l {A C : List Nat} (h1 : NB (A ++ C)) (h2 : NB (C ++ C)) (hne : C ≠ []) : ∀ n, NB (A ++ rep C (n + 1))
  | 0 => by rw [rep_one]; exact h1
  | n + 1 => by
    rw [rep_succ, ← List.append_assoc]
    refine (nb_rep_l h1 h2 hne n).join h1.right fun a b ha hb => ?_
    rw [rep_succ, ← List.append_assoc, last_app hne] at ha
    exact h2.glue a b ha hb
theorem nb_rep {A C B : List Nat} (h1 : NB (A ++ C ++ B)) (h2 : NB (C ++ C)) (hne : C ≠ []) (n : Nat) : NB (A ++ rep C (n + 1) ++ B) := by
  refine (nb_rep_l h1.left h2 hne n).join h1.right fun a b ha hb => ?_
  rw [rep_succ, ← List.append_assoc, last_app hne] at ha
  exact h1.glue a b (by rw [last_app hne]; exact ha) hb
theorem rep_add (x : List Nat) (a b : Nat) : rep x (a + b) = rep x a ++ rep x b := by
  induction b with
  | zero => rw [rep_zero, Nat.add_zero, List.append_nil]
  | succ b ih => rw [← Nat.add_assoc, rep_succ, ih, rep_succ, List.append_assoc]
theorem nb_rep2 {C : List Nat} (h2 : NB (C ++ C)) (hne : C ≠ []) (n : Nat) : NB (rep C (n + 1) ++ rep C (n + 1)) := by
  rw [← rep_add]
  have := nb_rep_l (A := []) h2.left h2 hne (n + 1 + n)
  have e : n + 1 + n + 1 = n + 1 + (n + 1) := by omega
  rw [e] at this
  exact this
section
variable {w : List Nat} (hn : NB w) (hf : ∀ c ∈ w, c ≠ flip c) (hne : w ≠ [])
include hn hf hne
theorem pw_eq (n : Nat) : pw w (n + 1) = rA w ++ rep (rC w) (n + 1) ++ undo (rA w) := by
  have e := round_eq w
  have e2 := pw_conj (rA w) (rC w) (n + 1)
  rw [← e, nb_red hn] at e2
  rw [e2]
  exact nb_red (nb_rep (e ▸ hn) (rC_cyc hn hf) (rC_ne hn hne) n)
theorem rC_pw (n : Nat) : rC (pw w (n + 1)) = rep (rC w) (n + 1) := by
  rw [pw_eq hn hf hne]
  exact rC_of (nb_rep2 (rC_cyc hn hf) (rC_ne hn hne) n) (rep_ne (rC_ne hn hne) (by omega))
theorem rA_pw (n : Nat) : rA (pw w (n + 1)) = rA w := by
  rw [pw_eq hn hf hne]
  exact rA_of (nb_rep2 (rC_cyc hn hf) (rC_ne hn hne) n) (rep_ne (rC_ne hn hne) (by omega))
end
theorem pw_nb (w : List Nat) : ∀ n, NB (pw w n)
  | 0 => NB.nil
  | _ + 1 => red_nb _
end FW
set_option Elab.async false
set_option linter.all false
set_option maxRecDepth 100000
set_option maxHeartbeats 4000000
namespace FW
open PySem PySem.Spec PyProof.Rows L2 He
/-! ### the least turn of a word many times -/
theorem ltl_irr (a : List Nat) : ¬ a < a := List.lt_irrefl a
theorem ltl_tri {a b : List Nat} (h1 : ¬ a < b) (h2 : ¬ b < a) : a = b := List.le_antisymm (List.not_lt.mp h2) (List.not_lt.mp h1)
theorem ltl_nle {a b c : List Nat} (h1 : ¬ b < a) (h2 : ¬ c < b) : ¬ c < a := List.not_lt.mpr (List.le_trans (List.not_lt.mp h1) (List.not_lt.mp h2))
theorem ltl_asym {a b : List Nat} (h : a < b) : ¬ b < a := List.lt_asymm h
theorem minT_mem2 : ∀ (xs : List (List Nat)) (x : List Nat), minT x xs ∈ x :: xs
  | [], x => List.mem_cons_self
  | y :: r, x => by
    have ih := minT_mem2 r (if decide (y < x) then y else x)
    show minT (if decide (y < x) then y else x) r ∈ _
    rcases List.mem_cons.mp ih with e | e
    · rw [e]
      split
      · exact List.mem_cons_of_mem _ List.mem_cons_self
      · exact List.mem_cons_self
    · exact List.mem_cons_of_mem _ (List.mem_cons_of_mem _ e)
theorem minT_le : ∀ (xs : List (List Nat)) (x : List Nat), ∀ y ∈ x :: xs, ¬ y < minT x xs
  | [], x => fun y hy => by
    rcases List.mem_cons.mp hy with e | e
    · rw [e]; exact ltl_irr _
    · cases e
  | z :: r, x => fun y hy => by
    have ih := minT_le r (if decide (z < x) then z else x)
    show ¬ y < minT (if decide (z < x) then z else x) r
    have h0 := ih _ List.mem_cons_self
    rcases List.mem_cons.mp hy with e | hy
    · subst e
      refine ltl_nle h0 ?_
      split
      · rename_i q
        exact ltl_asym (of_decide_eq_true q)
      · exact ltl_irr _
    · rcases List.mem_cons.mp hy with e | hy
      · subst e
        refine ltl_nle h0 ?_
        split
        · exact ltl_irr _
        · rename_i q
          exact fun z => q (decide_eq_true z)
      · exact ih y (List.mem_cons_of_mem _ hy)
theorem minL_mem {xs : List (List Nat)} (h : xs ≠ []) : minL xs ∈ xs := by
  cases xs with
  | nil => exact absurd rfl h
  | cons x r => exact minT_mem2 r x
theorem minL_le {xs : List (List Nat)} {y : List Nat} (h : y ∈ xs) : ¬ y < minL xs := by
  cases xs with
  | nil => cases h
  | cons x r => exact minT_le r x y h
theorem minL_uniq {xs : List (List Nat)} {m : List Nat} (h : m ∈ xs) (h2 : ∀ y ∈ xs, ¬ y < m) : minL xs = m :=
  ltl_tri (h2 _ (minL_mem (fun e => by rw [e] at h; cases h))) (minL_le h) |> fun e => e
theorem lt_pre : ∀ {a b : List Nat} (x y : List Nat), a.length = b.length → a < b → a ++ x < b ++ y
  | [], [], x, y, _, h => absurd h (ltl_irr _)
  | p :: a, q :: b, x, y, hl, h => by
    rcases List.cons_lt_cons_iff.mp h with e | ⟨e, e2⟩
    · exact List.cons_lt_cons_iff.mpr (.inl e)
    · exact List.cons_lt_cons_iff.mpr (.inr ⟨e, lt_pre x y (by simpa using hl) e2⟩)
theorem rep_nlt {a b : List Nat} (hl : a.length = b.length) (h : ¬ a < b) (n : Nat) : ¬ rep a n < rep b n := by
  cases n with
  | zero => exact ltl_irr _
  | succ n =>
    by_cases q : b < a
    · rw [rep_succ', rep_succ']
      exact ltl_asym (lt_pre _ _ hl.symm q)
    · rw [ltl_tri h q]; exact ltl_irr _
theorem rep_turn (u v : List Nat) : ∀ n, v ++ rep (u ++ v) n ++ u = rep (v ++ u) (n + 1)
  | 0 => by rw [rep_zero, rep_one, List.append_nil]
  | n + 1 => by rw [rep_succ' (u ++ v), rep_succ' (v ++ u) (n + 1), ← rep_turn u v n]; simp
theorem turn_rep {c : List Nat} {k : Nat} (hk : k ≤ c.length) (n : Nat) : (rep c (n + 1)).drop k ++ (rep c (n + 1)).take k = rep (c.drop k ++ c.take k) (n + 1) := by
  rw [← rep_turn, List.take_append_drop, rep_succ', List.drop_append_of_le_length hk, List.take_append_of_le_length hk]
theorem turn_mod {c : List Nat} (n : Nat) : ∀ (q k : Nat), k ≤ c.length → q * c.length + k ≤ (n + 1) * c.length → (rep c (n + 1)).drop (q * c.length + k) ++ (rep c (n + 1)).take (q * c.length + k) = (rep c (n + 1)).drop k ++ (rep c (n + 1)).take k := by
  intro q k hk h
  rcases Nat.lt_or_ge n q with hq | hq
  · have h1 : (n + 1) * c.length ≤ q * c.length := Nat.mul_le_mul_right _ hq
    have h2 : k = 0 := by omega
    have h3 : q * c.length = (n + 1) * c.length := by omega
    rw [h2, h3, Nat.add_zero, ← rep_len, List.drop_length, List.take_length, List.drop_zero, List.take_zero]; simp
  · obtain ⟨d, rfl⟩ : ∃ d, n = q + d := ⟨n - q, by omega⟩
    have e1 : rep c (q + d + 1) = rep c q ++ rep c (d + 1) := by rw [← rep_add]; congr 1
    have e2 : (rep c (q + d + 1)).drop (q * c.length + k) = (rep c (d + 1)).drop k := by
      rw [e1, ← rep_len, List.drop_append]; simp
    have e3 : (rep c (q + d + 1)).take (q * c.length + k) = rep c q ++ (rep c (d + 1)).take k := by
      rw [e1, ← rep_len, List.take_append, List.take_of_length_le (by omega)]; simp
    have e4 : rep c (q + d + 1) = rep c (d + 1) ++ rep c q := by rw [← rep_add]; congr 1; omega
    have e5 : k ≤ (rep c (d + 1)).length := by rw [rep_len, Nat.succ_mul]; omega
    rw [e2, e3, e4, List.drop_append_of_le_length e5, List.take_append_of_le_length e5]
    simp
theorem mem_rots {c y : List Nat} : y ∈ rots c ↔ ∃ k, k < max 1 c.length ∧ c.drop k ++ c.take k = y := by
  unfold rots
  rw [List.mem_map]
  exact ⟨fun ⟨k, h, e⟩ => ⟨k, List.mem_range.mp h, e⟩, fun ⟨k, h, e⟩ => ⟨k, List.mem_range.mpr h, e⟩⟩
theorem minL_rep (c : List Nat) (hc : c ≠ []) (n : Nat) : minL (rots (rep c (n + 1))) = rep (minL (rots c)) (n + 1) := by
  have hl : 0 < c.length := List.length_pos_iff.mpr hc
  have hl2 := rep_len c (n + 1)
  have hl3 : c.length ≤ (n + 1) * c.length := by rw [Nat.succ_mul]; omega
  obtain ⟨x, xs, hx⟩ := rots_ne c
  obtain ⟨k, hk, ek⟩ := mem_rots.mp (minL_mem (xs := rots c) (by rw [hx]; intro z; cases z))
  refine minL_uniq (mem_rots.mpr ⟨k, by omega, ?_⟩) fun y hy => ?_
  · rw [turn_rep (by omega), ek]
  · obtain ⟨j, hj, rfl⟩ := mem_rots.mp hy
    have hj2 : j = j / c.length * c.length + j % c.length := by rw [Nat.mul_comm]; exact (Nat.div_add_mod _ _).symm
    have hm := Nat.mod_lt j hl
    rw [hj2, turn_mod n _ _ (by omega) (by rw [← hj2]; omega), turn_rep (by omega)]
    refine rep_nlt ?_ (minL_le (mem_rots.mpr ⟨j % c.length, by omega, rfl⟩)) _
    rw [← ek]
    simp only [List.length_append, List.length_drop, List.length_take]
    omega
end FW
set_option Elab.async false
set_option linter.all false
set_option maxRecDepth 100000
set_option maxHeartbeats 4000000
namespace FW
open PySem PySem.Spec PyProof.Rows L2 He
/-! ### rings of powers; led to each other is the same ring -/
theorem ring_nil : ring [] = [] := rfl
theorem pw_nil : ∀ n, pw [] n = []
  | 0 => rfl
  | n + 1 => by show red (pw [] n ++ []) = []; rw [pw_nil n]; rfl
theorem rep_nil : ∀ n, rep [] n = []
  | 0 => rfl
  | n + 1 => by rw [rep_succ, rep_nil n]; rfl
theorem ring_pw {w : List Nat} (hn : NB w) (hf : ∀ c ∈ w, c ≠ flip c) (n : Nat) : ring (pw w (n + 1)) = rep (ring w) (n + 1) := by
  by_cases h : w = []
  · subst h; rw [pw_nil, ring_nil, rep_nil]
  · unfold ring
    rw [rC_pw hn hf h]
    exact minL_rep _ (rC_ne hn h) n
theorem mem_rots2 {c y : List Nat} : y ∈ rots c ↔ ∃ u v, c = u ++ v ∧ y = v ++ u := by
  constructor
  · intro h
    obtain ⟨k, _, e⟩ := mem_rots.mp h
    exact ⟨c.take k, c.drop k, (List.take_append_drop _ _).symm, e.symm⟩
  · rintro ⟨u, v, rfl, rfl⟩
    by_cases h : v = []
    · subst h
      exact mem_rots.mpr ⟨0, by omega, by simp⟩
    · have := List.length_pos_iff.mpr h
      exact mem_rots.mpr ⟨u.length, by rw [List.length_append]; omega, by rw [List.drop_left' rfl, List.take_left' rfl]⟩
theorem rots_symm {c y : List Nat} (h : y ∈ rots c) : c ∈ rots y := by
  obtain ⟨u, v, e1, e2⟩ := mem_rots2.mp h
  exact mem_rots2.mpr ⟨v, u, e2, e1⟩
theorem rots_trans {c y z : List Nat} (h : y ∈ rots c) (h2 : z ∈ rots y) : z ∈ rots c := by
  obtain ⟨u, v, rfl, rfl⟩ := mem_rots2.mp h
  obtain ⟨s, t, e, rfl⟩ := mem_rots2.mp h2
  rcases List.append_eq_append_iff.mp e with ⟨a, e1, e2⟩ | ⟨a, e1, e2⟩
  · subst e1; subst e2
    exact mem_rots2.mpr ⟨a, t ++ v, by simp, by simp⟩
  · subst e1; subst e2
    exact mem_rots2.mpr ⟨u ++ s, a, by simp, by simp⟩
theorem rots_len {c y : List Nat} (h : y ∈ rots c) : y.length = c.length := by
  obtain ⟨u, v, rfl, rfl⟩ := mem_rots2.mp h
  rw [List.length_append, List.length_append]; omega
theorem ne_rots (c : List Nat) : rots c ≠ [] := by
  obtain ⟨x, xs, h⟩ := rots_ne c
  rw [h]; intro z; cases z
theorem minL_rots {c y : List Nat} (h : y ∈ rots c) : minL (rots y) = minL (rots c) :=
  minL_uniq (rots_trans (rots_symm h) (minL_mem (ne_rots c))) fun z hz => minL_le (rots_trans h hz)
theorem ring_rot (l : List Nat) : ring l ∈ rots (rC l) := minL_mem (ne_rots _)
theorem ring_len2 (l : List Nat) : (ring l).length = (rC l).length := rots_len (ring_rot l)
theorem ring_eq (l m : List Nat) : ring l = ring m ↔ rC m ∈ rots (rC l) := by
  constructor
  · intro h
    have h1 := ring_rot l
    rw [h] at h1
    exact rots_trans h1 (rots_symm (ring_rot m))
  · intro h
    exact (minL_rots h).symm
theorem begun_some (c d : List Nat) : (begun c d).isSome = decide (d ∈ rots c) := by
  unfold begun
  by_cases h : c.length ≠ d.length
  · rw [if_pos h, decide_eq_false (fun q => h (rots_len q).symm)]; rfl
  · rw [if_neg h]
    rw [Bool.eq_iff_iff, List.find?_isSome, decide_eq_true_iff, mem_rots]
    constructor
    · rintro ⟨k, hk, e⟩; exact ⟨k, List.mem_range.mp hk, of_decide_eq_true e⟩
    · rintro ⟨k, hk, e⟩; exact ⟨k, List.mem_range.mpr hk, decide_eq_true e⟩
theorem ledB_eq (l m : List Nat) : ledB l m = decide (ring l = ring m) := by
  unfold ledB
  rw [begun_some]
  exact decide_eq_decide.mpr (ring_eq l m).symm
end FW
set_option Elab.async false
set_option linter.all false
set_option maxRecDepth 100000
set_option maxHeartbeats 4000000
namespace FW
open PySem PySem.Spec PyProof.Rows L2 He
/-! ### leading a word many times -/
theorem flat_rep (f : Nat → List Nat) (x : List Nat) : ∀ n, (rep x n).flatMap f = rep (x.flatMap f) n
  | 0 => rfl
  | n + 1 => by rw [rep_succ, rep_succ, List.flatMap_append, flat_rep f x n]
theorem mp_rep (ls : List Nat) (ws : List (List Nat)) (x : List Nat) (n : Nat) : mp ls ws (rep x n) = pw (mp ls ws x) n := by
  unfold mp
  rw [flat_rep, pw_red]
theorem sig_flip {ls : List Nat} (hL : LetOk ls) {c : Nat} (h : c ∈ signs ls) : c ≠ flip c := by
  unfold signs at h
  have := hL.2.2.2
  rcases List.mem_append.mp h with q | q
  · have := this c q
    unfold flip
    repeat' split
    all_goals omega
  · obtain ⟨d, hd, rfl⟩ := List.mem_map.mp q
    have := this d hd
    unfold upc flip
    repeat' split
    all_goals omega
end FW
set_option Elab.async false
set_option linter.all false
set_option maxRecDepth 100000
set_option maxHeartbeats 4000000
namespace FW
open PySem PySem.Spec PyProof.Rows L2 He
theorem mp_mem {ls : List Nat} (hL : LetOk ls) {m : List Nat × List Nat} (hm : m ∈ mvs ls) {l : List Nat} (hl : ∀ c ∈ l, c ∈ signs ls) : ∀ c ∈ mp ls (mapW ls m) l, c ∈ signs ls := fun c hc => by
  obtain ⟨d, hd, hcd⟩ := List.mem_flatMap.mp (red_mem hc)
  exact img_mem hL (mvs_img hL hm) (hl d hd) hcd
theorem led_rep {ls : List Nat} (hL : LetOk ls) {m : List Nat × List Nat} (hm : m ∈ mvs ls) {x : List Nat} (hx : ∀ c ∈ x, c ∈ signs ls) (n : Nat) : led ls m (rep x (n + 1)) = rep (led ls m x) (n + 1) := by
  unfold led
  rw [mp_rep]
  exact ring_pw (red_nb _) (fun c hc => sig_flip hL (mp_mem hL hm hx c hc)) n
theorem lt_mul_iff {a b n : Nat} : (n + 1) * a < (n + 1) * b ↔ a < b := ⟨fun h => Nat.lt_of_mul_lt_mul_left h, fun h => Nat.mul_lt_mul_of_pos_left h (Nat.succ_pos n)⟩
theorem find_congr {α : Type} {p q : α → Bool} : ∀ {l : List α}, (∀ x ∈ l, p x = q x) → l.find? p = l.find? q
  | [], _ => rfl
  | a :: r, h => by
    rw [List.find?_cons, List.find?_cons, h a List.mem_cons_self, find_congr fun x hx => h x (List.mem_cons_of_mem _ hx)]
theorem short_rep {ls : List Nat} (hL : LetOk ls) {x : List Nat} (hx : ∀ c ∈ x, c ∈ signs ls) (n : Nat) : shortF ls (mvs ls) (rep x (n + 1)) = shortF ls (mvs ls) x := by
  unfold shortF
  refine find_congr fun m hm => decide_eq_decide.mpr ?_
  rw [led_rep hL hm hx, rep_len, rep_len]
  exact lt_mul_iff
theorem steps_rep {ls : List Nat} (hL : LetOk ls) (n : Nat) : ∀ (k : Nat) (x : List Nat), x.length ≤ k → (∀ c ∈ x, c ∈ signs ls) → steps ls (rep x (n + 1)) = (steps ls x).map fun p => (p.1, rep p.2 (n + 1)) := by
  intro k
  induction k with
  | zero =>
    intro x hk hx
    rw [List.eq_nil_of_length_eq_zero (by omega : x.length = 0), rep_nil]; rfl
  | succ k ih =>
    intro x hk hx
    cases h : shortF ls (mvs ls) x with
    | none => rw [steps_none h, steps_none (by rw [short_rep hL hx, h])]; rfl
    | some m =>
      have hs := short_lt h
      rw [steps_some h, steps_some (m := m) (by rw [short_rep hL hx, h]), led_rep hL hs.2 hx, ih (led ls m x) (by have := hs.1; omega) (led_mem hL hs.2 hx)]
      rfl
end FW
set_option Elab.async false
set_option linter.all false
set_option maxRecDepth 100000
set_option maxHeartbeats 4000000
namespace FW
open PySem PySem.Spec PyProof.Rows L2 He
/-! ### least rings and kinds of words many times -/
theorem getLastD_map {α β : Type} (f : α → β) (d : α) (d' : β) : ∀ (l : List α), l ≠ [] → (l.map f).getLastD d' = f (l.getLastD d)
  | [], h => absurd rfl h
  | [a], _ => rfl
  | a :: b :: r, _ => by
    have ih := getLastD_map f d d' (b :: r) (by simp)
    rw [List.map_cons] at ih ⊢
    rw [List.map_cons]
    simpa [List.getLastD] using ih
theorem last_rep {ls : List Nat} (hL : LetOk ls) {l l' : List Nat} (hl : ∀ c ∈ l, c ∈ signs ls) {n : Nat} (h : ring l' = rep (ring l) (n + 1)) : lastR ls l' = rep (lastR ls l) (n + 1) := by
  unfold lastR ringsL
  rw [h, steps_rep hL n (ring l).length (ring l) (Nat.le_refl _) (fun c hc => hl c (ring_mem hc)), List.map_map]
  have e : (rep (ring l) (n + 1) :: List.map ((fun x => x.2) ∘ fun p : (List Nat × List Nat) × List Nat => (p.1, rep p.2 (n + 1))) (steps ls (ring l))) = (ring l :: (steps ls (ring l)).map (·.2)).map fun x => rep x (n + 1) := by
    rw [List.map_cons, List.map_map]; rfl
  rw [e]
  exact getLastD_map (fun x => rep x (n + 1)) [] [] _ (by simp)
theorem rep_inj {a b : List Nat} {n : Nat} (h : rep a (n + 1) = rep b (n + 1)) : a = b := by
  have hl : (n + 1) * a.length = (n + 1) * b.length := by rw [← rep_len, ← rep_len, h]
  have hl := Nat.eq_of_mul_eq_mul_left (Nat.succ_pos n) hl
  rw [rep_succ', rep_succ'] at h
  exact (List.append_inj h hl).1
def upE (n : Nat) (e : KE) : KE := (rep e.1 (n + 1), e.2.map fun p => (rep p.1 (n + 1), p.2))
theorem upE_mem {n : Nat} {ln : List KE} {x : List Nat} : rep x (n + 1) ∈ (ln.map (upE n)).map (·.1) ↔ x ∈ ln.map (·.1) := by
  rw [List.map_map]
  constructor
  · intro h
    obtain ⟨e, he, h⟩ := List.mem_map.mp h
    exact List.mem_map.mpr ⟨e, he, rep_inj h⟩
  · intro h
    obtain ⟨e, he, rfl⟩ := List.mem_map.mp h
    exact List.mem_map.mpr ⟨e, he, rfl⟩
def Sgn (ls : List Nat) (ln : List KE) : Prop := ∀ e ∈ ln, ∀ c ∈ e.1, c ∈ signs ls
theorem kstep_sgn {ls : List Nat} (hL : LetOk ls) {x : List Nat} (hx : ∀ c ∈ x, c ∈ signs ls) {m : Mv} (hm : m ∈ mvs ls) {L : Nat} {ln : List KE} (h : Sgn ls ln) : Sgn ls (kstep ls L x ln m) := by
  unfold kstep
  split
  · intro e he
    rcases List.mem_append.mp he with he | he
    · exact h e he
    · rw [List.mem_singleton.mp he]; exact led_mem hL hm hx
  · exact h
theorem kstep_rep {ls : List Nat} (hL : LetOk ls) {x : List Nat} (hx : ∀ c ∈ x, c ∈ signs ls) {m : Mv} (hm : m ∈ mvs ls) (n L : Nat) (ln : List KE) : kstep ls ((n + 1) * L) (rep x (n + 1)) (ln.map (upE n)) m = (kstep ls L x ln m).map (upE n) := by
  unfold kstep
  rw [led_rep hL hm hx, rep_len]
  have e1 : ((n + 1) * (led ls m x).length = (n + 1) * L) ↔ (led ls m x).length = L := ⟨fun h => Nat.eq_of_mul_eq_mul_left (Nat.succ_pos n) h, fun h => by rw [h]⟩
  by_cases h : (led ls m x).length = L ∧ led ls m x ∉ ln.map (·.1)
  · rw [if_pos h, if_pos ⟨e1.mpr h.1, fun z => h.2 (upE_mem.mp z)⟩, List.map_append]; rfl
  · rw [if_neg h, if_neg fun z => h ⟨e1.mp z.1, fun q => z.2 (upE_mem.mpr q)⟩]
theorem kall_sgn {ls : List Nat} (hL : LetOk ls) {x : List Nat} (hx : ∀ c ∈ x, c ∈ signs ls) {L : Nat} : ∀ {ms : List Mv} {ln : List KE}, (∀ m ∈ ms, m ∈ mvs ls) → Sgn ls ln → Sgn ls (kall ls L x ln ms)
  | [], ln, _, h => h
  | m :: ms, ln, hm, h => kall_sgn hL hx (ms := ms) (fun m' h' => hm m' (List.mem_cons_of_mem _ h')) (kstep_sgn hL hx (hm m List.mem_cons_self) h)
theorem kall_rep {ls : List Nat} (hL : LetOk ls) {x : List Nat} (hx : ∀ c ∈ x, c ∈ signs ls) (n L : Nat) : ∀ {ms : List Mv} {ln : List KE}, (∀ m ∈ ms, m ∈ mvs ls) → kall ls ((n + 1) * L) (rep x (n + 1)) (ln.map (upE n)) ms = (kall ls L x ln ms).map (upE n)
  | [], ln, _ => rfl
  | m :: ms, ln, hm => by
    unfold kall
    rw [List.foldl_cons, List.foldl_cons, kstep_rep hL hx (hm m List.mem_cons_self)]
    exact kall_rep hL hx n L fun m' h' => hm m' (List.mem_cons_of_mem _ h')
theorem kloop_rep {ls : List Nat} (hL : LetOk ls) (n L : Nat) : ∀ (f i : Nat) (ln : List KE), Sgn ls ln → kloop ls ((n + 1) * L) f i (ln.map (upE n)) = (kloop ls L f i ln).map (upE n)
  | 0, _, _, _ => rfl
  | f + 1, i, ln, h => by
    unfold kloop
    rw [List.getElem?_map]
    cases e : ln[i]? with
    | none => rfl
    | some e1 =>
      have hx := h e1 (List.mem_of_getElem? e)
      show kloop ls _ f (i + 1) (kall ls _ (rep e1.1 (n + 1)) _ _) = _
      rw [kall_rep hL hx n L fun m hm => hm]
      exact kloop_rep hL n L f (i + 1) _ (kall_sgn hL hx (fun m hm => hm) h)
theorem kind_rep {ls : List Nat} (hL : LetOk ls) {r : List Nat} (hr : ∀ c ∈ r, c ∈ signs ls) (n : Nat) : kind ls (rep r (n + 1)) = (kind ls r).map (upE n) := by
  unfold kind
  rw [rep_len]
  exact kloop_rep hL n r.length 2001 0 [(r, none)] (fun e he => by rw [List.mem_singleton.mp he]; exact hr)
theorem look_some {ln : List KE} {x : List Nat} : (look ln x).isSome = decide (x ∈ ln.map (·.1)) := by
  cases h : look ln x with
  | none => exact (decide_eq_false (look_none.mp h)).symm
  | some o =>
    by_cases q : x ∈ ln.map (·.1)
    · exact (decide_eq_true q).symm
    · rw [look_none.mpr q] at h; cases h
theorem oneK_rep {ls : List Nat} (hL : LetOk ls) {w o w' o' : List Nat} (hw : ∀ c ∈ w, c ∈ signs ls) (ho : ∀ c ∈ o, c ∈ signs ls) {n : Nat} (h1 : ring w' = rep (ring w) (n + 1)) (h2 : ring o' = rep (ring o) (n + 1)) : oneK ls w' o' = oneK ls w o := by
  unfold oneK
  rw [last_rep hL hw h1, last_rep hL ho h2, kind_rep hL (lastR_ok hL hw).2, look_some, look_some]
  exact decide_eq_decide.mpr upE_mem
/-! ### few words -/
theorem nodup_len {α : Type} [DecidableEq α] : ∀ {xs ys : List α}, xs.Nodup → (∀ x ∈ xs, x ∈ ys) → xs.length ≤ ys.length
  | [], ys, _, _ => Nat.zero_le _
  | x :: xs, ys, h, hm => by
    have hx := hm x List.mem_cons_self
    have ih := nodup_len (xs := xs) (ys := ys.erase x) (List.nodup_cons.mp h).2 fun y hy => (List.mem_erase_of_ne (fun (e : y = x) => (List.nodup_cons.mp h).1 (by rw [← e]; exact hy))).mpr (hm y (List.mem_cons_of_mem _ hy))
    rw [List.length_erase_of_mem hx] at ih
    have := List.length_pos_of_mem hx
    rw [List.length_cons]; omega
def wds (ss : List Nat) : Nat → List (List Nat)
  | 0 => [[]]
  | n + 1 => ss.flatMap fun c => (wds ss n).map (c :: ·)
theorem wds_mem {ss : List Nat} : ∀ {n : Nat} {x : List Nat}, x.length = n → (∀ c ∈ x, c ∈ ss) → x ∈ wds ss n
  | 0, x, h, _ => by rw [List.eq_nil_of_length_eq_zero h]; exact List.mem_cons_self
  | n + 1, [], h, _ => by cases h
  | n + 1, c :: x, h, hc => List.mem_flatMap.mpr ⟨c, hc c List.mem_cons_self, List.mem_map.mpr ⟨x, wds_mem (by simpa using h) fun d hd => hc d (List.mem_cons_of_mem _ hd), rfl⟩⟩
theorem flat_len2 {α β : Type} (f : α → List β) (k : Nat) (h : ∀ a, (f a).length = k) : ∀ l : List α, (l.flatMap f).length = l.length * k
  | [] => by simp
  | a :: r => by rw [List.flatMap_cons, List.length_append, h, flat_len2 f k h r, List.length_cons, Nat.succ_mul]; omega
theorem wds_len (ss : List Nat) : ∀ n, (wds ss n).length = ss.length ^ n
  | 0 => rfl
  | n + 1 => by
    show (ss.flatMap fun c => (wds ss n).map (c :: ·)).length = _
    rw [flat_len2 _ ((wds ss n).length) (fun c => by rw [List.length_map]), wds_len ss n, Nat.pow_succ, Nat.mul_comm]
theorem signs_length (ls : List Nat) : (signs ls).length = 2 * ls.length := by unfold signs; rw [List.length_append, List.length_map]; omega
theorem few_words {ss : List Nat} (h : ss.length ≤ 4) {n : Nat} (hn : n ≤ 4) : (wds ss n).length ≤ 2000 := by
  rw [wds_len]
  have h1 : ss.length ^ n ≤ 4 ^ n := Nat.pow_le_pow_left h n
  have h2 : 4 ^ n ≤ 4 ^ 4 := Nat.pow_le_pow_right (by decide) hn
  have h3 : (4 : Nat) ^ 4 = 256 := by decide
  omega
theorem kok_few {ls : List Nat} (hL : LetOk ls) (h2 : ls.length ≤ 2) {r : List Nat} (hr : r.length ≤ 4) (hc : ∀ c ∈ r, c ∈ signs ls) : KOk ls r :=
  ⟨fun x => x.length = r.length ∧ ∀ c ∈ x, c ∈ signs ls, ⟨rfl, hc⟩, fun x h => h, fun x m h hm e => ⟨e, led_mem hL hm h.2⟩, fun xs hn hx =>
    Nat.le_trans (nodup_len hn fun x h => wds_mem (hx x h).1 (hx x h).2) (few_words (by rw [signs_length]; omega) hr)⟩
theorem all_ex {α β : Type} {f : α → β} {Q : α → Prop} : ∀ {xs : List β}, (∀ y ∈ xs, ∃ x, Q x ∧ y = f x) → ∃ zs : List α, xs = zs.map f ∧ ∀ z ∈ zs, Q z
  | [], _ => ⟨[], rfl, fun z h => by cases h⟩
  | y :: xs, h => by
    obtain ⟨x, hx, e⟩ := h y List.mem_cons_self
    obtain ⟨zs, e2, h2⟩ := all_ex (xs := xs) fun y' h' => h y' (List.mem_cons_of_mem _ h')
    refine ⟨x :: zs, by rw [List.map_cons, ← e, ← e2], fun z hz => ?_⟩
    rcases List.mem_cons.mp hz with q | q
    · rw [q]; exact hx
    · exact h2 z q
theorem nodup_of_map {α β : Type} {f : α → β} : ∀ {zs : List α}, (zs.map f).Nodup → zs.Nodup
  | [], _ => List.nodup_nil
  | z :: zs, h => by
    rw [List.map_cons] at h
    obtain ⟨h1, h2⟩ := List.nodup_cons.mp h
    exact List.nodup_cons.mpr ⟨fun q => h1 (List.mem_map.mpr ⟨z, q, rfl⟩), nodup_of_map h2⟩
theorem rep_mem {x : List Nat} {c : Nat} : ∀ {n : Nat}, c ∈ rep x n → c ∈ x
  | 0, h => by rw [rep_zero] at h; cases h
  | n + 1, h => by
    rw [rep_succ] at h
    rcases List.mem_append.mp h with q | q
    · exact rep_mem q
    · exact q
theorem kok_rep {ls : List Nat} (hL : LetOk ls) {r : List Nat} (n : Nat) (h : KOk ls r) : KOk ls (rep r (n + 1)) := by
  obtain ⟨Q, h1, h2, h3, h4⟩ := h
  refine ⟨fun y => ∃ x, Q x ∧ y = rep x (n + 1), ⟨r, h1, rfl⟩, ?_, ?_, ?_⟩
  · rintro y ⟨x, hx, rfl⟩
    rw [rep_len, rep_len, (h2 x hx).1]
    exact ⟨rfl, fun c hc => (h2 x hx).2 c (rep_mem hc)⟩
  · rintro y m ⟨x, hx, rfl⟩ hm hl
    rw [led_rep hL hm (h2 x hx).2] at hl ⊢
    rw [rep_len, rep_len] at hl
    exact ⟨_, h3 x m hx hm (Nat.eq_of_mul_eq_mul_left (Nat.succ_pos n) hl), rfl⟩
  · intro xs hn hx
    obtain ⟨zs, e, hz⟩ := all_ex hx
    subst e
    rw [List.length_map]
    exact h4 zs (nodup_of_map hn) hz
end FW
set_option Elab.async false
set_option linter.all false
set_option maxRecDepth 100000
set_option maxHeartbeats 4000000
namespace FW
open PySem PySem.Spec PyProof.Rows L2 He
/-! ### roots; words led by others; powers -/
theorem isR_nb {ls l : List Nat} (h : isR ls l = true) : NB l := nb_of_red (of_decide_eq_true (Bool.and_eq_true_iff.mp h).2)
theorem isR_flip {ls : List Nat} (hL : LetOk ls) {l : List Nat} (h : isR ls l = true) : ∀ c ∈ l, c ≠ flip c := fun c hc => sig_flip hL (isR_signs h c hc)
theorem per_rep {l : List Nat} (h : l ≠ []) : rep (l.take (per l)) (l.length / per l) = l := by
  have hl := List.length_pos_iff.mpr h
  unfold per
  cases e : (List.range (l.length - 1)).find? fun k => perOk l (k + 1) with
  | none =>
    show rep (l.take l.length) (l.length / l.length) = l
    rw [Nat.div_self hl, List.take_length, rep_one]
  | some k =>
    have := List.find?_some e
    exact of_decide_eq_true (Bool.and_eq_true_iff.mp this).2
theorem rootN_pos {w : List Nat} (hn : NB w) (h : w ≠ []) : 1 ≤ rootN w := by
  have h1 := rC_ne hn h
  have h2 := per_pos h1
  have h3 := per_le (rC w)
  unfold rootN
  exact (Nat.one_le_div_iff h2).mpr h3
theorem rootT_len (w : List Nat) : (rootT w).length ≤ w.length := by
  unfold rootT
  rw [List.length_append, List.length_append, List.length_take, undo_len, rA_len]
  have h1 := rC_len2 w
  have h2 := rK_le w
  have h3 : min (per (rC w)) (rC w).length ≤ (rC w).length := Nat.min_le_right _ _
  omega
theorem rootN_len {w : List Nat} : rootN w ≤ w.length := Nat.le_trans (Nat.div_le_self _ _) (rC_len w)
theorem root_parts {w : List Nat} (hn : NB w) (h : w ≠ []) : ∃ D n, rootN w = n + 1 ∧ rootT w = rA w ++ D ++ undo (rA w) ∧ rep D (n + 1) = rC w ∧ D ≠ [] := by
  have h1 := rC_ne hn h
  have h2 := rootN_pos hn h
  refine ⟨(rC w).take (per (rC w)), rootN w - 1, by omega, rfl, ?_, ?_⟩
  · have e : rootN w - 1 + 1 = (rC w).length / per (rC w) := by have : rootN w = (rC w).length / per (rC w) := rfl; omega
    rw [e]; exact per_rep h1
  · intro e
    have h3 := per_pos h1
    have h4 := List.length_pos_iff.mpr h1
    have h5 := congrArg List.length e
    rw [List.length_take] at h5
    simp only [List.length_nil] at h5
    omega
theorem root_nb {w : List Nat} (hn : NB w) (h : w ≠ []) : NB (rootT w) := by
  obtain ⟨D, n, e1, e2, e3, hD⟩ := root_parts hn h
  have e := round_eq w
  rw [← e3] at e
  have hw : NB (rA w ++ rep D (n + 1) ++ undo (rA w)) := e ▸ hn
  rw [e2]
  have hp : NB (rA w ++ D) := by
    rw [rep_succ', ← List.append_assoc] at hw
    exact (hw.left).left
  have hs : NB (D ++ undo (rA w)) := by
    rw [rep_succ, ← List.append_assoc, List.append_assoc] at hw
    exact hw.right
  refine hp.join hs.right fun a b ha hb => ?_
  rw [last_app hD] at ha
  exact hs.glue a b ha hb
theorem pw_root {w : List Nat} (hn : NB w) (h : w ≠ []) : pw (rootT w) (rootN w) = w := by
  obtain ⟨D, n, e1, e2, e3, hD⟩ := root_parts hn h
  have hr := nb_red (root_nb hn h)
  rw [e1]
  rw [e2] at hr ⊢
  have := pw_conj (rA w) D (n + 1)
  rw [hr, e3, ← round_eq w, nb_red hn] at this
  exact this
theorem pw_len (w : List Nat) : ∀ n, (pw w n).length ≤ n * w.length
  | 0 => Nat.zero_le _
  | n + 1 => by
    have h1 := pw_len w n
    have h2 := red_len (pw w n ++ w)
    show (red (pw w n ++ w)).length ≤ _
    rw [List.length_append] at h2
    rw [Nat.succ_mul]; omega
theorem pw_mem {w : List Nat} {c : Nat} : ∀ {n : Nat}, c ∈ pw w n → c ∈ w
  | 0, h => by cases h
  | n + 1, h => by
    rcases List.mem_append.mp (red_mem (l := pw w n ++ w) h) with q | q
    · exact pw_mem q
    · exact q
theorem root_mem {w : List Nat} {ls : List Nat} (hL : LetOk ls) (hw : ∀ c ∈ w, c ∈ signs ls) : ∀ c ∈ rootT w, c ∈ signs ls := fun c hc => by
  unfold rootT at hc
  have hA : ∀ d ∈ rA w, d ∈ signs ls := fun d hd => hw d (List.mem_of_mem_take hd)
  rcases List.mem_append.mp hc with hc | hc
  · rcases List.mem_append.mp hc with hc | hc
    · exact hA c hc
    · exact hw c (List.mem_of_mem_drop (List.mem_of_mem_take (List.mem_of_mem_take hc)))
  · unfold undo at hc
    obtain ⟨d, hd, rfl⟩ := List.mem_map.mp hc
    exact flip_signs hL (hA d (List.mem_reverse.mp hd))
/-- a word that is not nothing, of these letters -/
structure WF (ls : List Nat) (n : Nat) (w : List Nat) : Prop where
  r : isR ls w = true
  ne : w ≠ []
  len : w.length ≤ n
theorem WF.nb {ls w : List Nat} {n : Nat} (h : WF ls n w) : NB w := isR_nb h.r
theorem WF.sg {ls w : List Nat} {n : Nat} (h : WF ls n w) : ∀ c ∈ w, c ∈ signs ls := isR_signs h.r
theorem WF.mono {ls w : List Nat} {n k : Nat} (h : WF ls n w) (hk : n ≤ k) : WF ls k w := ⟨h.r, h.ne, Nat.le_trans h.len hk⟩
theorem WF.root {ls w : List Nat} {n : Nat} (hL : LetOk ls) (h : WF ls n w) (hn : n ≤ 1000) : WF ls n (rootT w) := by
  have hl := rootT_len w
  have := h.len
  refine ⟨isR_of (by omega) (root_mem hL h.sg) (root_nb h.nb h.ne), ?_, by omega⟩
  obtain ⟨D, n, e1, e2, e3, hD⟩ := root_parts h.nb h.ne
  rw [e2]
  intro e
  have := List.length_pos_iff.mpr hD
  have e := congrArg List.length e
  rw [List.length_append, List.length_append] at e
  simp only [List.length_nil] at e
  omega
theorem WF.rC {ls w : List Nat} {n : Nat} (h : WF ls n w) : rC w ≠ [] := rC_ne h.nb h.ne
theorem WF.pw {ls w : List Nat} {n : Nat} (hL : LetOk ls) (h : WF ls n w) (k : Nat) (hk : (k + 1) * n ≤ 1000) : WF ls ((k + 1) * n) (pw w (k + 1)) := by
  have h1 := pw_len w (k + 1)
  have h2 : (k + 1) * w.length ≤ (k + 1) * n := Nat.mul_le_mul_left _ h.len
  refine ⟨isR_of (by omega) (fun c hc => h.sg c (pw_mem hc)) (pw_nb w _), ?_, by omega⟩
  rw [pw_eq h.nb (isR_flip hL h.r) h.ne]
  intro e
  have h3 := List.length_pos_iff.mpr (rep_ne h.rC (n := k + 1) (by omega))
  have e := congrArg List.length e
  rw [List.length_append, List.length_append] at e
  simp only [List.length_nil] at e
  omega
theorem WF.ring_pw {ls w : List Nat} {n : Nat} (hL : LetOk ls) (h : WF ls n w) (k : Nat) : ring (FW.pw w (k + 1)) = rep (ring w) (k + 1) := FW.ring_pw h.nb (isR_flip hL h.r) k
theorem WF.last_pw {ls w : List Nat} {n : Nat} (hL : LetOk ls) (h : WF ls n w) (k : Nat) : lastR ls (FW.pw w (k + 1)) = rep (lastR ls w) (k + 1) := last_rep hL h.sg (h.ring_pw hL k)
theorem WF.last_root {ls w : List Nat} {n : Nat} (hL : LetOk ls) (h : WF ls n w) (hn : n ≤ 1000) : rootN w * (lastR ls (rootT w)).length = (lastR ls w).length := by
  obtain ⟨D, k, e1, e2, e3, hD⟩ := root_parts h.nb h.ne
  have e := (h.root hL hn).last_pw hL k
  rw [← e1, pw_root h.nb h.ne] at e
  rw [e, rep_len]
theorem WF.undo {ls w : List Nat} {n : Nat} (hL : LetOk ls) (h : WF ls n w) (hn : n ≤ 1000) : WF ls n (undo w) := by
  have := h.len
  refine ⟨isR_of (by rw [undo_len]; omega) (fun c hc => ?_) h.nb.undo, ?_, by rw [undo_len]; omega⟩
  · unfold FW.undo at hc
    obtain ⟨d, hd, rfl⟩ := List.mem_map.mp hc
    exact flip_signs hL (h.sg d (List.mem_reverse.mp hd))
  · intro e
    have := undo_len w
    rw [e] at this
    exact h.ne (List.eq_nil_of_length_eq_zero this.symm)
theorem conj_ne {a w : List Nat} (hn : NB w) (h : w ≠ []) : red (a ++ w ++ undo a) ≠ [] := by
  intro e
  have h1 : red (undo a ++ red (a ++ w ++ undo a) ++ a) = w := by
    have e1 : red (undo a ++ red (a ++ w ++ undo a) ++ a) = red (undo a ++ (a ++ w ++ undo a) ++ a) := by
      rw [← red_left, red_right, red_left]
    rw [e1]
    have e2 : undo a ++ (a ++ w ++ undo a) ++ a = [] ++ undo a ++ (a ++ (w ++ undo a ++ a)) := by simp
    rw [e2, red_mid]
    have e3 : ([] : List Nat) ++ (w ++ undo a ++ a) = w ++ undo a ++ (a ++ []) := by simp
    rw [e3, red_mid, List.append_nil, nb_red hn]
  rw [e] at h1
  have e4 : undo a ++ [] ++ a = [] ++ undo a ++ (a ++ []) := by simp
  rw [e4, red_mid] at h1
  exact h h1.symm
theorem undo_mem {ls a : List Nat} (hL : LetOk ls) (h : ∀ c ∈ a, c ∈ signs ls) : ∀ c ∈ undo a, c ∈ signs ls := fun c hc => by
  unfold undo at hc
  obtain ⟨d, hd, rfl⟩ := List.mem_map.mp hc
  exact flip_signs hL (h d (List.mem_reverse.mp hd))
theorem WF.conj {ls w a : List Nat} {n k : Nat} (hL : LetOk ls) (h : WF ls n w) (ha : WordR ls k a) (hk : 2 * k + n ≤ 1000) : WF ls (2 * k + n) (red (red (a ++ w) ++ FW.undo a)) := by
  have h1 := red_len (a ++ w ++ FW.undo a)
  have h2 := ha.2
  have h3 := h.len
  rw [red_left]
  rw [List.length_append, List.length_append, undo_len] at h1
  refine ⟨isR_of (by omega) (fun c hc => ?_) (red_nb _), conj_ne h.nb h.ne, by omega⟩
  rcases List.mem_append.mp (red_mem hc) with q | q
  · rcases List.mem_append.mp q with q | q
    · exact isR_signs ha.1 c q
    · exact h.sg c q
  · exact undo_mem hL (isR_signs ha.1) c q
theorem WF.oneK {ls w o : List Nat} {n k : Nat} (hL : LetOk ls) (h : WF ls n w) (h' : WF ls k o) (j : Nat) : oneK ls (FW.pw w (j + 1)) (FW.pw o (j + 1)) = oneK ls w o := oneK_rep hL h.sg h'.sg (h.ring_pw hL j) (h'.ring_pw hL j)
theorem last_le_ring {ls : List Nat} (hL : LetOk ls) {l : List Nat} (hc : ∀ c ∈ l, c ∈ signs ls) : (lastR ls l).length ≤ (ring l).length :=
  (rings_ok hL (ring l).length (ring l) (Nat.le_refl _) (fun c h => hc c (ring_mem h)) _ (lastR_mem ls l)).1
theorem WF.kok {ls w : List Nat} {n : Nat} (hL : LetOk ls) (h2 : ls.length ≤ 2) (h : WF ls n w) {j : Nat} (hj : 1 ≤ j) (hr : (ring (FW.pw w (j + 1))).length < 9) : KOk ls (lastR ls w) ∧ KOk ls (lastR ls (FW.pw w (j + 1))) := by
  rw [h.ring_pw hL, rep_len, Nat.succ_mul] at hr
  have h3 : 1 * (ring w).length ≤ j * (ring w).length := Nat.mul_le_mul_right _ hj
  have h4 := last_le_ring hL h.sg
  have k1 := kok_few hL h2 (r := lastR ls w) (by omega) (lastR_ok hL h.sg).2
  rw [h.last_pw hL]
  exact ⟨k1, kok_rep hL j k1⟩
end FW
set_option Elab.async false
set_option linter.all false
set_option maxRecDepth 100000
set_option maxHeartbeats 4000000
namespace FW
open PySem PySem.Spec PyProof.Rows L2 He
section
variable {P : Program} {w : World} {K : PySem.W.Frag} {mg : Str → Option Value} {base : Heap}
/-! ### the law -/
abbrev lawN : List Str := ["script", "pen", "lap", "letters", "word", "ahead", "other", "root", "times", "made", "step", "number", "power", "more"]
theorem sc_law : FnScope lawN ["script"] (defScope s_law) := ⟨rfl, rfl, rfl, by decide +kernel, rfl, by decide +kernel, by decide +kernel⟩
theorem ok_law (C : Tx K mg) {fd : FuncData} (F : FunD K ds_law.name ds_law.qual ds_law.params ds_law.body ds_law.scope [] [] (fAd K ds_law.at_) fd) : FnOk P w K mg base CX0 13 (fAd K ds_law.at_) fd ["script"] (spLaw K) := by
  refine Says.law (k := 12) C F sc_law fun cdv B outer s H E a ns w0 hr hd hl => ?_
  have nd := sc_law.nd
  refine go_setW (i := 1) (ce_callW (RW := fun _ v w' => ∃ pen, v = .ref pen ∧ PenS K pen w') ns (ok__law_pen C) hr (ca1 (ce_var 0 (P := Da K (insD ns)) rfl hd)) trivial) (fun v w1 l1 ⟨pen, hv, hps⟩ => ?_) nd
  subst hv
  refine go_vp hps (R := fun v => v = .bl true) (fun v w' h => h) fun w2 => ?_
  refine go_forR1 (i := 2) (n := 2) (C.free fr_range) ce_int (by decide) (fun _ σ' _ => ∃ x2 x3 x4 x5 x6 x7 x8 x9 x10 x11 x12 x13, σ' = [some (.ref a), some (.ref pen), x2, x3, x4, x5, x6, x7, x8, x9, x10, x11, x12, x13]) (fun w' l => ⟨_, _, _, _, _, _, _, _, _, _, _, _, rfl⟩) ?_ ?_ PassesOwn.never rfl nd
  · rintro k σ' w3 hk ⟨x2, x3, x4, x5, x6, x7, x8, x9, x10, x11, x12, x13, rfl⟩
    refine go_set (i := 3) (ce_callP (R := fun _ : Unit => Exi LetR fun l => T l) () (ok__law_letters C) hr (cv 1) (ca1 ce_int) trivial) (fun v w4 l4 ⟨ls, ⟨hL, h2⟩, hv⟩ => ?_) nd
    have hv : v = .str (S ls) := hv
    subst hv
    have h3 : ls.length ≤ 3 := by omega
    refine go_par2 (i := 4) (j := 5) (R := fun us _ => ∃ wd ah, us = [.str (S wd), .str (S ah)] ∧ WF ls 5 wd ∧ WordR ls 3 ah)
      (cp_cons (CE.cw (ce_callP (R := fun x : List Nat × Nat => Exi (fun l => WordR x.1 x.2 l ∧ l ≠ []) fun l => T l) (ls, 5) (ok__law_full_word C) hr (cv 1) (ca_cons (cv 3) (ca1 ce_int)) ⟨hL, Nat.le_of_ble_eq_true rfl, Nat.le_of_ble_eq_true rfl⟩)) fun v w5 l5 ⟨wd, h5, hv⟩ =>
        cp_cons (CE.cw (ce_callP (R := fun x : List Nat × Nat => Exi (WordR x.1 x.2) fun l => T l) (ls, 3) (ok__law_word C) hr (cv 1) (ca_cons (cv 3) (ca1 ce_int)) ⟨hL, Nat.le_of_ble_eq_true rfl⟩)) fun v2 w6 l6 ⟨ah, h6, hv2⟩ => cp_nil fun w7 l7 => ⟨wd, ah, by rw [show v = _ from hv, show v2 = _ from hv2], ⟨h5.1.1, h5.2, h5.1.2⟩, h6⟩)
      (fun u1 u2 w5 l5 ⟨wd, ah, e, hw, hah⟩ => ?_) (fun vs w' ⟨wd, ah, e, _⟩ => ⟨_, _, e⟩) rfl nd
    obtain ⟨rfl, rfl⟩ : u1 = .str (S wd) ∧ u2 = .str (S ah) := by simpa using e
    have aw : Asc wd := fun c hc => signs_asc hL c (hw.sg c hc)
    have aa : Asc ah := fun c hc => signs_asc hL c (isR_signs hah.1 c hc)
    have lw := hw.len
    have la := hah.2
    have hj1 := red_len (ah ++ wd)
    rw [List.length_append] at hj1
    refine go_set (i := 6) (ce_callPE (F := fun xs : List (List Nat) => ∃ o2, WF ls 5 o2 ∧ xs = [red (red (ah ++ wd) ++ undo ah), o2, undo wd]) (R := fun (xs : List (List Nat)) v _ => ∃ x, x ∈ xs ∧ v = V.str (S x)) (Ps := [Exi (fun ds => ∃ o2, WF ls 5 o2 ∧ ds = [strD (red (red (ah ++ wd) ++ undo ah)), strD o2, strD (undo wd)]) fun ds => Da K (.list ds)]) (ok__law_pick_L C) hr (cv 1)
      (ca1 (ce_lstE (Ps := [Da K (strD (red (red (ah ++ wd) ++ undo ah))), Exi (WF ls 5) (fun l => Da K (strD l)), Da K (strD (undo wd))])
        (ca_cons (CE.daT (ce_call (R := fun x : List Nat × List Nat => T (red (x.1 ++ x.2))) (red (ah ++ wd), undo ah) (ok__law_join C) hr
            (ca_cons (ce_call (R := fun x : List Nat × List Nat => T (red (x.1 ++ x.2))) (ah, wd) (ok__law_join C) hr (ca_cons (cv 5) (ca1 (cv 4))) ⟨aa, aw, by show ah.length ≤ 300; omega, by show wd.length ≤ 300; omega⟩)
              (ca1 (ce_call (R := fun l => T (undo l)) ah (ok__law_back C) hr (ca1 (cv 5)) ⟨aa, by omega⟩)))
            ⟨red_asc (fun c hc => (List.mem_append.mp hc).elim (aa c) (aw c)), fun c hc => signs_asc hL c (undo_mem hL (isR_signs hah.1) c hc), by show (red (ah ++ wd)).length ≤ 300; omega, by show (undo ah).length ≤ 300; rw [undo_len]; omega⟩))
          (ca_cons (CE.imp (ce_callP (R := fun x : List Nat × Nat => Exi (fun l => WordR x.1 x.2 l ∧ l ≠ []) fun l => T l) (ls, 5) (ok__law_full_word C) hr (cv 1) (ca_cons (cv 3) (ca1 ce_int)) ⟨hL, Nat.le_of_ble_eq_true rfl, Nat.le_of_ble_eq_true rfl⟩) fun v G ⟨l, h, hv⟩ => ⟨l, ⟨h.1.1, h.2, h.1.2⟩, by
              have hv : v = .str (S l) := hv
              subst hv
              exact .str _⟩)
            (ca1 (CE.daT (ce_call (R := fun l => T (undo l)) wd (ok__law_back C) hr (ca1 (cv 4)) ⟨aw, by omega⟩))))) ?_)) ?_) (fun v w6 l6 hv => ?_) nd
    · rintro vs G hv
      obtain ⟨v1, v2, v3, rfl, g1, ⟨o2, h2, g2⟩, g3⟩ := args3 hv
      exact ⟨_, .cons g1 (.cons g2 (.cons g3 .nil)), ⟨o2, h2, rfl⟩, Nat.le_of_ble_eq_true rfl⟩
    · rintro vs G hv
      obtain ⟨v1, rfl, ds, ⟨o2, h2, rfl⟩, g⟩ := args1 hv
      exact ⟨[red (red (ah ++ wd) ++ undo ah), o2, undo wd], ⟨g, trivial⟩, ⟨by show 0 < 3; decide, by show 3 < 1000; decide⟩, o2, h2, rfl⟩
    obtain ⟨xs, ⟨o2, ho2, rfl⟩, ot, hot, rfl⟩ := hv
    have ho : WF ls 11 ot := by
      have hot : ot = red (red (ah ++ wd) ++ undo ah) ∨ ot = o2 ∨ ot = undo wd := by simpa using hot
      rcases hot with rfl | rfl | rfl
      · exact hw.conj hL hah (by decide)
      · exact ho2.mono (by decide)
      · exact (hw.undo hL (by decide)).mono (by decide)
    clear hot ho2 o2 hj1
    have ao : Asc ot := fun c hc => signs_asc hL c (ho.sg c hc)
    have lo := ho.len
    refine go_skip (ct_or2 (ct_neB (ce_call (R := fun x : List Nat × List Nat × List Nat => Bo (ledB x.2.1 x.2.2)) (ls, wd, ot) (ok_are_led C) hr (ca_cons (cv 3) (ca_cons (cv 4) (ca1 (cv 6)))) ⟨hL, hw.r, ho.r⟩) (ce_eqT (ce_call (R := fun x : List Nat × List Nat => T (ring x.2)) (ls, wd) (ok_ring_of C) hr (ca_cons (cv 3) (ca1 (cv 4))) ⟨hL, h3, hw.r⟩) (ce_call (R := fun x : List Nat × List Nat => T (ring x.2)) (ls, ot) (ok_ring_of C) hr (ca_cons (cv 3) (ca1 (cv 6))) ⟨hL, h3, ho.r⟩)))
      fun _ => ct_neT (ce_call (R := fun x : List Nat × List Nat => T (ring x.2)) (ls, wd) (ok_ring_of C) hr (ca_cons (cv 3) (ca1 (cv 4))) ⟨hL, h3, hw.r⟩) (ce_call (R := fun l => T (ring l)) wd (ok__law_ring C) hr (ca1 (cv 4)) ⟨aw, by omega⟩)) ?_ fun w7 l7 => ?_
    · show (!decide (ledB wd ot = decide (ring wd = ring ot)) || !decide (ring wd = ring wd)) = false
      rw [ledB_eq, decide_eq_true rfl, decide_eq_true rfl]; rfl
    have hrl := ring_len2 wd
    have hcl := rC_len wd
    refine go_skip (ct_neI (ce_lenT (l := rC wd) (C.free fr_len) (CE.toT (ce_ixTup (d := strD (rC wd)) (ce_call (R := fun x : List Nat × List Nat => Da K (.tuple [strD (rA x.2), strD (rC x.2)])) (ls, wd) (ok_round_of C) hr (ca_cons (cv 3) (ca1 (cv 4))) ⟨hL, hw.r⟩) ce_int rfl)) (by omega)) (ce_lenT (l := ring wd) (C.free fr_len) (ce_call (R := fun x : List Nat × List Nat => T (ring x.2)) (ls, wd) (ok_ring_of C) hr (ca_cons (cv 3) (ca1 (cv 4))) ⟨hL, h3, hw.r⟩) (by omega))) ?_ fun w8 l8 => ?_
    · rw [hrl, decide_eq_true rfl]; rfl
    have hN := rootN_len (w := wd)
    have hrt := hw.root hL (by decide)
    have lr := hrt.len
    have art : Asc (rootT wd) := fun c hc => signs_asc hL c (hrt.sg c hc)
    refine go_unpack2 (i := 7) (j := 8) rfl (ce_call (R := fun x : List Nat × List Nat => Da K (.tuple [strD (rootT x.2), .int (rootN x.2)])) (ls, wd) (ok_root_of C) hr (ca_cons (cv 3) (ca1 (cv 4))) ⟨hL, hw.r, hw.ne⟩) (fun u v w9 l9 g7 g8 => ?_) nd
    have g7 : Dp K w9.G u (.str (S (rootT wd))) := g7
    have g8 : Dp K w9.G v (.int (rootN wd)) := g8
    cases g7
    cases g8
    refine go_set (i := 9) (ce_str []) (fun v w10 l10 hv => ?_) nd
    have hv : v = .str (S []) := hv
    subst hv
    refine go_forR1 (i := 10) (n := (rootN wd : Int)) (C.free fr_range) (cv 8) (by omega) (fun k2 σ' _ => k2 ≤ rootN wd ∧ ∃ y, σ' = [some (.ref a), some (.ref pen), some (.int k), some (.str (S ls)), some (.str (S wd)), some (.str (S ah)), some (.str (S ot)), some (.str (S (rootT wd))), some (.int (rootN wd)), some (.str (S (pw (rootT wd) k2))), y, x11, x12, x13]) (fun w' l => ⟨Nat.zero_le _, _, rfl⟩) ?_ ?_ PassesOwn.never rfl nd
    · rintro k2 σ' w11 hk2 ⟨hk3, y, rfl⟩
      have hp1 := pw_len (rootT wd) k2
      have hp2 : k2 * (rootT wd).length ≤ 5 * 5 := Nat.mul_le_mul (by omega) lr
      refine go_set (i := 9) (ce_call (R := fun x : List Nat × List Nat => T (red (x.1 ++ x.2))) (pw (rootT wd) k2, rootT wd) (ok__law_join C) hr (ca_cons (cv 9) (ca1 (cv 7))) ⟨fun c hc => art c (pw_mem hc), art, by show (pw (rootT wd) k2).length ≤ 300; omega, by show (rootT wd).length ≤ 300; omega⟩) (fun v w12 l12 hv => ?_) nd
      have hv : v = .str (S (pw (rootT wd) (k2 + 1))) := hv
      subst hv
      exact go_nil ⟨by omega, _, rfl⟩
    rintro σ' w11 ⟨_, y, rfl⟩
    rw [Int.toNat_natCast, pw_root hw.nb hw.ne]
    have hlw := lastR_ok hL hw.sg
    have hlr := lastR_ok hL hrt.sg
    have hro := hw.last_root hL (by decide)
    refine go_skip (ct_w (ctw_or (ct_neT (cv 9) (cv 4)) fun _ => ctw_or (ct_and2 (ct_val (ce_call (R := fun x : List Nat × List Nat => Bo (bas x.1 x.2)) (ls, wd) (ok_is_basic C) hr (ca_cons (cv 3) (ca1 (cv 4))) ⟨hL, h3, hw.r, hw.ne, by show wd.length ≤ 100; omega⟩)) fun _ => ct_neI (cv 8) ce_int) fun _ => ctw_or1 (ct_neI (ce_mul (cv 8) (ce_lenT (l := lastR ls (rootT wd)) (C.free fr_len) (ce_call (R := fun x : List Nat × List Nat => T (lastR x.1 x.2)) (ls, rootT wd) (ok_least_ring C) hr (ca_cons (cv 3) (ca1 (cv 7))) ⟨hL, h3, hrt.r, hrt.ne, by show (rootT wd).length ≤ 100; omega⟩) (by omega)) (.inl (by omega))) (ce_lenT (l := lastR ls wd) (C.free fr_len) (ce_call (R := fun x : List Nat × List Nat => T (lastR x.1 x.2)) (ls, wd) (ok_least_ring C) hr (ca_cons (cv 3) (ca1 (cv 4))) ⟨hL, h3, hw.r, hw.ne, by show wd.length ≤ 100; omega⟩) (by omega))))) ?_ fun w12 l12 => ?_
    · show (!decide (wd = wd) || (bas ls wd && !decide ((rootN wd : Int) = 1) || !decide ((rootN wd : Int) * ((lastR ls (rootT wd)).length : Int) = ((lastR ls wd).length : Int)))) = false
      have e1 : decide ((rootN wd : Int) * ((lastR ls (rootT wd)).length : Int) = ((lastR ls wd).length : Int)) = true := decide_eq_true (by rw [← hro, Int.natCast_mul])
      have e2 : (bas ls wd && !decide ((rootN wd : Int) = 1)) = false := by
        unfold bas
        by_cases h : (lastR ls wd).length = 1
        · rw [h] at hro
          have : rootN wd = 1 := Nat.eq_one_of_mul_eq_one_right hro
          rw [this]; simp
        · rw [decide_eq_false h]; rfl
      rw [e1, e2, decide_eq_true rfl]; rfl
    refine go_par2 (i := 11) (j := 12) (R := fun us _ => ∃ m : Nat, us = [.int ((m + 1 + 1 : Nat) : Int), .str (S [])] ∧ m ≤ 1)
      (cp_cons (CE.cw (ce_addE (ce_int (i := 2)) (ce_callP (R := fun n : Int => DrawR n) (2 : Int) (ok__law_draw C) hr (cv 1) (ca1 ce_int) ⟨by decide, by decide⟩))) fun v w13 l13 ⟨r, hv, r0, r1⟩ =>
        cp_cons (CE.cw (ce_str [])) fun v2 w14 l14 hv2 => cp_nil fun w15 l15 => ⟨r.toNat, by rw [hv, show v2 = _ from hv2]; congr 2; omega, by omega⟩)
      (fun u1 u2 w13 l13 ⟨m, e, hm⟩ => ?_) (fun vs w' ⟨m, e, _⟩ => ⟨_, _, e⟩) rfl nd
    obtain ⟨rfl, rfl⟩ : u1 = .int ((m + 1 + 1 : Nat) : Int) ∧ u2 = .str (S []) := by simpa using e
    refine go_forR1 (i := 10) (n := ((m + 1 + 1 : Nat) : Int)) (C.free fr_range) (cv 11) (by omega) (fun k2 σ' _ => k2 ≤ m + 1 + 1 ∧ ∃ y, σ' = [some (.ref a), some (.ref pen), some (.int k), some (.str (S ls)), some (.str (S wd)), some (.str (S ah)), some (.str (S ot)), some (.str (S (rootT wd))), some (.int (rootN wd)), some (.str (S wd)), y, some (.int ((m + 1 + 1 : Nat) : Int)), some (.str (S (pw wd k2))), x13]) (fun w' l => ⟨Nat.zero_le _, _, rfl⟩) ?_ ?_ PassesOwn.never rfl nd
    · rintro k2 σ' w14 hk2 ⟨hk3, y2, rfl⟩
      have hp1 := pw_len wd k2
      have hp2 : k2 * wd.length ≤ 3 * 5 := Nat.mul_le_mul (by omega) lw
      refine go_set (i := 12) (ce_call (R := fun x : List Nat × List Nat => T (red (x.1 ++ x.2))) (pw wd k2, wd) (ok__law_join C) hr (ca_cons (cv 12) (ca1 (cv 4))) ⟨fun c hc => aw c (pw_mem hc), aw, by show (pw wd k2).length ≤ 300; omega, by show wd.length ≤ 300; omega⟩) (fun v w15 l15 hv => ?_) nd
      have hv : v = .str (S (pw wd (k2 + 1))) := hv
      subst hv
      exact go_nil ⟨by omega, _, rfl⟩
    rintro σ' w14 ⟨_, y2, rfl⟩
    rw [Int.toNat_natCast]
    have hq := hw.pw hL (m + 1) (by omega)
    have hql : (pw wd (m + 1 + 1)).length ≤ 15 := by have := hq.len; omega
    have hpl := hw.last_pw hL (m + 1)
    have hpl2 := congrArg List.length hpl
    rw [rep_len] at hpl2
    have hlq := lastR_ok hL hq.sg
    refine go_skip (ct_or2 (ct_neI (ce_lenT (l := lastR ls (pw wd (m + 1 + 1))) (C.free fr_len) (ce_call (R := fun x : List Nat × List Nat => T (lastR x.1 x.2)) (ls, pw wd (m + 1 + 1)) (ok_least_ring C) hr (ca_cons (cv 3) (ca1 (cv 12))) ⟨hL, h3, hq.r, hq.ne, by show (pw wd (m + 1 + 1)).length ≤ 100; omega⟩) (by omega)) (ce_mul (cv 11) (ce_lenT (l := lastR ls wd) (C.free fr_len) (ce_call (R := fun x : List Nat × List Nat => T (lastR x.1 x.2)) (ls, wd) (ok_least_ring C) hr (ca_cons (cv 3) (ca1 (cv 4))) ⟨hL, h3, hw.r, hw.ne, by show wd.length ≤ 100; omega⟩) (by omega)) (.inl (by omega)))) fun _ => ct_notB (ce_call (R := fun x : List Nat × List Nat => Bo (bas x.1 x.2)) (ls, pw wd (m + 1 + 1)) (ok_is_basic C) hr (ca_cons (cv 3) (ca1 (cv 12))) ⟨hL, h3, hq.r, hq.ne, by show (pw wd (m + 1 + 1)).length ≤ 100; omega⟩) ce_bl) ?_ fun w15 l15 => ?_
    · show (!decide (((lastR ls (pw wd (m + 1 + 1))).length : Int) = ((m + 1 + 1 : Nat) : Int) * ((lastR ls wd).length : Int)) || !decide (bas ls (pw wd (m + 1 + 1)) = false)) = false
      have e1 : decide (((lastR ls (pw wd (m + 1 + 1))).length : Int) = ((m + 1 + 1 : Nat) : Int) * ((lastR ls wd).length : Int)) = true := decide_eq_true (by rw [hpl2, Int.natCast_mul])
      have e2 : bas ls (pw wd (m + 1 + 1)) = false := by
        unfold bas
        refine decide_eq_false fun h => ?_
        rw [h] at hpl2
        have := Nat.eq_one_of_mul_eq_one_right hpl2.symm
        omega
      rw [e1, e2]; rfl
    refine go_set (i := 13) (ce_str []) (fun v w16 l16 hv => ?_) nd
    have hv : v = .str (S []) := hv
    subst hv
    refine go_forR1 (i := 10) (n := ((m + 1 + 1 : Nat) : Int)) (C.free fr_range) (cv 11) (by omega) (fun k2 σ' _ => k2 ≤ m + 1 + 1 ∧ ∃ y, σ' = [some (.ref a), some (.ref pen), some (.int k), some (.str (S ls)), some (.str (S wd)), some (.str (S ah)), some (.str (S ot)), some (.str (S (rootT wd))), some (.int (rootN wd)), some (.str (S wd)), y, some (.int ((m + 1 + 1 : Nat) : Int)), some (.str (S (pw wd (m + 1 + 1)))), some (.str (S (pw ot k2)))]) (fun w' l => ⟨Nat.zero_le _, _, rfl⟩) ?_ ?_ PassesOwn.never rfl nd
    · rintro k2 σ' w17 hk2 ⟨hk3, y3, rfl⟩
      have hp1 := pw_len ot k2
      have hp2 : k2 * ot.length ≤ 3 * 11 := Nat.mul_le_mul (by omega) lo
      refine go_set (i := 13) (ce_call (R := fun x : List Nat × List Nat => T (red (x.1 ++ x.2))) (pw ot k2, ot) (ok__law_join C) hr (ca_cons (cv 13) (ca1 (cv 6))) ⟨fun c hc => ao c (pw_mem hc), ao, by show (pw ot k2).length ≤ 300; omega, by show ot.length ≤ 300; omega⟩) (fun v w18 l18 hv => ?_) nd
      have hv : v = .str (S (pw ot (k2 + 1))) := hv
      subst hv
      exact go_nil ⟨by omega, _, rfl⟩
    rintro σ' w17 ⟨_, y3, rfl⟩
    rw [Int.toNat_natCast]
    have hp := ho.pw hL (m + 1) (by omega)
    have hpl3 : (pw ot (m + 1 + 1)).length ≤ 33 := by have := hp.len; omega
    have hrq := ring_len_le (pw wd (m + 1 + 1))
    refine go_skip (ct_and2 (ct_lt (ce_lenT (l := ring (pw wd (m + 1 + 1))) (C.free fr_len) (ce_call (R := fun l => T (ring l)) (pw wd (m + 1 + 1)) (ok__law_ring C) hr (ca1 (cv 12)) ⟨fun c hc => aw c (pw_mem hc), by omega⟩) (by omega)) ce_int) fun h => ct_neB (ce_call (R := fun x : List Nat × List Nat × List Nat => Bo (oneK x.1 x.2.1 x.2.2)) (ls, pw wd (m + 1 + 1), pw ot (m + 1 + 1)) (ok_are_of_one_kind C) hr (ca_cons (cv 3) (ca_cons (cv 12) (ca1 (cv 13)))) ⟨hL, h3, hq.r, hp.r, hq.ne, hp.ne, by show (pw wd (m + 1 + 1)).length ≤ 100; omega, by show (pw ot (m + 1 + 1)).length ≤ 100; omega, (hw.kok hL h2 (by omega) (by have := of_decide_eq_true h; omega)).2⟩) (ce_call (R := fun x : List Nat × List Nat × List Nat => Bo (oneK x.1 x.2.1 x.2.2)) (ls, wd, ot) (ok_are_of_one_kind C) hr (ca_cons (cv 3) (ca_cons (cv 4) (ca1 (cv 6)))) ⟨hL, h3, hw.r, ho.r, hw.ne, ho.ne, by show wd.length ≤ 100; omega, by show ot.length ≤ 100; omega, (hw.kok hL h2 (j := m + 1) (by omega) (by have := of_decide_eq_true h; omega)).1⟩)) ?_ fun w18 l18 => ?_
    · show (_ && !decide (oneK ls (pw wd (m + 1 + 1)) (pw ot (m + 1 + 1)) = oneK ls wd ot)) = false
      rw [hw.oneK hL ho, decide_eq_true rfl]; exact Bool.and_false _
    exact go_nil ⟨_, _, _, _, _, _, _, _, _, _, _, _, rfl⟩
  · rintro σ' w3 ⟨x2, x3, x4, x5, x6, x7, x8, x9, x10, x11, x12, x13, rfl⟩
    exact go_ret ce_bl fun v w' l hv => hv
end
end FW
set_option Elab.async false
set_option linter.all false
set_option maxRecDepth 100000
set_option maxHeartbeats 0
namespace FW
open PySem PySem.Spec PyProof.Rows L2 He
theorem facts {P : Program} {w : World} {K : PySem.W.Frag} {h : Heap} {mg : Str → Option Value} {f : Addr} (X : K.In h) (G : h.Ns mainGlobals mg) (hfa : mg ("law" : Str) = some (.ref f)) (c : SaysX fa xs fn K) :
    ∃ fd : FuncData, (∀ (s : Shared) (v : Value), BindsTo s fd ⟨[v], []⟩ [("script", v)]) ∧ ∀ base : Heap, K.In base → base.Ns mainGlobals mg → FnOk P w K mg base CX0 13 f fd ["script"] (spLaw K) := by
  have C : Tx K mg := ⟨c, h, X, G⟩
  obtain ⟨fd, F⟩ := c.def_ ix_law (d := ds_law) rfl
  have e := hfa.symm.trans (C.glo gl_law)
  cases e
  have b := FunD.bindsA (ps := ["script"]) F fun _ _ _ _ _ _ us hl => match us, hl with | [_], _ => rfl
  exact ⟨fd, fun s v => b s [v] rfl, fun base _ _ => ok_law C F⟩
end FW
open PySem PySem.W PySem.Calls PyProof.Rows
theorem PySem.Challenge.cw_foldedwords_k84_rings_and_leading_holds : PySem.Challenge.rw_foldedwords_k84_rings_and_leading.Holds := by
  w_on; o_law
  refine HandSHeadRun.head_any (r := OpenLaw.row PySem.Challenge.rw_foldedwords_k84_rings_and_leading) (q := view (OpenLaw.row PySem.Challenge.rw_foldedwords_k84_rings_and_leading).prog [78]) (H := FW.hk) (ob := FW.ob) (M := 8000) (loose := FW.nms) (d := HandSHeadRun.topDef (OpenLaw.row PySem.Challenge.rw_foldedwords_k84_rings_and_leading).prog 78) (kwd := []) FW.ob_eq
    (by kernel_rfl) (fun s => by kernel_rfl) FW.run (by kernel_rfl) (by kernel_rfl) (by kernel_rfl) (by rfl) (by first | assumption | decide +kernel) (by decide +kernel) ⟨rfl, rfl, rfl, rfl, rfl, by decide +kernel⟩ ?hw ?hc
  case hw => w_witness2
  case hc =>
    refine L2.walk_ofE (l := PySem.Challenge.rw_foldedwords_k84_rings_and_leading) (n := 63) (k := 13) (x := "script") (CX := L2.CX0) rfl (by decide) (by kernel_rfl) ⟨rfl, by decide, by decide⟩ ?F (fun _ _ _ _ z => z)
    intro w mg fa h Y G hmg0
    obtain ⟨K, KX, c⟩ := Y
    have hmg : mg ("law" : PySem.Str) = some (.ref fa) := by
      have e : (HandSHeadRun.topDef (OpenLaw.row PySem.Challenge.rw_foldedwords_k84_rings_and_leading).prog 78).name = ("law" : PySem.Str) := by kernel_rfl
      rw [← e]
      exact hmg0
    obtain ⟨fd, hb, hF⟩ := FW.facts (P := (PySem.Challenge.rw_foldedwords_k84_rings_and_leading).prog) (w := w) KX G hmg c
    exact ⟨K, fd, FW.spLaw K, KX, hb, fun H a ns hl _ hS => ⟨a, ns, rfl, hS, hl, fun _ => rfl⟩, hF⟩
