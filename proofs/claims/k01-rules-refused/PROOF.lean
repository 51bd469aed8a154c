import PyProof.Rows.All
import Wide.All
import OpenK.AllK
import Wide.FinOn
import HandS.ForMost
import HandS.TupAny
import HandS.Exc
import HandS.ExcOwn
import HandS.TryOnly
import HandS.TryMany
import HandS.WordsExc
import KE.GoesNew
import KE.GoesMore
import KE.GoesEnum
import HandS.Deep
import HandS.IsInst
import HandS.DictComp
import HandS.ExcField
import HandS.ExcInit
import HandS.OwnEq
import PySem.Challenge.RW_markedgone_k01_rules_refused
import HandS.Head0
import HandS.Head1
import HandS.Head2
import HandS.HeadHook1
import HandS.HeadHook2
import HandS.HeadEnd
set_option Elab.async false
set_option linter.all false
set_option maxRecDepth 100000
set_option maxHeartbeats 2000000
/-! A layer of data over the hand layer: what a name holds is plain data (PyData), a lasting fact, or an object of one's own. -/
namespace G
open PySem PySem.Spec PyProof.Rows L2

abbrev St := L2.St
abbrev V := L2.V
/-! ### fused readings -/
def wE (X : Cx) (e : Expr) : TE := fun σ H Q => ∃ t, PE X e t ∧ t σ H Q
def wT (X : Cx) (e : Expr) : TT := fun σ H Q => ∃ t, PT X e t ∧ t σ H Q
def wW (X : Cx) (e : Expr) : TT := fun σ H Q => ∃ t, PW X e t ∧ t σ H Q
def wA (X : Cx) (es : List Expr) : TA := fun σ H Q => ∃ t, PA X es t ∧ t σ H Q
def wS (X : Cx) (s : Stmt) : TS := fun D σ H => ∃ t, PS X s t ∧ t D σ H
def wB (X : Cx) (ss : List Stmt) : TS := fun D σ H => ∃ t, PSs X ss t ∧ t D σ H
def wI (X : Cx) (tg e : Expr) : TI := fun σ H R => ∃ t, PI X tg e t ∧ t σ H R
def wG (X : Cx) (tg : Expr) : TG := fun v σ H Q => ∃ t, PG X tg t ∧ t v σ H Q
section
variable {X : Cx}
theorem pwE {e : Expr} : PE X e (wE X e) := ⟨fun pins s σ H Q I ⟨t, h, q⟩ => h.run pins s σ H Q I q⟩
theorem pwT {e : Expr} : PT X e (wT X e) := ⟨fun pins s σ H Q I ⟨t, h, q⟩ => h.run pins s σ H Q I q⟩
theorem pwW {e : Expr} : PW X e (wW X e) := ⟨fun whole pins s σ H Q I ⟨t, h, q⟩ => h.run whole pins s σ H Q I q⟩
theorem pwA {e : List Expr} : PA X e (wA X e) := ⟨fun pos pins s σ H Q I ⟨t, h, q⟩ => h.run pos pins s σ H Q I q⟩
theorem pwS {e : Stmt} : PS X e (wS X e) := ⟨fun pins s σ H Q I ⟨t, h, q⟩ => h.run pins s σ H Q I q⟩
theorem pwB {e : List Stmt} : PSs X e (wB X e) := ⟨fun pins s σ H Q I ⟨t, h, q⟩ => h.run pins s σ H Q I q⟩
end

/-! ### data -/
/-- a text of a written one -/
abbrev S (x : String) : Str := Str.ofString x
/-- what is lasting -/
structure Ps where
  At : Hp → V → Prop
  mono : ∀ {F F' : Hp} {v : V}, Same F F' → At F v → At F' v
/-- what is one's own: at the known part F, in the heap H, the value v, over the places S -/
structure Rs where
  At : Hp → Hp → V → (Addr → Prop) → Prop
  mono : ∀ {F F' H H' : Hp} {v : V} {S : Addr → Prop}, Same F F' → (∀ a, S a → H' a = H a) → At F H v S → At F' H' v S
inductive Ct where
  | dat (d : PyData)
  | pin (P : Ps)
  | own (v : V) (R : Rs)
abbrev En := List (Option Ct)

section
variable {K : PySem.W.Frag} {F F' H H' : Hp}
theorem same_sqT {a : Addr} {xs : List V} (e : Same F F') (h : SqT K F a xs) : SqT K F' a xs := by
  rcases h with (h | ⟨o, h⟩) | h
  · exact .inl (.inl (e _ _ h))
  · exact .inl (.inr ⟨o, e _ _ h⟩)
  · exact .inr h
mutual
theorem dp_mono (e : Same F F') : ∀ {v : V} {d : PyData}, Dp K F v d → Dp K F' v d
  | _, _, .non => .non
  | _, _, .bl b => .bl b
  | _, _, .int i => .int i
  | _, _, .str x => .str x
  | _, _, .lst h hs => .lst (e.seq h) (dps_mono e hs)
  | _, _, .tup h hs => .tup (same_sqT e h) (dps_mono e hs)
theorem dps_mono (e : Same F F') : ∀ {vs : List V} {ds : List PyData}, DpAll K F vs ds → DpAll K F' vs ds
  | _, _, .nil => .nil
  | _, _, .cons h hs => .cons (dp_mono e h) (dps_mono e hs)
end
theorem dps_length : ∀ {vs : List V} {ds : List PyData}, DpAll K F vs ds → vs.length = ds.length
  | _, _, .nil => rfl
  | _, _, .cons _ hs => by rw [List.length_cons, List.length_cons, dps_length hs]
theorem dps_get : ∀ {vs : List V} {ds : List PyData}, DpAll K F vs ds → ∀ {i : Nat} {d : PyData}, ds[i]? = some d → ∃ v, vs[i]? = some v ∧ Dp K F v d
  | _, _, .nil, i, d, h => by simp at h
  | _, _, .cons (v := v) h hs, 0, d, e => by
    simp at e
    subst e
    exact ⟨v, rfl, h⟩
  | _, _, .cons h hs, i + 1, d, e => by
    obtain ⟨v, h1, h2⟩ := dps_get hs (i := i) (d := d) (by simpa using e)
    exact ⟨v, by simpa using h1, h2⟩
theorem dps_getv : ∀ {vs : List V} {ds : List PyData}, DpAll K F vs ds → ∀ {i : Nat} {v : V}, vs[i]? = some v → ∃ d, ds[i]? = some d ∧ Dp K F v d
  | _, _, .nil, i, d, h => by simp at h
  | _, _, .cons (d := d) h hs, 0, v, e => by
    simp at e
    subst e
    exact ⟨d, rfl, h⟩
  | _, _, .cons h hs, i + 1, d, e => by
    obtain ⟨v, h1, h2⟩ := dps_getv hs (i := i) (v := d) (by simpa using e)
    exact ⟨v, by simpa using h1, h2⟩
theorem dps_append : ∀ {vs ws : List V} {ds es : List PyData}, DpAll K F vs ds → DpAll K F ws es → DpAll K F (vs ++ ws) (ds ++ es)
  | _, _, _, _, .nil, h => h
  | _, _, _, _, .cons h hs, h' => .cons h (dps_append hs h')
theorem dps_take : ∀ {vs : List V} {ds : List PyData} (n : Nat), DpAll K F vs ds → DpAll K F (vs.take n) (ds.take n)
  | _, _, 0, _ => .nil
  | _, _, _ + 1, .nil => .nil
  | _, _, n + 1, .cons h hs => .cons h (dps_take n hs)
theorem dps_drop : ∀ {vs : List V} {ds : List PyData} (n : Nat), DpAll K F vs ds → DpAll K F (vs.drop n) (ds.drop n)
  | _, _, 0, h => h
  | _, _, _ + 1, .nil => .nil
  | _, _, n + 1, .cons h hs => dps_drop n hs
theorem dps_set {v : V} {d : PyData} (h : Dp K F v d) : ∀ {vs : List V} {ds : List PyData} (i : Nat), DpAll K F vs ds → DpAll K F (vs.set i v) (ds.set i d)
  | _, _, _, .nil => .nil
  | _, _, 0, .cons _ t => .cons h t
  | _, _, i + 1, .cons q t => .cons q (dps_set h i t)
theorem dps_reverse : ∀ {vs : List V} {ds : List PyData}, DpAll K F vs ds → DpAll K F vs.reverse ds.reverse
  | _, _, .nil => .nil
  | _, _, .cons h hs => by
    rw [List.reverse_cons, List.reverse_cons]
    exact dps_append (dps_reverse hs) (.cons h .nil)

def Hold (K : PySem.W.Frag) (F H : Hp) (v : V) (S : Addr → Prop) : Ct → Prop
  | .dat d => Dp K F v d ∧ ∀ a, ¬ S a
  | .pin P => P.At F v ∧ ∀ a, ¬ S a
  | .own v' R => v = v' ∧ R.At F H v S ∧ ∀ a, S a → F a = none ∧ ∃ o, H a = some o
theorem Hold.keep {v : V} {S : Addr → Prop} {c : Ct} (h : Hold K F H v S c) (e : Same F F') (eH : ∀ a, S a → H' a = H a) (eF : ∀ a, S a → F' a = none) : Hold K F' H' v S c := by
  cases c with
  | dat d => exact ⟨dp_mono e h.1, h.2⟩
  | pin P => exact ⟨P.mono e h.1, h.2⟩
  | own v' R =>
    obtain ⟨h0, h1, h2⟩ := h
    exact ⟨h0, R.mono e eH h1, fun a s => ⟨eF a s, by rw [eH a s]; exact (h2 a s).2⟩⟩
theorem Hold.no {v : V} {S : Addr → Prop} {c : Ct} (h : Hold K F H v S c) {a : Addr} (s : S a) : F a = none ∧ ∃ o, H a = some o := by
  cases c with
  | dat d => exact absurd s (h.2 a)
  | pin P => exact absurd s (h.2 a)
  | own v' R => exact h.2.2 a s
end

/-- the known part grows; all that stood stands -/
structure Grow (F H F' H' : Hp) : Prop where
  f : Same F F'
  h : Same H H'
  sub : Same F' H'
  new : ∀ a o, F' a = some o → F a = some o ∨ H a = none
/-- the same where what is one's own (at S) may change -/
structure Prog (F H : Hp) (S : Addr → Prop) (F' H' : Hp) (S' : Addr → Prop) : Prop where
  f : Same F F'
  keep : ∀ a o, H a = some o → ¬ S a → H' a = some o
  new : ∀ a o, F' a = some o → F a = some o ∨ H a = none ∨ S a
  s : ∀ a, S' a → S a ∨ H a = none
section
variable {F H F1 H1 F2 H2 : Hp} {S S1 S2 : Addr → Prop}
theorem Grow.refl (h : Same F H) : Grow F H F H := ⟨Same.refl F, Same.refl H, h, fun _ _ e => .inl e⟩
theorem Grow.trans (a : Grow F H F1 H1) (b : Grow F1 H1 F2 H2) : Grow F H F2 H2 :=
  ⟨a.f.trans b.f, a.h.trans b.h, b.sub, fun c o e => by
    rcases b.new c o e with z | z
    · exact a.new c o z
    · exact .inr (a.h.free z)⟩
/-- a new object, known from now on -/
theorem Grow.laid {p : Addr} {o : HO} (h : Same F H) (n : H p = none) : Grow F H (upd F p o) (upd H p o) := by
  have nF : F p = none := h.free n
  refine ⟨fun b u e => ?_, fun b u e => ?_, fun b u e => ?_, fun b u e => ?_⟩
  · rw [upd_ne (ne_of_none e nF)]
    exact e
  · rw [upd_ne (ne_of_none e n)]
    exact e
  · by_cases hb : b = p
    · subst hb
      rw [upd_same] at e ⊢
      exact e
    · rw [upd_ne hb] at e ⊢
      exact h b u e
  · by_cases hb : b = p
    · subst hb
      exact .inr n
    · rw [upd_ne hb] at e
      exact .inl e
/-- a new object, not known (yet) -/
theorem Grow.made {p : Addr} {o : HO} (h : Same F H) (n : H p = none) : Grow F H F (upd H p o) :=
  ⟨Same.refl F, fun b u e => by rw [upd_ne (ne_of_none e n)]; exact e, fun b u e => by rw [upd_ne (ne_of_none (h b u e) n)]; exact h b u e, fun _ _ e => .inl e⟩
theorem Grow.prog (g : Grow F H F1 H1) : Prog F H S F1 H1 S :=
  ⟨g.f, fun a o e _ => g.h a o e, fun a o e => (g.new a o e).elim .inl fun z => .inr (.inl z), fun a s => .inl s⟩
theorem Prog.refl : Prog F H S F H S := ⟨Same.refl F, fun _ _ e _ => e, fun _ _ e => .inl e, fun _ s => .inl s⟩
theorem Prog.none {a : Addr} (p : Prog F H S F1 H1 S1) (n : H1 a = none) : H a = none ∨ S a := by
  by_cases s : S a
  · exact .inr s
  · left
    cases e : H a with
    | none => rfl
    | some o =>
      rw [p.keep a o e s] at n
      cases n
theorem Prog.trans (p : Prog F H S F1 H1 S1) (q : Prog F1 H1 S1 F2 H2 S2) : Prog F H S F2 H2 S2 :=
  ⟨p.f.trans q.f, fun a o e s => q.keep a o (p.keep a o e s) fun s1 => (p.s a s1).elim s fun z => (by rw [e] at z; cases z),
    fun a o e => by
      rcases q.new a o e with z | z | z
      · exact p.new a o z
      · exact (p.none z).elim (fun z => .inr (.inl z)) fun z => .inr (.inr z)
      · exact (p.s a z).elim (fun z => .inr (.inr z)) fun z => .inr (.inl z),
    fun a s => by
      rcases q.s a s with z | z
      · exact p.s a z
      · exact (p.none z).elim .inr .inl⟩
theorem Prog.weak {S' S1' : Addr → Prop} (p : Prog F H S F1 H1 S1) (h : ∀ a, S a → S' a) (h1 : ∀ a, S1' a → S1 a ∨ S' a) : Prog F H S' F1 H1 S1' :=
  ⟨p.f, fun a o e s => p.keep a o e fun z => s (h a z), fun a o e => (p.new a o e).elim .inl fun z => .inr (z.elim .inl fun z => .inr (h a z)), fun a s => (h1 a s).elim (fun z => (p.s a z).elim (fun z => .inl (h a z)) .inr) .inl⟩
end

abbrev Foot := Nat → Addr → Prop
def tot (S : Foot) : Addr → Prop := fun a => ∃ i, S i a
/-- the situation: slots, their contents, the places of what is one's own -/
structure Sit (K : PySem.W.Frag) (F H : Hp) (σ : St) (S : Foot) (env : En) : Prop where
  sub : Same F H
  slot : ∀ i c, env[i]? = some (some c) → ∃ v, σ[i]? = some (some v) ∧ Hold K F H v (S i) c
  dis : ∀ i j a, S i a → S j a → i = j
  len : σ.length = env.length
  emp : ∀ i, (∀ c, env[i]? ≠ some (some c)) → ∀ a, ¬ S i a
section
variable {K : PySem.W.Frag} {F H F' H' : Hp} {σ : St} {S : Foot} {env : En}
theorem Sit.no (s : Sit K F H σ S env) {i : Nat} {a : Addr} (h : S i a) : F a = none ∧ ∃ o, H a = some o := by
  have : ∃ c, env[i]? = some (some c) := by
    by_cases z : ∃ c, env[i]? = some (some c)
    · exact z
    · exact absurd h (s.emp i (fun c e => z ⟨c, e⟩) a)
  obtain ⟨c, e⟩ := this
  obtain ⟨v, _, hh⟩ := s.slot i c e
  exact hh.no h
theorem Sit.grow (s : Sit K F H σ S env) (g : Grow F H F' H') : Sit K F' H' σ S env := by
  refine ⟨g.sub, fun i c e => ?_, s.dis, s.len, s.emp⟩
  obtain ⟨v, e1, h1⟩ := s.slot i c e
  refine ⟨v, e1, h1.keep g.f (fun a z => ?_) fun a z => ?_⟩
  · obtain ⟨_, o, ho⟩ := h1.no z
    rw [ho, g.h a o ho]
  · obtain ⟨nF, o, ho⟩ := h1.no z
    cases q : F' a with
    | none => rfl
    | some u =>
      rcases g.new a u q with y | y
      · rw [nF] at y
        cases y
      · rw [ho] at y
        cases y
/-- a slot is stored -/
theorem Sit.set (s : Sit K F H σ S env) {i : Nat} {v : V} {c : Ct} {Sv : Addr → Prop} (hi : i < env.length) (h : Hold K F H v Sv c) (d : ∀ j a, S j a → ¬ Sv a) :
    Sit K F H (σ.set i (some v)) (fun j => if j = i then Sv else S j) (env.set i (some c)) := by
  have hl := s.len
  refine ⟨s.sub, fun j c' e => ?_, fun j k a hj hk => ?_, by simp [hl], fun j hj a => ?_⟩
  · by_cases hji : j = i
    · subst hji
      rw [List.getElem?_set_self hi] at e
      cases e
      refine ⟨v, List.getElem?_set_self (by omega), ?_⟩
      simpa using h
    · rw [List.getElem?_set_ne (Ne.symm hji)] at e
      obtain ⟨v', e', h'⟩ := s.slot j c' e
      refine ⟨v', by rw [List.getElem?_set_ne (Ne.symm hji)]; exact e', ?_⟩
      simpa [hji] using h'
  · by_cases hji : j = i
    · by_cases hki : k = i
      · rw [hji, hki]
      · simp only [hji, hki, if_true, if_false] at hj hk
        exact absurd hj (d k a hk)
    · by_cases hki : k = i
      · simp only [hji, hki, if_true, if_false] at hj hk
        exact absurd hk (d j a hj)
      · simp only [hji, hki, if_false] at hj hk
        exact s.dis j k a hj hk
  · by_cases hji : j = i
    · subst hji
      exact absurd (List.getElem?_set_self hi) (hj c)
    · simp only [hji, if_false]
      exact s.emp j (fun c' e => hj c' (by rw [List.getElem?_set_ne (Ne.symm hji)]; exact e)) a
theorem tot_set {i : Nat} {Sv : Addr → Prop} {a : Addr} (h : tot (fun j => if j = i then Sv else S j) a) : tot S a ∨ Sv a := by
  obtain ⟨j, h⟩ := h
  by_cases e : j = i
  · simp only [e, if_true] at h
    exact .inr h
  · simp only [e, if_false] at h
    exact .inl ⟨j, h⟩
/-- a slot is emptied -/
theorem Sit.drop (s : Sit K F H σ S env) (i : Nat) {o : Option V} : Sit K F H (σ.set i o) (fun j => if j = i then fun _ => False else S j) (env.set i none) := by
  have hl := s.len
  refine ⟨s.sub, fun j c' e => ?_, fun j k a hj hk => ?_, by simp [hl], fun j hj a => ?_⟩
  · by_cases hji : j = i
    · subst hji
      by_cases hi : j < env.length
      · rw [List.getElem?_set_self hi] at e
        cases e
      · rw [List.getElem?_eq_none (by simp; omega)] at e
        cases e
    · rw [List.getElem?_set_ne (Ne.symm hji)] at e
      obtain ⟨v', e', h'⟩ := s.slot j c' e
      refine ⟨v', by rw [List.getElem?_set_ne (Ne.symm hji)]; exact e', ?_⟩
      simpa [hji] using h'
  · by_cases hji : j = i
    · simp only [hji, if_true] at hj
    · by_cases hki : k = i
      · simp only [hki, if_true] at hk
      · simp only [hji, hki, if_false] at hj hk
        exact s.dis j k a hj hk
  · by_cases hji : j = i
    · simp only [hji, if_true]
      exact fun z => z
    · simp only [hji, if_false]
      exact s.emp j (fun c' e => hj c' (by rw [List.getElem?_set_ne (Ne.symm hji)]; exact e)) a
end
end G

set_option maxRecDepth 100000
set_option maxHeartbeats 2000000
namespace G
open PySem PySem.Spec PyProof.Rows L2

/-- an exception: its class, its field -/
structure Xc where
  cls : Addr
  fld : Option (Str × PyData)
def XHold (K : PySem.W.Frag) (F H : Hp) (S : Addr → Prop) (cls : Value) (od : Option Addr) (x : Xc) : Prop :=
  cls = .ref x.cls ∧ match x.fld with
    | none => od = none
    | some (f, d) => ∃ p v, od = some p ∧ F p = some (.xd [(f, v)]) ∧ Dp K F v d

/-! ### judgements -/
/-- pure: the value's content is c; what stood stands -/
def VC (X : Cx) (e : Expr) (env : En) (c : Ct) : Prop := ∀ (F H : Hp) (σ : St) (S : Foot), Sit X.K F H σ S env → ∀ Q : VK,
  (∀ v F' H' Sv, Grow F H F' H' → Hold X.K F' H' v Sv c → (∀ a, Sv a → H a = none) → Q v H') → wE X e σ H Q
def TC (X : Cx) (e : Expr) (env : En) (b : Bool) : Prop := ∀ (F H : Hp) (σ : St) (S : Foot), Sit X.K F H σ S env → ∀ Q : Bool → Hp → Prop,
  (∀ F' H', Grow F H F' H' → Q b H') → wT X e σ H Q
def WC (X : Cx) (e : Expr) (env : En) (b : Bool) : Prop := ∀ (F H : Hp) (σ : St) (S : Foot), Sit X.K F H σ S env → ∀ Q : Bool → Hp → Prop,
  (∀ F' H', Grow F H F' H' → Q b H') → wW X e σ H Q
/-- persistent contents of several values -/
inductive Holds (K : PySem.W.Frag) (F : Hp) : List V → List Ct → Prop
  | nil : Holds K F [] []
  | dat {v d vs cs} : Dp K F v d → Holds K F vs cs → Holds K F (v :: vs) (.dat d :: cs)
  | pin {v P vs cs} : P.At F v → Holds K F vs cs → Holds K F (v :: vs) (.pin P :: cs)
theorem Holds.mono {K : PySem.W.Frag} {F F' : Hp} (e : Same F F') : ∀ {vs : List V} {cs : List Ct}, Holds K F vs cs → Holds K F' vs cs
  | _, _, .nil => .nil
  | _, _, .dat h hs => .dat (dp_mono e h) (Holds.mono e hs)
  | _, _, .pin h hs => .pin (Ps.mono _ e h) (Holds.mono e hs)
def AC (X : Cx) (es : List Expr) (env : En) (cs : List Ct) : Prop := ∀ (F H : Hp) (σ : St) (S : Foot), Sit X.K F H σ S env → ∀ Q : List V → Hp → Prop,
  (∀ vs F' H', Grow F H F' H' → Holds X.K F' vs cs → Q vs H') → wA X es σ H Q
/-- with effects: Q for the value and the slots' contents, RX for what is raised -/
def EC (X : Cx) (W : WX) (e : Expr) (Q : Ct → En → Prop) (RX : Xc → En → Prop) (env : En) : Prop := ∀ (F H : Hp) (σ : St) (S : Foot), Sit X.K F H σ S env → ∀ QV : VK,
  (∀ v F' H' S' Sv c env', Prog F H (tot S) F' H' (fun a => tot S' a ∨ Sv a) → Sit X.K F' H' σ S' env' → Hold X.K F' H' v Sv c → (∀ i a, S' i a → ¬ Sv a) → Q c env' → QV v H') →
  (∀ cls od F' H' S' x env', Prog F H (tot S) F' H' (tot S') → Sit X.K F' H' σ S' env' → XHold X.K F' H' (tot S') cls od x → RX x env' → W cls od σ H') → wE X e σ H QV
def TEC (X : Cx) (W : WX) (e : Expr) (Q : Bool → En → Prop) (RX : Xc → En → Prop) (env : En) : Prop := ∀ (F H : Hp) (σ : St) (S : Foot), Sit X.K F H σ S env → ∀ QV : Bool → Hp → Prop,
  (∀ b F' H' S' env', Prog F H (tot S) F' H' (tot S') → Sit X.K F' H' σ S' env' → Q b env' → QV b H') →
  (∀ cls od F' H' S' x env', Prog F H (tot S) F' H' (tot S') → Sit X.K F' H' σ S' env' → XHold X.K F' H' (tot S') cls od x → RX x env' → W cls od σ H') → wT X e σ H QV
structure DE where
  nx : En → Prop
  rt : Ct → En → Prop
  bk : En → Prop := fun _ => False
  ct : En → Prop := fun _ => False
  ex : Xc → En → Prop := fun _ _ => False
structure Mee (K : PySem.W.Frag) (F0 H0 : Hp) (S0 : Addr → Prop) (D : DE) (E : Ends) (W : WX) : Prop where
  nx : ∀ F' H' σ' S' env', Prog F0 H0 S0 F' H' (tot S') → Sit K F' H' σ' S' env' → D.nx env' → E.nx σ' H'
  rt : ∀ v F' H' σ' S' Sv c env', Prog F0 H0 S0 F' H' (fun a => tot S' a ∨ Sv a) → Sit K F' H' σ' S' env' → Hold K F' H' v Sv c → (∀ i a, S' i a → ¬ Sv a) → D.rt c env' → E.rt v H'
  bk : ∀ F' H' σ' S' env', Prog F0 H0 S0 F' H' (tot S') → Sit K F' H' σ' S' env' → D.bk env' → E.bk σ' H'
  ct : ∀ F' H' σ' S' env', Prog F0 H0 S0 F' H' (tot S') → Sit K F' H' σ' S' env' → D.ct env' → E.ct σ' H'
  ex : ∀ cls od F' H' σ' S' x env', Prog F0 H0 S0 F' H' (tot S') → Sit K F' H' σ' S' env' → XHold K F' H' (tot S') cls od x → D.ex x env' → W cls od σ' H'
def WS (X : Cx) (W : WX) (s : Stmt) (D : DE) (env : En) : Prop := ∀ (F H : Hp) (σ : St) (S : Foot), Sit X.K F H σ S env → ∀ E : Ends, Mee X.K F H (tot S) D E W → wS X s E σ H
def WB (X : Cx) (W : WX) (s : List Stmt) (D : DE) (env : En) : Prop := ∀ (F H : Hp) (σ : St) (S : Foot), Sit X.K F H σ S env → ∀ E : Ends, Mee X.K F H (tot S) D E W → wB X s E σ H
section
variable {K : PySem.W.Frag} {F0 H0 F H : Hp} {S0 S1 : Addr → Prop} {D D' : DE} {E : Ends} {W : WX}
theorem Mee.from (m : Mee K F0 H0 S0 D E W) (p : Prog F0 H0 S0 F H S1) : Mee K F H S1 D E W :=
  ⟨fun F' H' σ' S' env' q => m.nx F' H' σ' S' env' (p.trans q), fun v F' H' σ' S' Sv c env' q => m.rt v F' H' σ' S' Sv c env' (p.trans q), fun F' H' σ' S' env' q => m.bk F' H' σ' S' env' (p.trans q),
    fun F' H' σ' S' env' q => m.ct F' H' σ' S' env' (p.trans q), fun cls od F' H' σ' S' x env' q => m.ex cls od F' H' σ' S' x env' (p.trans q)⟩
end

section
variable {X : Cx} {W : WX} {env : En} {c c1 c2 : Ct} {d d1 d2 : PyData} {e e1 e2 a b : Expr} {es : List Expr} {pos p : Pos}
/-- a pure one among those with effects -/
theorem EC.pure {Q : Ct → En → Prop} {RX : Xc → En → Prop} (h : VC X e env c) (q : Q c env) : EC X W e Q RX env := fun F H σ S s QV k _ =>
  h F H σ S s _ fun v F' H' Sv g hv fr => k v F' H' S Sv c env
    ⟨g.f, fun a o e _ => g.h a o e, fun a o e => (g.new a o e).elim .inl fun z => .inr (.inl z), fun a z => z.elim .inl fun z => .inr (fr a z)⟩ (s.grow g) hv
    (fun i a z y => by obtain ⟨_, o, ho⟩ := s.no z; rw [fr a y] at ho; cases ho) q
theorem TEC.pure {b : Bool} {Q : Bool → En → Prop} {RX : Xc → En → Prop} (h : TC X e env b) (q : Q b env) : TEC X W e Q RX env := fun F H σ S s QV k _ =>
  h F H σ S s _ fun F' H' g => k b F' H' S env g.prog (s.grow g) q

/-! ### names, constants -/
theorem vc_dat (i : Nat) (h : env[i]? = some (some (.dat d)) := by rfl) {x : Str} (hN : X.N[i]? = some x := by rfl) (hv : Vis X.env.scope x := by first | exact Or.inl rfl | exact Or.inr (Or.inl rfl) | exact Or.inr (Or.inr rfl)) (hd : (x == ("__debug__" : Str)) = false := by decide)
    (hcd : (x == ("__classdict__" : Str)) = false := by decide) : VC X (.Name x pos) env (.dat d) := fun F H σ S s Q k => by
  obtain ⟨v, e1, h1⟩ := s.slot i _ h
  exact ⟨_, pe_var hN hv hd hcd, v, e1, k v F H (S i) (Grow.refl s.sub) h1 fun a z => absurd z (h1.2 a)⟩
theorem vc_pin {P : Ps} (i : Nat) (h : env[i]? = some (some (.pin P)) := by rfl) {x : Str} (hN : X.N[i]? = some x := by rfl) (hv : Vis X.env.scope x := by first | exact Or.inl rfl | exact Or.inr (Or.inl rfl) | exact Or.inr (Or.inr rfl)) (hd : (x == ("__debug__" : Str)) = false := by decide)
    (hcd : (x == ("__classdict__" : Str)) = false := by decide) : VC X (.Name x pos) env (.pin P) := fun F H σ S s Q k => by
  obtain ⟨v, e1, h1⟩ := s.slot i _ h
  exact ⟨_, pe_var hN hv hd hcd, v, e1, k v F H (S i) (Grow.refl s.sub) h1 fun a z => absurd z (h1.2 a)⟩
theorem vc_val {t : TE} {v : V} {c : Ct} (h : PE X e t) (ht : ∀ σ H (Q : VK), Q v H → t σ H Q) (hc : ∀ F H, Hold X.K F H v (fun _ => False) c) : VC X e env c := fun F H σ S s Q k =>
  ⟨t, h, ht σ H Q (k v F H _ (Grow.refl s.sub) (hc F H) fun _ z => z.elim)⟩
theorem vc_int {i : Int} {j : Nat} : VC X (.Constant (.int i) j pos) env (.dat (.int i)) := vc_val pe_int (fun _ _ _ q => q) fun _ _ => ⟨.int i, fun _ z => z⟩
theorem vc_bl {i : Bool} {j : Nat} : VC X (.Constant (.bool i) j pos) env (.dat (.bool i)) := vc_val pe_bl (fun _ _ _ q => q) fun _ _ => ⟨.bl i, fun _ z => z⟩
theorem vc_non {j : Nat} : VC X (.Constant .none j pos) env (.dat .none) := vc_val pe_non (fun _ _ _ q => q) fun _ _ => ⟨.non, fun _ z => z⟩
theorem vc_str {x : Str} {j : Nat} : VC X (.Constant (.str x) j pos) env (.dat (.str x)) := vc_val pe_str (fun _ _ _ q => q) fun _ _ => ⟨.str x, fun _ z => z⟩
/-- a module's constant -/
theorem vc_glob {x : Str} {v : V} {u : Value} (hm : X.mg x = some u) (r : RelV v u) (hd : ∀ F, Dp X.K F v d) (hg : Gl X x := by rfl) (hb : (x == ("__debug__" : Str)) = false := by decide) : VC X (.Name x pos) env (.dat d) :=
  vc_val (pe_glob hg hm r hb) (fun _ _ _ q => q) fun F _ => ⟨hd F, fun _ z => z⟩

/-! ### lists of arguments, displays -/
theorem ac_nil : AC X [] env [] := fun F H σ S s Q k => ⟨_, pa_nil, k [] F H (Grow.refl s.sub) .nil⟩
theorem ac_cons {cs : List Ct} (h : VC X e env (.dat d)) (hr : AC X es env cs) (hs : starEach (e :: es) X.env = (false, eval e X.env) :: starEach es X.env := by rfl) : AC X (e :: es) env (.dat d :: cs) := fun F H σ S s Q k =>
  ⟨_, pa_cons pwE pwA hs, h F H σ S s _ fun v F1 H1 _ g1 hv _ => hr F1 H1 σ S (s.grow g1) _ fun vs F2 H2 g2 hvs => k _ F2 H2 (g1.trans g2) (.dat (dp_mono g2.f hv.1) hvs)⟩
/-- arguments that are all data -/
def DC (X : Cx) (es : List Expr) (env : En) (ds : List PyData) : Prop := AC X es env (ds.map .dat)
theorem dc_nil : DC X [] env [] := ac_nil
theorem dc_cons {ds : List PyData} (h : VC X e env (.dat d)) (hr : DC X es env ds) (hs : starEach (e :: es) X.env = (false, eval e X.env) :: starEach es X.env := by rfl) : DC X (e :: es) env (d :: ds) := ac_cons h hr hs
theorem ac_pin {cs : List Ct} {P : Ps} (h : VC X e env (.pin P)) (hr : AC X es env cs) (hs : starEach (e :: es) X.env = (false, eval e X.env) :: starEach es X.env := by rfl) : AC X (e :: es) env (.pin P :: cs) := fun F H σ S s Q k =>
  ⟨_, pa_cons pwE pwA hs, h F H σ S s _ fun v F1 H1 _ g1 hv _ => hr F1 H1 σ S (s.grow g1) _ fun vs F2 H2 g2 hvs => k _ F2 H2 (g1.trans g2) (.pin (P.mono g2.f hv.1) hvs)⟩
theorem Holds.dps {K : PySem.W.Frag} {F : Hp} : ∀ {vs : List V} {ds : List PyData}, Holds K F vs (ds.map .dat) → DpAll K F vs ds
  | _, [], .nil => .nil
  | _, _ :: _, .dat h hs => .cons h (Holds.dps hs)
theorem Holds.length {K : PySem.W.Frag} {F : Hp} : ∀ {vs : List V} {cs : List Ct}, Holds K F vs cs → vs.length = cs.length
  | _, _, .nil => rfl
  | _, _, .dat _ hs => by rw [List.length_cons, List.length_cons, hs.length]
  | _, _, .pin _ hs => by rw [List.length_cons, List.length_cons, hs.length]
/-- a list of one's own, its items known data -/
def olst (K : PySem.W.Frag) (ds : List PyData) : Rs where
  At F H v S := ∃ a xs, v = .ref a ∧ H a = some (.lst xs) ∧ DpAll K F xs ds ∧ ∀ b, S b ↔ b = a
  mono := fun {F F' H H' v S} e eH ⟨a, xs, h1, h2, h3, h4⟩ => ⟨a, xs, h1, by rw [eH a ((h4 a).mpr rfl)]; exact h2, dps_mono e h3, h4⟩
theorem olst_new {K : PySem.W.Frag} {F H : Hp} {p : Addr} {xs : List V} {ds : List PyData} (hF : Same F H) (n : H p = none) (h : DpAll K F xs ds) : Hold K F (upd H p (.lst xs)) (.ref p) (fun b => b = p) (.own (.ref p) (olst K ds)) :=
  ⟨rfl, ⟨p, xs, rfl, upd_same, h, fun _ => Iff.rfl⟩, fun a z => by subst z; exact ⟨hF.free n, _, upd_same⟩⟩
/-- fresh results: an own one is told at whatever value -/
def VO (X : Cx) (e : Expr) (env : En) (R : Rs) : Prop := ∀ (F H : Hp) (σ : St) (S : Foot), Sit X.K F H σ S env → ∀ Q : VK,
  (∀ v F' H' Sv, Grow F H F' H' → Hold X.K F' H' v Sv (.own v R) → (∀ a, Sv a → H a = none) → Q v H') → wE X e σ H Q
theorem vc_tup {ds : List PyData} {x1} (h : DC X es env ds) (hl : ds.length ≤ 1000 := by exact Nat.le_of_ble_eq_true rfl) : VC X (.Tuple es x1 pos) env (.dat (.tuple ds)) := fun F H σ S s Q k =>
  ⟨_, pe_tup pwA, h F H σ S s _ fun vs F1 H1 g1 hv => by
    have hd := hv.dps
    have ln := dps_length hd
    refine ⟨by rw [ln]; exact Nat.le_of_lt (small1000 hl), fun p hp => ?_⟩
    have g2 := Grow.laid (o := .tup vs) g1.sub hp
    exact k (.ref p) _ _ (fun _ => False) (g1.trans g2) ⟨.tup (SqT.of upd_same) (dps_mono g2.f hd), fun _ z => z⟩ fun _ z => z.elim⟩
theorem vo_lst {ds : List PyData} (h : DC X es env ds) (hl : ds.length ≤ 1000 := by exact Nat.le_of_ble_eq_true rfl) : VO X (.List es pos) env (olst X.K ds) := fun F H σ S s Q k =>
  ⟨_, pe_lst pwA, h F H σ S s _ fun vs F1 H1 g1 hv => by
    have hd := hv.dps
    have ln := dps_length hd
    refine ⟨by rw [ln]; exact Nat.le_of_lt (small1000 hl), fun p hp => ?_⟩
    have g2 := Grow.made (F := F1) (o := .lst vs) g1.sub hp
    exact k (.ref p) _ _ _ (g1.trans g2) (olst_new g1.sub hp hd) fun a z => by subst z; exact g1.h.free hp⟩
/-- a new list is known data from now on -/
theorem VO.dat {ds : List PyData} (h : VO X e env (olst X.K ds)) : VC X e env (.dat (.list ds)) := fun F H σ S s Q k =>
  h F H σ S s _ fun v F1 H1 Sv g hv fr => by
    obtain ⟨_, ⟨a, xs, rfl, ha, hd, hS⟩, hn⟩ := hv
    have nF : F1 a = none := (hn a ((hS a).mpr rfl)).1
    have sf : Same F1 (upd F1 a (.lst xs)) := fun b o e => by rw [upd_ne (ne_of_none e nF)]; exact e
    refine k (.ref a) (upd F1 a (.lst xs)) H1 (fun _ => False) ⟨g.f.trans sf, g.h, fun b o e => ?_, fun b o e => ?_⟩ ⟨.lst (SqL.of upd_same) (dps_mono sf hd), fun _ z => z⟩ fun _ z => z.elim
    · by_cases hb : b = a
      · subst hb
        rw [upd_same] at e
        cases e
        exact ha
      · rw [upd_ne hb] at e
        exact g.sub b o e
    · by_cases hb : b = a
      · subst hb
        exact .inr (fr b ((hS b).mpr rfl))
      · rw [upd_ne hb] at e
        exact g.new b o e
theorem vc_lst {ds : List PyData} (h : DC X es env ds) (hl : ds.length ≤ 1000 := by exact Nat.le_of_ble_eq_true rfl) : VC X (.List es pos) env (.dat (.list ds)) := (vo_lst h hl).dat

/-! ### operations -/
abbrev KQ (K : PySem.W.Frag) (F H : Hp) (c : Ct) (Q : VK) : Prop := ∀ v F' H' Sv, Grow F H F' H' → Hold K F' H' v Sv c → (∀ a, Sv a → H a = none) → Q v H'
def OpD (K : PySem.W.Frag) (r : R2) (d1 d2 : PyData) (d : PyData) : Prop := ∀ (F H : Hp) (v1 v2 : V), Same F H → Dp K F v1 d1 → Dp K F v2 d2 → ∀ Q : VK, (∀ v F' H', Grow F H F' H' → Dp K F' v d → Q v H') → r v1 v2 H Q
theorem two {a b : Expr} (ha : VC X a env (.dat d1)) (hb : VC X b env (.dat d2)) {F H : Hp} {σ : St} {S : Foot} (s : Sit X.K F H σ S env) {k : V → V → Hp → Prop}
    (hk : ∀ v1 v2 F' H', Grow F H F' H' → Dp X.K F' v1 d1 → Dp X.K F' v2 d2 → k v1 v2 H') : wE X a σ H fun x H1 => wE X b σ H1 fun y H2 => k x y H2 :=
  ha F H σ S s _ fun v1 F1 H1 _ g1 h1 _ => hb F1 H1 σ S (s.grow g1) _ fun v2 F2 H2 _ g2 h2 _ => hk v1 v2 F2 H2 (g1.trans g2) (dp_mono g2.f h1.1) h2.1
theorem vc_op {op : Operator} {r : R2} (ho : OpR X (binaryOp op) r) (od : OpD X.K r d1 d2 d) (ha : VC X a env (.dat d1)) (hb : VC X b env (.dat d2)) : VC X (.BinOp a op b pos) env (.dat d) := fun F H σ S s Q k =>
  ⟨_, pe_op ho pwE pwE, two ha hb s fun v1 v2 F1 H1 g h1 h2 => od F1 H1 v1 v2 g.sub h1 h2 Q fun v F' H' g' hv => k v F' H' (fun _ => False) (g.trans g') ⟨hv, fun _ z => z⟩ fun _ z => z.elim⟩
theorem vc_cmp {op : CmpOp} {r : R2} (ho : OpR X (compareOp op) r) (od : OpD X.K r d1 d2 d) (ha : VC X a env (.dat d1)) (hb : VC X b env (.dat d2)) (hm : behindInMarks op b = false := by first | exact nomark _ | rfl) : VC X (.Compare a [op] [b] pos) env (.dat d) := fun F H σ S s Q k =>
  ⟨_, pe_cmpR ho pwE pwE hm, two ha hb s fun v1 v2 F1 H1 g h1 h2 => od F1 H1 v1 v2 g.sub h1 h2 Q fun v F' H' g' hv => k v F' H' (fun _ => False) (g.trans g') ⟨hv, fun _ z => z⟩ fun _ z => z.elim⟩
theorem tc_cmp {op : CmpOp} {r : R2} {b' : Bool} (ho : OpR X (compareOp op) r) (od : OpD X.K r d1 d2 (.bool b')) (ha : VC X a env (.dat d1)) (hb : VC X b env (.dat d2)) (hm : behindInMarks op b = false := by first | exact nomark _ | rfl) : TC X (.Compare a [op] [b] pos) env b' := fun F H σ S s Q k =>
  ⟨_, pt_cmpR ho pwE pwE hm, two ha hb s fun v1 v2 F1 H1 g h1 h2 => od F1 H1 v1 v2 g.sub h1 h2 _ fun v F' H' g' hv => by
    cases hv
    exact ⟨b', rfl, k F' H' (g.trans g')⟩⟩
theorem vc_chain {op op' : CmpOp} {r r' : R2} {b1 b2 : Bool} {c : Expr} {d3 : PyData} (ho : OpR X (compareOp op) r) (ho' : OpR X (compareOp op') r') (od : OpD X.K r d1 d2 (.bool b1)) (od' : OpD X.K r' d2 d3 (.bool b2)) (ha : VC X a env (.dat d1)) (hb : VC X b env (.dat d2)) (hc : VC X c env (.dat d3))
    (hm : lastMarks [op, op'] [b, c] = false := by with_unfolding_all rfl) : VC X (.Compare a [op, op'] [b, c] pos) env (.dat (.bool (b1 && b2))) := by
  intro F H σ S s Q k
  refine ⟨_, pe_chain ho ho' pwE pwE pwE hm, two ha hb s fun v1 v2 F1 H1 g h1 h2 => ?_⟩
  refine od F1 H1 v1 v2 g.sub h1 h2 _ fun v F2 H2 g2 hv => ?_
  cases hv
  refine ⟨b1, rfl, ?_⟩
  cases b1 with
  | false => exact k _ F2 H2 (fun _ => False) (g.trans g2) ⟨.bl _, fun _ z => z⟩ fun _ z => z.elim
  | true =>
    refine hc F2 H2 σ S (s.grow (g.trans g2)) _ fun v3 F3 H3 _ g3 h3 _ => ?_
    refine od' F3 H3 v2 v3 g3.sub (dp_mono (g2.f.trans g3.f) h2) h3.1 Q fun v F' H' g' hv => ?_
    cases hv
    exact k _ F' H' (fun _ => False) (((g.trans g2).trans g3).trans g') ⟨.bl _, fun _ z => z⟩ fun _ z => z.elim
theorem tc_chain {op op' : CmpOp} {r r' : R2} {b1 b2 : Bool} {c : Expr} {d3 : PyData} (ho : OpR X (compareOp op) r) (ho' : OpR X (compareOp op') r') (od : OpD X.K r d1 d2 (.bool b1)) (od' : OpD X.K r' d2 d3 (.bool b2)) (ha : VC X a env (.dat d1)) (hb : VC X b env (.dat d2)) (hc : VC X c env (.dat d3))
    (hm : lastMarks [op, op'] [b, c] = false := by with_unfolding_all rfl) : TC X (.Compare a [op, op'] [b, c] pos) env (b1 && b2) := by
  intro F H σ S s Q k
  refine ⟨_, pt_chain ho ho' pwE pwE pwE hm, two ha hb s fun v1 v2 F1 H1 g h1 h2 => ?_⟩
  refine od F1 H1 v1 v2 g.sub h1 h2 _ fun v F2 H2 g2 hv => ?_
  cases hv
  refine ⟨b1, rfl, ?_⟩
  cases b1 with
  | false => exact ⟨_, rfl, k F2 H2 (g.trans g2)⟩
  | true =>
    refine hc F2 H2 σ S (s.grow (g.trans g2)) _ fun v3 F3 H3 _ g3 h3 _ => ?_
    refine od' F3 H3 v2 v3 g3.sub (dp_mono (g2.f.trans g3.f) h2) h3.1 _ fun v F' H' g' hv => ?_
    cases hv
    exact ⟨_, rfl, k F' H' (((g.trans g2).trans g3).trans g')⟩

/-! ### tests -/
theorem tc_val {b' : Bool} (h : VC X e env (.dat (.bool b'))) (he : ∀ whole, isTrue e X.env whole = (do let v ← whole; standAt e.pos; holding [v] (truthy v)) := by intro _; rfl) : TC X e env b' := fun F H σ S s Q k =>
  ⟨_, pt_val pwE he, h F H σ S s _ fun v F' H' _ g hv _ => by
    cases hv.1
    exact ⟨b', rfl, k F' H' g⟩⟩
def truD : PyData → Bool
  | .none => false
  | .bool b => b
  | .int i => i != 0
  | .str x => (x.length : Int) != 0
  | .list xs => !xs.isEmpty
  | .tuple xs => !xs.isEmpty
  | .dict _ => false
theorem isEmpty_dps {K : PySem.W.Frag} {F : Hp} {vs : List V} {ds : List PyData} (h : DpAll K F vs ds) : (!ds.isEmpty) = !vs.isEmpty := by
  cases h <;> rfl
theorem tc_truth (h : VC X e env (.dat d)) (hs : ∀ x, d = .str x → x.length ≤ 16777216 := by intro _ h; cases h) (he : ∀ whole, isTrue e X.env whole = (do let v ← whole; standAt e.pos; holding [v] (truthy v)) := by intro _; rfl) : TC X e env (truD d) := fun F H σ S s Q k =>
  ⟨_, pt_truth pwE he, h F H σ S s _ fun v F' H' _ g hv _ => by
    refine ⟨truD d, ?_, k F' H' g⟩
    cases hv.1 with
    | non => rfl
    | bl b => rfl
    | int i => rfl
    | str x => exact ⟨by rw [sizeLine_eq]; exact hs _ rfl, rfl⟩
    | lst h1 h2 => exact .inl ⟨_, g.sub.seq h1, isEmpty_dps h2⟩
    | tup h1 h2 => exact .inr (.inl ⟨_, same_sqT g.sub h1, isEmpty_dps h2⟩)⟩
theorem WC.tc {b' : Bool} (h : WC X e env b') : TC X e env b' := fun F H σ S s Q k => by
  obtain ⟨t, ht, q⟩ := h F H σ S s Q k
  exact ⟨t, ht.pt, q⟩
theorem tc_not {b' : Bool} (h : TC X a env b') : TC X (.UnaryOp .Not a pos) env (!b') := fun F H σ S s Q k =>
  ⟨_, pt_not pwT, h F H σ S s _ k⟩
theorem wc_and {b1 b2 : Bool} (h1 : TC X a env b1) (h2 : b1 = true → WC X (.BoolOp .And (b :: es) pos) env b2) : WC X (.BoolOp .And (a :: b :: es) pos) env (b1 && b2) := fun F H σ S s Q k =>
  ⟨_, pw_and pwT pwW, h1 F H σ S s _ fun F1 H1 g1 => by
    cases b1 with
    | true => exact h2 rfl F1 H1 σ S (s.grow g1) Q fun F' H' g' => k F' H' (g1.trans g')
    | false => exact k F1 H1 g1⟩
theorem wc_or {b1 b2 : Bool} (h1 : TC X a env b1) (h2 : b1 = false → WC X (.BoolOp .Or (b :: es) pos) env b2) : WC X (.BoolOp .Or (a :: b :: es) pos) env (b1 || b2) := fun F H σ S s Q k =>
  ⟨_, pw_or pwT pwW, h1 F H σ S s _ fun F1 H1 g1 => by
    cases b1 with
    | false => exact h2 rfl F1 H1 σ S (s.grow g1) Q fun F' H' g' => k F' H' (g1.trans g')
    | true => exact k F1 H1 g1⟩
theorem wc_and1 {b1 : Bool} (h1 : TC X a env b1) : WC X (.BoolOp .And [a] pos) env b1 := fun F H σ S s Q k => ⟨_, pw_and1 pwT, h1 F H σ S s _ k⟩
theorem wc_or1 {b1 : Bool} (h1 : TC X a env b1) : WC X (.BoolOp .Or [a] pos) env b1 := fun F H σ S s Q k => ⟨_, pw_or1 pwT, h1 F H σ S s _ k⟩
theorem vc_not {b' : Bool} (h : VC X a env (.dat (.bool b'))) : VC X (.UnaryOp .Not a pos) env (.dat (.bool (!b'))) := fun F H σ S s Q k =>
  ⟨_, pe_not pwE, h F H σ S s _ fun v F' H' _ g hv _ => by
    cases hv.1
    exact ⟨b', rfl, k _ F' H' (fun _ => False) g ⟨.bl _, fun _ z => z⟩ fun _ z => z.elim⟩⟩
theorem vc_and {b1 : Bool} (h1 : VC X a env (.dat (.bool b1))) (h2 : b1 = true → VC X (.BoolOp .And (b :: es) pos) env (.dat d)) (hd : b1 = false → d = .bool false) : VC X (.BoolOp .And (a :: b :: es) pos) env (.dat d) := fun F H σ S s Q k =>
  ⟨_, pe_and pwE pwE, h1 F H σ S s _ fun v F1 H1 _ g1 hv _ => by
    cases hv.1
    refine ⟨b1, rfl, ?_⟩
    cases b1 with
    | true => exact h2 rfl F1 H1 σ S (s.grow g1) Q fun v F' H' Sv g' hv fr => k v F' H' Sv (g1.trans g') hv fun a z => g1.h.free (fr a z)
    | false =>
      cases hd rfl
      exact k _ F1 H1 (fun _ => False) g1 ⟨.bl _, fun _ z => z⟩ fun _ z => z.elim⟩
theorem vc_or {b1 : Bool} (h1 : VC X a env (.dat (.bool b1))) (h2 : b1 = false → VC X (.BoolOp .Or (b :: es) pos) env (.dat d)) (hd : b1 = true → d = .bool true) : VC X (.BoolOp .Or (a :: b :: es) pos) env (.dat d) := fun F H σ S s Q k =>
  ⟨_, pe_or pwE pwE, h1 F H σ S s _ fun v F1 H1 _ g1 hv _ => by
    cases hv.1
    refine ⟨b1, rfl, ?_⟩
    cases b1 with
    | false => exact h2 rfl F1 H1 σ S (s.grow g1) Q fun v F' H' Sv g' hv fr => k v F' H' Sv (g1.trans g') hv fun a z => g1.h.free (fr a z)
    | true =>
      cases hd rfl
      exact k _ F1 H1 (fun _ => False) g1 ⟨.bl _, fun _ z => z⟩ fun _ z => z.elim⟩
theorem vc_one {op : BoolOp} (h1 : VC X a env c) : VC X (.BoolOp op [a] pos) env c := fun F H σ S s Q k => ⟨_, pe_one pwE, h1 F H σ S s _ k⟩
theorem vc_andB {b1 b2 : Bool} (h1 : VC X a env (.dat (.bool b1))) (h2 : b1 = true → VC X (.BoolOp .And (b :: es) pos) env (.dat (.bool b2))) : VC X (.BoolOp .And (a :: b :: es) pos) env (.dat (.bool (b1 && b2))) :=
  vc_and h1 (fun e => by subst e; exact h2 rfl) fun e => by subst e; rfl
theorem vc_orB {b1 b2 : Bool} (h1 : VC X a env (.dat (.bool b1))) (h2 : b1 = false → VC X (.BoolOp .Or (b :: es) pos) env (.dat (.bool b2))) : VC X (.BoolOp .Or (a :: b :: es) pos) env (.dat (.bool (b1 || b2))) :=
  vc_or h1 (fun e => by subst e; exact h2 rfl) fun e => by subst e; rfl
theorem vc_if {t : Expr} {b' : Bool} (h : TC X t env b') (h1 : b' = true → VC X a env c) (h2 : b' = false → VC X b env c) : VC X (.IfExp t a b pos) env c := fun F H σ S s Q k =>
  ⟨_, pe_ifExp pwT pwE pwE, h F H σ S s _ fun F1 H1 g1 => by
    cases b' with
    | true => exact h1 rfl F1 H1 σ S (s.grow g1) Q fun v F' H' Sv g' hv fr => k v F' H' Sv (g1.trans g') hv fun a z => g1.h.free (fr a z)
    | false => exact h2 rfl F1 H1 σ S (s.grow g1) Q fun v F' H' Sv g' hv fr => k v F' H' Sv (g1.trans g') hv fun a z => g1.h.free (fr a z)⟩
/-- the same value, otherwise said -/
theorem VC.to (h : VC X e env c) (eq : c = c1) : VC X e env c1 := eq ▸ h
theorem TC.to {b1 b2 : Bool} (h : TC X e env b1) (eq : b1 = b2) : TC X e env b2 := eq ▸ h
theorem VC.is (h : VC X e env (.dat d)) (eq : d = d1) : VC X e env (.dat d1) := eq ▸ h
end
end G

set_option maxRecDepth 100000
set_option maxHeartbeats 4000000
/-! enumerate and zip over lists and tuples, in any mix -/
namespace G
open PySem PySem.Spec PyProof.Rows L2

/-- a list or a tuple that is walked -/
inductive Src where
  | L (a : Addr)
  | T (a : Addr)
def Src.ad : Src → Addr
  | .L a => a
  | .T a => a
def Src.Sq (K : PySem.W.Frag) (H : Hp) (xs : List V) : Src → Prop
  | .L a => SqL K H a xs
  | .T a => SqT K H a xs
def Src.Itr (h : Heap) (it : Addr) (i : Nat) : Src → Prop
  | .L a => h.IsListIter it a i
  | .T a => h.IsTupleIter it a i
def Src.Isd (h : Heap) (items : Array Value) : Src → Prop
  | .L a => h.IsList a items
  | .T a => h.IsTuple a items
def Src.ob : Src → Obj
  | .L a => { cls := .type "list_iterator", data := .fields #[.ref a, .int 0 0] }
  | .T a => { cls := .type "tuple_iterator", data := .fields #[.ref a, .int 0 0] }
section
variable {X : Cx} {pins : List (Addr × Obj)} {σ : St} {H : Hp} {s : Shared} {xs ys : List V} {K : PySem.W.Frag}
theorem Src.inv (I : Inv X pins σ H s) {r : Src} (h : r.Sq X.K H xs) : ∃ its : List Value, Vals xs its ∧ r.Isd s.heap its.toArray ∧ xs.length ≤ sizeLine := by
  cases r with
  | L a =>
    obtain ⟨its, rv, p, hz⟩ := I.list h
    exact ⟨its, rv, p.isList, hz⟩
  | T a =>
    obtain ⟨its, rv, p, hz⟩ := I.tuple h
    exact ⟨its, rv, p, hz⟩
theorem Src.inj (I : Inv X pins σ H s) {r : Src} (h : r.Sq X.K H xs) (h' : r.Sq X.K H ys) : xs = ys := by
  cases r with
  | L a => exact I.list_inj h h'
  | T a => exact I.tuple_inj h h'
theorem Src.at {h h' : Heap} {it : Addr} {i : Nat} {r : Src} (x : r.Itr h it i) (k : ∀ o, h.get? it = some o → h'.get? it = some o) : r.Itr h' it i := by
  cases r with
  | L a => exact Heap.IsListIter.at x k
  | T a => exact Heap.IsTupleIter.at x k
theorem Src.ob_at {h : Heap} {it : Addr} {r : Src} (e : h.get? it = some r.ob) : r.Itr h it 0 := by
  cases r with
  | L a => exact ⟨_, e, rfl, rfl⟩
  | T a => exact ⟨_, e, rfl, rfl⟩
theorem Src.obj {h : Heap} {it : Addr} {i : Nat} {r : Src} (x : r.Itr h it i) : ∃ o, h.get? it = some o ∧ ∀ v, o.data ≠ .cell v := by
  cases r with
  | L a =>
    obtain ⟨o, h1, _, h3⟩ := x
    exact ⟨o, h1, fun v q => by rw [h3] at q; cases q⟩
  | T a =>
    obtain ⟨o, h1, _, h3⟩ := x
    exact ⟨o, h1, fun v q => by rw [h3] at q; cases q⟩
theorem Src.lt {h : Heap} {items : Array Value} {r : Src} (x : r.Isd h items) : r.ad < h.objs.size := by
  cases r with
  | L a =>
    obtain ⟨_, e, _⟩ := x
    exact Heap.lt_size e
  | T a =>
    obtain ⟨_, e, _⟩ := x
    exact Heap.lt_size e
theorem Src.draws {prog : Program} {w : World} {A : Around} (hh : A.handled = none) (it : Addr) (r : Src) (hne : r.ad ≠ it) (items : Array Value) :
    Draws prog w A it [it, r.ad] items.size (fun i v => items[i]? = some v) (fun i h => r.Itr h it i ∧ r.Isd h items) := by
  cases r with
  | L a => exact Draws.list hh it a hne items
  | T a => exact Draws.tuple hh it a hne items
theorem Src.begins (r : Src) (items : Array Value) : Begins (.ref r.ad) r.ob fun h => r.Isd h items := by
  cases r with
  | L a => exact begins_list a items
  | T a => exact begins_tuple a items
theorem Src.of_dp {F H : Hp} {v : V} {d : PyData} (h : Same F H) (x : Dp K F v d) {ds : List PyData} (hd : d = .list ds ∨ d = .tuple ds) : ∃ (r : Src) (xs : List V), v = .ref r.ad ∧ (∀ H', Same F H' → r.Sq K H' xs) ∧ DpAll K F xs ds := by
  cases x with
  | lst h1 h2 =>
    rename_i a xs ds'
    rcases hd with hd | hd <;> cases hd
    exact ⟨.L a, xs, rfl, fun H' e => e.seq h1, h2⟩
  | tup h1 h2 =>
    rename_i a xs ds'
    rcases hd with hd | hd <;> cases hd
    exact ⟨.T a, xs, rfl, fun H' e => same_sqT e h1, h2⟩
  | non => rcases hd with hd | hd <;> cases hd
  | bl b => rcases hd with hd | hd <;> cases hd
  | int b => rcases hd with hd | hd <;> cases hd
  | str b => rcases hd with hd | hd <;> cases hd
end

/-- a walk by the library's GoesN, each item a new tuple -/
theorem turn_gen {P : Program} {w : World} {K : PySem.W.Frag} {tg : Expr} {J : It} {fp : List Addr} {it : Addr} {tn : Nat → Heap → Prop} (mem : it ∈ fp)
    (obj : ∀ i h, tn i h → ∀ b ∈ fp, ∃ o, h.get? b = some o ∧ ∀ v, o.data ≠ .cell v)
    (keep : ∀ i h h', tn i h → (∀ b ∈ fp, ∀ o, h.get? b = some o → h'.get? b = some o) → tn i h')
    (item : ∀ (X : Cx), X.prog = P → X.w = w → X.K = K → X.calm = true → ∀ (i : Nat) (pins : List (Addr × Obj)) (s : Shared) (σ : St) (H : Hp), Inv X pins σ H s → (∀ b ∈ fp, FpOk X pins H b) → tn i s.heap → J.go i H →
      ∃ fpG wr n Y St, GoesN P w X.A tg it fpG wr n Y St ∧ i < n ∧ St i s.heap ∧ (∀ b ∈ wr, b ∈ fp) ∧ ∀ v h', Y i s.heap v h' → St (i + 1) h' → (∀ b o, b ∉ wr → s.heap.get? b = some o → h'.get? b = some o) →
        ∃ T xs its, v = .ref T ∧ s.heap.objs.size ≤ T ∧ xs.length ≤ sizeLine ∧ Vals xs its ∧ h'.IsTuple T its.toArray ∧ J.yld i H (.ref T) (upd H T (.tup xs)) ∧ tn (i + 1) h')
    (done : ∀ (X : Cx), X.prog = P → X.w = w → X.K = K → X.calm = true → ∀ (i : Nat) (pins : List (Addr × Obj)) (s : Shared) (σ : St) (H : Hp), Inv X pins σ H s → (∀ b ∈ fp, FpOk X pins H b) → tn i s.heap → J.stop i H →
      ∃ fpG wr Y St, GoesN P w X.A tg it fpG wr i Y St ∧ St i s.heap ∧ (∀ b ∈ wr, b ∈ fp))
    (self : ∀ (A : Around) (i : Nat) (s : Shared) (Q : Value → Shared → Prop) (E : Value → Shared → Prop), tn i s.heap → Q (.ref it) s → wpAny (model P w) A (pyIter (.ref it)) Q E s) : Turn P w K tg J fp it tn where
  mem := mem
  obj := obj
  keep := keep
  item := by
    intro X hP hw hK hc i pins s σ H E I hf st hg
    obtain ⟨fpG, wr, n, Y, St, W, hi, hst, hwr, hY⟩ := item X hP hw hK hc i pins s σ H I hf st hg
    refine W.goes i s (fun v s2 => ∃ x H', Inv X pins σ H' s2 ∧ RelV x v ∧ J.yld i H x H' ∧ tn (i + 1) s2.heap ∧ ∀ b ∈ fp, H' b = none) E hi hst fun v h' tk y st' hk htk => ?_
    obtain ⟨T, xs, its, rfl, hT, hz, rv, tup, jy, tn'⟩ := hY v h' y st' hk
    have new : ObjOk X.prog X.w (upd H T (.tup xs)) h' T (.tup xs) := ⟨hz, its, rv, tup⟩
    refine ⟨.ref T, _, I.turnedNew (t' := tk) (ch := fp) (fun b o hb q => hk b o (fun z => hb (hwr b z)) q) hf hT new, rfl, jy, tn', fun b hb => ?_⟩
    obtain ⟨o, ho, _⟩ := obj i _ st b hb
    rw [upd_ne (Nat.ne_of_lt (Nat.lt_of_lt_of_le (Heap.lt_size ho) hT))]
    exact (hf b hb).1
  done := by
    intro X hP hw hK hc i pins s σ H E I hf st hg
    obtain ⟨fpG, wr, Y, St, W, hst, hwr⟩ := done X hP hw hK hc i pins s σ H I hf st hg
    exact W.stops s (fun s1 => Inv X pins σ H s1) E hst fun h' tk hk _ => I.turnedL (t' := tk) (ch := fp) (fun b o hb q => hk b o (fun z => hb (hwr b z)) q) hf
  self := self

/-- zip of two -/
def Iz2 (K : PySem.W.Frag) (r1 r2 : Src) : It :=
  ⟨fun i H => ∃ xs ys x y, r1.Sq K H xs ∧ r2.Sq K H ys ∧ xs[i]? = some x ∧ ys[i]? = some y,
   fun i H v H' => ∃ T x y, v = .ref T ∧ H T = none ∧ H' = upd H T (.tup [x, y]) ∧ (∀ xs, r1.Sq K H xs → xs[i]? = some x) ∧ ∀ ys, r2.Sq K H ys → ys[i]? = some y,
   fun i H => ∃ xs ys, r1.Sq K H xs ∧ r2.Sq K H ys ∧ min xs.length ys.length = i⟩
def Iz3 (K : PySem.W.Frag) (r1 r2 r3 : Src) : It :=
  ⟨fun i H => ∃ xs ys zs x y z, r1.Sq K H xs ∧ r2.Sq K H ys ∧ r3.Sq K H zs ∧ xs[i]? = some x ∧ ys[i]? = some y ∧ zs[i]? = some z,
   fun i H v H' => ∃ T x y z, v = .ref T ∧ H T = none ∧ H' = upd H T (.tup [x, y, z]) ∧ (∀ xs, r1.Sq K H xs → xs[i]? = some x) ∧ (∀ ys, r2.Sq K H ys → ys[i]? = some y) ∧ ∀ zs, r3.Sq K H zs → zs[i]? = some z,
   fun i H => ∃ xs ys zs, r1.Sq K H xs ∧ r2.Sq K H ys ∧ r3.Sq K H zs ∧ min (min xs.length ys.length) zs.length = i⟩
def Ien (K : PySem.W.Frag) (r : Src) : It :=
  ⟨fun i H => ∃ xs x, r.Sq K H xs ∧ xs[i]? = some x,
   fun i H v H' => ∃ T x, v = .ref T ∧ H T = none ∧ H' = upd H T (.tup [.int (i : Nat), x]) ∧ ∀ xs, r.Sq K H xs → xs[i]? = some x,
   fun i H => ∃ xs, r.Sq K H xs ∧ xs.length = i⟩
section
variable {P : Program} {w : World} {K : PySem.W.Frag} {elts : List Expr} {kk : Nat} {tpos : Pos}
theorem turn_en {r : Src} {N : Addr} (hr : r.ad < N) : Turn P w K (.Tuple elts kk tpos) (Ien K r) [N + 1, N] (N + 1) (fun i h => (∃ old, IsEnum h (N + 1) N ((i : Nat) : Int) old) ∧ r.Itr h N i) := by
  have hne : r.ad ≠ N := Nat.ne_of_lt hr
  have hei : (N + 1 : Nat) ≠ N := Nat.succ_ne_self N
  have hef : (N + 1 : Nat) ∉ [N, r.ad] := by
    intro z
    rcases List.mem_cons.mp z with z | z
    · exact hei z
    · exact Nat.ne_of_gt (Nat.lt_succ_of_lt hr) (List.mem_singleton.mp z)
  have G : ∀ (A : Around), A.handled = none → ∀ items : Array Value, GoesN P w A (.Tuple elts kk tpos) (N + 1 : Nat) [(N + 1 : Nat), N, r.ad] [(N + 1 : Nat), N] items.size _ _ := fun A hh items =>
    GoesN.enumFrom 0 (Src.draws (prog := P) (w := w) (A := A.in1) hh N r hne items) (N + 1 : Nat) hei hef (List.mem_cons_self ..)
  refine turn_gen (List.mem_cons_self ..) (fun i h st b hb => ?_) (fun i h h' st k => ?_) ?_ ?_ (fun A i s Q E st h => ?_)
  · obtain ⟨⟨old, he⟩, hi⟩ := st
    rcases List.mem_cons.mp hb with z | z
    · rw [z]; exact ⟨_, he, fun v q => nomatch q⟩
    · rw [List.mem_singleton.mp z]; exact Src.obj hi
  · obtain ⟨⟨old, he⟩, hi⟩ := st
    exact ⟨⟨old, k (N + 1) (List.mem_cons_self ..) _ he⟩, Src.at hi fun o q => k N (by simp) o q⟩
  · intro X hP hw hK hc i pins s σ H I hf st hg
    subst hK
    obtain ⟨⟨old, he⟩, hit⟩ := st
    obtain ⟨xs, x, hq, hx⟩ := hg
    obtain ⟨its, rv, p, hz⟩ := Src.inv I hq
    have hl := rv.length
    have hil : i < xs.length := (List.getElem?_eq_some_iff.mp hx).1
    refine ⟨_, _, _, _, _, G X.A (I.ok.hd hc) its.toArray, by simp; omega, ⟨⟨old, ?_⟩, hit, p⟩, fun b hb => hb, fun v h' y st' hk => ?_⟩
    · rw [Int.zero_add]; exact he
    · obtain ⟨T, t, u, rfl, hT, hu, tup⟩ := y
      obtain ⟨⟨old', he'⟩, hit', _⟩ := st'
      obtain ⟨u', hu', ru⟩ := rv.get hx
      have e1 : u = u' := by
        have q : its[i]? = some u := by simpa using hu
        rw [hu'] at q
        exact (Option.some.inj q).symm
      subst e1
      rw [Int.zero_add] at tup he'
      exact ⟨T, [.int (i : Nat), x], [.int (i : Nat) t, u], rfl, hT, by show 2 ≤ sizeLine; decide, .cons ⟨t, rfl⟩ (.cons ru .nil), tup, ⟨T, x, rfl, I.hok.fresh hT, rfl, fun ys hy => by rw [Src.inj I hy hq]; exact hx⟩, ⟨old', he'⟩, hit'⟩
  · intro X hP hw hK hc i pins s σ H I hf st hg
    subst hK
    obtain ⟨⟨old, he⟩, hit⟩ := st
    obtain ⟨xs, hq, hx⟩ := hg
    obtain ⟨its, rv, p, hz⟩ := Src.inv I hq
    have hl := rv.length
    have e : i = its.toArray.size := by simp; omega
    rw [e] at he hit ⊢
    refine ⟨_, _, _, _, G X.A (I.ok.hd hc) its.toArray, ⟨⟨old, ?_⟩, hit, p⟩, fun b hb => hb⟩
    rw [Int.zero_add]; exact he
  · obtain ⟨⟨old, he⟩, _⟩ := st
    exact wpAny_pyIter_enum he h
theorem turn_z2 {r1 r2 : Src} {N : Addr} (h1 : r1.ad < N) (h2 : r2.ad < N) : Turn P w K (.Tuple elts kk tpos) (Iz2 K r1 r2) [N + 4, N + 2, N + 3, N, N + 1] (N + 4)
    (fun i h => IsZip h (N + 4) (N + 2) (N + 3) .none ∧ IsTupOf2 h (N + 2) (.ref N) (.ref (N + 1)) ∧ (∃ a1 a2, IsTupOf2 h (N + 3) a1 a2) ∧ r1.Itr h N i ∧ r2.Itr h (N + 1) i) := by
  have hne1 : r1.ad ≠ N := Nat.ne_of_lt h1
  have hne2 : r2.ad ≠ (N + 1 : Nat) := Nat.ne_of_lt (Nat.lt_succ_of_lt h2)
  have SEP : ZipSep2 (N + 4 : Nat) (N + 2 : Nat) (N + 3 : Nat) N (N + 1 : Nat) [N, r1.ad] [(N + 1 : Nat), r2.ad] := zip_sep2 (fun b hb => by rw [List.mem_singleton.mp hb]; exact h1) (fun b hb => by rw [List.mem_singleton.mp hb]; exact h2)
  have G : ∀ (A : Around), A.handled = none → ∀ i1 i2 : Array Value, GoesN P w A (.Tuple elts kk tpos) (N + 4 : Nat) _ [(N + 4 : Nat), (N + 3 : Nat), N, (N + 1 : Nat)] (min i1.size i2.size) _ _ := fun A hh i1 i2 =>
    GoesN.zip2 SEP (Src.draws (prog := P) (w := w) (A := A.in1) hh N r1 hne1 i1) (Src.draws (prog := P) (w := w) (A := A.in1) hh (N + 1 : Nat) r2 hne2 i2)
  have wrs : ∀ b ∈ [(N + 4 : Nat), (N + 3 : Nat), N, (N + 1 : Nat)], b ∈ [(N + 4 : Nat), (N + 2 : Nat), (N + 3 : Nat), N, (N + 1 : Nat)] := fun b hb => by
    simp only [List.mem_cons] at hb ⊢
    rcases hb with z | z | z | z | z
    · exact .inl z
    · exact .inr (.inr (.inl z))
    · exact .inr (.inr (.inr (.inl z)))
    · exact .inr (.inr (.inr (.inr (.inl z))))
    · cases z
  refine turn_gen (List.mem_cons_self ..) (fun i h st b hb => ?_) (fun i h h' st k => ?_) ?_ ?_ (fun A i s Q E st h => wpAny_pyIter_zip st.1 h)
  · obtain ⟨hz, hTI, ⟨a1, a2, hTO⟩, hi1, hi2⟩ := st
    simp only [List.mem_cons] at hb
    rcases hb with z | z | z | z | z | z
    · rw [z]; exact ⟨_, hz, fun v q => nomatch q⟩
    · rw [z]; exact ⟨_, hTI, fun v q => nomatch q⟩
    · rw [z]; exact ⟨_, hTO, fun v q => nomatch q⟩
    · rw [z]; exact Src.obj hi1
    · rw [z]; exact Src.obj hi2
    · cases z
  · obtain ⟨hz, hTI, ⟨a1, a2, hTO⟩, hi1, hi2⟩ := st
    exact ⟨k _ (by simp) _ hz, k _ (by simp) _ hTI, ⟨a1, a2, k _ (by simp) _ hTO⟩, Src.at hi1 fun o q => k _ (by simp) o q, Src.at hi2 fun o q => k _ (by simp) o q⟩
  · intro X hP hw hK hc i pins s σ H I hf st hg
    subst hK
    obtain ⟨hz, hTI, hTO, hi1, hi2⟩ := st
    obtain ⟨xs, ys, x, y, hqx, hqy, hx, hy⟩ := hg
    obtain ⟨its, rv, p, _⟩ := Src.inv I hqx
    obtain ⟨its2, rv2, p2, _⟩ := Src.inv I hqy
    have l1 := rv.length
    have l2 := rv2.length
    have b1 : i < xs.length := (List.getElem?_eq_some_iff.mp hx).1
    have b2 : i < ys.length := (List.getElem?_eq_some_iff.mp hy).1
    refine ⟨_, _, _, _, _, G X.A (I.ok.hd hc) its.toArray its2.toArray, by simp; omega, ⟨hz, hTI, hTO, ⟨hi1, p⟩, ⟨hi2, p2⟩⟩, wrs, fun v h' yy st' hk => ?_⟩
    obtain ⟨T, u, u2, rfl, hT, hu, hu2, tup⟩ := yy
    obtain ⟨hz', hTI', hTO', ⟨hi1', _⟩, ⟨hi2', _⟩⟩ := st'
    obtain ⟨u', e1, ru⟩ := rv.get hx
    obtain ⟨u2', e2, ru2⟩ := rv2.get hy
    have q1 : u = u' := by
      have q : its[i]? = some u := by simpa using hu
      rw [e1] at q
      exact (Option.some.inj q).symm
    have q2 : u2 = u2' := by
      have q : its2[i]? = some u2 := by simpa using hu2
      rw [e2] at q
      exact (Option.some.inj q).symm
    subst q1 q2
    exact ⟨T, [x, y], [u, u2], rfl, hT, by show 2 ≤ sizeLine; decide, .cons ru (.cons ru2 .nil), tup, ⟨T, x, y, rfl, I.hok.fresh hT, rfl, fun l hl => by rw [Src.inj I hl hqx]; exact hx, fun l hl => by rw [Src.inj I hl hqy]; exact hy⟩, hz', hTI', hTO', hi1', hi2'⟩
  · intro X hP hw hK hc i pins s σ H I hf st hg
    subst hK
    obtain ⟨hz, hTI, hTO, hi1, hi2⟩ := st
    obtain ⟨xs, ys, hqx, hqy, hend⟩ := hg
    obtain ⟨its, rv, p, _⟩ := Src.inv I hqx
    obtain ⟨its2, rv2, p2, _⟩ := Src.inv I hqy
    have l1 := rv.length
    have l2 := rv2.length
    have e : i = min its.toArray.size its2.toArray.size := by simp; omega
    rw [e] at hi1 hi2 ⊢
    exact ⟨_, _, _, _, G X.A (I.ok.hd hc) its.toArray its2.toArray, ⟨hz, hTI, hTO, ⟨hi1, p⟩, ⟨hi2, p2⟩⟩, wrs⟩
theorem turn_z3 {r1 r2 r3 : Src} {N : Addr} (h1 : r1.ad < N) (h2 : r2.ad < N) (h3 : r3.ad < N) : Turn P w K (.Tuple elts kk tpos) (Iz3 K r1 r2 r3) [N + 5, N + 3, N + 4, N, N + 1, N + 2] (N + 5)
    (fun i h => IsZip h (N + 5) (N + 3) (N + 4) .none ∧ IsTupOf3 h (N + 3) (.ref N) (.ref (N + 1)) (.ref (N + 2)) ∧ (∃ a1 a2 a3, IsTupOf3 h (N + 4) a1 a2 a3) ∧ r1.Itr h N i ∧ r2.Itr h (N + 1) i ∧ r3.Itr h (N + 2) i) := by
  have hne1 : r1.ad ≠ N := Nat.ne_of_lt h1
  have hne2 : r2.ad ≠ (N + 1 : Nat) := Nat.ne_of_lt (Nat.lt_succ_of_lt h2)
  have hne3 : r3.ad ≠ (N + 2 : Nat) := Nat.ne_of_lt (Nat.lt_succ_of_lt (Nat.lt_succ_of_lt h3))
  have SEP : ZipSep3 (N + 5 : Nat) (N + 3 : Nat) (N + 4 : Nat) N (N + 1 : Nat) (N + 2 : Nat) [N, r1.ad] [(N + 1 : Nat), r2.ad] [(N + 2 : Nat), r3.ad] := zip_sep3 (fun b hb => by rw [List.mem_singleton.mp hb]; exact h1) (fun b hb => by rw [List.mem_singleton.mp hb]; exact h2) (fun b hb => by rw [List.mem_singleton.mp hb]; exact h3)
  have G : ∀ (A : Around), A.handled = none → ∀ i1 i2 i3 : Array Value, GoesN P w A (.Tuple elts kk tpos) (N + 5 : Nat) _ [(N + 5 : Nat), (N + 4 : Nat), N, (N + 1 : Nat), (N + 2 : Nat)] (min (min i1.size i2.size) i3.size) _ _ := fun A hh i1 i2 i3 =>
    GoesN.zip3 SEP (Src.draws (prog := P) (w := w) (A := A.in1) hh N r1 hne1 i1) (Src.draws (prog := P) (w := w) (A := A.in1) hh (N + 1 : Nat) r2 hne2 i2) (Src.draws (prog := P) (w := w) (A := A.in1) hh (N + 2 : Nat) r3 hne3 i3)
  have wrs : ∀ b ∈ [(N + 5 : Nat), (N + 4 : Nat), N, (N + 1 : Nat), (N + 2 : Nat)], b ∈ [(N + 5 : Nat), (N + 3 : Nat), (N + 4 : Nat), N, (N + 1 : Nat), (N + 2 : Nat)] := fun b hb => by
    simp only [List.mem_cons] at hb ⊢
    rcases hb with z | z | z | z | z | z
    · exact .inl z
    · exact .inr (.inr (.inl z))
    · exact .inr (.inr (.inr (.inl z)))
    · exact .inr (.inr (.inr (.inr (.inl z))))
    · exact .inr (.inr (.inr (.inr (.inr (.inl z)))))
    · cases z
  refine turn_gen (List.mem_cons_self ..) (fun i h st b hb => ?_) (fun i h h' st k => ?_) ?_ ?_ (fun A i s Q E st h => wpAny_pyIter_zip st.1 h)
  · obtain ⟨hz, hTI, ⟨a1, a2, a3, hTO⟩, hi1, hi2, hi3⟩ := st
    simp only [List.mem_cons] at hb
    rcases hb with z | z | z | z | z | z | z
    · rw [z]; exact ⟨_, hz, fun v q => nomatch q⟩
    · rw [z]; exact ⟨_, hTI, fun v q => nomatch q⟩
    · rw [z]; exact ⟨_, hTO, fun v q => nomatch q⟩
    · rw [z]; exact Src.obj hi1
    · rw [z]; exact Src.obj hi2
    · rw [z]; exact Src.obj hi3
    · cases z
  · obtain ⟨hz, hTI, ⟨a1, a2, a3, hTO⟩, hi1, hi2, hi3⟩ := st
    exact ⟨k _ (by simp) _ hz, k _ (by simp) _ hTI, ⟨a1, a2, a3, k _ (by simp) _ hTO⟩, Src.at hi1 fun o q => k _ (by simp) o q, Src.at hi2 fun o q => k _ (by simp) o q, Src.at hi3 fun o q => k _ (by simp) o q⟩
  · intro X hP hw hK hc i pins s σ H I hf st hg
    subst hK
    obtain ⟨hz, hTI, hTO, hi1, hi2, hi3⟩ := st
    obtain ⟨xs, ys, zs, x, y, z, hqx, hqy, hqz, hx, hy, hzz⟩ := hg
    obtain ⟨its, rv, p, _⟩ := Src.inv I hqx
    obtain ⟨its2, rv2, p2, _⟩ := Src.inv I hqy
    obtain ⟨its3, rv3, p3, _⟩ := Src.inv I hqz
    have l1 := rv.length
    have l2 := rv2.length
    have l3 := rv3.length
    have b1 : i < xs.length := (List.getElem?_eq_some_iff.mp hx).1
    have b2 : i < ys.length := (List.getElem?_eq_some_iff.mp hy).1
    have b3 : i < zs.length := (List.getElem?_eq_some_iff.mp hzz).1
    refine ⟨_, _, _, _, _, G X.A (I.ok.hd hc) its.toArray its2.toArray its3.toArray, by simp; omega, ⟨hz, hTI, hTO, ⟨hi1, p⟩, ⟨hi2, p2⟩, ⟨hi3, p3⟩⟩, wrs, fun v h' yy st' hk => ?_⟩
    obtain ⟨T, u, u2, u3, rfl, hT, hu, hu2, hu3, tup⟩ := yy
    obtain ⟨hz', hTI', hTO', ⟨hi1', _⟩, ⟨hi2', _⟩, ⟨hi3', _⟩⟩ := st'
    obtain ⟨u', e1, ru⟩ := rv.get hx
    obtain ⟨u2', e2, ru2⟩ := rv2.get hy
    obtain ⟨u3', e3, ru3⟩ := rv3.get hzz
    have q1 : u = u' := by
      have q : its[i]? = some u := by simpa using hu
      rw [e1] at q
      exact (Option.some.inj q).symm
    have q2 : u2 = u2' := by
      have q : its2[i]? = some u2 := by simpa using hu2
      rw [e2] at q
      exact (Option.some.inj q).symm
    have q3 : u3 = u3' := by
      have q : its3[i]? = some u3 := by simpa using hu3
      rw [e3] at q
      exact (Option.some.inj q).symm
    subst q1 q2 q3
    exact ⟨T, [x, y, z], [u, u2, u3], rfl, hT, by show 3 ≤ sizeLine; decide, .cons ru (.cons ru2 (.cons ru3 .nil)), tup, ⟨T, x, y, z, rfl, I.hok.fresh hT, rfl, fun l hl => by rw [Src.inj I hl hqx]; exact hx, fun l hl => by rw [Src.inj I hl hqy]; exact hy, fun l hl => by rw [Src.inj I hl hqz]; exact hzz⟩, hz', hTI', hTO', hi1', hi2', hi3'⟩
  · intro X hP hw hK hc i pins s σ H I hf st hg
    subst hK
    obtain ⟨hz, hTI, hTO, hi1, hi2, hi3⟩ := st
    obtain ⟨xs, ys, zs, hqx, hqy, hqz, hend⟩ := hg
    obtain ⟨its, rv, p, _⟩ := Src.inv I hqx
    obtain ⟨its2, rv2, p2, _⟩ := Src.inv I hqy
    obtain ⟨its3, rv3, p3, _⟩ := Src.inv I hqz
    have l1 := rv.length
    have l2 := rv2.length
    have l3 := rv3.length
    have e : i = min (min its.toArray.size its2.toArray.size) its3.toArray.size := by simp; omega
    rw [e] at hi1 hi2 hi3 ⊢
    exact ⟨_, _, _, _, G X.A (I.ok.hd hc) its.toArray its2.toArray its3.toArray, ⟨hz, hTI, hTO, ⟨hi1, p⟩, ⟨hi2, p2⟩, ⟨hi3, p3⟩⟩, wrs⟩
end
end G

set_option maxRecDepth 100000
set_option maxHeartbeats 4000000
namespace PySem
open Sem (wp)
theorem g_enumerate_newT (l : Addr) (items : Array Value) :
    Meets (Builtin.«enumerate.__new__» ⟨[.type "enumerate", .ref l], []⟩) (fun _ R s => s.heap.IsTuple l items ∧
      R (.ok (.ret (.ref (s.heap.push { cls := .type "tuple_iterator", data := .fields #[.ref l, .int 0 0] }).objs.size)))
        { s with heap := (s.heap.push { cls := .type "tuple_iterator", data := .fields #[.ref l, .int 0 0] }).push { cls := .type "enumerate", data := .fields #[.none, .bool false, .ref s.heap.objs.size, rawInt 0, .none, .none] } }) :=
  .of_wp fun prog w A R s h => by
    obtain ⟨hp, g, d, tk, os⟩ := s; obtain ⟨hL, h⟩ := h
    have hsub := sub_enumerate
    wp_walk
    refine wpAny_stack_any fun st => wpAny_pure ?_
    split
    · rename_i c _ _ _ _ _
      cases (c == Value.type "enumerate")
      · wp_walk using wpAny_pyIter_tuple hL
        exact ⟨_, rfl, h⟩
      · wp_walk using wpAny_pyIter_tuple hL
        exact ⟨_, rfl, h⟩
    · wp_walk using wpAny_pyIter_tuple hL
      exact ⟨_, rfl, h⟩
theorem g_enumerate_tuple {prog : Program} {w : World} {A : Around} {E : Value → Shared → Prop} {s : Shared} {l : Addr} {items : Array Value} {Q : Value → Shared → Prop} (hL : s.heap.IsTuple l items)
    (h : ∀ h', IsEnum h' (s.heap.objs.size + 1) s.heap.objs.size 0 .none → h'.IsTupleIter s.heap.objs.size l 0 → h'.objs.size = s.heap.objs.size + 2 →
      (∀ b o, s.heap.get? b = some o → h'.get? b = some o) → Q (.ref (s.heap.objs.size + 1)) { s with heap := h' }) :
    wpAny (model prog w) A (call (.type "enumerate") [.ref l]) Q E s := by
  refine callType_new F.called_enumerate (by decide) (F.typeCall_enumerate_1 _) (F.newCall_enumerate_1 _) (fun obj => F.args_object_init_2 obj _) F.entry_enumerate_new
    (g_enumerate_newT l items) ⟨hL, ?_⟩
  have hz : (s.heap.push { cls := .type "tuple_iterator", data := .fields #[.ref l, .int 0 0] }).objs.size = s.heap.objs.size + 1 := Heap.size_push ..
  show _ ∧ _
  rw [hz]
  have he : IsEnum ((s.heap.push { cls := .type "tuple_iterator", data := .fields #[.ref l, .int 0 0] }).push
      { cls := .type "enumerate", data := .fields #[.none, .bool false, .ref s.heap.objs.size, rawInt 0, .none, .none] }) (s.heap.objs.size + 1) s.heap.objs.size 0 .none := by
    have := Heap.get?_push_size (s.heap.push { cls := .type "tuple_iterator", data := .fields #[.ref l, .int 0 0] })
      (o := { cls := .type "enumerate", data := .fields #[.none, .bool false, .ref s.heap.objs.size, rawInt 0, .none, .none] }) rfl
    rw [hz] at this; exact this
  refine ⟨⟨_, he, rfl⟩, h _ he ⟨_, Heap.get?_push_of_some _ (Heap.get?_push_size _ rfl), rfl, rfl⟩ (by rw [Heap.size_push, hz]) fun b o x => Heap.get?_push_of_some _ (Heap.get?_push_of_some _ x)⟩
end PySem

namespace G
open PySem PySem.Spec PyProof.Rows L2

section
variable {X : Cx} {p pos tpos : Pos} {elts : List Expr} {kk : Nat} {e e2 e3 tg : Expr} {ta : TA}
def iEn (K : PySem.W.Frag) (ta : TA) : TI := fun σ H R => ta σ H fun vs H1 => ∃ (r : Src) (xs : List V), vs = [.ref r.ad] ∧ r.Sq K H1 xs ∧ R (Ien K r) H1
theorem pi_en (hg : Gl X "enumerate") (hm : X.mg "enumerate" = none) (ha : PA X [e] ta) (hs : starEach [e] X.env = [(false, eval e X.env)] := by rfl) : PI X (.Tuple elts kk tpos) (.Call (.Name "enumerate" p) [e] [] pos) (iEn X.K ta) := by
  refine ⟨fun pins s σ H R I h => ?_⟩
  refine Call_ (ld_blt I hg hm boot_enumerate (PyProof.Rows.callWith_type1 (thn (ha.run pos pins s σ H _ I h) fun us s1 ⟨vs, H1, I1, r1, q1⟩ => ?_) hs rfl))
  obtain ⟨r, xs, ex, hq, q⟩ := q1
  subst ex
  cases r1 with
  | cons r0 rr =>
    cases rr
    cases r0
    obtain ⟨its, rv, p', hz⟩ := Src.inv I1 hq
    have lt := Src.lt p'
    have fin : ∀ h' : Heap, IsEnum h' (s1.heap.objs.size + 1) s1.heap.objs.size 0 .none → r.Itr h' s1.heap.objs.size 0 → (∀ b o, s1.heap.get? b = some o → h'.get? b = some o) →
        wpAny (model X.prog X.w) X.A (pyIter (.ref (s1.heap.objs.size + 1))) (PIE X pins σ (.Tuple elts kk tpos) R) X.xe { s1 with heap := h' } := fun h' he hit hk => wpAny_pyIter_enum he (by
      have I2 : Inv X pins σ H1 { s1 with heap := h' } := I1.kept (t' := s1.toks) hk
      refine ⟨s1.heap.objs.size + 1, [s1.heap.objs.size + 1, s1.heap.objs.size], _, _, H1, rfl, I2, turn_en lt, ⟨⟨.none, he⟩, hit⟩, fun b hb => ?_, q⟩
      have hle : s1.heap.objs.size ≤ b := by
        rcases List.mem_cons.mp hb with z | z
        · rw [z]; exact Nat.le_add_right _ _
        · rw [List.mem_singleton.mp z]; exact Nat.le_refl _
      exact I1.fpOk hle (I1.hok.fresh hle))
    cases r with
    | L a => exact call_enumerate_list p' fun h' he hit hsz hk => fin h' he hit hk
    | T a => exact g_enumerate_tuple p' fun h' he hit hsz hk => fin h' he hit hk
def iZ2 (K : PySem.W.Frag) (ta : TA) : TI := fun σ H R => ta σ H fun vs H1 => ∃ (r1 r2 : Src) (xs ys : List V), vs = [.ref r1.ad, .ref r2.ad] ∧ r1.Sq K H1 xs ∧ r2.Sq K H1 ys ∧ R (Iz2 K r1 r2) H1
theorem pi_z2 (hg : Gl X "zip") (hm : X.mg "zip" = none) (ha : PA X [e, e2] ta)
    (hs : starEach [e, e2] X.env = (false, eval e X.env) :: starEach [e2] X.env := by rfl) (hpl : (backTo pos (starEach [e2] X.env)).any (·.1) = false := by rfl) : PI X (.Tuple elts kk tpos) (.Call (.Name "zip" p) [e, e2] [] pos) (iZ2 X.K ta) := by
  refine ⟨fun pins s σ H R I h => ?_⟩
  refine Call_ (ld_blt I hg hm PyProof.Rows.boot_zip (PyProof.Rows.callWith_type1 (thn (ha.run pos pins s σ H _ I h) fun us s1 ⟨vs, H1, I1, r1, q1⟩ => ?_) hs hpl))
  obtain ⟨ra, rb, xs, ys, ex, hqx, hqy, q⟩ := q1
  subst ex
  cases r1 with
  | cons r rr =>
    cases rr with
    | cons r' rr =>
      cases rr
      cases r
      cases r'
      obtain ⟨its, rv, p1, _⟩ := Src.inv I1 hqx
      obtain ⟨its2, rv2, p2, _⟩ := Src.inv I1 hqy
      refine zip_begins2 (Src.begins ra its.toArray) (Src.begins rb its2.toArray) p1 p2 fun h' hz hTI hTO h1 h2 hsz hk => wpAny_pyIter_zip hz ?_
      have I2 : Inv X pins σ H1 { s1 with heap := h' } := I1.kept (t' := s1.toks) hk
      refine ⟨s1.heap.objs.size + 4, _, _, _, H1, rfl, I2, turn_z2 (Src.lt p1) (Src.lt p2), ⟨hz, hTI, ⟨_, _, hTO⟩, Src.ob_at h1, Src.ob_at h2⟩, fun b hb => ?_, q⟩
      have hle : s1.heap.objs.size ≤ b := by
        simp only [List.mem_cons] at hb
        rcases hb with z | z | z | z | z | z
        · rw [z]; exact Nat.le_add_right _ _
        · rw [z]; exact Nat.le_add_right _ _
        · rw [z]; exact Nat.le_add_right _ _
        · rw [z]; exact Nat.le_refl _
        · rw [z]; exact Nat.le_add_right _ _
        · cases z
      exact I1.fpOk hle (I1.hok.fresh hle)
def iZ3 (K : PySem.W.Frag) (ta : TA) : TI := fun σ H R => ta σ H fun vs H1 => ∃ (r1 r2 r3 : Src) (xs ys zs : List V), vs = [.ref r1.ad, .ref r2.ad, .ref r3.ad] ∧ r1.Sq K H1 xs ∧ r2.Sq K H1 ys ∧ r3.Sq K H1 zs ∧ R (Iz3 K r1 r2 r3) H1
theorem pi_z3 (hg : Gl X "zip") (hm : X.mg "zip" = none) (ha : PA X [e, e2, e3] ta)
    (hs : starEach [e, e2, e3] X.env = (false, eval e X.env) :: starEach [e2, e3] X.env := by rfl) (hpl : (backTo pos (starEach [e2, e3] X.env)).any (·.1) = false := by rfl) : PI X (.Tuple elts kk tpos) (.Call (.Name "zip" p) [e, e2, e3] [] pos) (iZ3 X.K ta) := by
  refine ⟨fun pins s σ H R I h => ?_⟩
  refine Call_ (ld_blt I hg hm PyProof.Rows.boot_zip (PyProof.Rows.callWith_type1 (thn (ha.run pos pins s σ H _ I h) fun us s1 ⟨vs, H1, I1, r1, q1⟩ => ?_) hs hpl))
  obtain ⟨ra, rb, rc, xs, ys, zs, ex, hqx, hqy, hqz, q⟩ := q1
  subst ex
  cases r1 with
  | cons r rr =>
    cases rr with
    | cons r' rr =>
      cases rr with
      | cons r'' rr =>
        cases rr
        cases r
        cases r'
        cases r''
        obtain ⟨its, rv, p1, _⟩ := Src.inv I1 hqx
        obtain ⟨its2, rv2, p2, _⟩ := Src.inv I1 hqy
        obtain ⟨its3, rv3, p3, _⟩ := Src.inv I1 hqz
        refine zip_begins3 (Src.begins ra its.toArray) (Src.begins rb its2.toArray) (Src.begins rc its3.toArray) p1 p2 p3 fun h' hz hTI hTO h1 h2 h3 hsz hk => wpAny_pyIter_zip hz ?_
        have I2 : Inv X pins σ H1 { s1 with heap := h' } := I1.kept (t' := s1.toks) hk
        refine ⟨s1.heap.objs.size + 5, _, _, _, H1, rfl, I2, turn_z3 (Src.lt p1) (Src.lt p2) (Src.lt p3), ⟨hz, hTI, ⟨_, _, _, hTO⟩, Src.ob_at h1, Src.ob_at h2, Src.ob_at h3⟩, fun b hb => ?_, q⟩
        have hle : s1.heap.objs.size ≤ b := by
          simp only [List.mem_cons] at hb
          rcases hb with z | z | z | z | z | z | z
          · rw [z]; exact Nat.le_add_right _ _
          · rw [z]; exact Nat.le_add_right _ _
          · rw [z]; exact Nat.le_add_right _ _
          · rw [z]; exact Nat.le_refl _
          · rw [z]; exact Nat.le_add_right _ _
          · rw [z]; exact Nat.le_add_right _ _
          · cases z
        exact I1.fpOk hle (I1.hok.fresh hle)
end

/-! ### what is walked, as data -/
theorem zip_get {α β : Type} {xs : List α} {ys : List β} {i : Nat} {a : α} {b : β} (h1 : xs[i]? = some a) (h2 : ys[i]? = some b) : (xs.zip ys)[i]? = some (a, b) :=
  List.getElem?_zip_eq_some.mpr ⟨h1, h2⟩
structure Yields (K : PySem.W.Frag) (J : It) (F0 : Hp) (items : List PyData) : Prop where
  go : ∀ i F H, i < items.length → Same F0 F → Same F H → J.go i H
  yld : ∀ i F H x H', i < items.length → Same F0 F → Same F H → J.yld i H x H' → ∃ d F', items[i]? = some d ∧ Grow F H F' H' ∧ Dp K F' x d
  stop : ∀ F H, Same F0 F → Same F H → J.stop items.length H
def VI (X : Cx) (tg iter : Expr) (env : En) (items : List PyData) : Prop := ∀ (F H : Hp) (σ : St) (S : Foot), Sit X.K F H σ S env → ∀ R : It → Hp → Prop,
  (∀ J F' H', Grow F H F' H' → Yields X.K J F' items → R J H') → wI X tg iter σ H R
section
variable {X : Cx} {env : En} {tg e e1 e2 e3 : Expr} {ds : List PyData} {p pos tpos : Pos} {elts : List Expr} {kk : Nat}
theorem yields_src {K : PySem.W.Frag} {F : Hp} {r : Src} {xs : List V} (hs : ∀ H', Same F H' → r.Sq K H' xs) (hd : DpAll K F xs ds) : Yields K (match r with | .L a => Itl K a | .T a => Itt K a) F ds := by
  have hl := dps_length hd
  cases r with
  | L a =>
    refine ⟨fun i F' H hi e1 e2 => ⟨xs, xs[i]'(by omega), hs H (e1.trans e2), List.getElem?_eq_getElem _⟩, fun i F' H x H' hi e1 e2 ⟨e, q⟩ => ?_, fun F' H e1 e2 => ⟨xs, hs H (e1.trans e2), by omega⟩⟩
    subst e
    obtain ⟨d, h1, h2⟩ := dps_getv hd (q xs (hs _ (e1.trans e2)))
    exact ⟨d, F', h1, Grow.refl e2, dp_mono e1 h2⟩
  | T a =>
    refine ⟨fun i F' H hi e1 e2 => ⟨xs, xs[i]'(by omega), hs H (e1.trans e2), List.getElem?_eq_getElem _⟩, fun i F' H x H' hi e1 e2 ⟨e, q⟩ => ?_, fun F' H e1 e2 => ⟨xs, hs H (e1.trans e2), by omega⟩⟩
    subst e
    obtain ⟨d, h1, h2⟩ := dps_getv hd (q xs (hs _ (e1.trans e2)))
    exact ⟨d, F', h1, Grow.refl e2, dp_mono e1 h2⟩
theorem vi_list (h : VC X e env (.dat (.list ds))) : VI X tg e env ds := fun F H σ S s R k =>
  ⟨_, pi_list pwE, h F H σ S s _ fun v F1 H1 Sv g hv _ => by
    cases hv.1 with
    | lst h1 h2 => exact ⟨_, rfl, ⟨_, g.sub.seq h1⟩, k _ F1 H1 g (yields_src (r := .L _) (fun H' e => e.seq h1) h2)⟩⟩
theorem vi_tup (h : VC X e env (.dat (.tuple ds))) : VI X tg e env ds := fun F H σ S s R k =>
  ⟨_, pi_tup pwE, h F H σ S s _ fun v F1 H1 Sv g hv _ => by
    cases hv.1 with
    | tup h1 h2 => exact ⟨_, rfl, ⟨_, same_sqT g.sub h1⟩, k _ F1 H1 g (yields_src (r := .T _) (fun H' e => same_sqT e h1) h2)⟩⟩
theorem yields_range {K : PySem.W.Frag} {F : Hp} {lo : Int} {n : Nat} : Yields K (Itr lo n) F ((List.range n).map fun (i : Nat) => .int (lo + (i : Int))) := by
  refine ⟨fun i F' H hi e1 e2 => show i < n by simpa using hi, fun i F' H x H' hi e1 e2 ⟨e, q⟩ => ?_, fun F' H e1 e2 => ?_⟩
  · subst e q
    exact ⟨.int (lo + i), F', by simp at hi ⊢; simp [hi], Grow.refl e2, .int _⟩
  · show n ≤ _
    simp
theorem vi_range1 {n : Nat} (hm : X.mg "range" = none) (h : VC X e env (.dat (.int (n : Int)))) (hn : n ≤ 1000000000000 := by decide) (hg : Gl X "range" := by rfl) (hs : starEach [e] X.env = [(false, eval e X.env)] := by rfl) :
    VI X tg (.Call (.Name "range" p) [e] [] pos) env ((List.range n).map fun (i : Nat) => .int (i : Int)) := fun F H σ S s R k =>
  ⟨_, pi_range1 hg hm (pa_cons pwE pa_nil hs) hs, h F H σ S s _ fun v F1 H1 Sv g hv _ => by
    cases hv.1
    refine ⟨(n : Int), rfl, by omega, by omega, k _ F1 H1 g ?_⟩
    have y : Yields X.K (Itr 0 n) F1 ((List.range n).map fun (i : Nat) => .int ((0 : Int) + (i : Int))) := yields_range
    simpa using y⟩
theorem vi_range2 {a b : Nat} (hm : X.mg "range" = none) (h1 : VC X e1 env (.dat (.int (a : Int)))) (h2 : VC X e2 env (.dat (.int (b : Int)))) (hn : a ≤ 1000000000000 ∧ b ≤ 1000000000000 := by omega) (hg : Gl X "range" := by rfl) (hs : starEach [e1, e2] X.env = [(false, eval e1 X.env), (false, eval e2 X.env)] := by rfl) (hs2 : starEach [e2] X.env = [(false, eval e2 X.env)] := by rfl) :
    VI X tg (.Call (.Name "range" p) [e1, e2] [] pos) env ((List.range (b - a)).map fun (i : Nat) => .int ((a : Int) + (i : Int))) := fun F H σ S s R k =>
  ⟨_, pi_range2 hg hm (pa_cons pwE (pa_cons pwE pa_nil hs2) (by rw [hs, hs2])) hs hs2, two h1 h2 s fun v1 v2 F1 H1 g q1 q2 => by
    cases q1
    cases q2
    refine ⟨(a : Int), (b : Int), rfl, by omega, k _ F1 H1 g ?_⟩
    have e : ((b : Int) - (a : Int)).toNat = b - a := by omega
    rw [e]
    exact yields_range⟩
theorem vi_en {d : PyData} (hm : X.mg "enumerate" = none) (h : VC X e env (.dat d)) (hd : d = .list ds ∨ d = .tuple ds := by first | exact Or.inl rfl | exact Or.inr rfl) (hg : Gl X "enumerate" := by rfl) (hs : starEach [e] X.env = [(false, eval e X.env)] := by rfl) :
    VI X (.Tuple elts kk tpos) (.Call (.Name "enumerate" p) [e] [] pos) env (ds.zipIdx.map fun x => .tuple [.int (x.2 : Int), x.1]) := fun F H σ S s R k =>
  ⟨_, pi_en hg hm (pa_cons pwE pa_nil hs) hs, h F H σ S s _ fun v F1 H1 Sv g hv _ => by
    obtain ⟨r, xs, rfl, hq, hdp⟩ := Src.of_dp g.sub hv.1 hd
    have hl := dps_length hdp
    refine ⟨r, xs, rfl, hq H1 g.sub, k _ F1 H1 g ⟨fun i F' H' hi e1 e2 => ?_, fun i F' H' x H'' hi e1 e2 q => ?_, fun F' H' e1 e2 => ?_⟩⟩
    · simp at hi
      exact ⟨xs, xs[i]'(by omega), hq H' (e1.trans e2), List.getElem?_eq_getElem _⟩
    · obtain ⟨T, y, rfl, hT, rfl, q⟩ := q
      obtain ⟨d', h1, h2⟩ := dps_getv hdp (q xs (hq _ (e1.trans e2)))
      have g2 := Grow.laid (o := .tup [.int (i : Nat), y]) e2 hT
      exact ⟨.tuple [.int (i : Int), d'], _, by simp [h1], g2, .tup (SqT.of upd_same) (.cons (.int _) (.cons (dp_mono (e1.trans g2.f) h2) .nil))⟩
    · exact ⟨xs, hq H' (e1.trans e2), by simp; omega⟩⟩
theorem vi_z2 {d1 d2 : PyData} {ds1 ds2 : List PyData} (hm : X.mg "zip" = none) (h1 : VC X e1 env (.dat d1)) (h2 : VC X e2 env (.dat d2)) (hd1 : d1 = .list ds1 ∨ d1 = .tuple ds1 := by first | exact Or.inl rfl | exact Or.inr rfl) (hd2 : d2 = .list ds2 ∨ d2 = .tuple ds2 := by first | exact Or.inl rfl | exact Or.inr rfl)
    (hg : Gl X "zip" := by rfl) (hs : starEach [e1, e2] X.env = (false, eval e1 X.env) :: starEach [e2] X.env := by rfl) (hs2 : starEach [e2] X.env = [(false, eval e2 X.env)] := by rfl) (hpl : (backTo pos (starEach [e2] X.env)).any (·.1) = false := by rfl) :
    VI X (.Tuple elts kk tpos) (.Call (.Name "zip" p) [e1, e2] [] pos) env ((ds1.zip ds2).map fun x => .tuple [x.1, x.2]) := fun F H σ S s R k =>
  ⟨_, pi_z2 hg hm (pa_cons pwE (pa_cons pwE pa_nil hs2) hs) hs hpl, two h1 h2 s fun v1 v2 F1 H1 g q1 q2 => by
    obtain ⟨r1, xs, rfl, hq1, hdp1⟩ := Src.of_dp g.sub q1 hd1
    obtain ⟨r2, ys, rfl, hq2, hdp2⟩ := Src.of_dp g.sub q2 hd2
    have hl1 := dps_length hdp1
    have hl2 := dps_length hdp2
    refine ⟨r1, r2, xs, ys, rfl, hq1 H1 g.sub, hq2 H1 g.sub, k _ F1 H1 g ⟨fun i F' H' hi e1 e2 => ?_, fun i F' H' x H'' hi e1 e2 q => ?_, fun F' H' e1 e2 => ?_⟩⟩
    · simp at hi
      exact ⟨xs, ys, xs[i]'(by omega), ys[i]'(by omega), hq1 H' (e1.trans e2), hq2 H' (e1.trans e2), List.getElem?_eq_getElem _, List.getElem?_eq_getElem _⟩
    · obtain ⟨T, y, z, rfl, hT, rfl, qa, qb⟩ := q
      obtain ⟨d', a1, a2⟩ := dps_getv hdp1 (qa xs (hq1 _ (e1.trans e2)))
      obtain ⟨d'', b1, b2⟩ := dps_getv hdp2 (qb ys (hq2 _ (e1.trans e2)))
      have g2 := Grow.laid (o := .tup [y, z]) e2 hT
      exact ⟨.tuple [d', d''], _, by rw [List.getElem?_map, zip_get a1 b1] <;> rfl, g2, .tup (SqT.of upd_same) (.cons (dp_mono (e1.trans g2.f) a2) (.cons (dp_mono (e1.trans g2.f) b2) .nil))⟩
    · exact ⟨xs, ys, hq1 H' (e1.trans e2), hq2 H' (e1.trans e2), by simp; omega⟩⟩
theorem two3 {d1 d2 d3 : PyData} (h1 : VC X e1 env (.dat d1)) (h2 : VC X e2 env (.dat d2)) (h3 : VC X e3 env (.dat d3)) {F H : Hp} {σ : St} {S : Foot} (s : Sit X.K F H σ S env) {k : V → V → V → Hp → Prop}
    (hk : ∀ v1 v2 v3 F' H', Grow F H F' H' → Dp X.K F' v1 d1 → Dp X.K F' v2 d2 → Dp X.K F' v3 d3 → k v1 v2 v3 H') : wE X e1 σ H fun x H1 => wE X e2 σ H1 fun y H2 => wE X e3 σ H2 fun z H3 => k x y z H3 :=
  two h1 h2 s fun v1 v2 F1 H1 g1 a b => h3 F1 H1 σ S (s.grow g1) _ fun v3 F2 H2 _ g2 c _ => hk v1 v2 v3 F2 H2 (g1.trans g2) (dp_mono g2.f a) (dp_mono g2.f b) c.1
theorem vi_z3 {d1 d2 d3 : PyData} {ds1 ds2 ds3 : List PyData} (hm : X.mg "zip" = none) (h1 : VC X e1 env (.dat d1)) (h2 : VC X e2 env (.dat d2)) (h3 : VC X e3 env (.dat d3)) (hd1 : d1 = .list ds1 ∨ d1 = .tuple ds1 := by first | exact Or.inl rfl | exact Or.inr rfl) (hd2 : d2 = .list ds2 ∨ d2 = .tuple ds2 := by first | exact Or.inl rfl | exact Or.inr rfl) (hd3 : d3 = .list ds3 ∨ d3 = .tuple ds3 := by first | exact Or.inl rfl | exact Or.inr rfl)
    (hg : Gl X "zip" := by rfl) (hs : starEach [e1, e2, e3] X.env = (false, eval e1 X.env) :: starEach [e2, e3] X.env := by rfl) (hs2 : starEach [e2, e3] X.env = (false, eval e2 X.env) :: starEach [e3] X.env := by rfl) (hs3 : starEach [e3] X.env = [(false, eval e3 X.env)] := by rfl) (hpl : (backTo pos (starEach [e2, e3] X.env)).any (·.1) = false := by rfl) :
    VI X (.Tuple elts kk tpos) (.Call (.Name "zip" p) [e1, e2, e3] [] pos) env ((ds1.zip (ds2.zip ds3)).map fun x => .tuple [x.1, x.2.1, x.2.2]) := fun F H σ S s R k =>
  ⟨_, pi_z3 hg hm (pa_cons pwE (pa_cons pwE (pa_cons pwE pa_nil hs3) hs2) hs) hs hpl, two3 h1 h2 h3 s fun v1 v2 v3 F1 H1 g q1 q2 q3 => by
    obtain ⟨r1, xs, rfl, hq1, hdp1⟩ := Src.of_dp g.sub q1 hd1
    obtain ⟨r2, ys, rfl, hq2, hdp2⟩ := Src.of_dp g.sub q2 hd2
    obtain ⟨r3, zs, rfl, hq3, hdp3⟩ := Src.of_dp g.sub q3 hd3
    have hl1 := dps_length hdp1
    have hl2 := dps_length hdp2
    have hl3 := dps_length hdp3
    refine ⟨r1, r2, r3, xs, ys, zs, rfl, hq1 H1 g.sub, hq2 H1 g.sub, hq3 H1 g.sub, k _ F1 H1 g ⟨fun i F' H' hi e1 e2 => ?_, fun i F' H' x H'' hi e1 e2 q => ?_, fun F' H' e1 e2 => ?_⟩⟩
    · simp at hi
      exact ⟨xs, ys, zs, xs[i]'(by omega), ys[i]'(by omega), zs[i]'(by omega), hq1 H' (e1.trans e2), hq2 H' (e1.trans e2), hq3 H' (e1.trans e2), List.getElem?_eq_getElem _, List.getElem?_eq_getElem _, List.getElem?_eq_getElem _⟩
    · obtain ⟨T, y, z, u, rfl, hT, rfl, qa, qb, qc⟩ := q
      obtain ⟨d', a1, a2⟩ := dps_getv hdp1 (qa xs (hq1 _ (e1.trans e2)))
      obtain ⟨d'', b1, b2⟩ := dps_getv hdp2 (qb ys (hq2 _ (e1.trans e2)))
      obtain ⟨d''', c1, c2⟩ := dps_getv hdp3 (qc zs (hq3 _ (e1.trans e2)))
      have g2 := Grow.laid (o := .tup [y, z, u]) e2 hT
      exact ⟨.tuple [d', d'', d'''], _, by rw [List.getElem?_map, zip_get a1 (zip_get b1 c1)] <;> rfl, g2, .tup (SqT.of upd_same) (.cons (dp_mono (e1.trans g2.f) a2) (.cons (dp_mono (e1.trans g2.f) b2) (.cons (dp_mono (e1.trans g2.f) c2) .nil)))⟩
    · exact ⟨xs, ys, zs, hq1 H' (e1.trans e2), hq2 H' (e1.trans e2), hq3 H' (e1.trans e2), by simp; omega⟩⟩
end
end G

set_option maxRecDepth 100000
set_option maxHeartbeats 4000000
namespace G
open PySem PySem.Spec PyProof.Rows L2

section
variable {K : PySem.W.Frag} {F H F' H' : Hp} {σ : St} {S : Foot} {env : En}
theorem Sit.put (s : Sit K F H σ S env) {i : Nat} {v : V} {c : Ct} {Sv : Addr → Prop} (h : Hold K F H v Sv c) (d : ∀ j a, S j a → ¬ Sv a) :
    ∃ S', Sit K F H (σ.set i (some v)) S' (env.set i (some c)) ∧ ∀ a, tot S' a → tot S a ∨ Sv a := by
  by_cases hi : i < env.length
  · exact ⟨_, s.set hi h d, fun a z => tot_set z⟩
  · have h1 : env.set i (some c) = env := List.set_eq_of_length_le (by omega)
    have h2 : σ.set i (some v) = σ := List.set_eq_of_length_le (by have := s.len; omega)
    rw [h1, h2]
    exact ⟨S, s, fun a z => .inl z⟩
def wipE (env : En) : List Nat → En
  | [] => env
  | v :: vs => (wipE env vs).set v none
theorem Sit.wipe (s : Sit K F H σ S env) : ∀ vs : List Nat, ∃ S', Sit K F H (L2.wipe σ vs) S' (wipE env vs) ∧ ∀ a, tot S' a → tot S a
  | [] => ⟨S, s, fun _ z => z⟩
  | v :: vs => by
    obtain ⟨S', s', h'⟩ := s.wipe vs
    refine ⟨_, s'.drop v (o := none), fun a z => h' a ?_⟩
    obtain ⟨j, z⟩ := z
    by_cases e : j = v
    · simp only [e, if_true] at z
    · simp only [e, if_false] at z
      exact ⟨j, z⟩
theorem Sit.sub_tot {S' : Foot} (s : Sit K F H σ S env) (h : ∀ a, tot S' a → tot S a) : Prog F H (tot S) F H (tot S') :=
  ⟨Same.refl F, fun _ _ e _ => e, fun _ _ e => .inl e, fun a z => .inl (h a z)⟩
end

/-! ### targets -/
def GC (X : Cx) (tg : Expr) (d : PyData) (env : En) (js : List Nat) (env' : En) : Prop := ∀ (F H : Hp) (σ : St) (S : Foot) (v : V), Sit X.K F H σ S env → Dp X.K F v d → ∀ Q : St → Hp → Prop,
  (∀ σ' S', Sit X.K F H σ' S' env' → (∀ a, tot S' a → tot S a) → (∀ i, i ∉ js → σ'[i]? = σ[i]?) ∧ σ'.length = σ.length → Q σ' H) → wG X tg v σ H Q
def wGs (X : Cx) (ts : List Expr) : TGs := fun vs σ H Q => ∃ t, PGs X ts t ∧ t vs σ H Q
def GCs (X : Cx) (ts : List Expr) (ds : List PyData) (env : En) (js : List Nat) (env' : En) : Prop := ∀ (F H : Hp) (σ : St) (S : Foot) (vs : List V), Sit X.K F H σ S env → DpAll X.K F vs ds → ∀ Q : St → Hp → Prop,
  (∀ σ' S', Sit X.K F H σ' S' env' → (∀ a, tot S' a → tot S a) → (∀ i, i ∉ js → σ'[i]? = σ[i]?) ∧ σ'.length = σ.length → Q σ' H) → wGs X ts vs σ H Q
section
variable {X : Cx} {env env' env2 : En} {d : PyData} {ds : List PyData} {pos : Pos} {e : Expr} {es : List Expr} {js js' : List Nat}
theorem pwG : PG X e (wG X e) := ⟨fun pins s σ H v u Q I r ⟨t, h, q⟩ => h.run pins s σ H v u Q I r q⟩
theorem pwGs : PGs X es (wGs X es) := ⟨fun pins s σ H vs us Q I r ⟨t, h, q⟩ => h.run pins s σ H vs us Q I r q⟩
theorem gc_name (i : Nat) (hN : X.N.Nodup) {x : Str} (hi : X.N[i]? = some x := by rfl) (hx : Loc X.env.scope x := by first | exact Or.inl rfl | exact Or.inr rfl) (hf : X.fn x = true ∨ X.env.scope.names.lookup x = some .local := by first | exact .inl rfl | exact .inr rfl | assumption) :
    GC X (.Name x pos) d env [i] (env.set i (some (.dat d))) := fun F H σ S v s hv Q k => by
  refine ⟨_, pg_name hN hi hx hf, ?_⟩
  obtain ⟨S', s', h'⟩ := s.put (i := i) (c := .dat d) (Sv := fun _ => False) ⟨hv, fun _ z => z⟩ (fun _ _ _ z => z)
  exact k _ S' s' (fun a z => (h' a z).elim id False.elim) ⟨fun j hj => List.getElem?_set_ne (fun e => hj (by simp [e])), List.length_set⟩
theorem gcs_nil : GCs X [] [] env [] env := fun F H σ S vs s hv Q k => by
  cases hv
  exact ⟨_, pgs_nil, rfl, k σ S s (fun _ z => z) ⟨fun _ _ => rfl, rfl⟩⟩
theorem gcs_cons (h : GC X e d env js env') (hs : GCs X es ds env' js' env2) (ha : (assignEach (e :: es) X.env).map (·.2) = assign e X.env :: (assignEach es X.env).map (·.2) := by rfl) : GCs X (e :: es) (d :: ds) env (js ++ js') env2 := fun F H σ S vs s hv Q k => by
  cases hv with
  | cons h1 h2 =>
    refine ⟨_, pgs_cons pwG pwGs ha, _, _, rfl, h F H σ S _ s h1 _ fun σ1 S1 s1 t1 o1 => ?_⟩
    refine hs F H σ1 S1 _ s1 h2 _ fun σ2 S2 s2 t2 o2 => k σ2 S2 s2 (fun a z => t1 a (t2 a z)) ⟨fun i hi => ?_, o2.2.trans o1.2⟩
    rw [o2.1 i (fun z => hi (List.mem_append_right _ z)), o1.1 i (fun z => hi (List.mem_append_left _ z))]
theorem gc_tup {k' : Nat} (hc : X.calm = true) (h : GCs X es ds env js env') (hn : (assignEach es X.env).length = ds.length := by rfl) (hst : (assignEach es X.env).findIdx? (·.1) = none := by rfl) : GC X (.Tuple es k' pos) (.tuple ds) env js env' := fun F H σ S v s hv Q k => by
  cases hv with
  | tup h1 h2 => exact ⟨_, pg_tup hc pwGs hn hst, _, _, rfl, same_sqT s.sub h1, by rw [dps_length h2], h F H σ S _ s h2 Q k⟩
end

/-! ### comprehensions -/
section
variable {X : Cx} {env : En} {tg iter elt : Expr} {ifs : List Expr} {scope : Scope} {own : List (Str × Nat)} {pos : Pos}
abbrev Blk (X : Cx) (scope : Scope) (P : Cx → Prop) : Prop := ∀ (s : Shared) (H : Hp) (C : Addr) (cl : List (Str × Addr)) (fp : List Addr), P (X.blk s H scope (compEnvC scope cl C X.env) fp)
def wTs (X : Cx) (ifs : List Expr) : TT := fun σ H Q => ∃ t, PTs X ifs t ∧ t σ H Q
theorem pwTs : PTs X ifs (wTs X ifs) := ⟨fun pins s σ H Q I ⟨t, h, q⟩ => h.run pins s σ H Q I q⟩
def bG (X : Cx) (scope : Scope) (tg : Expr) : TG := fun v σ H Q => Blk X scope fun X' => wG X' tg v σ H Q
def bT (X : Cx) (scope : Scope) (ifs : List Expr) : TT := fun σ H Q => Blk X scope fun X' => wTs X' ifs σ H Q
def bE (X : Cx) (scope : Scope) (e : Expr) : TE := fun σ H Q => Blk X scope fun X' => wE X' e σ H Q
theorem pbG : Blk X scope fun X' => PG X' tg (bG X scope tg) := fun s H C cl fp => ⟨fun pins s' σ H' v u Q I r q => pwG.run pins s' σ H' v u Q I r (q s H C cl fp)⟩
theorem pbT : Blk X scope fun X' => PTs X' ifs (bT X scope ifs) := fun s H C cl fp => ⟨fun pins s' σ H' Q I q => pwTs.run pins s' σ H' Q I (q s H C cl fp)⟩
theorem pbE : Blk X scope fun X' => PE X' elt (bE X scope elt) := fun s H C cl fp => ⟨fun pins s' σ H' Q I q => pwE.run pins s' σ H' Q I (q s H C cl fp)⟩
/-- the clause's tests: none, or one -/
def TsC (X : Cx) (ifs : List Expr) (env : En) (b : Bool) : Prop := ∀ (F H : Hp) (σ : St) (S : Foot), Sit X.K F H σ S env → ∀ Q : Bool → Hp → Prop, (∀ F' H', Grow F H F' H' → Q b H') → wTs X ifs σ H Q
theorem ts_nil : TsC X [] env true := fun F H σ S s Q k => ⟨_, pts_nil, k F H (Grow.refl s.sub)⟩
theorem ts_one {c : Expr} {b : Bool} (h : TC X c env b) : TsC X [c] env b := fun F H σ S s Q k => ⟨_, pts_one pwT, h F H σ S s Q k⟩
theorem wipe_get (j : Nat) : ∀ (τ : St) (ws : List Nat), (L2.wipe τ ws)[j]? = if j ∈ ws then (if j < τ.length then some none else none) else τ[j]?
  | τ, [] => by simp [L2.wipe]
  | τ, w :: ws => by
    show ((L2.wipe τ ws).set w none)[j]? = _
    by_cases e : w = j
    · subst e
      rw [List.getElem?_set, if_pos rfl, L2.wipe_length, if_pos List.mem_cons_self]
    · rw [List.getElem?_set_ne e, wipe_get j τ ws]
      by_cases hj : j ∈ ws
      · rw [if_pos hj, if_pos (List.mem_cons_of_mem _ hj)]
      · rw [if_neg hj, if_neg (fun z => (List.mem_cons.mp z).elim (fun q => e q.symm) hj)]
theorem wipe_eq {σ σ' : St} {vs : List Nat} (h : ∀ i, i ∉ vs → σ'[i]? = σ[i]?) (hl : σ'.length = σ.length) : L2.wipe σ' vs = L2.wipe σ vs := by
  apply List.ext_getElem?
  intro j
  rw [wipe_get, wipe_get, hl]
  by_cases hj : j ∈ vs
  · rw [if_pos hj, if_pos hj]
  · rw [if_neg hj, if_neg hj]
    exact h j hj
theorem wipe_twice {σ : St} {vs : List Nat} : L2.wipe (L2.wipe σ vs) vs = L2.wipe σ vs := by
  refine wipe_eq (fun i hi => ?_) (L2.wipe_length σ vs)
  rw [wipe_get, if_neg hi]
theorem wipe_of {σ σ2 : St} {vs js : List Nat} (h : (∀ i, i ∉ js → σ2[i]? = (L2.wipe σ vs)[i]?) ∧ σ2.length = (L2.wipe σ vs).length) (hj : ∀ j ∈ js, j ∈ vs) : L2.wipe σ2 vs = L2.wipe σ vs :=
  (wipe_eq (fun i hi => h.1 i fun z => hi (hj i z)) h.2).trans wipe_twice

/-- [elt for tg in iter if ..], all pure: the items that pass, each as g tells -/
theorem lc_core {α : Type} (xs : List α) (f : α → PyData) (p : α → Bool) (g : α → PyData) (js : List Nat) (bnd : α → En) (hi : VI X tg iter env (xs.map f)) (hj : ∀ j ∈ js, j ∈ own.map (·.2))
    (hb : ∀ x ∈ xs, Blk X scope fun X' => GC X' tg (f x) (wipE env (own.map (·.2))) js (bnd x)) (ht : ∀ x ∈ xs, Blk X scope fun X' => TsC X' ifs (bnd x) (p x)) (he : ∀ x ∈ xs, p x = true → Blk X scope fun X' => VC X' elt (bnd x) (.dat (g x))) (hz : xs.length < 16777216)
    {F H : Hp} {σ : St} {S : Foot} (s : Sit X.K F H σ S env) {Q : VK} (k : ∀ v F' H' Sv, Grow F H F' H' → Hold X.K F' H' v Sv (.own v (olst X.K ((xs.filter p).map g))) → (∀ a, Sv a → H a = none) → Q v H') :
    tLc (wI X tg iter) (bG X scope tg) (bT X scope ifs) (bE X scope elt) (own.map (·.2)) σ H Q := by
  refine hi F H σ S s _ fun J F1 H1 g1 y D hD => ?_
  have s1 := s.grow g1
  obtain ⟨Sw, sw, tw⟩ := s1.wipe (own.map (·.2))
  have hl : (xs.map f).length = xs.length := List.length_map ..
  let Pv : Nat → Hp → Prop := fun i H' => ∃ F' acc, H' D = some (.lst acc) ∧ DpAll X.K F' acc (((xs.take i).filter p).map g) ∧ F' D = none ∧ Grow F1 H1 F' H'
  have hP0 : Pv 0 (upd H1 D (.lst [])) := ⟨F1, [], upd_same, .nil, g1.sub.free hD, Grow.made g1.sub hD⟩
  refine ⟨fun i m H' => m = xs.length - i ∧ i ≤ xs.length ∧ Pv i H', ⟨xs.length, rfl, Nat.zero_le _, hP0⟩, ?_⟩
  rintro i m H' ⟨rfl, hi', F', acc, hacc, hds, nF, g2⟩
  by_cases hlt : i < xs.length
  · refine .inr ⟨y.go i F' H' (by omega) g2.f g2.sub, Pv (i + 1), fun H'' p' => ⟨xs.length - (i + 1), by omega, rfl, hlt, p'⟩, fun x H'' hy => ?_⟩
    obtain ⟨d, F2, hd, g3, hx⟩ := y.yld i F' H' x H'' (by omega) g2.f g2.sub hy
    have hxi : xs[i]? = some xs[i] := List.getElem?_eq_getElem hlt
    have hmem : xs[i] ∈ xs := List.getElem_mem hlt
    have htk : xs.take (i + 1) = xs.take i ++ [xs[i]] := by rw [List.take_succ, hxi] <;> rfl
    have hd' : d = f xs[i] := by
      rw [List.getElem?_map, hxi] at hd
      exact (Option.some.inj hd).symm
    subst hd'
    have s2 : Sit X.K F2 H'' (L2.wipe σ (own.map (·.2))) Sw (wipE env (own.map (·.2))) := sw.grow (g2.trans g3)
    intro sS sH sC scl sfp
    refine hb _ hmem sS sH sC scl sfp F2 H'' _ Sw x s2 hx _ fun σ2 S2 s3 t2 o2 => ⟨wipe_of o2 hj, ?_⟩
    intro sS sH sC scl sfp
    refine ht _ hmem sS sH sC scl sfp F2 H'' σ2 S2 s3 _ fun F3 H3 g4 => ?_
    have hD3 : H3 D = some (.lst acc) := g4.h _ _ (g3.h _ _ hacc)
    have nD : ∀ {Fa Ha Fb Hb : Hp}, Fa D = none → Ha D = some (.lst acc) → Grow Fa Ha Fb Hb → Fb D = none := fun {Fa Ha Fb Hb} h1 h2 g => by
      cases q : Fb D with
      | none => rfl
      | some o =>
        rcases g.new D o q with z | z
        · rw [h1] at z; cases z
        · rw [h2] at z; cases z
    have nF2 : F2 D = none := nD nF hacc g3
    have nF3 : F3 D = none := nD nF2 (g3.h _ _ hacc) g4
    cases hp : p xs[i] with
    | false =>
      refine ⟨F3, acc, hD3, ?_, nF3, (g2.trans g3).trans g4⟩
      rw [htk, List.filter_append, List.map_append]
      have e : ([xs[i]].filter p).map g = [] := by rw [List.filter_cons, hp] <;> rfl
      rw [e, List.append_nil]
      exact dps_mono (g3.f.trans g4.f) hds
    | true =>
      intro sS sH sC scl sfp
      refine he _ hmem hp sS sH sC scl sfp F3 H3 σ2 S2 (s3.grow g4) _ fun v F4 H4 Sv g5 hv fr => ?_
      have hD4 : H4 D = some (.lst acc) := g5.h _ _ hD3
      have nF4 : F4 D = none := nD nF3 hD3 g5
      have hac : acc.length ≤ i := by
        rw [dps_length hds, List.length_map]
        have := List.length_filter_le p (xs.take i)
        rw [List.length_take] at this
        omega
      refine ⟨acc, hD4, by rw [sizeLine_eq]; omega, F4, acc ++ [v], upd_same, ?_, nF4, ?_⟩
      · rw [htk, List.filter_append, List.map_append]
        have e : ([xs[i]].filter p).map g = [g xs[i]] := by rw [List.filter_cons, hp] <;> rfl
        rw [e]
        exact dps_append (dps_mono ((g3.f.trans g4.f).trans g5.f) hds) (.cons hv.1 .nil)
      · have g6 := ((g2.trans g3).trans g4).trans g5
        exact ⟨g6.f, fun b o e => by rw [upd_ne (ne_of_none e hD)]; exact g6.h b o e, fun b o e => by rw [upd_ne (ne_of_none e nF4)]; exact g6.sub b o e, g6.new⟩
  · have e : i = xs.length := by omega
    subst e
    refine .inl ⟨by have z := y.stop F' H' g2.f g2.sub; rw [hl] at z; exact z, ?_⟩
    rw [List.take_length] at hds
    exact k (.ref D) F' H' (fun b => b = D) (g1.trans g2) ⟨rfl, ⟨D, acc, rfl, hacc, hds, fun _ => Iff.rfl⟩, fun b z => by subst z; exact ⟨nF, _, hacc⟩⟩ fun b z => by subst z; exact g1.h.free hD
theorem vo_lc {α : Type} (xs : List α) (f : α → PyData) (p : α → Bool) (g : α → PyData) (js : List Nat) (bnd : α → En) (hc : X.calm = true) (hN : X.N.Nodup) (ok : BlkOk X.N X.env.scope scope own) (hi : VI X tg iter env (xs.map f)) (hj : ∀ j ∈ js, j ∈ own.map (·.2))
    (hb : ∀ x ∈ xs, Blk X scope fun X' => GC X' tg (f x) (wipE env (own.map (·.2))) js (bnd x)) (ht : ∀ x ∈ xs, Blk X scope fun X' => TsC X' ifs (bnd x) (p x)) (he : ∀ x ∈ xs, p x = true → Blk X scope fun X' => VC X' elt (bnd x) (.dat (g x))) (hz : xs.length < 16777216)
    (hs : ∀ x, foldedSetIterable iter X.env x = pure x := by intro _; rfl) : VO X (.ListComp elt [⟨tg, iter, ifs, 0⟩] scope pos) env (olst X.K ((xs.filter p).map g)) := fun F H σ S s Q k =>
  ⟨_, pe_lc (own := own) hc hN (⟨fun pins s σ H R I ⟨t, h, q⟩ => h.run pins s σ H R I q⟩ : PI X tg iter (wI X tg iter)) ok pbG pbT pbE hs, lc_core xs f p g js bnd hi hj hb ht he hz s k⟩
end
end G

set_option maxRecDepth 100000
set_option maxHeartbeats 4000000
namespace G
open PySem PySem.Spec PyProof.Rows L2

/-! ### statements -/
section
variable {X : Cx} {W : WX} {D : DE} {env : En} {st : Stmt} {rest body els : List Stmt} {e c tg iter : Expr} {pos p' : Pos}
theorem wb_cons (h : WS X W st { D with nx := fun env' => WB X W rest D env' } env) : WB X W (st :: rest) D env := fun F H σ S s E m =>
  ⟨_, pss_cons pwS pwB, h F H σ S s _ ⟨fun F' H' σ' S' env' p s' q => q F' H' σ' S' s' E (m.from p), m.rt, m.bk, m.ct, m.ex⟩⟩
theorem wb_nil (h : D.nx env) : WB X W [] D env := fun F H σ S s E m => ⟨_, pss_nil, m.nx F H σ S env Prog.refl s h⟩
/-- an effectful value's Prog, its footprint told -/
theorem VO.eff {R : Rs} {Q : Ct → En → Prop} {RX : Xc → En → Prop} (h : VO X e env R) (q : ∀ v, Q (.own v R) env) : EC X W e Q RX env := fun F H σ S s QV k _ =>
  h F H σ S s _ fun v F' H' Sv g hv fr => k v F' H' S Sv (.own v R) env
    ⟨g.f, fun a o e _ => g.h a o e, fun a o e => (g.new a o e).elim .inl fun z => .inr (.inl z), fun a z => z.elim .inl fun z => .inr (fr a z)⟩ (s.grow g) hv
    (fun i a z y => by obtain ⟨_, o, ho⟩ := s.no z; rw [fr a y] at ho; cases ho) (q v)
theorem ws_set (i : Nat) (h : EC X W e (fun c env' => D.nx (env'.set i (some c))) D.ex env) (hN : X.N.Nodup) {x : Str} (hi : X.N[i]? = some x := by rfl) (hx : Loc X.env.scope x := by first | exact Or.inl rfl | exact Or.inr rfl)
    (hs : swapsWith e (some (.Name x p')) pos.line X.env = pure false := by rfl) (hf : X.fn x = true ∨ X.env.scope.names.lookup x = some .local := by first | exact .inl rfl | exact .inr rfl | assumption) : WS X W (.Assign [.Name x p'] e pos) D env := fun F H σ S s E m =>
  ⟨_, ps_set hN hi hx pwE hs hf, h F H σ S s _ (fun v F' H' S' Sv c env' p s' hv dj q => by
    obtain ⟨S2, s2, t2⟩ := s'.put (i := i) hv (fun j a z => dj j a z)
    exact m.nx F' H' _ S2 _ (p.trans ⟨Same.refl _, fun _ _ e _ => e, fun _ _ e => .inl e, fun a z => .inl (t2 a z)⟩) s2 q) fun cls od F' H' S' x env' p s' xh q => m.ex cls od F' H' σ S' x env' p s' xh q⟩
theorem ws_setLc {elt : Expr} {ifs : List Expr} {scope : Scope} {own : List (Str × Nat)} {lpos : Pos} {α : Type} (i : Nat) (xs : List α) (f : α → PyData) (p : α → Bool) (g : α → PyData) (js : List Nat) (bnd : α → En) (hc : X.calm = true) (hN : X.N.Nodup) {x : Str} (ok : BlkOk X.N X.env.scope scope own)
    (hi : VI X tg iter env (xs.map f)) (hj : ∀ j ∈ js, j ∈ own.map (·.2))
    (hb : ∀ x ∈ xs, Blk X scope fun X' => GC X' tg (f x) (wipE env (own.map (·.2))) js (bnd x)) (ht : ∀ x ∈ xs, Blk X scope fun X' => TsC X' ifs (bnd x) (p x)) (he : ∀ x ∈ xs, p x = true → Blk X scope fun X' => VC X' elt (bnd x) (.dat (g x))) (hz : xs.length < 16777216)
    (h : ∀ v, D.nx (env.set i (some (.own v (olst X.K ((xs.filter p).map g))))))
    (hy : X.N[i]? = some x := by rfl) (hyl : X.env.scope.names.lookup x = some .local := by rfl)
    (hsw : swapsWith (.ListComp elt [⟨tg, iter, ifs, 0⟩] scope lpos) (some (.Name x p')) pos.line X.env = pure true := by exact sw_true rfl rfl rfl (by decide +kernel))
    (hs : ∀ x, foldedSetIterable iter X.env x = pure x := by intro _; rfl) : WS X W (.Assign [.Name x p'] (.ListComp elt [⟨tg, iter, ifs, 0⟩] scope lpos) pos) D env := fun F H σ S s E m =>
  ⟨_, ps_setLc (own := own) hc hN hy hyl hsw (⟨fun pins s σ H R I ⟨t, h, q⟩ => h.run pins s σ H R I q⟩ : PI X tg iter (wI X tg iter)) ok pbG pbT pbE hs, lc_core xs f p g js bnd hi hj hb ht he hz s fun v F' H' Sv gr hv fr => by
    obtain ⟨S2, s2, t2⟩ := (s.grow gr).put (i := i) hv (fun j a z y => by obtain ⟨_, o, ho⟩ := s.no z; rw [fr a y] at ho; cases ho)
    exact m.nx F' H' _ S2 _ ⟨gr.f, fun a o e _ => gr.h a o e, fun a o e => (gr.new a o e).elim .inl fun z => .inr (.inl z), fun a z => (t2 a z).elim .inl fun y => .inr (fr a y)⟩ s2 (h v)⟩
theorem ws_ret (h : EC X W e D.rt D.ex env) : WS X W (.Return (some e) pos) D env := fun F H σ S s E m =>
  ⟨_, ps_ret pwE, h F H σ S s _ (fun v F' H' S' Sv c env' p s' hv dj q => m.rt v F' H' σ S' Sv c env' p s' hv dj q) fun cls od F' H' S' x env' p s' xh q => m.ex cls od F' H' σ S' x env' p s' xh q⟩
theorem ws_retN (h : D.rt (.dat .none) env) : WS X W (.Return none pos) D env := fun F H σ S s E m =>
  ⟨_, ps_retN, m.rt .non F H σ S (fun _ => False) (.dat .none) env ⟨Same.refl _, fun _ _ e _ => e, fun _ _ e => .inl e, fun a z => .inl (z.elim id False.elim)⟩ s ⟨.non, fun _ z => z⟩ (fun _ _ _ z => z) h⟩
/-- what a slot holds of one's own is handed back -/
theorem ec_name_own {v : V} {R : Rs} {Q : Ct → En → Prop} {RX : Xc → En → Prop} (i : Nat) (h : env[i]? = some (some (.own v R))) (q : Q (.own v R) (env.set i none)) {x : Str} (hN : X.N[i]? = some x := by rfl)
    (hv : Vis X.env.scope x := by first | exact Or.inl rfl | exact Or.inr (Or.inl rfl) | exact Or.inr (Or.inr rfl)) (hd : (x == ("__debug__" : Str)) = false := by decide) (hcd : (x == ("__classdict__" : Str)) = false := by decide) : EC X W (.Name x pos) Q RX env := fun F H σ S s QV k _ => by
  obtain ⟨v', e1, h1⟩ := s.slot i _ h
  have hi : i < env.length := (List.getElem?_eq_some_iff.mp h).1
  -- the slot itself stays as it is: only its content is forgotten
  have s' : Sit X.K F H σ (fun j => if j = i then fun _ => False else S j) (env.set i none) := by
    have d := s.drop i (o := some v')
    have e : σ.set i (some v') = σ := by
      apply List.ext_getElem?
      intro j
      by_cases hj : i = j
      · subst hj
        rw [List.getElem?_set, if_pos rfl, e1]
        simp [s.len, hi]
      · rw [List.getElem?_set_ne hj]
    rw [e] at d
    exact d
  refine ⟨_, pe_var hN hv hd hcd, v', e1, k v' F H _ (S i) _ _ ⟨Same.refl F, fun _ _ e _ => e, fun _ _ e => .inl e, fun a z => .inl ?_⟩ s' h1 (fun j a z y => ?_) q⟩
  · rcases z with ⟨j, z⟩ | z
    · by_cases e : j = i
      · simp only [e, if_true] at z
      · simp only [e, if_false] at z
        exact ⟨j, z⟩
    · exact ⟨i, z⟩
  · by_cases e : j = i
    · simp only [e, if_true] at z
    · simp only [e, if_false] at z
      exact e (s.dis j i a z y)
theorem ws_if {a b : List Stmt} (h : TEC X W c (fun b' env' => if b' = true then WB X W a D env' else WB X W b D env') D.ex env) : WS X W (.If c a b pos) D env := fun F H σ S s E m =>
  ⟨_, ps_if pwT pwB pwB, h F H σ S s _ (fun b' F' H' S' env' p s' q => by
    cases b' with
    | true => exact q F' H' σ S' s' E (m.from p)
    | false => exact q F' H' σ S' s' E (m.from p)) fun cls od F' H' S' x env' p s' xh q => m.ex cls od F' H' σ S' x env' p s' xh q⟩
/-- a pure test, both ways -/
theorem ws_ifP {a b : List Stmt} {b' : Bool} (h : TC X c env b') (h1 : b' = true → WB X W a D env) (h2 : b' = false → WB X W b D env) : WS X W (.If c a b pos) D env :=
  ws_if (TEC.pure h (by cases b' with | true => exact h1 rfl | false => exact h2 rfl))
theorem ws_expr (h : EC X W e (fun _ env' => D.nx env') D.ex env) (hs : swapsWith e none pos.line X.env = pure false := by rfl) : WS X W (.Expr e pos) D env := fun F H σ S s E m =>
  ⟨_, ps_expr pwE hs, h F H σ S s _ (fun v F' H' S' Sv c env' p s' hv dj q => m.nx F' H' σ S' env' (p.weak (fun _ z => z) fun a z => .inl (.inl z)) s' q) fun cls od F' H' S' x env' p s' xh q => m.ex cls od F' H' σ S' x env' p s' xh q⟩
theorem ws_pass (h : D.nx env) : WS X W (.Pass pos) D env := fun F H σ S s E m => ⟨_, ps_pass, m.nx F H σ S env Prog.refl s h⟩
theorem ws_break (h : D.bk env) : WS X W (.Break pos) D env := fun F H σ S s E m => ⟨_, ps_break, m.bk F H σ S env Prog.refl s h⟩
theorem ws_cont (h : D.ct env) : WS X W (.Continue pos) D env := fun F H σ S s E m => ⟨_, ps_continue, m.ct F H σ S env Prog.refl s h⟩
theorem ws_doc {x : Str} {j : Nat} (h : D.nx env) : WS X W (.Expr (.Constant (.str x) j p') pos) D env := fun F H σ S s E m => ⟨_, ps_doc, m.nx F H σ S env Prog.refl s h⟩
/-- tg = e, e data, tg any target -/
theorem ws_asg {d : PyData} {js : List Nat} {env' : En} (h : VC X e env (.dat d)) (hg : GC X tg d env js env') (k : D.nx env') (hs : swapsWithSole [tg] e pos.line X.env = pure false := by rfl) (hw : swappedStores [tg] e X.env = pure none := by rfl) (ha : (assignEach [tg] X.env).map (·.2) = [assign tg X.env] := by rfl) : WS X W (.Assign [tg] e pos) D env := fun F H σ S s E m =>
  ⟨_, ps_asg pwE pwG hs hw ha, h F H σ S s _ fun v F' H' Sv g hv fr => hg F' H' σ S v (s.grow g) hv.1 _ fun σ' S' s' t' o' => m.nx F' H' σ' S' env' (g.prog.trans ((s.grow g).sub_tot t')) s' k⟩
theorem ws_par {i j : Nat} {x y : Str} {a b : Expr} {d1 d2 : PyData} {px py pt : Pos} {kt k2 pt2} (hc : X.calm = true) (hN : X.N.Nodup) (h1 : VC X a env (.dat d1)) (h2 : VC X b env (.dat d2)) (k : D.nx ((env.set i (some (.dat d1))).set j (some (.dat d2))))
    (hps : ∀ ta, PA X [a, b] ta → PS X (.Assign [.Tuple [.Name x px, .Name y py] kt pt] (.Tuple [a, b] k2 pt2) pos) (tPar i j ta) := by exact fun _ h => ps_par (by rfl) (by assumption) rfl rfl (by decide) rfl rfl h (by rfl)) (hs : starEach [a, b] X.env = (false, eval a X.env) :: starEach [b] X.env := by rfl) (hs2 : starEach [b] X.env = (false, eval b X.env) :: starEach [] X.env := by rfl) :
    WS X W (.Assign [.Tuple [.Name x px, .Name y py] kt pt] (.Tuple [a, b] k2 pt2) pos) D env := fun F H σ S s E m =>
  ⟨_, hps _ (pa_cons pwE (pa_cons pwE pa_nil hs2) hs), two h1 h2 s fun v1 v2 F1 H1 g q1 q2 => by
    have s1 := s.grow g
    obtain ⟨S2, s2, t2⟩ := s1.put (i := i) (c := .dat d1) (Sv := fun _ => False) ⟨q1, fun _ z => z⟩ (fun _ _ _ z => z)
    obtain ⟨S3, s3, t3⟩ := s2.put (i := j) (c := .dat d2) (Sv := fun _ => False) ⟨q2, fun _ z => z⟩ (fun _ _ _ z => z)
    refine ⟨v1, v2, rfl, m.nx F1 H1 _ S3 _ (g.prog.trans (s1.sub_tot fun a z => ?_)) s3 k⟩
    exact (t3 a z).elim (fun z => (t2 a z).elim id False.elim) False.elim⟩
/-- over data -/
theorem ws_for {items : List PyData} (hp : PassesOwn (model X.prog X.w) X.A X.env X.xe) (hc : X.calm = true) (hi : VI X tg iter env items) (P : Nat → En → Prop) (h0 : P 0 env)
    (hs : ∀ i d, items[i]? = some d → ∀ env1, P i env1 → ∃ js env2, GC X tg d env1 js env2 ∧ WB X W body { D with nx := P (i + 1), ct := P (i + 1), bk := D.nx } env2) (hd : ∀ env1, P items.length env1 → D.nx env1)
    (hf : ∀ x, foldedSetIterable iter X.env x = pure x := by intro _; rfl) : WS X W (.For tg iter body [] pos) D env := fun F H σ S s E m =>
  ⟨_, ps_for hp hc (⟨fun pins s σ H R I ⟨t, h, q⟩ => h.run pins s σ H R I q⟩ : PI X tg iter (wI X tg iter)) pwG pwB hf, hi F H σ S s _ fun J F1 H1 g1 y => by
    let Pv : Nat → St → Hp → Prop := fun i σ' H' => ∃ F' S' env', Prog F1 H1 (tot S) F' H' (tot S') ∧ Sit X.K F' H' σ' S' env' ∧ P i env'
    refine ⟨fun i n σ' H' => n = items.length - i ∧ i ≤ items.length ∧ Pv i σ' H', ⟨items.length, rfl, Nat.zero_le _, F1, S, env, Prog.refl, s.grow g1, h0⟩, ?_⟩
    rintro i n σ' H' ⟨rfl, hi', F', S', env', p', s', q'⟩
    by_cases hlt : i < items.length
    · refine .inr ⟨y.go i F' H' hlt p'.f s'.sub, Pv (i + 1), fun σ2 H2 z => ⟨items.length - (i + 1), by omega, rfl, hlt, z⟩, fun x H2 hy => ?_⟩
      obtain ⟨d, F2, hd', g2, hx⟩ := y.yld i F' H' x H2 hlt p'.f s'.sub hy
      obtain ⟨js, env2, hg, hb⟩ := hs i d hd' env' q'
      refine hg F2 H2 σ' S' x (s'.grow g2) hx _ fun σ3 S3 s3 t3 o3 => ?_
      have p3 : Prog F1 H1 (tot S) F2 H2 (tot S3) := (p'.trans g2.prog).trans ((s'.grow g2).sub_tot t3)
      have pp : Prog F H (tot S) F2 H2 (tot S3) := g1.prog.trans p3
      have m3 := m.from pp
      exact hb F2 H2 σ3 S3 s3 _ ⟨fun F4 H4 σ4 S4 env4 p4 s4 q4 => ⟨F4, S4, env4, p3.trans p4, s4, q4⟩, m3.rt, m3.nx, fun F4 H4 σ4 S4 env4 p4 s4 q4 => ⟨F4, S4, env4, p3.trans p4, s4, q4⟩, m3.ex⟩
    · have e : i = items.length := by omega
      subst e
      exact .inl ⟨y.stop F' H' p'.f s'.sub, m.nx F' H' σ' S' env' (g1.prog.trans p') s' (hd env' q')⟩⟩
theorem ws_while (hp : PassesOwn (model X.prog X.w) X.A X.env X.xe) (P : Nat → En → Prop) (m0 : Nat) (h0 : P m0 env)
    (hs : ∀ n env1, P n env1 → ∃ b, TC X c env1 b ∧ (b = true → WB X W body { D with nx := fun e => ∃ n', n' < n ∧ P n' e, ct := fun e => ∃ n', n' < n ∧ P n' e, bk := D.nx } env1) ∧ (b = false → D.nx env1)) : WS X W (.While c body [] pos) D env := fun F H σ S s E m =>
  ⟨_, ps_while hp pwT pwB, by
    refine ⟨fun n σ' H' => ∃ F' S' env', Prog F H (tot S) F' H' (tot S') ∧ Sit X.K F' H' σ' S' env' ∧ P n env', ⟨m0, F, S, env, Prog.refl, s, h0⟩, ?_⟩
    rintro n σ' H' ⟨F', S', env', p', s', q'⟩
    obtain ⟨b, ht, h1, h2⟩ := hs n env' q'
    refine ht F' H' σ' S' s' _ fun F2 H2 g2 => ?_
    have p2 : Prog F H (tot S) F2 H2 (tot S') := p'.trans g2.prog
    have m2 := m.from p2
    cases b with
    | true =>
      refine ⟨fun σ3 H3 => ∃ n', n' < n ∧ ∃ F3 S3 env3, Prog F H (tot S) F3 H3 (tot S3) ∧ Sit X.K F3 H3 σ3 S3 env3 ∧ P n' env3, fun σ3 H3 z => z, ?_⟩
      have go : ∀ F4 H4 σ4 S4 env4, Prog F2 H2 (tot S') F4 H4 (tot S4) → Sit X.K F4 H4 σ4 S4 env4 → (∃ n', n' < n ∧ P n' env4) → ∃ n', n' < n ∧ ∃ F3 S3 env3, Prog F H (tot S) F3 H4 (tot S3) ∧ Sit X.K F3 H4 σ4 S3 env3 ∧ P n' env3 :=
        fun F4 H4 σ4 S4 env4 p4 s4 ⟨n', l, q4⟩ => ⟨n', l, F4, S4, env4, p2.trans p4, s4, q4⟩
      exact h1 rfl F2 H2 σ' S' (s'.grow g2) _ ⟨go, m2.rt, m2.nx, go, m2.ex⟩
    | false => exact m2.nx F2 H2 σ' S' env' Prog.refl (s'.grow g2) (h2 rfl)⟩
end

/-! ### defs -/
/-- the parameters' contents behind a body -/
inductive Back : List Ct → En → List Ct → Prop
  | nil {env} : Back [] env []
  | dat {d cs x env cs'} : Back cs env cs' → Back (.dat d :: cs) (x :: env) (.dat d :: cs')
  | pin {P cs x env cs'} : Back cs env cs' → Back (.pin P :: cs) (x :: env) (.pin P :: cs')
  | own {v R R' cs env cs'} : Back cs env cs' → Back (.own v R :: cs) (some (.own v R') :: env) (.own v R' :: cs')
abbrev Spec := List Ct → (Ct → List Ct → Prop) → (Xc → List Ct → Prop) → Prop
def spG (K : PySem.W.Frag) (spec : Spec) : Sp := fun vs H Q E => ∃ (F : Hp) (S : Foot) (cs : List Ct) (R : Ct → List Ct → Prop) (RX : Xc → List Ct → Prop), Sit K F H (vs.map some) S (cs.map some) ∧ spec cs R RX ∧
  (∀ v F' H' S' Sv c cs', Prog F H (tot S) F' H' (fun a => tot S' a ∨ Sv a) → Sit K F' H' (vs.map some) S' (cs'.map some) → Hold K F' H' v Sv c → (∀ i a, S' i a → ¬ Sv a) → R c cs' → Q v H') ∧
  (∀ cls od F' H' S' x cs', Prog F H (tot S) F' H' (tot S') → Sit K F' H' (vs.map some) S' (cs'.map some) → XHold K F' H' (tot S') cls od x → RX x cs' → E cls od H')
theorem Back.get {cs : List Ct} {env : En} {cs' : List Ct} (b : Back cs env cs') : cs'.length = cs.length ∧ ∀ (i : Nat) (c : Ct), cs[i]? = some c → match c with
    | Ct.dat d => cs'[i]? = some (Ct.dat d)
    | Ct.pin P => cs'[i]? = some (Ct.pin P)
    | Ct.own v _ => ∃ R', cs'[i]? = some (.own v R') ∧ env[i]? = some (some (.own v R')) := by
  induction b with
  | nil => exact ⟨rfl, fun i c h => by simp at h⟩
  | dat b ih =>
    refine ⟨by simp [ih.1], fun i c h => ?_⟩
    cases i with
    | zero => simp at h; subst h; rfl
    | succ i =>
      have := ih.2 i c (by simpa using h)
      cases c <;> simpa using this
  | pin b ih =>
    refine ⟨by simp [ih.1], fun i c h => ?_⟩
    cases i with
    | zero => simp at h; subst h; rfl
    | succ i =>
      have := ih.2 i c (by simpa using h)
      cases c <;> simpa using this
  | own b ih =>
    refine ⟨by simp [ih.1], fun i c h => ?_⟩
    cases i with
    | zero => simp at h; subst h; exact ⟨_, rfl, rfl⟩
    | succ i =>
      have := ih.2 i c (by simpa using h)
      cases c <;> simpa using this
/-- at a def's end: what the caller is told of the parameters -/
theorem sit_back {K : PySem.W.Frag} {F H F' H' : Hp} {vs : List V} {S S' : Foot} {S0 : Addr → Prop} {cs cs' : List Ct} {σ' : St} {env' : En} (s : Sit K F H (vs.map some) S (cs.map some)) (pf : Same F F') (s' : Sit K F' H' σ' S' env') (b : Back cs env' cs') :
    ∃ S2 : Foot, Sit K F' H' (vs.map some) S2 (cs'.map some) ∧ ∀ i a, S2 i a → S' i a := by
  obtain ⟨hl, hg⟩ := b.get
  have hvl : vs.length = cs.length := by have := s.len; simpa using this
  refine ⟨fun i a => S' i a ∧ ∃ v R, cs[i]? = some (.own v R), ⟨s'.sub, fun i c e => ?_, fun i j a h1 h2 => s'.dis i j a h1.1 h2.1, by simp [hvl, hl], fun i hi a z => ?_⟩, fun i a z => z.1⟩
  · rw [List.getElem?_map] at e
    cases e0 : cs'[i]? with
    | none => rw [e0] at e; cases e
    | some c0 =>
      rw [e0] at e
      have ec : c0 = c := Option.some.inj (Option.some.inj e)
      subst ec
      have hi : i < cs.length := by rw [← hl]; exact (List.getElem?_eq_some_iff.mp e0).1
      have ei : cs[i]? = some cs[i] := List.getElem?_eq_getElem hi
      have q := hg i _ ei
      obtain ⟨v, hv, hh⟩ := s.slot i cs[i] (by rw [List.getElem?_map, ei]; rfl)
      cases hc : cs[i] with
      | dat d =>
        rw [hc] at q hh
        simp only at q
        rw [e0] at q
        cases q
        exact ⟨v, hv, dp_mono pf hh.1, fun a z => by obtain ⟨_, v', R', z⟩ := z; rw [ei, hc] at z; cases z⟩
      | pin P =>
        rw [hc] at q hh
        simp only at q
        rw [e0] at q
        cases q
        exact ⟨v, hv, P.mono pf hh.1, fun a z => by obtain ⟨_, v', R', z⟩ := z; rw [ei, hc] at z; cases z⟩
      | own v0 R =>
        rw [hc] at q hh
        obtain ⟨R', q1, q2⟩ := q
        rw [e0] at q1
        cases q1
        obtain ⟨v', hv', hh'⟩ := s'.slot i _ q2
        obtain ⟨e1, h1, h2⟩ := hh'
        subst e1
        have e2 : v = v' := hh.1
        subst e2
        refine ⟨v, hv, rfl, ?_, fun a z => h2 a z.1⟩
        have hSS : ∀ a, S' i a ↔ (S' i a ∧ ∃ v R, cs[i]? = some (.own v R)) := fun a => ⟨fun z => ⟨z, v, R, by rw [ei, hc]⟩, fun z => z.1⟩
        have : (fun a => S' i a ∧ ∃ v R, cs[i]? = some (.own v R)) = S' i := funext fun a => propext (hSS a).symm
        show R'.At F' H' v (fun a => S' i a ∧ ∃ v R, cs[i]? = some (.own v R))
        rw [this]
        exact h1
  · obtain ⟨_, v, R, e⟩ := z
    have hi' : i < cs'.length := by rw [hl]; exact (List.getElem?_eq_some_iff.mp e).1
    exact hi cs'[i] (by rw [List.getElem?_map, List.getElem?_eq_getElem hi']; rfl)
/-- THE RULE for a def -/
theorem okG {P : Program} {w : World} {K : PySem.W.Frag} {mg : Str → Option Value} {base : Heap} {x qual : Str} {st : Stmt} {f : Addr} {fd : FuncData} {N ps : List Str} {k : Nat} {spec : Spec} (F : Fun K x qual st f fd) (Sc : FnScope N ps (defScope st))
    (len : ∀ cs R RX, spec cs R RX → cs.length = ps.length)
    (hbody : ∀ (cdv : Value) (A : Around) (outer : List Env) (s : Shared) (H : Hp) (E : XK) (X : Cx), X = cxOf (L2.CX P w) P w K mg base N qual (defScope st) f cdv A outer s H E → Room k X.A → Takes X (fun cls d _ H => E cls d H) → PassesOwn (model X.prog X.w) X.A X.env X.xe →
      ∀ (cs : List Ct) (R : Ct → List Ct → Prop) (RX : Xc → List Ct → Prop), spec cs R RX →
        WB X (fun cls d _ H => E cls d H) (defBody st) { nx := fun env' => ∃ cs', Back cs env' cs' ∧ R (.dat .none) cs', rt := fun c env' => ∃ cs', Back cs env' cs' ∧ R c cs', ex := fun x env' => ∃ cs', Back cs env' cs' ∧ RX x cs' } (cs.map some ++ List.replicate (N.length - ps.length) none)) :
    FnOk P w K mg base (L2.CX P w) (k + 1) f fd ps (spG K spec) := by
  have ln : ∀ vs H Q E, spG K spec vs H Q E → vs.length = ps.length := fun vs H Q E h => by
    obtain ⟨F0, S, cs, R, RX, s, sp, _⟩ := h
    have h1 := s.len
    simp only [List.length_map] at h1
    rw [h1]
    exact len cs R RX sp
  refine F.okX Sc ln fun cdv A outer s H vs Q E hr h => ?_
  have hl := ln _ _ _ _ h
  obtain ⟨F0, S, cs, R, RX, si, sp, kQ, kE⟩ := h
  refine ⟨_, pwB, hbody cdv A outer s H E _ rfl hr (takes_of rfl rfl rfl rfl) (passes_of rfl) cs R RX sp F0 H (L2.start N vs) S ?_ _ ?_⟩
  · have hcl : cs.length = ps.length := len cs R RX sp
    refine ⟨si.sub, fun i c e => ?_, si.dis, ?_, fun i hi a z => ?_⟩
    · by_cases hi : i < cs.length
      · rw [List.getElem?_append_left (by simpa using hi)] at e
        obtain ⟨v, h1, h2⟩ := si.slot i c e
        refine ⟨v, ?_, h2⟩
        unfold L2.start
        rw [List.getElem?_append_left (by simp; omega)]
        exact h1
      · rw [List.getElem?_append_right (by simpa using hi)] at e
        rw [List.getElem?_replicate] at e
        split at e <;> cases e
    · unfold L2.start
      simp [hl, hcl]
    · refine si.emp i (fun c e => ?_) a z
      have hi' : i < cs.length := by
        have := (List.getElem?_eq_some_iff.mp e).1
        simpa using this
      exact hi c (by rw [List.getElem?_append_left (by simpa using hi')]; exact e)
  · refine ⟨fun F' H' σ' S' env' p s' ⟨cs', b, q⟩ => ?_, fun v F' H' σ' S' Sv c env' p s' hv dj ⟨cs', b, q⟩ => ?_, fun _ _ _ _ _ _ _ z => z.elim, fun _ _ _ _ _ _ _ z => z.elim, fun cls od F' H' σ' S' x env' p s' xh ⟨cs', b, q⟩ => ?_⟩
    · obtain ⟨S2, s2, t2⟩ := sit_back (S0 := fun _ => False) si p.f s' b
      exact kQ .non F' H' S2 (fun _ => False) (.dat .none) cs' (p.weak (fun _ z => z) fun a z => .inl (z.elim (fun ⟨i, z⟩ => ⟨i, t2 i a z⟩) False.elim)) s2 ⟨.non, fun _ z => z⟩ (fun _ _ _ z => z) q
    · obtain ⟨S2, s2, t2⟩ := sit_back (S0 := fun _ => False) si p.f s' b
      exact kQ v F' H' S2 Sv c cs' (p.weak (fun _ z => z) fun a z => .inl (z.elim (fun ⟨i, z⟩ => .inl ⟨i, t2 i a z⟩) .inr)) s2 hv (fun i a z => dj i a (t2 i a z)) q
    · obtain ⟨S2, s2, t2⟩ := sit_back (S0 := fun _ => False) si p.f s' b
      refine kE cls od F' H' S2 x cs' (p.weak (fun _ z => z) fun a z => .inl (by obtain ⟨i, z⟩ := z; exact ⟨i, t2 i a z⟩)) s2 ?_ q
      obtain ⟨e1, e2⟩ := xh
      refine ⟨e1, ?_⟩
      cases hf : x.fld with
      | none => rw [hf] at e2; exact e2
      | some fd =>
        rw [hf] at e2
        exact e2
end G

set_option maxRecDepth 100000
set_option maxHeartbeats 4000000
namespace G
open PySem PySem.Spec PyProof.Rows L2

/-! ### operators over data -/
section
variable {K : PySem.W.Frag} {i j : Int} {x y : Str} {d e : PyData} {ds es : List PyData}
theorem od_val {r : R2} {d1 d2 : PyData} {v : V} {d : PyData} (h : ∀ (F H : Hp) (v1 v2 : V), Dp K F v1 d1 → Dp K F v2 d2 → Same F H → ∀ Q : VK, Q v H → r v1 v2 H Q) (hv : ∀ F, Dp K F v d) : OpD K r d1 d2 d := fun F H v1 v2 s h1 h2 Q k =>
  h F H v1 v2 h1 h2 s Q (k v F H (Grow.refl s) (hv F))
theorem od_I0 {g : Int → Int → V} {d : PyData} (hv : ∀ F, Dp K F (g i j) d) : OpD K (rI0 g) (.int i) (.int j) d :=
  od_val (fun F H v1 v2 h1 h2 s Q q => by cases h1; cases h2; exact ⟨i, j, rfl, rfl, q⟩) hv
theorem od_I {C : Int → Int → Prop} {g : Int → Int → V} {d : PyData} (hc : C i j) (hv : ∀ F, Dp K F (g i j) d) : OpD K (rI C g) (.int i) (.int j) d :=
  od_val (fun F H v1 v2 h1 h2 s Q q => by cases h1; cases h2; exact ⟨i, j, rfl, rfl, hc, q⟩) hv
theorem od_add : OpD K (rI0 fun i j => .int (i + j)) (.int i) (.int j) (.int (i + j)) := od_I0 fun _ => .int _
theorem od_sub : OpD K (rI0 fun i j => .int (i - j)) (.int i) (.int j) (.int (i - j)) := od_I0 fun _ => .int _
theorem od_mul (h : CMul i j) : OpD K (rI CMul fun i j => .int (i * j)) (.int i) (.int j) (.int (i * j)) := od_I h fun _ => .int _
theorem od_mod (h : 0 < j) : OpD K (rI (fun _ j => 0 < j) fun i j => .int (i % j)) (.int i) (.int j) (.int (i % j)) := od_I h fun _ => .int _
theorem od_fdiv (h : CDiv i j) : OpD K (rI CDiv fun i j => .int (i / j)) (.int i) (.int j) (.int (i / j)) := od_I h fun _ => .int _
theorem od_pow (h : CPow i j) : OpD K (rI CPow fun i j => .int (i ^ j.toNat)) (.int i) (.int j) (.int (i ^ j.toNat)) := od_I h fun _ => .int _
theorem od_lt : OpD K (rI0 fun i j => .bl (decide (i < j))) (.int i) (.int j) (.bool (decide (i < j))) := od_I0 fun _ => .bl _
theorem od_le : OpD K (rI0 fun i j => .bl (decide (i ≤ j))) (.int i) (.int j) (.bool (decide (i ≤ j))) := od_I0 fun _ => .bl _
theorem od_gt : OpD K (rI0 fun i j => .bl (decide (j < i))) (.int i) (.int j) (.bool (decide (j < i))) := od_I0 fun _ => .bl _
theorem od_ge : OpD K (rI0 fun i j => .bl (decide (j ≤ i))) (.int i) (.int j) (.bool (decide (j ≤ i))) := od_I0 fun _ => .bl _
theorem dp_ext {F H : Hp} (s : Same F H) {v : V} {d : PyData} (h : Dp K F v d) : Dp K H v d := dp_mono s h
theorem od_eqD (h1 : SeqAt.shaped d = true) (h2 : SeqAt.shaped e = true) : OpD K (rEqD K) d e (.bool (PyData.eqv d e)) :=
  od_val (fun F H v1 v2 a b s Q q => ⟨d, e, dp_mono s a, dp_mono s b, h1, h2, q⟩) fun _ => .bl _
theorem od_neD (h1 : SeqAt.shaped d = true) (h2 : SeqAt.shaped e = true) : OpD K (rNeD K) d e (.bool (!PyData.eqv d e)) :=
  od_val (fun F H v1 v2 a b s Q q => ⟨d, e, dp_mono s a, dp_mono s b, h1, h2, q⟩) fun _ => .bl _
theorem od_isN : OpD K (fun x y H Q => y = .non ∧ Q (.bl (decide (x = .non))) H) d .none (.bool (match d with | .none => true | _ => false)) := fun F H v1 v2 s h1 h2 Q k => by
  cases h2
  refine ⟨rfl, k _ F H (Grow.refl s) ?_⟩
  cases h1 <;> exact .bl _
theorem od_notN : OpD K (fun x y H Q => y = .non ∧ Q (.bl (!decide (x = .non))) H) d .none (.bool (match d with | .none => false | _ => true)) := fun F H v1 v2 s h1 h2 Q k => by
  cases h2
  refine ⟨rfl, k _ F H (Grow.refl s) ?_⟩
  cases h1 <;> exact .bl _
theorem od_inD (h1 : SeqAt.shaped d = true) (h2 : SeqAt.shaped (.list ds) = true) : OpD K (rInD K) d (.list ds) (.bool (ds.any fun z => PyData.eqv z d)) :=
  od_val (fun F H v1 v2 a b s Q q => ⟨d, ds, dp_mono s a, dp_mono s b, h1, h2, q⟩) fun _ => .bl _
theorem od_notInD (h1 : SeqAt.shaped d = true) (h2 : SeqAt.shaped (.list ds) = true) : OpD K (rNotInD K) d (.list ds) (.bool (!ds.any fun z => PyData.eqv z d)) :=
  od_val (fun F H v1 v2 a b s Q q => ⟨d, ds, dp_mono s a, dp_mono s b, h1, h2, q⟩) fun _ => .bl _
def flatD : PyData → Bool
  | .none => true
  | .bool _ => true
  | .int _ => true
  | .str _ => true
  | _ => false
theorem flat_dp {F : Hp} {v : V} {d : PyData} (h : Dp K F v d) (hf : flatD d = true) : flatV v = true := by
  cases h <;> first | rfl | cases hf
theorem eqV_dp {F F' : Hp} {v w : V} {d e : PyData} (h : Dp K F v d) (h' : Dp K F' w e) (hf : flatD d = true) (hf' : flatD e = true) : eqV v w = PyData.eqv d e := by
  cases h <;> cases h' <;> first | rfl | cases hf | cases hf'
theorem flats_dp {F : Hp} : ∀ {vs : List V} {ds : List PyData}, DpAll K F vs ds → ds.all flatD = true → vs.all flatV = true
  | _, _, .nil, _ => rfl
  | _, _, .cons h hs, e => by
    rw [List.all_cons, Bool.and_eq_true] at e
    rw [List.all_cons, flat_dp h e.1, flats_dp hs e.2]
    rfl
theorem inV_dp {F F' : Hp} {v : V} {d : PyData} (h : Dp K F' v d) (hf : flatD d = true) : ∀ {vs : List V} {ds : List PyData}, DpAll K F vs ds → ds.all flatD = true → inV v vs = ds.any fun z => PyData.eqv z d
  | _, _, .nil, _ => rfl
  | _, _, .cons (v := w) (vs := ws) h' hs, e => by
    rw [List.all_cons, Bool.and_eq_true] at e
    show (eqV w v || inV v ws) = _
    rw [List.any_cons, eqV_dp h' h e.1 hf, inV_dp h hf hs e.2]
theorem od_in {neg : Bool} {s : PyData} (hs : s = .list ds ∨ s = .tuple ds := by first | exact Or.inl rfl | exact Or.inr rfl) (h1 : flatD d = true := by rfl) (h2 : ds.all flatD = true := by rfl) : OpD K (rIn K neg) d s (.bool (if neg then !(ds.any fun z => PyData.eqv z d) else ds.any fun z => PyData.eqv z d)) := fun F H v1 v2 s' a b Q k => by
  obtain ⟨r, xs, rfl, hq, hd⟩ := Src.of_dp s' b hs
  refine ⟨r.ad, xs, rfl, ?_, flat_dp a h1, flats_dp hd h2, k _ F H (Grow.refl s') ?_⟩
  · have := hq H s'
    cases r with
    | L a => exact .inl this
    | T a => exact .inr this
  · rw [inV_dp a h1 hd h2]
    exact .bl _
theorem od_addS (h : x.length + y.length ≤ 16777216) : OpD K (fun x y H Q => ∃ i j, x = .str i ∧ y = .str j ∧ i.length + j.length ≤ sizeLine ∧ Q (.str (i ++ j)) H) (.str x) (.str y) (.str (x ++ y)) :=
  od_val (fun F H v1 v2 a b s Q q => by cases a; cases b; exact ⟨x, y, rfl, rfl, by rw [sizeLine_eq]; exact h, q⟩) fun _ => .str _
theorem od_inSign {c : Nat} : OpD K (fun x y H Q => ∃ (c : Nat) (z : Str), x = .str ⟨#[c]⟩ ∧ y = .str z ∧ Q (.bl (decide (c ∈ z.cps.toList))) H) (.str ⟨#[c]⟩) (.str y) (.bool (decide (c ∈ y.cps.toList))) :=
  od_val (fun F H v1 v2 a b s Q q => by cases a; cases b; exact ⟨c, y, rfl, rfl, q⟩) fun _ => .bl _
/-- tuples -/
theorem od_catT (h : ds.length + es.length ≤ 16777216) : OpD K (rCatA K) (.tuple ds) (.tuple es) (.tuple (ds ++ es)) := fun F H v1 v2 s a b Q k => by
  cases a with
  | tup a1 a2 =>
    cases b with
    | tup b1 b2 =>
      have l1 := dps_length a2
      have l2 := dps_length b2
      refine ⟨_, _, _, _, rfl, rfl, same_sqT s a1, same_sqT s b1, by rw [sizeLine_eq]; omega, fun e => ?_, fun _ e => ?_, fun _ _ p hp => ?_⟩
      · subst e
        have e' : ds = [] := by cases ds with | nil => rfl | cons _ _ => simp at l1
        subst e'
        exact k _ F H (Grow.refl s) (.tup b1 b2)
      · subst e
        have e' : es = [] := by cases es with | nil => rfl | cons _ _ => simp at l2
        subst e'
        rw [List.append_nil] at k
        exact k _ F H (Grow.refl s) (.tup a1 a2)
      · rename_i xs1 _ xs2 _ _
        have g := Grow.laid (o := .tup (xs1 ++ xs2)) s hp
        exact k _ _ _ g (.tup (SqT.of upd_same) (dps_mono g.f (dps_append a2 b2)))
/-! ### places -/
theorem atI_dps {F : Hp} {vs : List V} {ds : List PyData} (h : DpAll K F vs ds) {i : Int} {d : PyData} (e : atI ds i = some d) : ∃ v, atI vs i = some v ∧ Dp K F v d := by
  unfold atI at e ⊢
  rw [dps_length h]
  cases q : ixN ds.length i with
  | none => rw [q] at e; cases e
  | some j =>
    rw [q] at e
    obtain ⟨v, h1, h2⟩ := dps_get h (show ds[j]? = some d from e)
    exact ⟨v, h1, h2⟩
theorem od_ixL (h : atI ds i = some d) : OpD K (rIxL K) (.list ds) (.int i) d := fun F H v1 v2 s a b Q k => by
  cases a with
  | lst a1 a2 =>
    cases b
    obtain ⟨v, h1, h2⟩ := atI_dps a2 h
    exact ⟨_, _, i, v, rfl, rfl, s.seq a1, h1, k v F H (Grow.refl s) h2⟩
theorem od_ixT (h : atI ds i = some d) : OpD K (rIxT K) (.tuple ds) (.int i) d := fun F H v1 v2 s a b Q k => by
  cases a with
  | tup a1 a2 =>
    cases b
    obtain ⟨v, h1, h2⟩ := atI_dps a2 h
    exact ⟨_, _, i, v, rfl, rfl, same_sqT s a1, h1, k v F H (Grow.refl s) h2⟩
end
section
variable {X : Cx} {W : WX} {env : En} {c : Ct} {d d1 d2 : PyData} {ds es' : List PyData} {e a b : Expr} {es : List Expr} {pos p apos : Pos} {i : Int}
theorem vc_ix {r : R2} (hr : IxR X r) (od : OpD X.K r d1 d2 d) (ha : VC X a env (.dat d1)) (hb : VC X b env (.dat d2)) (hs : PlainIx b := by exact fun _ _ => rfl) : VC X (.Subscript a b pos) env (.dat d) := fun F H σ S s Q k =>
  ⟨_, pe_ix hr pwE pwE hs, two ha hb s fun v1 v2 F1 H1 g h1 h2 => od F1 H1 v1 v2 g.sub h1 h2 Q fun v F' H' g' hv => k v F' H' (fun _ => False) (g.trans g') ⟨hv, fun _ z => z⟩ fun _ z => z.elim⟩
theorem vc_ixL (ha : VC X a env (.dat (.list ds))) (hb : VC X b env (.dat (.int i))) (h : atI ds i = some d) (hs : PlainIx b := by exact fun _ _ => rfl) : VC X (.Subscript a b pos) env (.dat d) := vc_ix ix_list (od_ixL h) ha hb hs
theorem vc_ixT (ha : VC X a env (.dat (.tuple ds))) (hb : VC X b env (.dat (.int i))) (h : atI ds i = some d) (hs : PlainIx b := by exact fun _ _ => rfl) : VC X (.Subscript a b pos) env (.dat d) := vc_ix ix_tup (od_ixT h) ha hb hs
/-! ### slices -/
def cut {α : Type} (xs : List α) (lo hi : Option Int) : List α := (xs.drop (HT.sIx xs.length 0 lo)).take (HT.sIx xs.length xs.length hi - HT.sIx xs.length 0 lo)
theorem cut_dps {K : PySem.W.Frag} {F : Hp} {vs : List V} {ds : List PyData} (h : DpAll K F vs ds) (lo hi : Option Int) : DpAll K F (cutV vs lo hi) (cut ds lo hi) := by
  unfold cutV cut
  rw [dps_length h]
  exact dps_take _ (dps_drop _ h)
def OC (X : Cx) (e : Option Expr) (env : En) (o : Option Int) : Prop := ∀ (F H : Hp) (σ : St) (S : Foot), Sit X.K F H σ S env → ∀ Q : Option Int → Hp → Prop, (∀ F' H', Grow F H F' H' → Q o H') → ∃ t, PO X e t ∧ t σ H Q
theorem oc_none : OC X none env none := fun F H σ S s Q k => ⟨_, po_none, k F H (Grow.refl s.sub)⟩
theorem oc_some (h : VC X e env (.dat (.int i))) : OC X (some e) env (some i) := fun F H σ S s Q k => ⟨_, po_some pwE, h F H σ S s _ fun v F' H' _ g hv _ => by
  cases hv.1
  exact ⟨i, rfl, k F' H' g⟩⟩
def wO (X : Cx) (e : Option Expr) : TO := fun σ H Q => ∃ t, PO X e t ∧ t σ H Q
theorem pwO {e : Option Expr} : PO X e (wO X e) := ⟨fun pins s σ H Q I ⟨t, h, q⟩ => h.run pins s σ H Q I q⟩
theorem vo_sliceL {lo hi : Option Expr} {l u : Option Int} {p2 : Pos} (h : VC X e env (.dat (.list ds))) (hl : OC X lo env l) (hu : OC X hi env u) : VO X (.Subscript e (.Slice lo hi none p2) pos) env (olst X.K (cut ds l u)) := fun F H σ S s Q k =>
  ⟨_, pe_slice sl_list pwE pwO pwO, h F H σ S s _ fun v F1 H1 _ g1 hv _ => hl F1 H1 σ S (s.grow g1) _ fun F2 H2 g2 => hu F2 H2 σ S (s.grow (g1.trans g2)) _ fun F3 H3 g3 => by
    have g := (g1.trans g2).trans g3
    cases hv.1 with
    | lst a1 a2 =>
      refine ⟨_, _, rfl, g3.sub.seq (g3.f.seq (g2.f.seq a1)), fun q hq => ?_⟩
      exact k _ F3 _ _ (g.trans (Grow.made g.sub hq)) (olst_new g.sub hq (cut_dps (dps_mono (g2.f.trans g3.f) a2) l u)) fun z hz => by subst hz; exact g.h.free hq⟩
theorem vc_sliceT {lo hi : Option Expr} {l u : Option Int} {p2 : Pos} (h : VC X e env (.dat (.tuple ds))) (hl : OC X lo env l) (hu : OC X hi env u) : VC X (.Subscript e (.Slice lo hi none p2) pos) env (.dat (.tuple (cut ds l u))) := fun F H σ S s Q k =>
  ⟨_, pe_slice sl_tupA pwE pwO pwO, h F H σ S s _ fun v F1 H1 _ g1 hv _ => hl F1 H1 σ S (s.grow g1) _ fun F2 H2 g2 => hu F2 H2 σ S (s.grow (g1.trans g2)) _ fun F3 H3 g3 => by
    have g := (g1.trans g2).trans g3
    cases hv.1 with
    | tup a1 a2 =>
      rename_i aa xs
      have a1' := same_sqT (g2.f.trans g3.f) a1
      have a2' := dps_mono (g2.f.trans g3.f) a2
      refine ⟨_, _, rfl, same_sqT g3.sub a1', fun hw => ?_, fun _ q hq => ?_⟩
      · have ln := dps_length a2
        have e : cut ds l u = ds := by
          unfold cut
          rw [← ln, hw.1, hw.2, List.drop_zero, ln]
          exact List.take_length
        rw [e] at k
        exact k _ F3 H3 (fun _ => False) g ⟨.tup a1' a2', fun _ z => z⟩ fun _ z => z.elim
      · have g4 := Grow.laid (o := .tup (cutV xs l u)) g.sub hq
        exact k _ _ _ (fun _ => False) (g.trans g4) ⟨.tup (SqT.of upd_same) (dps_mono g4.f (cut_dps a2' l u)), fun _ z => z⟩ fun _ z => z.elim⟩
/-! ### list + list -/
def rCatS (K : PySem.W.Frag) : R2 := fun x y H Q => ∃ l b xs zs, x = .ref l ∧ y = .ref b ∧ SqL K H l xs ∧ SqL K H b zs ∧ xs.length + zs.length ≤ sizeLine ∧ ∀ p, H p = none → Q (.ref p) (upd H p (.lst (xs ++ zs)))
theorem op_catS : OpR X (binaryOp .Add) (rCatS X.K) := by
  intro pins s σ H x y v u Q I rx ry h
  obtain ⟨l, b, xs, zs, rfl, rfl, hH, hB, hz, q⟩ := h
  cases rx
  cases ry
  obtain ⟨its, r, pl, _⟩ := I.list hH
  obtain ⟨its2, r2, pl2, _⟩ := I.list hB
  have l1 := r.length
  have l2 := r2.length
  obtain ⟨⟨cls, dd, data, sl⟩, ho, hc, n, hd⟩ := id pl.isList
  obtain ⟨⟨cls2, dd2, data2, sl2⟩, ho2, hc2, n2, hd2⟩ := id pl2.isList
  simp only at hc hd hc2 hd2
  subst hc hd hc2 hd2
  have e : its.toArray ++ its2.toArray = (its ++ its2).toArray := by simp
  refine concat_meets ⟨_, ho, rfl⟩ ⟨_, ho2, rfl⟩ noFill_list_add seq_list_add PySem.F.slot_list_add PySem.F.entry_list_add (PySem.F.args_list_add_2 _ _) (list_addW l b its.toArray its2.toArray n n2 dd dd2 sl sl2 (by simp; omega)) ⟨ho, ho2, ?_⟩
  rw [e]
  exact ⟨.ref _, _, I.lnew (t' := s.toks) (r.append r2) (by rw [List.length_append]; omega), rfl, q _ I.fresh⟩
theorem vo_cat {es1 es2 : List PyData} (ha : VC X a env (.dat (.list es1))) (hb : VC X b env (.dat (.list es2))) (hz : es1.length + es2.length ≤ 16777216) : VO X (.BinOp a .Add b pos) env (olst X.K (es1 ++ es2)) := fun F H σ S s Q k =>
  ⟨_, pe_op op_catS pwE pwE, two ha hb s fun v1 v2 F1 H1 g h1 h2 => by
    cases h1 with
    | lst a1 a2 =>
      cases h2 with
      | lst b1 b2 =>
        have l1 := dps_length a2
        have l2 := dps_length b2
        refine ⟨_, _, _, _, rfl, rfl, g.sub.seq a1, g.sub.seq b1, by rw [sizeLine_eq]; omega, fun q hq => ?_⟩
        exact k _ F1 _ _ (g.trans (Grow.made g.sub hq)) (olst_new g.sub hq (dps_append a2 b2)) fun z hz => by subst hz; exact g.h.free hq⟩
/-! ### instances that stand -/
def insP (K : PySem.W.Frag) (C : Addr) (fs : List (Str × PyData)) : Ps where
  At F v := ∃ p dx vs, v = .ref p ∧ F p = some (.ins C dx vs) ∧ F dx = some (.own p) ∧ Paired (fun (a : Str × V) (b : Str × PyData) => a.1 = b.1 ∧ Dp K F a.2 b.2) vs fs
  mono := fun e ⟨p, dx, vs, h1, h2, h3, h4⟩ => ⟨p, dx, vs, h1, e _ _ h2, e _ _ h3, Paired.mapP h4 fun a b z => ⟨z.1, dp_mono e z.2⟩⟩
theorem paired_look {K : PySem.W.Frag} {F : Hp} {f : Str} {d : PyData} : ∀ {vs : List (Str × V)} {fs : List (Str × PyData)}, Paired (fun (a : Str × V) (b : Str × PyData) => a.1 = b.1 ∧ Dp K F a.2 b.2) vs fs → fs.lookup f = some d → ∃ v, vs.lookup f = some v ∧ Dp K F v d
  | _, _, .nil, h => by simp at h
  | (x, v) :: vs, (y, d') :: fs, .cons h hs, e => by
    obtain ⟨e1, e2⟩ := h
    have e1 : x = y := e1
    subst e1
    rw [List.lookup_cons] at e ⊢
    cases q : f == x with
    | true =>
      rw [q] at e
      cases e
      exact ⟨v, rfl, e2⟩
    | false =>
      rw [q] at e
      exact paired_look hs e
theorem vc_fld {C : Addr} {fs : List (Str × PyData)} {f : Str} (h : VC X e env (.pin (insP X.K C fs))) (c : Cls X.K C) (n : NoAttr X.K C f) (l : fs.lookup f = some d) (hb : attributeBase e f X.env (eval e X.env) = eval e X.env := by rfl) : VC X (.Attribute e f pos) env (.dat d) := fun F H σ S s Q k =>
  ⟨_, pe_fld pwE hb, h F H σ S s _ fun v F1 H1 _ g hv _ => by
    obtain ⟨⟨p, dx, vs, rfl, h2, h3, h4⟩, _⟩ := hv
    obtain ⟨w, l1, l2⟩ := paired_look h4 l
    exact ⟨p, C, dx, vs, w, rfl, g.sub _ _ h2, c, n, l1, k w F1 H1 (fun _ => False) g ⟨l2, fun _ z => z⟩ fun _ z => z.elim⟩⟩
/-! ### built-ins by name -/
def CallD (K : PySem.W.Frag) (r : List V → Hp → VK → Prop) (ds : List PyData) (P : Ct → Prop) : Prop := ∀ (F H : Hp) (vs : List V), Same F H → DpAll K F vs ds → ∀ Q : VK, (∀ v F' H' Sv c, Grow F H F' H' → Hold K F' H' v Sv c → (∀ a, Sv a → H a = none) → P c → Q v H') → r vs H Q
theorem vc_callB {id : String} {x : Str} {r : List V → Hp → VK → Prop} (hc : CallR X (.builtin id) r) (hd : CallD X.K r ds (fun c' => c' = c)) (hm : X.mg x = none) (ha : DC X (e :: es) env ds) (hv : bootBuiltins x = some (.builtin id) := by decide +kernel) (hg : Gl X x := by rfl) (hn : x ≠ "__name__" := by decide) (hdb : (x == ("__debug__" : Str)) = false := by decide)
    (he : starEach (e :: es) X.env = (false, eval e X.env) :: starEach es X.env := by rfl) (hpl : (backTo pos (starEach es X.env)).any (·.1) = false := by rfl) : VC X (.Call (.Name x p) (e :: es) [] pos) env c := fun F H σ S s Q k =>
  ⟨_, pe_callB hc hg hm hv pwA hn hdb he hpl, ha F H σ S s _ fun vs F1 H1 g hvs => hd F1 H1 vs g.sub hvs.dps Q fun v F' H' Sv c' g' hv fr e => by
    subst e
    exact k v F' H' Sv (g.trans g') hv fun a z => g.h.free (fr a z)⟩
theorem vc_callT {T : String} {x : Str} {r : List V → Hp → VK → Prop} (hc : CallR X (.type T) r) (hd : CallD X.K r ds (fun c' => c' = c)) (hm : X.mg x = none) (ha : DC X (e :: es) env ds) (hv : bootBuiltins x = some (.type T) := by decide +kernel) (hg : Gl X x := by rfl) (hn : x ≠ "__name__" := by decide) (hdb : (x == ("__debug__" : Str)) = false := by decide)
    (he : starEach (e :: es) X.env = (false, eval e X.env) :: starEach es X.env := by rfl) (hpl : (backTo pos (starEach es X.env)).any (·.1) = false := by rfl) : VC X (.Call (.Name x p) (e :: es) [] pos) env c := fun F H σ S s Q k =>
  ⟨_, pe_callTy hc hg hm hv pwA hn hdb he hpl, ha F H σ S s _ fun vs F1 H1 g hvs => hd F1 H1 vs g.sub hvs.dps Q fun v F' H' Sv c' g' hv fr e => by
    subst e
    exact k v F' H' Sv (g.trans g') hv fun a z => g.h.free (fr a z)⟩
theorem vo_callT {T : String} {x : Str} {R : Rs} {r : List V → Hp → VK → Prop} (hc : CallR X (.type T) r) (hd : CallD X.K r ds (fun c' => ∃ v, c' = .own v R)) (hm : X.mg x = none) (ha : DC X (e :: es) env ds) (hv : bootBuiltins x = some (.type T) := by decide +kernel) (hg : Gl X x := by rfl) (hn : x ≠ "__name__" := by decide) (hdb : (x == ("__debug__" : Str)) = false := by decide)
    (he : starEach (e :: es) X.env = (false, eval e X.env) :: starEach es X.env := by rfl) (hpl : (backTo pos (starEach es X.env)).any (·.1) = false := by rfl) : VO X (.Call (.Name x p) (e :: es) [] pos) env R := fun F H σ S s Q k =>
  ⟨_, pe_callTy hc hg hm hv pwA hn hdb he hpl, ha F H σ S s _ fun vs F1 H1 g hvs => hd F1 H1 vs g.sub hvs.dps Q fun v F' H' Sv c' g' hv fr e => by
    obtain ⟨v', e⟩ := e
    subst e
    have ev : v = v' := hv.1
    subst ev
    exact k v F' H' Sv (g.trans g') hv fun a z => g.h.free (fr a z)⟩
theorem cd_val {K : PySem.W.Frag} {r : List V → Hp → VK → Prop} {d : PyData} (h : ∀ (F H : Hp) (vs : List V), Same F H → DpAll K F vs ds → ∀ Q : VK, (∀ v, Dp K F v d → Q v H) → r vs H Q) : CallD K r ds (fun c => c = .dat d) := fun F H vs s hv Q k =>
  h F H vs s hv Q fun v hd => k v F H (fun _ => False) (.dat d) (Grow.refl s) ⟨hd, fun _ z => z⟩ (fun _ z => z.elim) rfl
theorem vc_len {s : PyData} (hm : X.mg "len" = none) (h : VC X e env (.dat s)) (hs : s = .list ds ∨ s = .tuple ds := by first | exact Or.inl rfl | exact Or.inr rfl) (hg : Gl X "len" := by rfl) (he : starEach [e] X.env = (false, eval e X.env) :: starEach [] X.env := by rfl) (hpl : (backTo pos (starEach [] X.env)).any (·.1) = false := by rfl) : VC X (.Call (.Name "len" p) [e] [] pos) env (.dat (.int (ds.length : Int))) :=
  vc_callB (ds := [s]) call_len_seq (cd_val fun F H vs sm hv Q q => by
    cases hv with
    | cons h1 h2 =>
      cases h2
      obtain ⟨r, xs, rfl, hq, hd⟩ := Src.of_dp sm h1 hs
      have hl := dps_length hd
      refine ⟨r.ad, xs, rfl, ?_, q _ (by rw [hl]; exact .int _)⟩
      have := hq H sm
      cases r with
      | L a => exact .inl this
      | T a => exact .inr this) hm (dc_cons h dc_nil he) PySem.boot_len hg (by decide) (by decide) he hpl
theorem vc_lenS {x : Str} (hm : X.mg "len" = none) (h : VC X e env (.dat (.str x))) (hx : x.length ≤ 16777216) (hg : Gl X "len" := by rfl) (he : starEach [e] X.env = (false, eval e X.env) :: starEach [] X.env := by rfl) (hpl : (backTo pos (starEach [] X.env)).any (·.1) = false := by rfl) : VC X (.Call (.Name "len" p) [e] [] pos) env (.dat (.int (x.length : Int))) :=
  vc_callB (ds := [.str x]) call_len_str (cd_val fun F H vs sm hv Q q => by
    cases hv with
    | cons h1 h2 =>
      cases h2
      cases h1
      exact ⟨x, rfl, by rw [sizeLine_eq]; exact hx, q _ (.int _)⟩) hm (dc_cons h dc_nil he) PySem.boot_len hg (by decide) (by decide) he hpl
theorem vo_list {s : PyData} (hm : X.mg "list" = none) (h : VC X e env (.dat s)) (hs : s = .list ds ∨ s = .tuple ds := by first | exact Or.inl rfl | exact Or.inr rfl) (hg : Gl X "list" := by rfl) (he : starEach [e] X.env = (false, eval e X.env) :: starEach [] X.env := by rfl) (hpl : (backTo pos (starEach [] X.env)).any (·.1) = false := by rfl) : VO X (.Call (.Name "list" p) [e] [] pos) env (olst X.K ds) :=
  vo_callT (ds := [s]) call_list_of (fun F H vs sm hv Q q => by
    cases hv with
    | cons h1 h2 =>
      cases h2
      obtain ⟨r, xs, rfl, hq, hd⟩ := Src.of_dp sm h1 hs
      refine ⟨r.ad, xs, rfl, ?_, fun l hl => q _ F _ _ _ (Grow.made sm hl) (olst_new sm hl hd) (fun z hz => by subst hz; exact hl) ⟨_, rfl⟩⟩
      have := hq H sm
      cases r with
      | L a => exact .inl this
      | T a => exact .inr this) hm (dc_cons h dc_nil he) (by decide +kernel) hg (by decide) (by decide) he hpl
theorem vc_tuple {s : PyData} (hm : X.mg "tuple" = none) (h : VC X e env (.dat s)) (hs : s = .list ds ∨ s = .tuple ds := by first | exact Or.inl rfl | exact Or.inr rfl) (hg : Gl X "tuple" := by rfl) (he : starEach [e] X.env = (false, eval e X.env) :: starEach [] X.env := by rfl) (hpl : (backTo pos (starEach [] X.env)).any (·.1) = false := by rfl) : VC X (.Call (.Name "tuple" p) [e] [] pos) env (.dat (.tuple ds)) :=
  vc_callT (ds := [s]) call_tuple_of (fun F H vs sm hv Q q => by
    cases hv with
    | cons h1 h2 =>
      cases h2
      obtain ⟨r, xs, rfl, hq, hd⟩ := Src.of_dp sm h1 hs
      refine ⟨r.ad, xs, rfl, ?_⟩
      have := hq H sm
      cases r with
      | L a =>
        refine .inl ⟨this, fun l hl => ?_⟩
        have g := Grow.laid (o := .tup xs) sm hl
        exact q _ _ _ (fun _ => False) (.dat (.tuple ds)) g ⟨.tup (SqT.of upd_same) (dps_mono g.f hd), fun _ z => z⟩ (fun _ z => z.elim) rfl
      | T a => exact .inr ⟨this, q _ F H (fun _ => False) (.dat (.tuple ds)) (Grow.refl sm) ⟨.tup (hq F (Same.refl F)) hd, fun _ z => z⟩ (fun _ z => z.elim) rfl⟩) hm (dc_cons h dc_nil he) (by decide +kernel) hg (by decide) (by decide) he hpl
theorem dps_bools {K : PySem.W.Frag} {F : Hp} : ∀ {bs : List Bool} {vs : List V}, DpAll K F vs (bs.map .bool) → vs = bs.map V.bl
  | [], _, .nil => rfl
  | b :: bs, _, .cons h hs => by
    cases h
    rw [dps_bools hs]
    rfl
theorem dps_ints {K : PySem.W.Frag} {F : Hp} : ∀ {bs : List Int} {vs : List V}, DpAll K F vs (bs.map .int) → vs = bs.map V.int
  | [], _, .nil => rfl
  | b :: bs, _, .cons h hs => by
    cases h
    rw [dps_ints hs]
    rfl
theorem dps_strs {K : PySem.W.Frag} {F : Hp} : ∀ {bs : List Str} {vs : List V}, DpAll K F vs (bs.map .str) → vs = bs.map V.str
  | [], _, .nil => rfl
  | b :: bs, _, .cons h hs => by
    cases h
    rw [dps_strs hs]
    rfl
theorem vc_any {bs : List Bool} (hc : X.calm = true) (hm : X.mg "any" = none) (h : VC X e env (.dat (.list (bs.map .bool)))) (hg : Gl X "any" := by rfl) (he : starEach [e] X.env = (false, eval e X.env) :: starEach [] X.env := by rfl) (hpl : (backTo pos (starEach [] X.env)).any (·.1) = false := by rfl) : VC X (.Call (.Name "any" p) [e] [] pos) env (.dat (.bool (bs.any id))) :=
  vc_callB (ds := [.list (bs.map .bool)]) (cr_any hc) (cd_val fun F H vs sm hv Q q => by
    cases hv with
    | cons h1 h2 =>
      cases h2
      cases h1 with
      | lst a1 a2 =>
        have e := dps_bools a2
        subst e
        exact ⟨_, bs, rfl, sm.seq a1, q _ (.bl _)⟩) hm (dc_cons h dc_nil he) (by decide +kernel) hg (by decide) (by decide) he hpl
theorem vc_all {bs : List Bool} (hc : X.calm = true) (hm : X.mg "all" = none) (h : VC X e env (.dat (.list (bs.map .bool)))) (hg : Gl X "all" := by rfl) (he : starEach [e] X.env = (false, eval e X.env) :: starEach [] X.env := by rfl) (hpl : (backTo pos (starEach [] X.env)).any (·.1) = false := by rfl) : VC X (.Call (.Name "all" p) [e] [] pos) env (.dat (.bool (bs.all id))) :=
  vc_callB (ds := [.list (bs.map .bool)]) (cr_all hc) (cd_val fun F H vs sm hv Q q => by
    cases hv with
    | cons h1 h2 =>
      cases h2
      cases h1 with
      | lst a1 a2 =>
        have e := dps_bools a2
        subst e
        exact ⟨_, bs, rfl, sm.seq a1, q _ (.bl _)⟩) hm (dc_cons h dc_nil he) (by decide +kernel) hg (by decide) (by decide) he hpl
def intD : PyData → Option Int
  | .int i => some i
  | .bool b => some (if b then 1 else 0)
  | _ => none
theorem vc_toInt {i : Int} (hm : X.mg "int" = none) (h : VC X e env (.dat d)) (hi : intD d = some i := by rfl) (hg : Gl X "int" := by rfl) (he : starEach [e] X.env = (false, eval e X.env) :: starEach [] X.env := by rfl) (hpl : (backTo pos (starEach [] X.env)).any (·.1) = false := by rfl) : VC X (.Call (.Name "int" p) [e] [] pos) env (.dat (.int i)) :=
  vc_callT (ds := [d]) call_int1 (cd_val fun F H vs sm hv Q q => by
    cases hv with
    | cons h1 h2 =>
      cases h2
      cases h1 with
      | int j => cases hi; exact .inl ⟨_, rfl, q _ (.int _)⟩
      | bl b => cases hi; exact .inr ⟨_, rfl, q _ (.int _)⟩
      | non => cases hi
      | str _ => cases hi
      | lst _ _ => cases hi
      | tup _ _ => cases hi) hm (dc_cons h dc_nil he) (by decide +kernel) hg (by decide) (by decide) he hpl
end

/-! ### calls of defs -/
structure Fn (P : Program) (w : World) (K : PySem.W.Frag) (mg : Str → Option Value) (base : Heap) (x : Str) (k : Nat) (spec : Spec) : Prop where
  ex : ∃ f fd ps, FnOk P w K mg base (L2.CX P w) k f fd ps (spG K spec) ∧ mg x = some (.ref f) ∧ PySem.W.keepIn K (.ref f) = true ∧ Binds K fd ps []
section
variable {X : Cx} {W : WX} {env : En} {c : Ct} {d d1 d2 : PyData} {e a b : Expr} {es : List Expr} {pos p apos : Pos} {x : Str} {k : Nat} {spec : Spec} {cs : List Ct}
theorem Holds.sit {K : PySem.W.Frag} {F H : Hp} (s : Same F H) {vs : List V} {cs : List Ct} (h : Holds K F vs cs) : Sit K F H (vs.map some) (fun _ _ => False) (cs.map some) := by
  refine ⟨s, fun i c e => ?_, fun _ _ _ z => z.elim, by simp [h.length], fun _ _ _ z => z⟩
  induction h generalizing i with
  | nil => simp at e
  | dat h hs ih =>
    cases i with
    | zero => simp at e; subst e; exact ⟨_, rfl, h, fun _ z => z⟩
    | succ i =>
      obtain ⟨v, h1, h2⟩ := ih i (by simpa using e)
      exact ⟨v, by simpa using h1, by cases c with | dat d => exact h2 | pin P => exact h2 | own v R => exact h2⟩
  | pin h hs ih =>
    cases i with
    | zero => simp at e; subst e; exact ⟨_, rfl, h, fun _ z => z⟩
    | succ i =>
      obtain ⟨v, h1, h2⟩ := ih i (by simpa using e)
      exact ⟨v, by simpa using h1, by cases c with | dat d => exact h2 | pin P => exact h2 | own v R => exact h2⟩
theorem call_pure {Q : VK} {F H : Hp} {vs : List V} {E : XK} (s : Same F H) (h : Holds X.K F vs cs) {P : Ct → Prop} (hs : spec cs (fun c' _ => P c') (fun _ _ => False))
    (k : ∀ v F' H' Sv c', Grow F H F' H' → Hold X.K F' H' v Sv c' → (∀ a, Sv a → H a = none) → P c' → Q v H') : spG X.K spec vs H Q E := by
  refine ⟨F, fun _ _ => False, cs, _, _, h.sit s, hs, fun v F' H' S' Sv c cs' p s' hv dj q => ?_, fun _ _ _ _ _ _ _ _ _ _ z => z.elim⟩
  have nt : ∀ a, ¬ tot (fun _ _ => False : Foot) a := fun a ⟨_, z⟩ => z
  exact k v F' H' Sv c ⟨p.f, fun a o e => p.keep a o e (nt a), s'.sub, fun a o e => (p.new a o e).elim .inl fun z => .inr (z.elim id fun z => (nt a z).elim)⟩ hv (fun a z => (p.s a (.inr z)).elim (fun z => (nt a z).elim) id) q
/-- f(..), pure -/
theorem vc_call (hF : Fn X.prog X.w X.K X.mg X.base x k spec) (hr : Room k X.A) (ha : AC X (e :: es) env cs) (hs : spec cs (fun c' _ => c' = c) (fun _ _ => False)) (hg : Gl X x := by rfl) (hdb : (x == ("__debug__" : Str)) = false := by decide)
    (he : starEach (e :: es) X.env = (false, eval e X.env) :: starEach es X.env := by rfl) (hpl : (backTo pos (starEach es X.env)).any (·.1) = false := by rfl) : VC X (.Call (.Name x p) (e :: es) [] pos) env c := fun F H σ S s Q kq => by
  obtain ⟨f, fd, ps, ok, hm, hk, hb⟩ := hF.ex
  exact ⟨_, pe_callS (E := WE fun _ _ _ _ => False) ok hr hg hm hk hb (fun σ => passAt takes0 σ) pwA hdb he hpl, ha F H σ S s _ fun vs F1 H1 g hvs => call_pure g.sub hvs hs fun v F' H' Sv c' g' hv fr e => by
    subst e
    exact kq v F' H' Sv (g.trans g') hv fun a z => g.h.free (fr a z)⟩
theorem vo_call {R : Rs} (hF : Fn X.prog X.w X.K X.mg X.base x k spec) (hr : Room k X.A) (ha : AC X (e :: es) env cs) (hs : spec cs (fun c' _ => ∃ v, c' = .own v R) (fun _ _ => False)) (hg : Gl X x := by rfl) (hdb : (x == ("__debug__" : Str)) = false := by decide)
    (he : starEach (e :: es) X.env = (false, eval e X.env) :: starEach es X.env := by rfl) (hpl : (backTo pos (starEach es X.env)).any (·.1) = false := by rfl) : VO X (.Call (.Name x p) (e :: es) [] pos) env R := fun F H σ S s Q kq => by
  obtain ⟨f, fd, ps, ok, hm, hk, hb⟩ := hF.ex
  exact ⟨_, pe_callS (E := WE fun _ _ _ _ => False) ok hr hg hm hk hb (fun σ => passAt takes0 σ) pwA hdb he hpl, ha F H σ S s _ fun vs F1 H1 g hvs => call_pure g.sub hvs hs fun v F' H' Sv c' g' hv fr e => by
    obtain ⟨v', e⟩ := e
    subst e
    have ev : v = v' := hv.1
    subst ev
    exact kq v F' H' Sv (g.trans g') hv fun a z => g.h.free (fr a z)⟩
theorem vo_call0 {R : Rs} (hF : Fn X.prog X.w X.K X.mg X.base x k spec) (hr : Room k X.A) (hs : spec [] (fun c' _ => ∃ v, c' = .own v R) (fun _ _ => False)) (hg : Gl X x := by rfl) (hdb : (x == ("__debug__" : Str)) = false := by decide) : VO X (.Call (.Name x p) [] [] pos) env R := fun F H σ S s Q kq => by
  obtain ⟨f, fd, ps, ok, hm, hk, hb⟩ := hF.ex
  exact ⟨_, pe_call0 ok hr hg hm hk hb .nil passL hdb, call_pure s.sub .nil hs fun v F' H' Sv c' g' hv fr e => by
    obtain ⟨v', e⟩ := e
    subst e
    have ev : v = v' := hv.1
    subst ev
    exact kq v F' H' Sv g' hv fr⟩
end
end G

set_option maxRecDepth 100000
set_option maxHeartbeats 4000000
namespace G
open PySem PySem.Spec PyProof.Rows L2
/-- a def of the module -/
structure Df (K : PySem.W.Frag) (mg : Str → Option Value) (x : Str) (st : Stmt) (ps : List Str) : Prop where
  ex : ∃ f fd, Fun K x x st f fd ∧ mg x = some (.ref f) ∧ Binds K fd ps []
/-- the built-ins' names are nobody else's -/
structure Bi (mg : Str → Option Value) : Prop where
  len : mg "len" = none
  any : mg "any" = none
  all : mg "all" = none
  list : mg "list" = none
  tuple : mg "tuple" = none
  range : mg "range" = none
  enumerate : mg "enumerate" = none
  zip : mg "zip" = none
  int : mg "int" = none
  str : mg "str" = none
  bool : mg "bool" = none
  isinstance : mg "isinstance" = none
  set : mg "set" = none
  dict : mg "dict" = none
  max : mg "max" = none
  min : mg "min" = none
  sorted : mg "sorted" = none
/-- THE RULE for a def of the module -/
theorem fnG {P : Program} {w : World} {K : PySem.W.Frag} {mg : Str → Option Value} {base : Heap} {x : Str} {st : Stmt} {N ps : List Str} {k : Nat} {spec : Spec} (D : Df K mg x st ps) (Sc : FnScope N ps (defScope st))
    (len : ∀ cs R RX, spec cs R RX → cs.length = ps.length)
    (hbody : ∀ (f : Addr) (cdv : Value) (A : Around) (outer : List Env) (s : Shared) (H : Hp) (E : XK) (X : Cx), X = cxOf (L2.CX P w) P w K mg base N x (defScope st) f cdv A outer s H E → Room k X.A → Takes X (fun cls d _ H => E cls d H) → PassesOwn (model X.prog X.w) X.A X.env X.xe →
      ∀ (cs : List Ct) (R : Ct → List Ct → Prop) (RX : Xc → List Ct → Prop), spec cs R RX →
        WB X (fun cls d _ H => E cls d H) (defBody st) { nx := fun env' => ∃ cs', Back cs env' cs' ∧ R (.dat .none) cs', rt := fun c env' => ∃ cs', Back cs env' cs' ∧ R c cs', ex := fun x env' => ∃ cs', Back cs env' cs' ∧ RX x cs' } (cs.map some ++ List.replicate (N.length - ps.length) none)) :
    Fn P w K mg base x (k + 1) spec := by
  obtain ⟨f, fd, F, hm, hb⟩ := D.ex
  exact ⟨f, fd, ps, okG F Sc len fun cdv A outer s H E X e hr tk hp cs R RX sp => hbody f cdv A outer s H E X e hr tk hp cs R RX sp, hm, F.kp, hb⟩
/-- data under one name -/
theorem shaped_tup {ds : List PyData} {n : Nat} (hn : n < 64) (h : ∀ d ∈ ds, SeqAt.shaped d = true ∧ d.depth ≤ n) : SeqAt.shaped (.tuple ds) = true ∧ (PyData.tuple ds).depth ≤ n + 1 := by
  have key : PyData.canLayAll0 ds = true ∧ PyData.depthAll ds ≤ n := by
    induction ds with
    | nil => exact ⟨rfl, Nat.zero_le _⟩
    | cons d ds ih =>
      obtain ⟨h1, h2⟩ := h d List.mem_cons_self
      obtain ⟨i1, i2⟩ := ih fun d' hd => h d' (List.mem_cons_of_mem _ hd)
      refine ⟨?_, ?_⟩
      · rw [PyData.canLayAll0, SeqAt.canLay_of_shaped h1, i1]
        rfl
      · rw [PyData.depthAll]
        exact Nat.max_le.mpr ⟨h2, i2⟩
  refine ⟨?_, ?_⟩
  · unfold SeqAt.shaped
    rw [PyData.canLay0, key.1, PyData.depth]
    simp
    omega
  · rw [PyData.depth]
    omega
theorem shaped_lst {ds : List PyData} {n : Nat} (hn : n < 64) (h : ∀ d ∈ ds, SeqAt.shaped d = true ∧ d.depth ≤ n) : SeqAt.shaped (.list ds) = true ∧ (PyData.list ds).depth ≤ n + 1 := by
  have key : PyData.canLayAll0 ds = true ∧ PyData.depthAll ds ≤ n := by
    induction ds with
    | nil => exact ⟨rfl, Nat.zero_le _⟩
    | cons d ds ih =>
      obtain ⟨h1, h2⟩ := h d List.mem_cons_self
      obtain ⟨i1, i2⟩ := ih fun d' hd => h d' (List.mem_cons_of_mem _ hd)
      refine ⟨?_, ?_⟩
      · rw [PyData.canLayAll0, SeqAt.canLay_of_shaped h1, i1]
        rfl
      · rw [PyData.depthAll]
        exact Nat.max_le.mpr ⟨h2, i2⟩
  refine ⟨?_, ?_⟩
  · unfold SeqAt.shaped
    rw [PyData.canLay0, key.1, PyData.depth]
    simp
    omega
  · rw [PyData.depth]
    omega
theorem shaped_str {x : Str} (h : PyData.strOk x = true) : SeqAt.shaped (.str x) = true ∧ (PyData.str x).depth ≤ 0 := by
  refine ⟨?_, by simp [PyData.depth]⟩
  unfold SeqAt.shaped
  rw [PyData.canLay0, h, PyData.depth]
  rfl
theorem shaped_int {i : Int} : SeqAt.shaped (.int i) = true ∧ (PyData.int i).depth ≤ 0 := ⟨rfl, by simp [PyData.depth]⟩
theorem shaped_bool {i : Bool} : SeqAt.shaped (.bool i) = true ∧ (PyData.bool i).depth ≤ 0 := ⟨rfl, by simp [PyData.depth]⟩
theorem shaped_none : SeqAt.shaped .none = true ∧ (PyData.none).depth ≤ 0 := ⟨rfl, by simp [PyData.depth]⟩
theorem eqv_str (x y : Str) : PyData.eqv (.str x) (.str y) = decide (x = y) := by
  rw [PyData.eqv]
  exact (Bool.beq_eq_decide_eq x y)
theorem eqv_int (x y : Int) : PyData.eqv (.int x) (.int y) = decide (x = y) := by
  rw [PyData.eqv]
  exact (Bool.beq_eq_decide_eq x y)
end G
namespace G
open PySem PySem.Spec PyProof.Rows L2
section
variable {X : Cx} {W : WX} {env : En} {d d1 : PyData} {e : Expr} {b b1 : Bool}
theorem vis (q : d = d1) (h : VC X e env (.dat d)) : VC X e env (.dat d1) := q ▸ h
theorem tis (q : b = b1) (h : TC X e env b) : TC X e env b1 := q ▸ h
theorem bool_d {b b' : Bool} (q : b = b') : PyData.bool b = .bool b' := by rw [q]
end
end G

set_option maxRecDepth 100000
set_option maxHeartbeats 4000000
/-! shorter forms -/
namespace G
open PySem PySem.Spec PyProof.Rows L2
section
variable {X : Cx} {env : En} {tg iter elt cnd : Expr} {scope : Scope} {own : List (Str × Nat)} {pos : Pos} {α : Type}
/-- [elt for tg in iter] -/
theorem vo_map (xs : List α) (f : α → PyData) (g : α → PyData) {js : List Nat} {bnd : α → En} (hN : X.N.Nodup) (hi : VI X tg iter env (xs.map f))
    (hb : ∀ x, x ∈ xs → Blk X scope fun X' => GC X' tg (f x) (wipE env (own.map (·.2))) js (bnd x)) (he : ∀ x, x ∈ xs → Blk X scope fun X' => VC X' elt (bnd x) (.dat (g x))) (hz : xs.length < 16777216)
    (ok : BlkOk X.N X.env.scope scope own := by exact blkOk_by (by rfl)) (hj : ∀ j ∈ js, j ∈ own.map (·.2) := by decide) (hc : X.calm = true := by rfl)
    (hs : ∀ x, foldedSetIterable iter X.env x = pure x := by intro _; rfl) : VO X (.ListComp elt [⟨tg, iter, [], 0⟩] scope pos) env (olst X.K (xs.map g)) := by
  have h := vo_lc (own := own) (ifs := []) (pos := pos) xs f (fun _ => true) g js bnd hc hN ok hi hj hb (fun _ _ _ _ _ _ _ => ts_nil) (fun x hx _ => he x hx) hz hs
  rwa [show xs.filter (fun _ => true) = xs from List.filter_eq_self.mpr fun _ _ => rfl] at h
/-- [elt for tg in iter if cnd] -/
theorem vo_filt (xs : List α) (f : α → PyData) (p : α → Bool) (g : α → PyData) {js : List Nat} {bnd : α → En} (hN : X.N.Nodup) (hi : VI X tg iter env (xs.map f))
    (hb : ∀ x, x ∈ xs → Blk X scope fun X' => GC X' tg (f x) (wipE env (own.map (·.2))) js (bnd x)) (ht : ∀ x, x ∈ xs → Blk X scope fun X' => TC X' cnd (bnd x) (p x)) (he : ∀ x, x ∈ xs → p x = true → Blk X scope fun X' => VC X' elt (bnd x) (.dat (g x))) (hz : xs.length < 16777216)
    (ok : BlkOk X.N X.env.scope scope own := by exact blkOk_by (by rfl)) (hj : ∀ j ∈ js, j ∈ own.map (·.2) := by decide) (hc : X.calm = true := by rfl)
    (hs : ∀ x, foldedSetIterable iter X.env x = pure x := by intro _; rfl) : VO X (.ListComp elt [⟨tg, iter, [cnd], 0⟩] scope pos) env (olst X.K ((xs.filter p).map g)) :=
  vo_lc (own := own) xs f p g js bnd hc hN ok hi hj hb (fun x hx s H C cl fp => ts_one (ht x hx s H C cl fp)) he hz hs
section
variable {W : WX} {D : DE} {p' lpos : Pos}
theorem ws_map (i : Nat) (xs : List α) (f : α → PyData) (g : α → PyData) {js : List Nat} {bnd : α → En} {x : Str} (hN : X.N.Nodup) (hi : VI X tg iter env (xs.map f))
    (hb : ∀ x, x ∈ xs → Blk X scope fun X' => GC X' tg (f x) (wipE env (own.map (·.2))) js (bnd x)) (he : ∀ x, x ∈ xs → Blk X scope fun X' => VC X' elt (bnd x) (.dat (g x))) (hz : xs.length < 16777216)
    (h : ∀ v, D.nx (env.set i (some (.own v (olst X.K (xs.map g))))))
    (ok : BlkOk X.N X.env.scope scope own := by exact blkOk_by (by rfl)) (hj : ∀ j ∈ js, j ∈ own.map (·.2) := by decide) (hc : X.calm = true := by rfl)
    (hy : X.N[i]? = some x := by rfl) (hyl : X.env.scope.names.lookup x = some .local := by rfl)
    (hsw : swapsWith (.ListComp elt [⟨tg, iter, [], 0⟩] scope lpos) (some (.Name x p')) pos.line X.env = pure true := by exact sw_true rfl rfl rfl (by decide +kernel))
    (hs : ∀ x, foldedSetIterable iter X.env x = pure x := by intro _; rfl) : WS X W (.Assign [.Name x p'] (.ListComp elt [⟨tg, iter, [], 0⟩] scope lpos) pos) D env := by
  have e : xs.filter (fun _ => true) = xs := List.filter_eq_self.mpr fun _ _ => rfl
  exact ws_setLc (own := own) (ifs := []) i xs f (fun _ => true) g js bnd hc hN ok hi hj hb (fun _ _ _ _ _ _ _ => ts_nil) (fun x hx _ => he x hx) hz (by rw [e]; exact h) hy hyl hsw hs
theorem ws_filt (i : Nat) (xs : List α) (f : α → PyData) (p : α → Bool) (g : α → PyData) {js : List Nat} {bnd : α → En} {x : Str} (hN : X.N.Nodup) (hi : VI X tg iter env (xs.map f))
    (hb : ∀ x, x ∈ xs → Blk X scope fun X' => GC X' tg (f x) (wipE env (own.map (·.2))) js (bnd x)) (ht : ∀ x, x ∈ xs → Blk X scope fun X' => TC X' cnd (bnd x) (p x)) (he : ∀ x, x ∈ xs → p x = true → Blk X scope fun X' => VC X' elt (bnd x) (.dat (g x))) (hz : xs.length < 16777216)
    (h : ∀ v, D.nx (env.set i (some (.own v (olst X.K ((xs.filter p).map g))))))
    (ok : BlkOk X.N X.env.scope scope own := by exact blkOk_by (by rfl)) (hj : ∀ j ∈ js, j ∈ own.map (·.2) := by decide) (hc : X.calm = true := by rfl)
    (hy : X.N[i]? = some x := by rfl) (hyl : X.env.scope.names.lookup x = some .local := by rfl)
    (hsw : swapsWith (.ListComp elt [⟨tg, iter, [cnd], 0⟩] scope lpos) (some (.Name x p')) pos.line X.env = pure true := by exact sw_true rfl rfl rfl (by decide +kernel))
    (hs : ∀ x, foldedSetIterable iter X.env x = pure x := by intro _; rfl) : WS X W (.Assign [.Name x p'] (.ListComp elt [⟨tg, iter, [cnd], 0⟩] scope lpos) pos) D env :=
  ws_setLc (own := own) i xs f p g js bnd hc hN ok hi hj hb (fun x hx s H C cl fp => ts_one (ht x hx s H C cl fp)) he hz h hy hyl hsw hs
end
end
theorem shs (x : String) (h : PyData.strOk (Str.ofString x) = true := by decide +kernel) : SeqAt.shaped (.str (Str.ofString x)) = true := (shaped_str h).1
theorem sh2 {a b : PyData} (h1 : SeqAt.shaped a = true ∧ a.depth ≤ 0) (h2 : SeqAt.shaped b = true ∧ b.depth ≤ 0) : SeqAt.shaped (.tuple [a, b]) = true :=
  (shaped_tup (n := 0) (by decide) fun d hd => by
    rcases List.mem_cons.mp hd with rfl | hd
    · exact h1
    · rw [List.mem_singleton.mp hd]; exact h2).1
theorem sh3 {a b c : PyData} (h1 : SeqAt.shaped a = true ∧ a.depth ≤ 0) (h2 : SeqAt.shaped b = true ∧ b.depth ≤ 0) (h3 : SeqAt.shaped c = true ∧ c.depth ≤ 0) : SeqAt.shaped (.tuple [a, b, c]) = true :=
  (shaped_tup (n := 0) (by decide) fun d hd => by
    rcases List.mem_cons.mp hd with rfl | hd
    · exact h1
    rcases List.mem_cons.mp hd with rfl | hd
    · exact h2
    · rw [List.mem_singleton.mp hd]; exact h3).1
theorem eqv_tup2 (a b c d : PyData) : PyData.eqv (.tuple [a, b]) (.tuple [c, d]) = (PyData.eqv a c && PyData.eqv b d) := by
  simp [PyData.eqv, PyData.eqvAll]
theorem eqv_tup3 (a b c d e f : PyData) : PyData.eqv (.tuple [a, b, c]) (.tuple [d, e, f]) = (PyData.eqv a d && (PyData.eqv b e && PyData.eqv c f)) := by
  simp [PyData.eqv, PyData.eqvAll]
end G

set_option maxRecDepth 100000
set_option maxHeartbeats 4000000
/-! what is one's own: known from now on, lent, changed -/
namespace G
open PySem PySem.Spec PyProof.Rows L2
open Classical in
noncomputable def cutF (F : Hp) (S : Addr → Prop) : Hp := fun a => if S a then none else F a
theorem cutF_yes {F : Hp} {S : Addr → Prop} {a : Addr} (h : S a) : cutF F S a = none := if_pos h
theorem cutF_no {F : Hp} {S : Addr → Prop} {a : Addr} (h : ¬ S a) : cutF F S a = F a := if_neg h
/-- what a resource is, as data; its cells are lists -/
structure Frz (K : PySem.W.Frag) (R : Rs) (d : PyData) : Prop where
  frz : ∀ {F H : Hp} {v : V} {S : Addr → Prop}, Same F H → R.At F H v S → (∀ a, S a → F a = none) → ∃ F', Same F F' ∧ Same F' H ∧ (∀ a o, F' a = some o → F a = some o ∨ S a) ∧ Dp K F' v d
  lists : ∀ {F H : Hp} {v : V} {S : Addr → Prop}, R.At F H v S → ∀ a, S a → ∃ xs, H a = some (.lst xs)
theorem frz_olst {K : PySem.W.Frag} {ds : List PyData} : Frz K (olst K ds) (.list ds) where
  frz := fun {F H v S} s ⟨a, xs, e, h1, h2, h3⟩ hn => by
    subst e
    have nF : F a = none := hn a ((h3 a).mpr rfl)
    have sf : Same F (upd F a (.lst xs)) := fun b o e => by rw [upd_ne (ne_of_none e nF)]; exact e
    refine ⟨upd F a (.lst xs), sf, fun b o e => ?_, fun b o e => ?_, .lst (SqL.of upd_same) (dps_mono sf h2)⟩
    · by_cases hb : b = a
      · subst hb
        rw [upd_same] at e
        rw [h1]
        exact e
      · rw [upd_ne hb] at e
        exact s b o e
    · by_cases hb : b = a
      · exact .inr ((h3 b).mpr hb)
      · rw [upd_ne hb] at e
        exact .inl e
  lists := fun {F H v S} ⟨a, xs, e, h1, h2, h3⟩ b hb => by
    rw [(h3 b).mp hb]
    exact ⟨xs, h1⟩
mutual
def thin : PyData → Bool
  | .none => true
  | .bool _ => true
  | .int _ => true
  | .str _ => true
  | .tuple xs => thins xs
  | .list _ => false
  | .dict _ => false
def thins : List PyData → Bool
  | [] => true
  | x :: xs => thin x && thins xs
end
section
variable {K : PySem.W.Frag} {F F' : Hp}
theorem rd_cut {S : Addr → Prop} (hS : ∀ a, S a → ∃ xs, F a = some (.lst xs)) {a : Addr} {xs : List V} (h : SqT K F a xs) : SqT K (cutF F S) a xs := by
  rcases h with (h | ⟨o, h⟩) | h
  · refine .inl (.inl ?_)
    rw [cutF_no (fun z => by obtain ⟨ys, e⟩ := hS a z; rw [e] at h; cases h)]
    exact h
  · refine .inl (.inr ⟨o, ?_⟩)
    rw [cutF_no (fun z => by obtain ⟨ys, e⟩ := hS a z; rw [e] at h; cases h)]
    exact h
  · exact .inr h
mutual
theorem dp_cut {S : Addr → Prop} (hS : ∀ a, S a → ∃ xs, F a = some (.lst xs)) : ∀ {v : V} {d : PyData}, Dp K F v d → thin d = true → Dp K (cutF F S) v d
  | _, _, .non, _ => .non
  | _, _, .bl b, _ => .bl b
  | _, _, .int i, _ => .int i
  | _, _, .str x, _ => .str x
  | _, _, .lst h hs, e => by simp [thin] at e
  | _, _, .tup h hs, e => .tup (rd_cut hS h) (dps_cut hS hs (by simpa [thin] using e))
theorem dps_cut {S : Addr → Prop} (hS : ∀ a, S a → ∃ xs, F a = some (.lst xs)) : ∀ {vs : List V} {ds : List PyData}, DpAll K F vs ds → thins ds = true → DpAll K (cutF F S) vs ds
  | _, _, .nil, _ => .nil
  | _, _, .cons h hs, e => by
    rw [thins, Bool.and_eq_true] at e
    exact .cons (dp_cut hS h e.1) (dps_cut hS hs e.2)
end
end
def Thin (K : PySem.W.Frag) : Ct → Prop
  | .dat d => thin d = true
  | .pin _ => False
  | .own _ R => ∃ ds, R = olst K ds ∧ thins ds = true
section
variable {X : Cx} {W : WX} {env : En} {c : Ct} {d d1 : PyData} {e : Expr} {v : V} {R : Rs} {i : Nat} {D : DE} {sts : List Stmt} {b : Bool}
theorem Sit.frz {K : PySem.W.Frag} {F H : Hp} {σ : St} {S : Foot} (s : Sit K F H σ S env) (h : env[i]? = some (some (.own v R))) (f : Frz K R d) :
    ∃ F' S', Sit K F' H σ S' (env.set i (some (.dat d))) ∧ Same F F' ∧ (∀ a o, F' a = some o → F a = some o ∨ S i a) ∧ (∀ a, tot S' a → tot S a) ∧ (∀ a, S i a → ∃ xs, H a = some (.lst xs)) := by
  obtain ⟨v', e1, h1⟩ := s.slot i _ h
  obtain ⟨ev, hR, hn⟩ := h1
  have ev : v' = v := ev
  subst ev
  have hi : i < env.length := (List.getElem?_eq_some_iff.mp h).1
  obtain ⟨F', a1, a2, a3, a4⟩ := f.frz s.sub hR (fun a z => (hn a z).1)
  refine ⟨F', fun j => if j = i then fun _ => False else S j, ⟨a2, fun j c' e => ?_, fun j k a hj hk => ?_, by simp [s.len], fun j hj a z => ?_⟩, a1, a3, fun a z => ?_, fun a z => f.lists hR a z⟩
  · by_cases hji : j = i
    · subst hji
      rw [List.getElem?_set_self hi] at e
      cases e
      exact ⟨v', e1, a4, by simp⟩
    · rw [List.getElem?_set_ne (Ne.symm hji)] at e
      obtain ⟨w, w1, w2⟩ := s.slot j c' e
      refine ⟨w, w1, ?_⟩
      simp only [hji, if_false]
      refine w2.keep a1 (fun _ _ => rfl) fun a z => ?_
      cases q : F' a with
      | none => rfl
      | some u =>
        rcases a3 a u q with y | y
        · rw [(w2.no z).1] at y; cases y
        · exact absurd (s.dis j i a z y) hji
  · by_cases hji : j = i
    · simp only [hji, if_true] at hj
    · by_cases hki : k = i
      · simp only [hki, if_true] at hk
      · simp only [hji, hki, if_false] at hj hk
        exact s.dis j k a hj hk
  · by_cases hji : j = i
    · simp only [hji, if_true] at z
    · simp only [hji, if_false] at z
      exact s.emp j (fun c' e => hj c' (by rw [List.getElem?_set_ne (Ne.symm hji)]; exact e)) a z
  · obtain ⟨j, z⟩ := z
    by_cases hji : j = i
    · simp only [hji, if_true] at z
    · simp only [hji, if_false] at z
      exact ⟨j, z⟩
/-- from here on slot i is known data -/
theorem wb_frz (i : Nat) {v : V} {R : Rs} {d : PyData} (f : Frz X.K R d) (h : env[i]? = some (some (.own v R)) := by rfl) (k : WB X W sts D (env.set i (some (.dat d)))) : WB X W sts D env := fun F H σ S s E m => by
  obtain ⟨F', S', s', a1, a3, t, _⟩ := s.frz h f
  exact k F' H σ S' s' E (m.from ⟨a1, fun _ _ e _ => e, fun a o e => (a3 a o e).elim .inl fun z => .inr (.inr ⟨i, z⟩), fun a z => .inl (t a z)⟩)
/-- slot i is lent to a pure expression -/
theorem lend {F H F1 F2 H2 : Hp} {σ : St} {S S1 : Foot} (s : Sit X.K F H σ S env) (a1 : Same F F1) (a3 : ∀ a o, F1 a = some o → F a = some o ∨ S i a) (g : Grow F1 H F2 H2) : Grow F H (cutF F2 (S i)) H2 :=
  ⟨fun a o e => by rw [cutF_no (fun z => by rw [(s.no z).1] at e; cases e)]; exact g.f a o (a1 a o e), g.h, fun a o e => by
    by_cases z : S i a
    · rw [cutF_yes z] at e; cases e
    · rw [cutF_no z] at e; exact g.sub a o e, fun a o e => by
    by_cases z : S i a
    · rw [cutF_yes z] at e; cases e
    · rw [cutF_no z] at e
      rcases g.new a o e with y | y
      · exact (a3 a o y).elim .inl fun q => absurd q z
      · exact .inr y⟩
theorem vc_lend (i : Nat) {v : V} {R : Rs} {d : PyData} (f : Frz X.K R d) (th : Thin X.K c) (k : VC X e (env.set i (some (.dat d))) c) (h : env[i]? = some (some (.own v R)) := by rfl) : VC X e env c := fun F H σ S s Q kq => by
  obtain ⟨F1, S1, s1, a1, a3, t, ls⟩ := s.frz h f
  refine k F1 H σ S1 s1 Q fun v' F2 H2 Sv g hv fr => ?_
  refine kq v' (cutF F2 (S i)) H2 Sv (lend (S1 := S1) s a1 a3 g) ?_ fr
  -- the cells lent may be unknown to F2: dp_cut asks of those known alone
  have hS : ∀ (d : PyData) (w : V), Dp X.K F2 w d → thin d = true → Dp X.K (cutF F2 (S i)) w d := fun d w hd ht => by
    have e : cutF F2 (S i) = cutF F2 (fun a => S i a ∧ ∃ o, F2 a = some o) := by
      funext a
      by_cases z : S i a
      · rw [cutF_yes z]
        by_cases y : ∃ o, F2 a = some o
        · rw [cutF_yes ⟨z, y⟩]
        · rw [cutF_no (fun q => y q.2)]
          cases q : F2 a with
          | none => rfl
          | some o => exact absurd ⟨o, q⟩ y
      · rw [cutF_no z, cutF_no (fun q => z q.1)]
    rw [e]
    refine dp_cut (fun a z => ?_) hd ht
    obtain ⟨xs, q⟩ := ls a z.1
    obtain ⟨o, y⟩ := z.2
    have := g.sub a o y
    rw [g.h a _ q] at this
    cases this
    exact ⟨xs, y⟩
  cases c with
  | dat d' => exact ⟨hS d' v' hv.1 th, hv.2⟩
  | pin P => exact th.elim
  | own w R' =>
    obtain ⟨ds, rfl, hth⟩ := th
    obtain ⟨e1, ⟨a, xs, e2, h2, h3, h4⟩, h5⟩ := hv
    refine ⟨e1, ⟨a, xs, e2, h2, ?_, h4⟩, fun b z => ⟨?_, (h5 b z).2⟩⟩
    · have : ∀ {xs : List V} {ds : List PyData}, DpAll X.K F2 xs ds → thins ds = true → DpAll X.K (cutF F2 (S i)) xs ds := by
        intro xs ds hd
        induction ds generalizing xs with
        | nil => intro _; cases hd; exact .nil
        | cons d0 ds0 ih =>
          intro ht
          rw [thins, Bool.and_eq_true] at ht
          cases hd with
          | cons q1 q2 => exact .cons (hS _ _ q1 ht.1) (ih q2 ht.2)
      exact this h3 hth
    · by_cases z' : S i b
      · exact cutF_yes z'
      · rw [cutF_no z']; exact (h5 b z).1
theorem vo_lend (i : Nat) {v : V} {R : Rs} {d : PyData} {ds : List PyData} (f : Frz X.K R d) (th : thins ds = true) (k : VO X e (env.set i (some (.dat d))) (olst X.K ds)) (h : env[i]? = some (some (.own v R)) := by rfl) : VO X e env (olst X.K ds) := fun F H σ S s Q kq => by
  obtain ⟨F1, S1, s1, a1, a3, t, ls⟩ := s.frz h f
  refine k F1 H σ S1 s1 Q fun v' F2 H2 Sv g hv fr => ?_
  refine kq v' (cutF F2 (S i)) H2 Sv (lend (S1 := S1) s a1 a3 g) ?_ fr
  have hS : ∀ (d : PyData) (w : V), Dp X.K F2 w d → thin d = true → Dp X.K (cutF F2 (S i)) w d := fun d w hd ht => by
    have e : cutF F2 (S i) = cutF F2 (fun a => S i a ∧ ∃ o, F2 a = some o) := by
      funext a
      by_cases z : S i a
      · rw [cutF_yes z]
        by_cases y : ∃ o, F2 a = some o
        · rw [cutF_yes ⟨z, y⟩]
        · rw [cutF_no (fun q => y q.2)]
          cases q : F2 a with
          | none => rfl
          | some o => exact absurd ⟨o, q⟩ y
      · rw [cutF_no z, cutF_no (fun q => z q.1)]
    rw [e]
    refine dp_cut (fun a z => ?_) hd ht
    obtain ⟨xs, q⟩ := ls a z.1
    obtain ⟨o, y⟩ := z.2
    have := g.sub a o y
    rw [g.h a _ q] at this
    cases this
    exact ⟨xs, y⟩
  obtain ⟨e1, ⟨a, xs, e2, h2, h3, h4⟩, h5⟩ := hv
  refine ⟨e1, ⟨a, xs, e2, h2, ?_, h4⟩, fun b z => ⟨?_, (h5 b z).2⟩⟩
  · have : ∀ {xs : List V} {ds : List PyData}, DpAll X.K F2 xs ds → thins ds = true → DpAll X.K (cutF F2 (S i)) xs ds := by
      intro xs ds hd
      induction ds generalizing xs with
      | nil => intro _; cases hd; exact .nil
      | cons d0 ds0 ih =>
        intro ht
        rw [thins, Bool.and_eq_true] at ht
        cases hd with
        | cons q1 q2 => exact .cons (hS _ _ q1 ht.1) (ih q2 ht.2)
    exact this h3 th
  · by_cases z' : S i b
    · exact cutF_yes z'
    · rw [cutF_no z']; exact (h5 b z).1
theorem tc_lend (i : Nat) {v : V} {R : Rs} {d : PyData} (f : Frz X.K R d) (k : TC X e (env.set i (some (.dat d))) b) (h : env[i]? = some (some (.own v R)) := by rfl) : TC X e env b := fun F H σ S s Q kq => by
  obtain ⟨F1, S1, s1, a1, a3, t, ls⟩ := s.frz h f
  exact k F1 H σ S1 s1 Q fun F2 H2 g => kq _ H2 (lend (S1 := S1) s a1 a3 g)
/-! ### one's own lists change -/
theorem set_same {σ : St} {i : Nat} {v : V} (h : σ[i]? = some (some v)) : σ.set i (some v) = σ := by
  apply List.ext_getElem?
  intro j
  by_cases hj : i = j
  · subst hj
    rw [List.getElem?_set, if_pos rfl, h]
    simp [(List.getElem?_eq_some_iff.mp h).1]
  · rw [List.getElem?_set_ne hj]
/-- the own list at a becomes zs -/
theorem Sit.change {K : PySem.W.Frag} {F H : Hp} {σ : St} {S : Foot} {a : Addr} {xs zs : List V} {ds es : List PyData} (s : Sit K F H σ S env) (h : env[i]? = some (some (.own (.ref a) (olst K ds)))) (hz : DpAll K F zs es) :
    Sit K F (upd H a (.lst zs)) σ S (env.set i (some (.own (.ref a) (olst K es)))) ∧ Prog F H (tot S) F (upd H a (.lst zs)) (tot S) := by
  obtain ⟨v', e1, ev, ⟨a', xs', e2, h2, h3, h4⟩, hn⟩ := s.slot i _ h
  have ev : v' = .ref a := ev
  subst ev
  cases e2
  have hi : i < env.length := (List.getElem?_eq_some_iff.mp h).1
  have ia : S i a := (h4 a).mpr rfl
  refine ⟨⟨fun b o e => ?_, fun j c' e => ?_, s.dis, by simp [s.len], fun j hj b => ?_⟩, ⟨Same.refl F, fun b o e nb => ?_, fun b o e => .inl e, fun b z => .inl z⟩⟩
  · rw [upd_ne (fun z => by subst z; rw [(s.no ia).1] at e; cases e)]
    exact s.sub b o e
  · by_cases hji : j = i
    · subst hji
      rw [List.getElem?_set_self hi] at e
      cases e
      exact ⟨_, e1, rfl, ⟨a, zs, rfl, upd_same, hz, h4⟩, fun b z => by
        have := (h4 b).mp z
        subst this
        exact ⟨(hn _ z).1, _, upd_same⟩⟩
    · rw [List.getElem?_set_ne (Ne.symm hji)] at e
      obtain ⟨w, w1, w2⟩ := s.slot j c' e
      exact ⟨w, w1, w2.keep (Same.refl F) (fun b z => upd_ne (fun y => by subst y; exact hji (s.dis j i b z ia))) fun b z => (w2.no z).1⟩
  · by_cases hji : j = i
    · subst hji
      exact absurd (List.getElem?_set_self hi) (hj _)
    · exact s.emp j (fun c' e => hj c' (by rw [List.getElem?_set_ne (Ne.symm hji)]; exact e)) b
  · rw [upd_ne (fun z => by subst z; exact nb ⟨i, ia⟩)]
    exact e
/-- xs.append(e) -/
theorem ws_app (i : Nat) {v : V} {ds : List PyData} {el : Expr} {p1 p2 pos pos2 : Pos} (hel : VC X el env (.dat d)) (hz : ds.length < 16777216) (k : D.nx (env.set i (some (.own v (olst X.K (ds ++ [d])))))) (h : env[i]? = some (some (.own v (olst X.K ds))) := by rfl) {x : Str} (hN : X.N[i]? = some x := by rfl)
    (hv : Vis X.env.scope x := by first | exact Or.inl rfl | exact Or.inr (Or.inl rfl) | exact Or.inr (Or.inr rfl)) (hd : (x == ("__debug__" : Str)) = false := by decide) (hcd : (x == ("__classdict__" : Str)) = false := by decide)
    (hbm : PE X (.Call (.Attribute (.Name x p1) (Str.ofString "append") p2) [el] [] pos) (tBM X.K "list" rAppend (tVar i) (tCons (wE X el) tNil)) := by exact pe_bm PySem.F.plainAttrs_list PySem.F.slot_list_append PySem.F.type_list_append mt_append (pv _) (pa_cons pwE pa_nil))
    (hs : swapsWith (.Call (.Attribute (.Name x p1) (Str.ofString "append") p2) [el] [] pos) none pos2.line X.env = pure false := by rfl) :
    WS X W (.Expr (.Call (.Attribute (.Name x p1) (Str.ofString "append") p2) [el] [] pos) pos2) D env := fun F H σ S s E m => by
  obtain ⟨v', e1, ev, ⟨a, xs, e2, h2, h3, h4⟩, hn⟩ := s.slot i _ h
  have ev : v' = v := ev
  subst ev
  subst e2
  refine ⟨_, ps_expr hbm hs, .ref a, e1, .inl ⟨rfl, xs, SqL.of h2⟩, hel F H σ S s _ fun w F1 H1 _ g hw _ => ?_⟩
  have s1 := s.grow g
  refine ⟨a, xs, w, rfl, rfl, g.h _ _ h2, by rw [sizeLine_eq, dps_length h3]; exact hz, ?_⟩
  obtain ⟨s2, p2⟩ := s1.change (xs := xs) (zs := xs ++ [w]) h (dps_append (dps_mono g.f h3) (.cons hw.1 .nil))
  exact m.nx F1 _ σ S _ (g.prog.trans p2) s2 k
/-- xs[j] = e -/
theorem ws_setIx (i : Nat) {v : V} {ix val : Expr} {j : Nat} {p1 p2 pos : Pos} (hval : EC X W val (fun c env' => ∃ d ds', c = .dat d ∧ env'[i]? = some (some (.own v (olst X.K ds'))) ∧ VC X ix env' (.dat (.int (j : Int))) ∧ j < ds'.length ∧ D.nx (env'.set i (some (.own v (olst X.K (ds'.set j d)))))) D.ex env) {x : Str} (hN : X.N[i]? = some x := by rfl)
    (hv : Vis X.env.scope x := by first | exact Or.inl rfl | exact Or.inr (Or.inl rfl) | exact Or.inr (Or.inr rfl)) (hd : (x == ("__debug__" : Str)) = false := by decide) (hcd : (x == ("__classdict__" : Str)) = false := by decide)
    (hps : ∀ tv ti, PE X val tv → PE X ix ti → PS X (.Assign [.Subscript (.Name x p1) ix p2] val pos) (tAsg tv (gSub (tVar i) ti rSetL)) := by exact fun _ _ h1 h2 => ps_asg h1 (pg_sub (pv _) h2 set_list)) :
    WS X W (.Assign [.Subscript (.Name x p1) ix p2] val pos) D env := fun F H σ S s E m => by
  refine ⟨_, hps _ _ pwE pwE, hval F H σ S s _ (fun w F1 H1 S1 Sv c env' p s1 hw dj ⟨d, ds', ec, h, hix, hj, k⟩ => ?_) fun cls od F' H' S' x env' p s' xh q => m.ex cls od F' H' σ S' x env' p s' xh q⟩
  subst ec
  obtain ⟨v', e1, ev, ⟨a, xs, e2, h2, h3, h4⟩, hn⟩ := s1.slot i _ h
  have ev : v' = v := ev
  subst ev
  subst e2
  refine ⟨.ref a, e1, hix F1 H1 σ S1 s1 _ fun u F2 H2 _ g2 hu _ => ?_⟩
  cases hu.1
  have s2 := s1.grow g2
  have ln := dps_length h3
  refine ⟨a, xs, (j : Int), j, rfl, rfl, g2.h _ _ h2, ?_, ?_⟩
  · unfold ixN
    rw [if_pos (by omega), if_pos (by omega)]
    simp
  · obtain ⟨s3, p3⟩ := s2.change (xs := xs) (zs := xs.set j w) h (dps_set (dp_mono g2.f hw.1) j (dps_mono g2.f h3))
    exact m.nx F2 _ σ S1 _ (((p.weak (fun _ z => z) fun a z => .inl (.inl z)).trans g2.prog).trans p3) s3 k
end
end G
namespace G
open PySem PySem.Spec PyProof.Rows L2
/-- a block by what holds behind its first statement -/
theorem wb_mid {X : Cx} {W : WX} {st : Stmt} {rest : List Stmt} {D : DE} {env : En} (Q : En → Prop) (h1 : WS X W st { D with nx := Q } env) (h2 : ∀ env', Q env' → WB X W rest D env') : WB X W (st :: rest) D env :=
  wb_cons fun F H σ S s E m => h1 F H σ S s E ⟨fun F' H' σ' S' env' p s' q => m.nx F' H' σ' S' env' p s' (h2 env' q), m.rt, m.bk, m.ct, m.ex⟩
end G

set_option maxRecDepth 100000
set_option maxHeartbeats 4000000
/-! how many unlike texts: len({x: .. for x in ..}) -/
namespace G
open PySem PySem.Spec PyProof.Rows L2
def dset (xs : List Str) : List Str := xs.foldl (fun acc x => if x ∈ acc then acc else acc ++ [x]) []
theorem dset_succ (xs : List Str) (x : Str) : dset (xs ++ [x]) = if x ∈ dset xs then dset xs else dset xs ++ [x] := by
  unfold dset
  rw [List.foldl_append]
  rfl
theorem dset_len (xs : List Str) : (dset xs).length ≤ xs.length := by
  have key : ∀ (ys acc : List Str), (ys.foldl (fun acc x => if x ∈ acc then acc else acc ++ [x]) acc).length ≤ acc.length + ys.length := by
    intro ys
    induction ys with
    | nil => intro acc; simp
    | cons y ys ih =>
      intro acc
      rw [List.foldl_cons]
      refine Nat.le_trans (ih _) ?_
      by_cases h : y ∈ acc
      · rw [if_pos h, List.length_cons]; omega
      · rw [if_neg h, List.length_append, List.length_cons, List.length_cons, List.length_nil]; omega
  simpa [dset] using key xs []
open Classical in
theorem putK_keys (kvs : List (Key × V)) (k : Key) (v : V) : (putK kvs k v).map (·.1) = if k ∈ kvs.map (·.1) then kvs.map (·.1) else kvs.map (·.1) ++ [k] := by
  unfold putK
  by_cases h : k ∈ kvs.map (·.1)
  · have h' : (kvs.any fun kv => decide (kv.1 = k)) = true := by
      obtain ⟨p, hp, e⟩ := List.mem_map.mp h
      exact List.any_eq_true.mpr ⟨p, hp, by simp [e]⟩
    rw [if_pos h', if_pos h, List.map_map]
    apply List.map_congr_left
    intro p _
    show (if p.1 = k then (p.1, v) else p).1 = p.1
    split <;> rfl
  · have h' : ¬ (kvs.any fun kv => decide (kv.1 = k)) = true := fun z => by
      obtain ⟨p, hp, e⟩ := List.any_eq_true.mp z
      exact h (List.mem_map.mpr ⟨p, hp, of_decide_eq_true e⟩)
    rw [if_neg h', if_neg h, List.map_append]
    rfl
section
variable {X : Cx} {env : En} {tg iter kx vx : Expr} {scope : Scope} {own : List (Str × Nat)} {pos p2 p : Pos} {vd : PyData}
theorem vc_lenDc (xs : List Str) {js : List Nat} {bnd : Str → En} (hN : X.N.Nodup) (hm : X.mg "len" = none) (hi : VI X tg iter env (xs.map .str))
    (hb : ∀ x, x ∈ xs → Blk X scope fun X' => GC X' tg (.str x) (wipE env (own.map (·.2))) js (bnd x)) (hk : ∀ x, x ∈ xs → Blk X scope fun X' => VC X' kx (bnd x) (.dat (.str x))) (hv : ∀ x, x ∈ xs → Blk X scope fun X' => VC X' vx (bnd x) (.dat vd)) (hz : xs.length ≤ 1000)
    (ok : BlkOk X.N X.env.scope scope own := by exact blkOk_by (by rfl)) (hj : ∀ j ∈ js, j ∈ own.map (·.2) := by decide) (hc : X.calm = true := by rfl) (hg : Gl X "len" := by rfl)
    (hs : ∀ x, foldedSetIterable iter X.env x = pure x := by intro _; rfl) (he : starEach [.DictComp kx vx [⟨tg, iter, [], 0⟩] scope pos] X.env = (false, eval (.DictComp kx vx [⟨tg, iter, [], 0⟩] scope pos) X.env) :: starEach [] X.env := by rfl) (hpl : (backTo p2 (starEach [] X.env)).any (·.1) = false := by rfl) :
    VC X (.Call (.Name "len" p) [.DictComp kx vx [⟨tg, iter, [], 0⟩] scope pos] [] p2) env (.dat (.int ((dset xs).length : Int))) := fun F H σ S s Q k => by
  refine ⟨_, pe_callB call_lenD hg hm PySem.boot_len (pa_cons (pe_dc (own := own) hc hN (⟨fun pins s σ H R I ⟨t, h, q⟩ => h.run pins s σ H R I q⟩ : PI X tg iter (wI X tg iter)) ok pbG (fun _ _ _ _ _ => pts_nil) pbE pbE hs) pa_nil he) (by decide) (by decide) he hpl, ?_⟩
  refine hi F H σ S s _ fun J F1 H1 g1 y D hD => ?_
  have s1 := s.grow g1
  obtain ⟨Sw, sw, tw⟩ := s1.wipe (own.map (·.2))
  have hl : (xs.map PyData.str).length = xs.length := List.length_map ..
  let Pv : Nat → Hp → Prop := fun i H' => ∃ F' kvs, H' D = some (.dK kvs) ∧ kvs.map (·.1) = (dset (xs.take i)).map Sum.inr ∧ F' D = none ∧ Grow F1 H1 F' H'
  refine ⟨fun i m H' => m = xs.length - i ∧ i ≤ xs.length ∧ Pv i H', ⟨xs.length, rfl, Nat.zero_le _, F1, [], upd_same, rfl, g1.sub.free hD, Grow.made g1.sub hD⟩, ?_⟩
  rintro i m H' ⟨rfl, hi', F', kvs, hkv, hks, nF, g2⟩
  by_cases hlt : i < xs.length
  · refine .inr ⟨y.go i F' H' (by omega) g2.f g2.sub, Pv (i + 1), fun H'' p' => ⟨xs.length - (i + 1), by omega, rfl, hlt, p'⟩, fun x H'' hy => ?_⟩
    obtain ⟨d, F2, hd, g3, hx⟩ := y.yld i F' H' x H'' (by omega) g2.f g2.sub hy
    have hxi : xs[i]? = some xs[i] := List.getElem?_eq_getElem hlt
    have hmem : xs[i] ∈ xs := List.getElem_mem hlt
    have htk : xs.take (i + 1) = xs.take i ++ [xs[i]] := by rw [List.take_succ, hxi] <;> rfl
    have hd' : d = .str xs[i] := by
      rw [List.getElem?_map, hxi] at hd
      exact (Option.some.inj hd).symm
    subst hd'
    have s2 : Sit X.K F2 H'' (L2.wipe σ (own.map (·.2))) Sw (wipE env (own.map (·.2))) := sw.grow (g2.trans g3)
    intro sS sH sC scl sfp
    refine hb _ hmem sS sH sC scl sfp F2 H'' _ Sw x s2 hx _ fun σ2 S2 s3 t2 o2 => ⟨wipe_of o2 hj, ?_⟩
    show (if true = true then bE X scope kx σ2 H'' _ else Pv (i + 1) H'')
    rw [if_pos rfl]
    intro sS sH sC scl sfp
    refine hk _ hmem sS sH sC scl sfp F2 H'' σ2 S2 s3 _ fun kv F3 H3 _ g4 hkv' _ => ?_
    intro sS sH sC scl sfp
    refine hv _ hmem sS sH sC scl sfp F3 H3 σ2 S2 (s3.grow g4) _ fun vv F4 H4 _ g5 hvv _ => ?_
    cases hkv'.1
    have nD : ∀ {Fa Ha Fb Hb : Hp}, Fa D = none → Ha D = some (.dK kvs) → Grow Fa Ha Fb Hb → Fb D = none := fun {Fa Ha Fb Hb} h1 h2 g => by
      cases q : Fb D with
      | none => rfl
      | some o =>
        rcases g.new D o q with z | z
        · rw [h1] at z; cases z
        · rw [h2] at z; cases z
    have q2 := g3.h _ _ hkv
    have q3 := g4.h _ _ q2
    have q4 := g5.h _ _ q3
    have n4 : F4 D = none := nD (nD (nD nF hkv g3) q2 g4) q3 g5
    have hlen : kvs.length ≤ i := by
      have := congrArg List.length hks
      rw [List.length_map, List.length_map] at this
      rw [this]
      refine Nat.le_trans (dset_len _) ?_
      rw [List.length_take]
      omega
    refine ⟨kvs, Sum.inr xs[i], rfl, q4, by rw [sizeLine_eq]; omega, F4, _, upd_same, ?_, n4, ?_⟩
    · rw [putK_keys, hks, htk, dset_succ]
      by_cases hm : xs[i] ∈ dset (xs.take i)
      · rw [if_pos (c := xs[i] ∈ dset (xs.take i)) hm, if_pos (List.mem_map.mpr ⟨_, hm, rfl⟩)]
      · rw [if_neg hm, if_neg (fun z => by obtain ⟨w, h1, h2⟩ := List.mem_map.mp z; cases h2; exact hm h1), List.map_append]
        rfl
    · have g6 := ((g2.trans g3).trans g4).trans g5
      exact ⟨g6.f, fun b o e => by rw [upd_ne (ne_of_none e hD)]; exact g6.h b o e, fun b o e => by rw [upd_ne (ne_of_none e n4)]; exact g6.sub b o e, g6.new⟩
  · have e : i = xs.length := by omega
    subst e
    refine .inl ⟨by have z := y.stop F' H' g2.f g2.sub; rw [hl] at z; exact z, ?_⟩
    rw [List.take_length] at hks
    refine ⟨D, kvs, rfl, hkv, ?_⟩
    have e2 : kvs.length = (dset xs).length := by
      have := congrArg List.length hks
      rwa [List.length_map, List.length_map] at this
    rw [e2]
    exact k _ F' H' (fun _ => False) (g1.trans g2) ⟨.int _, fun _ z => z⟩ fun _ z => z.elim
end
end G

set_option maxRecDepth 100000
set_option maxHeartbeats 4000000
/-! expressions with effects: calls that change what is one's own -/
namespace G
open PySem PySem.Spec PyProof.Rows L2
inductive Ar where
  | c (x : Ct)
  | slot (i : Nat) (v : V)
inductive HoldA (K : PySem.W.Frag) (F : Hp) : List V → List Ar → Prop
  | nil : HoldA K F [] []
  | dat {v d vs as} : Dp K F v d → HoldA K F vs as → HoldA K F (v :: vs) (.c (.dat d) :: as)
  | pin {v as vs} {P : Ps} : P.At F v → HoldA K F vs as → HoldA K F (v :: vs) (.c (.pin P) :: as)
  | slot {i v vs as} : HoldA K F vs as → HoldA K F (v :: vs) (.slot i v :: as)
def okA (env : En) : List Ar → Prop
  | [] => True
  | .c _ :: t => okA env t
  | .slot i v :: t => (∃ R, env[i]? = some (some (.own v R))) ∧ okA env t
def csA (env : En) : List Ar → List Ct
  | [] => []
  | .c x :: t => x :: csA env t
  | .slot i _ :: t => (match env[i]? with | some (some c) => c | _ => .dat .none) :: csA env t
def putA (env : En) : List Ar → List Ct → En
  | .c _ :: as, _ :: cs => putA env as cs
  | .slot i _ :: as, c :: cs => (putA env as cs).set i (some c)
  | _, _ => env
def slotsA : List Ar → List Nat
  | [] => []
  | .c _ :: t => slotsA t
  | .slot i _ :: t => i :: slotsA t
theorem csA_length (env : En) : ∀ as, (csA env as).length = as.length
  | [] => rfl
  | .c x :: t => by simp [csA, csA_length env t]
  | .slot i _ :: t => by simp [csA, csA_length env t]
theorem putA_length (env : En) : ∀ as cs, (putA env as cs).length = env.length
  | [], cs => by cases cs <;> rfl
  | .c x :: t, [] => rfl
  | .slot i _ :: t, [] => rfl
  | .c x :: t, c :: cs => putA_length env t cs
  | .slot i _ :: t, c :: cs => by simp [putA, putA_length env t cs]
theorem slotsA_mem : ∀ {as : List Ar} {j i : Nat} {v : V}, as[j]? = some (.slot i v) → i ∈ slotsA as
  | [], j, i, v, h => by simp at h
  | .c x :: t, 0, i, v, h => by simp at h
  | .c x :: t, j + 1, i, v, h => slotsA_mem (as := t) (j := j) (by simpa using h)
  | .slot i' v' :: t, 0, i, v, h => by simp at h; obtain ⟨rfl, rfl⟩ := h; simp [slotsA]
  | .slot i' v' :: t, j + 1, i, v, h => List.mem_cons_of_mem _ (slotsA_mem (as := t) (j := j) (by simpa using h))
theorem slotsA_inj : ∀ {as : List Ar} {j k i : Nat} {v w : V}, (slotsA as).Nodup → as[j]? = some (.slot i v) → as[k]? = some (.slot i w) → j = k
  | [], j, k, i, v, w, _, h, _ => by simp at h
  | .c x :: t, 0, k, i, v, w, _, h, _ => by simp at h
  | .c x :: t, j + 1, 0, i, v, w, _, _, h => by simp at h
  | .c x :: t, j + 1, k + 1, i, v, w, n, h, h' => congrArg (· + 1) (slotsA_inj (as := t) n (by simpa using h) (by simpa using h'))
  | .slot i' v' :: t, 0, 0, i, v, w, _, _, _ => rfl
  | .slot i' v' :: t, 0, k + 1, i, v, w, n, h, h' => by
    simp at h
    obtain ⟨rfl, rfl⟩ := h
    exact absurd (slotsA_mem (as := t) (j := k) (by simpa using h')) (List.nodup_cons.mp n).1
  | .slot i' v' :: t, j + 1, 0, i, v, w, n, h, h' => by
    simp at h'
    obtain ⟨rfl, rfl⟩ := h'
    exact absurd (slotsA_mem (as := t) (j := j) (by simpa using h)) (List.nodup_cons.mp n).1
  | .slot i' v' :: t, j + 1, k + 1, i, v, w, n, h, h' => congrArg (· + 1) (slotsA_inj (as := t) (List.nodup_cons.mp n).2 (by simpa using h) (by simpa using h'))
theorem putA_hit (env : En) : ∀ {as : List Ar} {cs : List Ct} {j i : Nat} {v : V}, (slotsA as).Nodup → as[j]? = some (.slot i v) → i < env.length → cs.length = as.length → (putA env as cs)[i]? = cs[j]?.map some
  | [], cs, j, i, v, _, h, _, _ => by simp at h
  | _ :: t, [], j, i, v, _, _, _, h => by simp at h
  | .c x :: t, c :: cs, 0, i, v, _, h, _, _ => by simp at h
  | .c x :: t, c :: cs, j + 1, i, v, n, h, hi, hl => putA_hit env (as := t) (cs := cs) n (by simpa using h) hi (by simpa using hl)
  | .slot i' v' :: t, c :: cs, 0, i, v, n, h, hi, hl => by
    simp at h
    obtain ⟨rfl, rfl⟩ := h
    simp [putA, List.getElem?_set, putA_length, hi]
  | .slot i' v' :: t, c :: cs, j + 1, i, v, n, h, hi, hl => by
    have hm : i ∈ slotsA t := slotsA_mem (as := t) (j := j) (by simpa using h)
    have hne : i' ≠ i := fun z => by subst z; exact (List.nodup_cons.mp n).1 hm
    simp only [putA]
    rw [List.getElem?_set_ne hne]
    exact putA_hit env (as := t) (cs := cs) (List.nodup_cons.mp n).2 (by simpa using h) hi (by simpa using hl)
theorem putA_miss (env : En) : ∀ {as : List Ar} {cs : List Ct} {i : Nat}, (∀ (j : Nat) (v : V), as[j]? ≠ some (.slot i v)) → (putA env as cs)[i]? = env[i]?
  | [], cs, i, _ => by cases cs <;> rfl
  | .c x :: t, [], i, _ => rfl
  | .slot _ _ :: t, [], i, _ => rfl
  | .c x :: t, c :: cs, i, h => putA_miss env (as := t) (cs := cs) fun j v z => h (j + 1) v (by simpa using z)
  | .slot i' v' :: t, c :: cs, i, h => by
    have hne : i' ≠ i := fun z => h 0 v' (by simp [z])
    simp only [putA]
    rw [List.getElem?_set_ne hne]
    exact putA_miss env (as := t) (cs := cs) fun j v z => h (j + 1) v (by simpa using z)
theorem HoldA.mono {K : PySem.W.Frag} {F F' : Hp} (e : Same F F') : ∀ {vs : List V} {as : List Ar}, HoldA K F vs as → HoldA K F' vs as
  | _, _, .nil => .nil
  | _, _, .dat h hs => .dat (dp_mono e h) (HoldA.mono e hs)
  | _, _, .pin h hs => .pin (Ps.mono _ e h) (HoldA.mono e hs)
  | _, _, .slot hs => .slot (HoldA.mono e hs)
theorem HoldA.length {K : PySem.W.Frag} {F : Hp} : ∀ {vs : List V} {as : List Ar}, HoldA K F vs as → vs.length = as.length
  | _, _, .nil => rfl
  | _, _, .dat _ hs => by rw [List.length_cons, List.length_cons, hs.length]
  | _, _, .pin _ hs => by rw [List.length_cons, List.length_cons, hs.length]
  | _, _, .slot hs => by rw [List.length_cons, List.length_cons, hs.length]
theorem HoldA.get {K : PySem.W.Frag} {F H : Hp} {env : En} : ∀ {vs : List V} {as : List Ar}, HoldA K F vs as → okA env as → ∀ {j : Nat} {c : Ct}, (csA env as)[j]? = some c →
    ∃ v, vs[j]? = some v ∧ ((as[j]? = some (.c c) ∧ Hold K F H v (fun _ => False) c) ∨ ∃ i R, as[j]? = some (.slot i v) ∧ c = .own v R ∧ env[i]? = some (some (.own v R)))
  | _, _, .nil, _, j, c, h => by simp [csA] at h
  | _, _, .dat (v := v) a b, ok, 0, c, h => by simp [csA] at h; subst h; exact ⟨v, rfl, .inl ⟨rfl, a, fun _ z => z⟩⟩
  | _, _, .dat a b, ok, j + 1, c, h => by
    obtain ⟨v, h1, h2⟩ := HoldA.get (H := H) b ok (j := j) (c := c) (by simpa [csA] using h)
    exact ⟨v, by simpa using h1, by simpa using h2⟩
  | _, _, .pin (v := v) a b, ok, 0, c, h => by simp [csA] at h; subst h; exact ⟨v, rfl, .inl ⟨rfl, a, fun _ z => z⟩⟩
  | _, _, .pin a b, ok, j + 1, c, h => by
    obtain ⟨v, h1, h2⟩ := HoldA.get (H := H) b ok (j := j) (c := c) (by simpa [csA] using h)
    exact ⟨v, by simpa using h1, by simpa using h2⟩
  | _, _, .slot (i := i) (v := v) b, ok, 0, c, h => by
    obtain ⟨⟨R, e⟩, _⟩ := ok
    simp [csA, e] at h
    subst h
    exact ⟨v, rfl, .inr ⟨i, R, rfl, rfl, e⟩⟩
  | _, _, .slot b, ok, j + 1, c, h => by
    obtain ⟨v, h1, h2⟩ := HoldA.get (H := H) b ok.2 (j := j) (c := c) (by simpa [csA] using h)
    exact ⟨v, by simpa using h1, by simpa using h2⟩
theorem HoldA.slotv {K : PySem.W.Frag} {F : Hp} : ∀ {vs : List V} {as : List Ar}, HoldA K F vs as → ∀ {j i : Nat} {v : V}, as[j]? = some (.slot i v) → vs[j]? = some v
  | _, _, .nil, j, i, v, h => by simp at h
  | _, _, .dat a b, 0, i, v, h => by simp at h
  | _, _, .dat a b, j + 1, i, v, h => by simpa using HoldA.slotv b (j := j) (by simpa using h)
  | _, _, .pin a b, 0, i, v, h => by simp at h
  | _, _, .pin a b, j + 1, i, v, h => by simpa using HoldA.slotv b (j := j) (by simpa using h)
  | _, _, .slot b, 0, i, v, h => by simp at h; simp [h.2]
  | _, _, .slot b, j + 1, i, v, h => by simpa using HoldA.slotv b (j := j) (by simpa using h)
theorem okA_get {env : En} : ∀ {as : List Ar}, okA env as → ∀ {j i : Nat} {v : V}, as[j]? = some (.slot i v) → ∃ R, env[i]? = some (some (.own v R))
  | [], _, j, i, v, h => by simp at h
  | .c _ :: t, ok, 0, i, v, h => by simp at h
  | .c _ :: t, ok, j + 1, i, v, h => okA_get (as := t) ok (j := j) (by simpa using h)
  | .slot _ _ :: t, ok, 0, i, v, h => by simp at h; obtain ⟨rfl, rfl⟩ := h; exact ok.1
  | .slot _ _ :: t, ok, j + 1, i, v, h => okA_get (as := t) ok.2 (j := j) (by simpa using h)
def S0A (S : Foot) (as : List Ar) : Foot := fun j a => ∃ i v, as[j]? = some (.slot i v) ∧ S i a
def S2A (S S' : Foot) (as : List Ar) : Foot := fun i a => (∃ j v, as[j]? = some (.slot i v) ∧ S' j a) ∨ ((∀ (j : Nat) (v : V), as[j]? ≠ some (.slot i v)) ∧ S i a)
section
variable {K : PySem.W.Frag} {F H F' H' : Hp} {σ : St} {S S' : Foot} {env : En} {vs : List V} {as : List Ar} {cs' : List Ct} {Sv : Addr → Prop}
theorem sitA (s : Sit K F H σ S env) (h : HoldA K F vs as) (ok : okA env as) (nd : (slotsA as).Nodup) : Sit K F H (vs.map some) (S0A S as) ((csA env as).map some) := by
  refine ⟨s.sub, fun j c e => ?_, fun j k a ⟨i, v, h1, h2⟩ ⟨i', v', h3, h4⟩ => ?_, by simp [h.length, csA_length], fun j hj a ⟨i, v, h1, h2⟩ => ?_⟩
  · rw [List.getElem?_map] at e
    cases e0 : (csA env as)[j]? with
    | none => rw [e0] at e; cases e
    | some c0 =>
      rw [e0] at e
      have ec : c0 = c := Option.some.inj (Option.some.inj e)
      subst ec
      obtain ⟨v, h1, h2⟩ := h.get (H := H) ok e0
      refine ⟨v, by rw [List.getElem?_map, h1]; rfl, ?_⟩
      rcases h2 with ⟨h2, h3⟩ | ⟨i, R, h2, h3, h4⟩
      · have : S0A S as j = fun _ => False := funext fun a => propext (Iff.intro (fun z => by obtain ⟨i, v', z, _⟩ := z; rw [h2] at z; cases z) False.elim)
        rw [this]
        exact h3
      · have : S0A S as j = S i := funext fun a => propext (Iff.intro (fun z => by obtain ⟨i', v', z, q⟩ := z; rw [h2] at z; cases z; exact q) fun z => ⟨i, v, h2, z⟩)
        rw [this]
        obtain ⟨v', e1, e2⟩ := s.slot i _ h4
        have : v' = v := e2.1
        subst this
        rw [h3]
        exact e2
  · have := s.dis i i' a h2 h4
    subst this
    exact slotsA_inj nd h1 h3
  · have hl : j < (csA env as).length := by rw [csA_length]; exact (List.getElem?_eq_some_iff.mp h1).1
    exact hj _ (by rw [List.getElem?_map, List.getElem?_eq_getElem hl]; rfl)
theorem sitB (s : Sit K F H σ S env) (h : HoldA K F vs as) (ok : okA env as) (nd : (slotsA as).Nodup) (p : Prog F H (tot (S0A S as)) F' H' (fun a => tot S' a ∨ Sv a)) (s' : Sit K F' H' (vs.map some) S' (cs'.map some)) (dj : ∀ i a, S' i a → ¬ Sv a) :
    Sit K F' H' σ (S2A S S' as) (putA env as cs') ∧ Prog F H (tot S) F' H' (fun a => tot (S2A S S' as) a ∨ Sv a) ∧ (∀ i a, S2A S S' as i a → ¬ Sv a) := by
  have hl : cs'.length = as.length := by have := s'.len; simp at this; rw [← this, h.length]
  have out : ∀ {i a}, S i a → (∀ (j : Nat) (v : V), as[j]? ≠ some (Ar.slot i v)) → ¬ tot (S0A S as) a := fun {i a} z m ⟨j, i', v, h1, h2⟩ => by
    have := s.dis i i' a z h2
    subst this
    exact m j v h1
  have far : ∀ {i a}, S i a → (∀ (j : Nat) (v : V), as[j]? ≠ some (Ar.slot i v)) → ¬ (tot S' a ∨ Sv a) := fun {i a} z m q => by
    rcases p.s a q with y | y
    · exact out z m y
    · obtain ⟨_, o, ho⟩ := s.no z
      rw [ho] at y
      cases y
  refine ⟨⟨s'.sub, fun i c e => ?_, fun i k a h1 h2 => ?_, by rw [putA_length]; exact s.len, fun i hi a z => ?_⟩, ?_, fun i a z q => ?_⟩
  · by_cases hit : ∃ (j : Nat) (v : V), as[j]? = some (Ar.slot i v)
    · obtain ⟨j, v, hj⟩ := hit
      obtain ⟨R, eR⟩ := okA_get ok hj
      rw [putA_hit env nd hj (List.getElem?_eq_some_iff.mp eR).1 hl] at e
      obtain ⟨v1, q1, q2⟩ := s'.slot j c (by rw [List.getElem?_map]; exact e)
      have hv := h.slotv hj
      rw [List.getElem?_map, hv] at q1
      have : v = v1 := Option.some.inj (Option.some.inj q1)
      subst this
      obtain ⟨v2, q3, q4⟩ := s.slot i _ eR
      have : v2 = v := q4.1
      subst this
      have es : S2A S S' as i = S' j := funext fun a => propext ⟨fun z => by
        rcases z with ⟨j', v', z1, z2⟩ | ⟨z1, _⟩
        · have := slotsA_inj nd hj z1
          subst this
          exact z2
        · exact absurd hj (z1 j v2), fun z => .inl ⟨j, v2, hj, z⟩⟩
      rw [es]
      exact ⟨v2, q3, q2⟩
    · have miss : ∀ (j : Nat) (v : V), as[j]? ≠ some (Ar.slot i v) := fun j v z => hit ⟨j, v, z⟩
      rw [putA_miss env miss] at e
      obtain ⟨v, q1, q2⟩ := s.slot i c e
      have es : S2A S S' as i = S i := funext fun a => propext ⟨fun z => by
        rcases z with ⟨j', v', z1, z2⟩ | ⟨_, z⟩
        · exact absurd z1 (miss j' v')
        · exact z, fun z => .inr ⟨miss, z⟩⟩
      rw [es]
      refine ⟨v, q1, q2.keep p.f (fun a z => ?_) fun a z => ?_⟩
      · obtain ⟨_, o, ho⟩ := s.no z
        rw [ho]
        exact p.keep a o ho (out z miss)
      · obtain ⟨nF, o, ho⟩ := s.no z
        cases q : F' a with
        | none => rfl
        | some u =>
          rcases p.new a u q with y | y | y
          · rw [nF] at y; cases y
          · rw [ho] at y; cases y
          · exact absurd y (out z miss)
  · rcases h1 with ⟨j, v, z1, z2⟩ | ⟨z1, z2⟩
    · rcases h2 with ⟨j', v', y1, y2⟩ | ⟨y1, y2⟩
      · have := s'.dis j j' a z2 y2
        subst this
        rw [z1] at y1
        cases y1
        rfl
      · exact absurd (.inl ⟨j, z2⟩) (far y2 y1)
    · rcases h2 with ⟨j', v', y1, y2⟩ | ⟨y1, y2⟩
      · exact absurd (.inl ⟨j', y2⟩) (far z2 z1)
      · exact s.dis i k a z2 y2
  · rcases z with ⟨j, v, z1, z2⟩ | ⟨z1, z2⟩
    · obtain ⟨R, eR⟩ := okA_get ok z1
      have hj : j < cs'.length := by rw [hl]; exact (List.getElem?_eq_some_iff.mp z1).1
      refine hi cs'[j] ?_
      rw [putA_hit env nd z1 (List.getElem?_eq_some_iff.mp eR).1 hl, List.getElem?_eq_getElem hj]
      rfl
    · exact s.emp i (fun c e => hi c (by rw [putA_miss env z1]; exact e)) a z2
  · refine p.weak (fun a ⟨j, i, v, _, z⟩ => ⟨i, z⟩) fun a z => ?_
    rcases z with ⟨i, z⟩ | z
    · rcases z with ⟨j, v, z1, z2⟩ | ⟨z1, z2⟩
      · exact .inl (.inl ⟨j, z2⟩)
      · exact .inr ⟨i, z2⟩
    · exact .inl (.inr z)
  · rcases z with ⟨j, v, z1, z2⟩ | ⟨z1, z2⟩
    · exact dj j a z2 q
    · exact far z2 z1 (.inr q)
end
/-- arguments from left to right, with effects -/
def EA (X : Cx) (W : WX) (es : List Expr) (Q : List Ar → En → Prop) (RX : Xc → En → Prop) (env : En) : Prop := ∀ (F H : Hp) (σ : St) (S : Foot), Sit X.K F H σ S env → ∀ QV : List V → Hp → Prop,
  (∀ vs F' H' S' as env', Prog F H (tot S) F' H' (tot S') → Sit X.K F' H' σ S' env' → HoldA X.K F' vs as → Q as env' → QV vs H') →
  (∀ cls od F' H' S' x env', Prog F H (tot S) F' H' (tot S') → Sit X.K F' H' σ S' env' → XHold X.K F' H' (tot S') cls od x → RX x env' → W cls od σ H') → wA X es σ H QV
section
variable {X : Cx} {W : WX} {env : En} {c : Ct} {d d1 d2 : PyData} {e a b : Expr} {es : List Expr} {pos p apos : Pos} {x : Str} {k : Nat} {spec : Spec} {Q : Ct → En → Prop} {RX : Xc → En → Prop} {QA : List Ar → En → Prop}
theorem ea_nil (q : QA [] env) : EA X W [] QA RX env := fun F H σ S s QV k _ => ⟨_, pa_nil, k [] F H S [] env Prog.refl s .nil q⟩
theorem ea_val (h : EC X W e (fun c env1 => ∃ d, c = .dat d ∧ EA X W es (fun as env2 => QA (.c (.dat d) :: as) env2) RX env1) RX env) (hs : starEach (e :: es) X.env = (false, eval e X.env) :: starEach es X.env := by rfl) : EA X W (e :: es) QA RX env := fun F H σ S s QV k kx =>
  ⟨_, pa_cons pwE pwA hs, h F H σ S s _ (fun v F1 H1 S1 Sv c env1 p1 s1 hv dj ⟨d, ec, q⟩ => by
    subst ec
    have p1' : Prog F H (tot S) F1 H1 (tot S1) := p1.weak (fun _ z => z) fun a z => .inl (.inl z)
    exact q F1 H1 σ S1 s1 _ (fun vs F2 H2 S2 as env2 p2 s2 hA q2 => k _ F2 H2 S2 _ env2 (p1'.trans p2) s2 (.dat (dp_mono p2.f hv.1) hA) q2) fun cls od F' H' S' x env' p s' xh r => kx cls od F' H' S' x env' (p1'.trans p) s' xh r) kx⟩
theorem ea_dat (h : VC X e env (.dat d)) (hr : EA X W es (fun as env2 => QA (.c (.dat d) :: as) env2) RX env) (hs : starEach (e :: es) X.env = (false, eval e X.env) :: starEach es X.env := by rfl) : EA X W (e :: es) QA RX env := ea_val (EC.pure h ⟨d, rfl, hr⟩) hs
theorem ea_pin {P : Ps} (h : VC X e env (.pin P)) (hr : EA X W es (fun as env2 => QA (.c (.pin P) :: as) env2) RX env) (hs : starEach (e :: es) X.env = (false, eval e X.env) :: starEach es X.env := by rfl) : EA X W (e :: es) QA RX env := fun F H σ S s QV k kx =>
  ⟨_, pa_cons pwE pwA hs, h F H σ S s _ fun v F1 H1 Sv g1 hv _ =>
    hr F1 H1 σ S (s.grow g1) _ (fun vs F2 H2 S2 as env2 p2 s2 hA q2 => k _ F2 H2 S2 _ env2 (g1.prog.trans p2) s2 (.pin (P.mono p2.f hv.1) hA) q2) fun cls od F' H' S' x env' p s' xh r => kx cls od F' H' S' x env' (g1.prog.trans p) s' xh r⟩
theorem ea_own (i : Nat) {v : V} {R : Rs} (hr : EA X W es (fun as env2 => QA (.slot i v :: as) env2) RX env) (h : env[i]? = some (some (.own v R)) := by rfl) {x : Str} (hN : X.N[i]? = some x := by rfl)
    (hv : Vis X.env.scope x := by first | exact Or.inl rfl | exact Or.inr (Or.inl rfl) | exact Or.inr (Or.inr rfl)) (hd : (x == ("__debug__" : Str)) = false := by decide) (hcd : (x == ("__classdict__" : Str)) = false := by decide)
    (hs : starEach (.Name x p :: es) X.env = (false, eval (.Name x p) X.env) :: starEach es X.env := by rfl) : EA X W (.Name x p :: es) QA RX env := fun F H σ S s QV k kx => by
  obtain ⟨v', e1, h1⟩ := s.slot i _ h
  have : v' = v := h1.1
  subst this
  exact ⟨_, pa_cons (pe_var hN hv hd hcd) pwA hs, v', e1, hr F H σ S s _ (fun vs F2 H2 S2 as env2 p2 s2 hA q2 => k _ F2 H2 S2 _ env2 p2 s2 (.slot hA) q2) kx⟩
/-- f(..) with effects -/
theorem ec_call (hF : Fn X.prog X.w X.K X.mg X.base x k spec) (hr : Room k X.A) (tk : Takes X W) (ha : EA X W (e :: es) (fun as env' => okA env' as ∧ (slotsA as).Nodup ∧ spec (csA env' as) (fun c cs' => Q c (putA env' as cs')) (fun y cs' => RX y (putA env' as cs'))) RX env)
    (hg : Gl X x := by rfl) (hdb : (x == ("__debug__" : Str)) = false := by decide)
    (he : starEach (e :: es) X.env = (false, eval e X.env) :: starEach es X.env := by rfl) (hpl : (backTo pos (starEach es X.env)).any (·.1) = false := by rfl) : EC X W (.Call (.Name x p) (e :: es) [] pos) Q RX env := fun F H σ S s QV kq kx => by
  obtain ⟨f, fd, ps, ok, hm, hk, hb⟩ := hF.ex
  refine ⟨_, pe_callS (E := WE W) ok hr hg hm hk hb (fun σ => passAt tk σ) pwA hdb he hpl, ha F H σ S s _ (fun vs F1 H1 S1 as env1 p1 s1 hA ⟨oA, nd, sp⟩ => ?_) kx⟩
  refine ⟨F1, S0A S1 as, csA env1 as, _, _, sitA s1 hA oA nd, sp, fun v F' H' S' Sv c cs' pr s' hv dj q => ?_, fun cls od F' H' S' y cs' pr s' xh q => ?_⟩
  · obtain ⟨s2, p2, d2⟩ := sitB s1 hA oA nd pr s' dj
    exact kq v F' H' _ Sv c _ (p1.trans p2) s2 hv d2 q
  · obtain ⟨s2, p2, d2⟩ := sitB (Sv := fun _ => False) s1 hA oA nd (pr.weak (fun _ z => z) fun a z => .inl (z.elim id False.elim)) s' (fun _ _ _ z => z)
    exact kx cls od F' H' _ y _ ((p1.trans p2).weak (fun _ z => z) fun a z => .inl (.inl z)) s2 xh q
/-- all of them data -/
theorem ec_tup {x1} (h : EA X W es (fun as env' => ∃ ds, as = ds.map (fun d => .c (.dat d)) ∧ ds.length ≤ 1000 ∧ Q (.dat (.tuple ds)) env') RX env) : EC X W (.Tuple es x1 pos) Q RX env := fun F H σ S s QV kq kx => by
  have key : ∀ {F : Hp} {ds : List PyData} {vs : List V}, HoldA X.K F vs (ds.map fun d => .c (.dat d)) → DpAll X.K F vs ds := by
    intro F ds
    induction ds with
    | nil => intro vs h; cases h; exact .nil
    | cons d ds ih => intro vs h; cases h with | dat h1 h2 => exact .cons h1 (ih h2)
  refine ⟨_, pe_tup pwA, h F H σ S s _ (fun vs F1 H1 S1 as env1 p1 s1 hA ⟨ds, ea, hl, q⟩ => ?_) kx⟩
  subst ea
  have hd := key hA
  have ln := dps_length hd
  refine ⟨by rw [ln]; exact Nat.le_of_lt (small1000 hl), fun pp hp => ?_⟩
  have g2 := Grow.laid (o := .tup vs) s1.sub hp
  exact kq (.ref pp) _ _ S1 (fun _ => False) (.dat (.tuple ds)) env1 ((p1.trans g2.prog).weak (fun _ z => z) fun a z => .inl (z.elim id False.elim)) (s1.grow g2) ⟨.tup (SqT.of upd_same) (dps_mono g2.f hd), fun _ z => z⟩ (fun _ _ _ z => z) q
/-- a op b, both with effects -/
theorem ec_two {r : R2} {t : TE} (ht : ∀ {σ H} {QV : VK}, wE X a σ H (fun x H1 => wE X b σ H1 fun y H2 => r x y H2 QV) → wE X e σ H QV)
    (h : EC X W a (fun c1 env1 => ∃ d1, c1 = .dat d1 ∧ EC X W b (fun c2 env2 => ∃ d2 d, c2 = .dat d2 ∧ OpD X.K r d1 d2 d ∧ Q (.dat d) env2) RX env1) RX env) : EC X W e Q RX env := fun F H σ S s QV kq kx =>
  ht (h F H σ S s _ (fun v1 F1 H1 S1 Sv1 c1 env1 p1 s1 hv1 dj1 ⟨d1, e1, q1⟩ => by
    subst e1
    have p1' : Prog F H (tot S) F1 H1 (tot S1) := p1.weak (fun _ z => z) fun a z => .inl (.inl z)
    exact q1 F1 H1 σ S1 s1 _ (fun v2 F2 H2 S2 Sv2 c2 env2 p2 s2 hv2 dj2 ⟨d2, d, e2, od, q⟩ => by
      subst e2
      have p2' : Prog F1 H1 (tot S1) F2 H2 (tot S2) := p2.weak (fun _ z => z) fun a z => .inl (.inl z)
      refine od F2 H2 v1 v2 s2.sub (dp_mono p2.f hv1.1) hv2.1 QV fun v F' H' g hv => ?_
      exact kq v F' H' S2 (fun _ => False) (.dat d) env2 (((p1'.trans p2').trans g.prog).weak (fun _ z => z) fun a z => .inl (z.elim id False.elim)) (s2.grow g) ⟨hv, fun _ z => z⟩ (fun _ _ _ z => z) q)
      fun cls od F' H' S' x env' p s' xh r => kx cls od F' H' S' x env' (p1'.trans p) s' xh r) kx)
theorem ec_op {op : Operator} {r : R2} (ho : OpR X (binaryOp op) r) (h : EC X W a (fun c1 env1 => ∃ d1, c1 = .dat d1 ∧ EC X W b (fun c2 env2 => ∃ d2 d, c2 = .dat d2 ∧ OpD X.K r d1 d2 d ∧ Q (.dat d) env2) RX env1) RX env) : EC X W (.BinOp a op b pos) Q RX env :=
  ec_two (t := wE X (.BinOp a op b pos)) (fun z => ⟨_, pe_op ho pwE pwE, z⟩) h
theorem ec_cmp {op : CmpOp} {r : R2} (ho : OpR X (compareOp op) r) (h : EC X W a (fun c1 env1 => ∃ d1, c1 = .dat d1 ∧ EC X W b (fun c2 env2 => ∃ d2 d, c2 = .dat d2 ∧ OpD X.K r d1 d2 d ∧ Q (.dat d) env2) RX env1) RX env) (hm : behindInMarks op b = false := by first | exact nomark _ | rfl) : EC X W (.Compare a [op] [b] pos) Q RX env :=
  ec_two (t := wE X (.Compare a [op] [b] pos)) (fun z => ⟨_, pe_cmpR ho pwE pwE hm, z⟩) h
/-- a test's value is told -/
theorem tec_val {QB : Bool → En → Prop} (h : EC X W e (fun c env' => ∃ b', c = .dat (.bool b') ∧ QB b' env') RX env) (he : ∀ whole, isTrue e X.env whole = (do let v ← whole; standAt e.pos; holding [v] (truthy v)) := by intro _; rfl) : TEC X W e QB RX env := fun F H σ S s QV kq kx =>
  ⟨_, pt_val pwE he, h F H σ S s _ (fun v F1 H1 S1 Sv c env1 p1 s1 hv dj ⟨b', ec, q⟩ => by
    subst ec
    have e1 := hv.1
    cases e1
    exact ⟨b', rfl, kq b' F1 H1 S1 env1 (p1.weak (fun _ z => z) fun a z => .inl (.inl z)) s1 q⟩) kx⟩
theorem tec_cmp {op : CmpOp} {r : R2} {QB : Bool → En → Prop} (ho : OpR X (compareOp op) r) (h : EC X W a (fun c1 env1 => ∃ d1, c1 = .dat d1 ∧ EC X W b (fun c2 env2 => ∃ d2 b', c2 = .dat d2 ∧ OpD X.K r d1 d2 (.bool b') ∧ QB b' env2) RX env1) RX env) (hm : behindInMarks op b = false := by first | exact nomark _ | rfl) : TEC X W (.Compare a [op] [b] pos) QB RX env := fun F H σ S s QV kq kx =>
  ⟨_, pt_cmpR ho pwE pwE hm, h F H σ S s _ (fun v1 F1 H1 S1 Sv1 c1 env1 p1 s1 hv1 dj1 ⟨d1, e1, q1⟩ => by
    subst e1
    have p1' : Prog F H (tot S) F1 H1 (tot S1) := p1.weak (fun _ z => z) fun a z => .inl (.inl z)
    exact q1 F1 H1 σ S1 s1 _ (fun v2 F2 H2 S2 Sv2 c2 env2 p2 s2 hv2 dj2 ⟨d2, b', e2, od, q⟩ => by
      subst e2
      have p2' : Prog F1 H1 (tot S1) F2 H2 (tot S2) := p2.weak (fun _ z => z) fun a z => .inl (.inl z)
      refine od F2 H2 v1 v2 s2.sub (dp_mono p2.f hv1.1) hv2.1 _ fun v F' H' g hv => ?_
      cases hv
      exact ⟨b', rfl, kq b' F' H' S2 env2 ((p1'.trans p2').trans g.prog) (s2.grow g) q⟩)
      fun cls od F' H' S' x env' p s' xh r => kx cls od F' H' S' x env' (p1'.trans p) s' xh r) kx⟩
/-- xs[i], i with effects -/
theorem ec_ixL {ds : List PyData} (ha : VC X a env (.dat (.list ds))) (h : EC X W b (fun c2 env2 => ∃ (i : Int) (d : PyData), c2 = .dat (.int i) ∧ atI ds i = some d ∧ Q (.dat d) env2) RX env) (hs : PlainIx b := by exact fun _ _ => rfl) : EC X W (.Subscript a b pos) Q RX env :=
  ec_two (a := a) (b := b) (t := wE X (.Subscript a b pos)) (fun z => ⟨_, pe_ix ix_list pwE pwE hs, z⟩) (EC.pure ha ⟨_, rfl, fun F H σ S s QV kq kx => h F H σ S s QV (fun v F' H' S' Sv c env' p s' hv dj ⟨i, d, ec, hd, q⟩ => kq v F' H' S' Sv c env' p s' hv dj ⟨_, d, ec, od_ixL hd, q⟩) kx⟩)
theorem ec_ixT {ds : List PyData} (ha : VC X a env (.dat (.tuple ds))) (h : EC X W b (fun c2 env2 => ∃ (i : Int) (d : PyData), c2 = .dat (.int i) ∧ atI ds i = some d ∧ Q (.dat d) env2) RX env) (hs : PlainIx b := by exact fun _ _ => rfl) : EC X W (.Subscript a b pos) Q RX env :=
  ec_two (a := a) (b := b) (t := wE X (.Subscript a b pos)) (fun z => ⟨_, pe_ix ix_tup pwE pwE hs, z⟩) (EC.pure ha ⟨_, rfl, fun F H σ S s QV kq kx => h F H σ S s QV (fun v F' H' S' Sv c env' p s' hv dj ⟨i, d, ec, hd, q⟩ => kq v F' H' S' Sv c env' p s' hv dj ⟨_, d, ec, od_ixT hd, q⟩) kx⟩)
theorem ec_if {t : Expr} (h : TEC X W t (fun b' env' => if b' = true then EC X W a Q RX env' else EC X W b Q RX env') RX env) : EC X W (.IfExp t a b pos) Q RX env := fun F H σ S s QV kq kx =>
  ⟨_, pe_ifExp pwT pwE pwE, h F H σ S s _ (fun b' F1 H1 S1 env1 p1 s1 q => by
    cases b' with
    | true => exact q F1 H1 σ S1 s1 QV (fun v F' H' S' Sv c env' p s' hv dj q => kq v F' H' S' Sv c env' (p1.trans p) s' hv dj q) fun cls od F' H' S' x env' p s' xh r => kx cls od F' H' S' x env' (p1.trans p) s' xh r
    | false => exact q F1 H1 σ S1 s1 QV (fun v F' H' S' Sv c env' p s' hv dj q => kq v F' H' S' Sv c env' (p1.trans p) s' hv dj q) fun cls od F' H' S' x env' p s' xh r => kx cls od F' H' S' x env' (p1.trans p) s' xh r) kx⟩
/-- a and b as a test, with effects -/
def WEC (X : Cx) (W : WX) (e : Expr) (Q : Bool → En → Prop) (RX : Xc → En → Prop) (env : En) : Prop := ∀ (F H : Hp) (σ : St) (S : Foot), Sit X.K F H σ S env → ∀ QV : Bool → Hp → Prop,
  (∀ b F' H' S' env', Prog F H (tot S) F' H' (tot S') → Sit X.K F' H' σ S' env' → Q b env' → QV b H') →
  (∀ cls od F' H' S' x env', Prog F H (tot S) F' H' (tot S') → Sit X.K F' H' σ S' env' → XHold X.K F' H' (tot S') cls od x → RX x env' → W cls od σ H') → wW X e σ H QV
theorem WEC.tc {Q : Bool → En → Prop} (h : WEC X W e Q RX env) : TEC X W e Q RX env := fun F H σ S s QV k kx => by
  obtain ⟨t, ht, q⟩ := h F H σ S s QV k kx
  exact ⟨t, ht.pt, q⟩
theorem wec_and {Q : Bool → En → Prop} (h : TEC X W a (fun b1 env1 => if b1 = true then WEC X W (.BoolOp .And (b :: es) pos) Q RX env1 else Q false env1) RX env) : WEC X W (.BoolOp .And (a :: b :: es) pos) Q RX env := fun F H σ S s QV k kx =>
  ⟨_, pw_and pwT pwW, h F H σ S s _ (fun b1 F1 H1 S1 env1 p1 s1 q => by
    cases b1 with
    | true => exact q F1 H1 σ S1 s1 QV (fun b' F' H' S' env' p' s' q => k b' F' H' S' env' (p1.trans p') s' q) fun cls od F' H' S' x env' p s' xh r => kx cls od F' H' S' x env' (p1.trans p) s' xh r
    | false => exact k false F1 H1 S1 env1 p1 s1 q) kx⟩
theorem wec_and1 {Q : Bool → En → Prop} (h : TEC X W a Q RX env) : WEC X W (.BoolOp .And [a] pos) Q RX env := fun F H σ S s QV k kx => ⟨_, pw_and1 pwT, h F H σ S s _ k kx⟩
end
end G

set_option maxRecDepth 100000
set_option maxHeartbeats 4000000
/-! more with effects; isinstance -/
namespace G
open PySem PySem.Spec PyProof.Rows L2
def EI (X : Cx) (W : WX) (tg iter : Expr) (Q : List PyData → En → Prop) (RX : Xc → En → Prop) (env : En) : Prop := ∀ (F H : Hp) (σ : St) (S : Foot), Sit X.K F H σ S env → ∀ R : It → Hp → Prop,
  (∀ J F' H' S' items env', Prog F H (tot S) F' H' (tot S') → Sit X.K F' H' σ S' env' → Yields X.K J F' items → Q items env' → R J H') →
  (∀ cls od F' H' S' x env', Prog F H (tot S) F' H' (tot S') → Sit X.K F' H' σ S' env' → XHold X.K F' H' (tot S') cls od x → RX x env' → W cls od σ H') → wI X tg iter σ H R
section
variable {X : Cx} {W : WX} {env : En} {D : DE} {c : Ct} {d d1 d2 : PyData} {e a b tg iter : Expr} {es : List Expr} {body : List Stmt} {pos p apos : Pos} {x : Str} {k : Nat} {Q : Ct → En → Prop} {RX : Xc → En → Prop} {QI : List PyData → En → Prop}
theorem EI.pure {items : List PyData} (h : VI X tg iter env items) (q : QI items env) : EI X W tg iter QI RX env := fun F H σ S s R k _ =>
  h F H σ S s R fun J F' H' g y => k J F' H' S items env g.prog (s.grow g) y q
theorem ei_range1 (hm : X.mg "range" = none) (h : EC X W e (fun c env1 => ∃ n : Nat, c = .dat (.int (n : Int)) ∧ n ≤ 1000000000000 ∧ QI ((List.range n).map fun (i : Nat) => .int (i : Int)) env1) RX env) (hg : Gl X "range" := by rfl) (hs : starEach [e] X.env = [(false, eval e X.env)] := by rfl) :
    EI X W tg (.Call (.Name "range" p) [e] [] pos) QI RX env := fun F H σ S s R k kx =>
  ⟨_, pi_range1 hg hm (pa_cons pwE pa_nil hs) hs, h F H σ S s _ (fun v F1 H1 S1 Sv c env1 p1 s1 hv dj ⟨n, ec, hn, q⟩ => by
    subst ec
    have e1 := hv.1
    cases e1
    refine ⟨(n : Int), rfl, by omega, by omega, k _ F1 H1 S1 _ env1 (p1.weak (fun _ z => z) fun a z => .inl (.inl z)) s1 ?_ q⟩
    have y : Yields X.K (Itr 0 n) F1 ((List.range n).map fun (i : Nat) => .int ((0 : Int) + (i : Int))) := yields_range
    simpa using y) kx⟩
/-- over what an expression with effects gives -/
theorem ws_forE (hp : PassesOwn (model X.prog X.w) X.A X.env X.xe) (hc : X.calm = true) (hi : EI X W tg iter (fun items env0 => ∃ P : Nat → En → Prop, P 0 env0 ∧
      (∀ i d, items[i]? = some d → ∀ env1, P i env1 → ∃ js env2, GC X tg d env1 js env2 ∧ WB X W body { D with nx := P (i + 1), ct := P (i + 1), bk := D.nx } env2) ∧ ∀ env1, P items.length env1 → D.nx env1) D.ex env)
    (hf : ∀ x, foldedSetIterable iter X.env x = pure x := by intro _; rfl) : WS X W (.For tg iter body [] pos) D env := fun F H σ S s E m =>
  ⟨_, ps_for hp hc (⟨fun pins s σ H R I ⟨t, h, q⟩ => h.run pins s σ H R I q⟩ : PI X tg iter (wI X tg iter)) pwG pwB hf, hi F H σ S s _ (fun J F1 H1 S1 items env0 p1 s1 y ⟨P, h0, hs, hd⟩ => by
    let Pv : Nat → St → Hp → Prop := fun i σ' H' => ∃ F' S' env', Prog F1 H1 (tot S1) F' H' (tot S') ∧ Sit X.K F' H' σ' S' env' ∧ P i env'
    refine ⟨fun i n σ' H' => n = items.length - i ∧ i ≤ items.length ∧ Pv i σ' H', ⟨items.length, rfl, Nat.zero_le _, F1, S1, env0, Prog.refl, s1, h0⟩, ?_⟩
    rintro i n σ' H' ⟨rfl, hi', F', S', env', p', s', q'⟩
    by_cases hlt : i < items.length
    · refine .inr ⟨y.go i F' H' hlt p'.f s'.sub, Pv (i + 1), fun σ2 H2 z => ⟨items.length - (i + 1), by omega, rfl, hlt, z⟩, fun x H2 hy => ?_⟩
      obtain ⟨d, F2, hd', g2, hx⟩ := y.yld i F' H' x H2 hlt p'.f s'.sub hy
      obtain ⟨js, env2, hg, hb⟩ := hs i d hd' env' q'
      refine hg F2 H2 σ' S' x (s'.grow g2) hx _ fun σ3 S3 s3 t3 o3 => ?_
      have p3 : Prog F1 H1 (tot S1) F2 H2 (tot S3) := (p'.trans g2.prog).trans ((s'.grow g2).sub_tot t3)
      have m3 := m.from (p1.trans p3)
      exact hb F2 H2 σ3 S3 s3 _ ⟨fun F4 H4 σ4 S4 env4 p4 s4 q4 => ⟨F4, S4, env4, p3.trans p4, s4, q4⟩, m3.rt, m3.nx, fun F4 H4 σ4 S4 env4 p4 s4 q4 => ⟨F4, S4, env4, p3.trans p4, s4, q4⟩, m3.ex⟩
    · have e : i = items.length := by omega
      subst e
      exact .inl ⟨y.stop F' H' p'.f s'.sub, m.nx F' H' σ' S' env' (p1.trans p') s' (hd env' q')⟩) fun cls od F' H' S' x env' p s' xh r => m.ex cls od F' H' σ S' x env' p s' xh r⟩
/-- xs[j] = e, both with effects -/
theorem ws_setIxE (i : Nat) {v : V} {ix val : Expr} {p1 p2 pos : Pos} (hval : EC X W val (fun c env1 => ∃ d, c = .dat d ∧ EC X W ix (fun c2 env2 => ∃ (j : Nat) (ds' : List PyData), c2 = .dat (.int (j : Int)) ∧ env2[i]? = some (some (.own v (olst X.K ds'))) ∧ j < ds'.length ∧ D.nx (env2.set i (some (.own v (olst X.K (ds'.set j d)))))) D.ex env1 ∧ ∃ R, env1[i]? = some (some (.own v R))) D.ex env) {x : Str} (hN : X.N[i]? = some x := by rfl)
    (hv : Vis X.env.scope x := by first | exact Or.inl rfl | exact Or.inr (Or.inl rfl) | exact Or.inr (Or.inr rfl)) (hd : (x == ("__debug__" : Str)) = false := by decide) (hcd : (x == ("__classdict__" : Str)) = false := by decide)
    (hps : ∀ tv ti, PE X val tv → PE X ix ti → PS X (.Assign [.Subscript (.Name x p1) ix p2] val pos) (tAsg tv (gSub (tVar i) ti rSetL)) := by exact fun _ _ h1 h2 => ps_asg h1 (pg_sub (pv _) h2 set_list)) :
    WS X W (.Assign [.Subscript (.Name x p1) ix p2] val pos) D env := fun F H σ S s E m => by
  refine ⟨_, hps _ _ pwE pwE, hval F H σ S s _ (fun w F1 H1 S1 Sv c env' p s1 hw dj ⟨d, ec, hix, R, h⟩ => ?_) fun cls od F' H' S' x env' p s' xh q => m.ex cls od F' H' σ S' x env' p s' xh q⟩
  subst ec
  have pw : Prog F H (tot S) F1 H1 (tot S1) := p.weak (fun _ z => z) fun a z => .inl (.inl z)
  obtain ⟨v', e1, ev, _⟩ := s1.slot i _ h
  have ev : v' = v := ev
  subst ev
  refine ⟨v', e1, hix F1 H1 σ S1 s1 _ (fun u F2 H2 S2 Sv2 c2 env2 p2 s2 hu dj2 ⟨j, ds', ec2, h2, hj, k⟩ => ?_) fun cls od F' H' S' x env' p' s' xh q => m.ex cls od F' H' σ S' x env' (pw.trans p') s' xh q⟩
  subst ec2
  have q1 := hu.1
  cases q1
  obtain ⟨v'', e1', ev', ⟨a, xs, ea, h3, h4, h5⟩, hn⟩ := s2.slot i _ h2
  have ev' : v'' = v' := ev'
  subst ev'
  subst ea
  have ln := dps_length h4
  refine ⟨a, xs, (j : Int), j, rfl, rfl, h3, ?_, ?_⟩
  · unfold ixN
    rw [if_pos (by omega), if_pos (by omega)]
    simp
  · obtain ⟨s3, p3⟩ := s2.change (xs := xs) (zs := xs.set j w) h2 (dps_set (dp_mono p2.f hw.1) j h4)
    exact m.nx F2 _ σ S2 _ ((pw.trans (p2.weak (fun _ z => z) fun a z => .inl (.inl z))).trans p3) s3 k
/-! ### comprehensions with effects -/
variable {elt : Expr} {scope : Scope} {own : List (Str × Nat)} {α : Type}
theorem Sit.unwipe {K : PySem.W.Frag} {F H : Hp} {σ : St} {S : Foot} {ws : List Nat} (s : Sit K F H (L2.wipe σ ws) S env) (h : ∀ i ∈ ws, ∀ c, env[i]? ≠ some (some c)) : Sit K F H σ S env :=
  ⟨s.sub, fun i c e => by
    obtain ⟨v, e1, h1⟩ := s.slot i c e
    rw [wipe_get, if_neg (fun z => h i z c e)] at e1
    exact ⟨v, e1, h1⟩, s.dis, by rw [← s.len, L2.wipe_length], s.emp⟩
theorem wipE_get (j : Nat) : ∀ (env : En) (ws : List Nat) (c : Ct), (wipE env ws)[j]? = some (some c) → j ∉ ws
  | env, [], c, _ => by simp
  | env, w :: ws, c, h => by
    intro z
    rw [wipE] at h
    by_cases e : w = j
    · subst e
      rw [List.getElem?_set] at h
      simp at h
    · rw [List.getElem?_set_ne e] at h
      exact wipE_get j env ws c h ((List.mem_cons.mp z).resolve_left (fun q => e q.symm))
/-- [elt for tg in iter], elt with effects -/
theorem ec_lc (xs : List α) (f : α → PyData) (js : List Nat) (P : Nat → List PyData → En → Prop) (hN : X.N.Nodup) (hi : VI X tg iter env (xs.map f)) (h0 : P 0 [] (wipE env (own.map (·.2))))
    (hs : ∀ i x, xs[i]? = some x → ∀ ds env1, ds.length = i → P i ds env1 → Blk X scope fun X' => ∃ bnd, GC X' tg (f x) env1 js bnd ∧ Blk X scope fun X' => EC X' (fun _ _ _ _ => False) elt (fun c env2 => ∃ d, c = .dat d ∧ P (i + 1) (ds ++ [d]) (wipE env2 (own.map (·.2)))) (fun _ _ => False) bnd)
    (hq : ∀ v ds env1, ds.length = xs.length → P xs.length ds env1 → (∀ i ∈ own.map (·.2), ∀ c, env1[i]? ≠ some (some c)) ∧ Q (.own v (olst X.K ds)) env1) (hz : xs.length < 16777216)
    (ok : BlkOk X.N X.env.scope scope own := by exact blkOk_by (by rfl)) (hj : ∀ j ∈ js, j ∈ own.map (·.2) := by decide) (hc : X.calm = true := by rfl)
    (hf : ∀ x, foldedSetIterable iter X.env x = pure x := by intro _; rfl) : EC X W (.ListComp elt [⟨tg, iter, [], 0⟩] scope pos) Q RX env := fun F H σ S s QV kq kx => by
  refine ⟨_, pe_lc (own := own) (tt := tYes) hc hN (⟨fun pins s σ H R I ⟨t, h, q⟩ => h.run pins s σ H R I q⟩ : PI X tg iter (wI X tg iter)) ok pbG (fun _ _ _ _ _ => pts_nil) pbE hf, ?_⟩
  refine hi F H σ S s _ fun J F1 H1 g1 y D hD => ?_
  have s1 := s.grow g1
  obtain ⟨Sw, sw, tw⟩ := s1.wipe (own.map (·.2))
  have hl : (xs.map f).length = xs.length := List.length_map ..
  let Pv : Nat → Hp → Prop := fun i H' => ∃ F' S' env' acc ds, H' D = some (.lst acc) ∧ DpAll X.K F' acc ds ∧ ds.length = i ∧ F' D = none ∧ (¬ tot S' D) ∧ Prog F1 H1 (tot S) F' H' (tot S') ∧ Sit X.K F' H' (L2.wipe σ (own.map (·.2))) S' env' ∧ P i ds env'
  have nSw : ¬ tot Sw D := fun ⟨i, z⟩ => by obtain ⟨_, o, ho⟩ := sw.no z; rw [hD] at ho; cases ho
  have gD : Grow F1 H1 F1 (upd H1 D (.lst [])) := Grow.made sw.sub hD
  have hP0 : Pv 0 (upd H1 D (.lst [])) := ⟨F1, Sw, _, [], [], upd_same, .nil, rfl, sw.sub.free hD, nSw, gD.prog.trans ((s1.grow gD).sub_tot tw), sw.grow gD, h0⟩
  refine ⟨fun i m H' => m = xs.length - i ∧ i ≤ xs.length ∧ Pv i H', ⟨xs.length, rfl, Nat.zero_le _, hP0⟩, ?_⟩
  rintro i m H' ⟨rfl, hi', F', S', env', acc, ds, hacc, hds, hdl, nF, nS, p', s', q'⟩
  by_cases hlt : i < xs.length
  · refine .inr ⟨y.go i F' H' (by omega) p'.f s'.sub, Pv (i + 1), fun H'' p' => ⟨xs.length - (i + 1), by omega, rfl, hlt, p'⟩, fun x H'' hy => ?_⟩
    obtain ⟨d, F2, hd, g3, hx⟩ := y.yld i F' H' x H'' (by omega) p'.f s'.sub hy
    have hxi : xs[i]? = some xs[i] := List.getElem?_eq_getElem hlt
    have hd' : d = f xs[i] := by
      rw [List.getElem?_map, hxi] at hd
      exact (Option.some.inj hd).symm
    subst hd'
    have s2 := s'.grow g3
    intro sS sH sC scl sfp
    obtain ⟨bnd, hgc, hel⟩ := hs i _ hxi ds env' hdl q' sS sH sC scl sfp
    refine hgc F2 H'' _ S' x s2 hx _ fun σ2 S2 s3 t2 o2 => ⟨wipe_of o2 hj, ?_⟩
    simp only [tYes, if_true]
    intro sS sH sC scl sfp
    have hD2 : H'' D = some (.lst acc) := g3.h _ _ hacc
    have nS2 : ¬ tot S2 D := fun z => nS (t2 D z)
    have nF2 : F2 D = none := by
      cases q : F2 D with
      | none => rfl
      | some o =>
        rcases g3.new D o q with z | z
        · rw [nF] at z; cases z
        · rw [hacc] at z; cases z
    refine hel sS sH sC scl sfp F2 H'' σ2 S2 s3 _ (fun v F4 H4 S4 Sv c env4 p4 s4 hv dj ⟨d, ec, q4⟩ => ?_) fun cls od F' H' S' x env' p s' xh r => r.elim
    subst ec
    have p4' : Prog F2 H'' (tot S2) F4 H4 (tot S4) := p4.weak (fun _ z => z) fun a z => .inl (.inl z)
    have hD4 : H4 D = some (.lst acc) := p4.keep D _ hD2 nS2
    have nF4 : F4 D = none := by
      cases q : F4 D with
      | none => rfl
      | some o =>
        rcases p4.new D o q with z | z | z
        · rw [nF2] at z; cases z
        · rw [hD2] at z; cases z
        · exact absurd z nS2
    have nS4 : ¬ tot S4 D := fun z => (p4'.s D z).elim nS2 fun z => by rw [hD2] at z; cases z
    have hac : acc.length ≤ i := by rw [dps_length hds, hdl]; exact Nat.le_refl _
    obtain ⟨Sw4, sw4, tw4⟩ := s4.wipe (own.map (·.2))
    have ew : L2.wipe σ2 (own.map (·.2)) = L2.wipe σ (own.map (·.2)) := wipe_of o2 hj
    rw [ew] at sw4
    have nSw4 : ¬ tot Sw4 D := fun z => nS4 (tw4 D z)
    refine ⟨acc, hD4, by rw [sizeLine_eq]; omega, F4, Sw4, _, acc ++ [v], ds ++ [d], upd_same, dps_append (dps_mono (g3.f.trans p4.f) hds) (.cons hv.1 .nil), by simp [hdl], nF4, nSw4, ?_, ?_, q4⟩
    · have pA : Prog F1 H1 (tot S) F4 H4 (tot Sw4) := (((p'.trans g3.prog).trans (s2.sub_tot t2)).trans p4').trans (s4.sub_tot tw4)
      refine ⟨pA.f, fun b o e nb => ?_, pA.new, pA.s⟩
      rw [upd_ne (ne_of_none e hD)]
      exact pA.keep b o e nb
    · refine ⟨fun b o e => by rw [upd_ne (ne_of_none e nF4)]; exact sw4.sub b o e, fun j c e => ?_, sw4.dis, sw4.len, sw4.emp⟩
      obtain ⟨v', e1, h1⟩ := sw4.slot j c e
      exact ⟨v', e1, h1.keep (Same.refl F4) (fun b z => upd_ne fun w => nSw4 ⟨j, by subst w; exact z⟩) fun b z => (h1.no z).1⟩
  · have e : i = xs.length := by omega
    subst e
    refine .inl ⟨by have z := y.stop F' H' p'.f s'.sub; rw [hl] at z; exact z, ?_⟩
    obtain ⟨hw, hQ⟩ := hq (.ref D) ds env' hdl q'
    have s5 := s'.unwipe hw
    refine kq (.ref D) F' H' S' (fun b => b = D) (.own (.ref D) (olst X.K ds)) env' ⟨(g1.f.trans p'.f), fun b o e nb => p'.keep b o (g1.h b o e) nb, fun b o e => ?_, fun b z => ?_⟩ s5 ⟨rfl, ⟨D, acc, rfl, hacc, hds, fun _ => Iff.rfl⟩, fun b z => by subst z; exact ⟨nF, _, hacc⟩⟩ (fun j b z w => by subst w; exact nS ⟨j, z⟩) hQ
    · rcases p'.new b o e with z | z | z
      · exact (g1.new b o z).elim .inl fun z => .inr (.inl z)
      · exact .inr (.inl (g1.h.free z))
      · exact .inr (.inr z)
    · rcases z with z | z
      · exact (p'.s b z).elim .inl fun z => .inr (g1.h.free z)
      · subst z
        exact .inr (g1.h.free hD)
/-! ### isinstance -/
def tyD : PyData → String
  | .none => "NoneType"
  | .bool _ => "bool"
  | .int _ => "int"
  | .str _ => "str"
  | .list _ => "list"
  | .tuple _ => "tuple"
  | .dict _ => "dict"
theorem tyx_dp {K : PySem.W.Frag} {F H : Hp} (s : Same F H) {v : V} {d : PyData} (h : Dp K F v d) : TyX K H v (.type (tyD d)) := by
  cases h with
  | non => exact .base .non
  | bl b => exact .base (.bl b)
  | int i => exact .base (.int i)
  | str x => exact .base (.str x)
  | lst h1 h2 =>
    rcases s.seq h1 with (h | ⟨o, h⟩) | ⟨o, its, n, hk, hc, _⟩
    · exact .base (.lst h)
    · exact .base (.frz h)
    · exact .kList hk hc
  | tup h1 h2 =>
    rcases same_sqT s h1 with (h | ⟨o, h⟩) | ⟨o, its, n, hk, hc, _⟩
    · exact .base (.tup h)
    · exact .fTuple h
    · exact .kTuple hk hc
theorem vc_isi {T : String} {b : Bool} {nm : Str} {p0 p1 : Pos} (hm : X.mg "isinstance" = none) (hT : X.mg nm = none) (h : VC X e env (.dat d)) (hk : kitB (tyD d) T = some b := by decide +kernel) (hv : bootBuiltins nm = some (.type T) := by decide +kernel) (hg : Gl X "isinstance" := by rfl) (hgT : Gl X nm := by rfl) (hn : nm ≠ "__name__" := by decide) (hdb : (nm == ("__debug__" : Str)) = false := by decide)
    (hs : starEach [e, .Name nm p1] X.env = (false, eval e X.env) :: starEach [.Name nm p1] X.env := by rfl) (hs2 : starEach [.Name nm p1] X.env = (false, eval (.Name nm p1) X.env) :: starEach [] X.env := by rfl)
    (hpl : (backTo pos (starEach [.Name nm p1] X.env)).any (·.1) = false := by rfl) : VC X (.Call (.Name "isinstance" p0) [e, .Name nm p1] [] pos) env (.dat (.bool b)) := fun F H σ S s Q kq =>
  ⟨_, pe_callB call_isi hg hm (by decide +kernel) (pa_cons pwE (pa_cons (pe_bltn hgT hT hv (v := .ty T) rfl hn hdb) pa_nil hs2) hs) (by decide) (by decide) hs hpl, h F H σ S s _ fun v F1 H1 Sv g hv _ =>
    ⟨v, .ty T, .type (tyD d), .type T, b, rfl, .ty T, tyx_dp g.sub hv.1, kit_ty hk, kq _ F1 H1 (fun _ => False) g ⟨.bl _, fun _ z => z⟩ fun _ z => z.elim⟩⟩
end
end G

set_option maxRecDepth 100000
set_option maxHeartbeats 4000000
/-! instances; exceptions -/
namespace G
open PySem PySem.Spec PyProof.Rows L2
/-! ### an instance of one's own -/
def oins (K : PySem.W.Frag) (C : Addr) (fs : List (Str × PyData)) : Rs where
  At F H v S := ∃ p dx vs, v = .ref p ∧ H p = some (.ins C dx vs) ∧ H dx = some (.own p) ∧ Paired (fun (a : Str × V) (b : Str × PyData) => a.1 = b.1 ∧ Dp K F a.2 b.2) vs fs ∧ ∀ b, S b ↔ (b = p ∨ b = dx)
  mono := fun {F F' H H' v S} e eH ⟨p, dx, vs, h1, h2, h3, h4, h5⟩ => ⟨p, dx, vs, h1, by rw [eH p ((h5 p).mpr (.inl rfl))]; exact h2, by rw [eH dx ((h5 dx).mpr (.inr rfl))]; exact h3, Paired.mapP h4 fun a b z => ⟨z.1, dp_mono e z.2⟩, h5⟩
theorem paired_put {K : PySem.W.Frag} {F : Hp} {f : Str} {y : V} {d : PyData} (hy : Dp K F y d) : ∀ {vs : List (Str × V)} {fs : List (Str × PyData)}, Paired (fun (a : Str × V) (b : Str × PyData) => a.1 = b.1 ∧ Dp K F a.2 b.2) vs fs → (∀ g ∈ fs.map (·.1), g ≠ f) →
    Paired (fun (a : Str × V) (b : Str × PyData) => a.1 = b.1 ∧ Dp K F a.2 b.2) (putF f y vs) (fs ++ [(f, d)])
  | _, _, .nil, _ => .cons ⟨rfl, hy⟩ .nil
  | (g, x) :: vs, (g', d') :: fs, .cons h hs, hn => by
    obtain ⟨e1, e2⟩ := h
    have e1 : g = g' := e1
    subst e1
    have hg : g ≠ f := hn g (by simp)
    rw [putF, if_neg hg]
    exact .cons ⟨rfl, e2⟩ (paired_put hy hs fun g' hg' => hn g' (by simp only [List.map_cons]; exact List.mem_cons_of_mem _ hg'))
section
variable {X : Cx} {W : WX} {env : En} {D : DE} {c : Ct} {d d1 d2 : PyData} {e o a b tg iter : Expr} {es : List Expr} {body : List Stmt} {pos p pos' apos : Pos} {x f : Str} {k : Nat} {Q : Ct → En → Prop} {RX : Xc → En → Prop} {C : Addr} {fs : List (Str × PyData)}
/-- self.f = e, a first time -/
theorem ws_fld (i : Nat) {v : V} (h : VC X e env (.dat d)) (k : D.nx (env.set i (some (.own v (oins X.K C (fs ++ [(f, d)])))))) (cl : Cls X.K C) (na : NoAttr X.K C f) (hf : ∀ g ∈ fs.map (·.1), g ≠ f) (hl : fs.length < 1000) (hi : env[i]? = some (some (.own v (oins X.K C fs))) := by rfl) {x : Str} (hN : X.N[i]? = some x := by rfl)
    (hv : Vis X.env.scope x := by first | exact Or.inl rfl | exact Or.inr (Or.inl rfl) | exact Or.inr (Or.inr rfl)) (hd : (x == ("__debug__" : Str)) = false := by decide) (hcd : (x == ("__classdict__" : Str)) = false := by decide)
    (hs : swapsWith e (some (.Attribute (.Name x p) f pos')) pos.line X.env = pure false := by rfl) : WS X W (.Assign [.Attribute (.Name x p) f pos'] e pos) D env := fun F H σ S s E m =>
  ⟨_, ps_fld (pe_var hN hv hd hcd) pwE hs, h F H σ S s _ fun y F1 H1 Sv g hy _ => by
    have s1 := s.grow g
    obtain ⟨v', e1, ev, ⟨q, dx, vs, e2, h2, h3, h4, h5⟩, hn⟩ := s1.slot i _ hi
    have ev : v' = v := ev
    subst ev
    subst e2
    have ln : vs.length = fs.length := h4.length
    refine ⟨_, e1, q, C, dx, vs, rfl, h2, cl, na, by omega, ?_⟩
    have iq : S i q := (h5 q).mpr (.inl rfl)
    have idx : S i dx := (h5 dx).mpr (.inr rfl)
    have ne : dx ≠ q := fun z => by subst z; rw [h2] at h3; cases h3
    have hlen : i < env.length := (List.getElem?_eq_some_iff.mp hi).1
    refine m.nx F1 _ σ S _ (g.prog.trans ⟨Same.refl F1, fun b o e nb => ?_, fun b o e => .inl e, fun b z => .inl z⟩) ⟨fun b o e => ?_, fun j c' e => ?_, s1.dis, by simp [s1.len], fun j hj b => ?_⟩ k
    · rw [upd_ne (fun z => by subst z; exact nb ⟨i, iq⟩)]
      exact e
    · rw [upd_ne (fun z => by subst z; rw [(s1.no iq).1] at e; cases e)]
      exact s1.sub b o e
    · by_cases hji : j = i
      · subst hji
        rw [List.getElem?_set_self hlen] at e
        cases e
        refine ⟨_, e1, rfl, ⟨q, dx, _, rfl, upd_same, by rw [upd_ne ne]; exact h3, paired_put hy.1 h4 hf, h5⟩, fun b z => ⟨(hn b z).1, ?_⟩⟩
        rcases (h5 b).mp z with z | z
        · subst z; exact ⟨_, upd_same⟩
        · subst z; exact ⟨_, by rw [upd_ne ne]; exact h3⟩
      · rw [List.getElem?_set_ne (Ne.symm hji)] at e
        obtain ⟨w, w1, w2⟩ := s1.slot j c' e
        exact ⟨w, w1, w2.keep (Same.refl F1) (fun b z => upd_ne (fun y => by subst y; exact hji (s1.dis j i b z iq))) fun b z => (w2.no z).1⟩
    · by_cases hji : j = i
      · subst hji
        exact absurd (List.getElem?_set_self hlen) (hj _)
      · exact s1.emp j (fun c' e => hj c' (by rw [List.getElem?_set_ne (Ne.symm hji)]; exact e)) b⟩
end
/-! ### classes with an __init__ of their own -/
structure Ini (P : Program) (w : World) (K : PySem.W.Frag) (mg : Str → Option Value) (base : Heap) (x : Str) (C : Addr) (k : Nat) (spec : Spec) : Prop where
  ex : ∃ f fd ps, FnOk P w K mg base (L2.CX P w) k f fd ps (spG K spec) ∧ Mk K C f ∧ mg x = some (.ref C) ∧ Binds K fd ps []
/-- a method -/
structure Fm (P : Program) (w : World) (K : PySem.W.Frag) (mg : Str → Option Value) (base : Heap) (C : Addr) (m : Str) (k : Nat) (spec : Spec) : Prop where
  ex : ∃ f fd ps, FnOk P w K mg base (L2.CX P w) k f fd ps (spG K spec) ∧ Meth K C m f ∧ Binds K fd ps []
/-- what __init__ leaves is a lasting instance -/
theorem make_core {K : PySem.W.Frag} {F H : Hp} {vs : List V} {cs : List Ct} {spec : Spec} {C p dx : Addr} {E : XK} {QV : VK} {QC : Ct → Prop} {RX : Xc → Prop} (s : Same F H) (h : Holds K F vs cs) (np : H p = none) (ndx : H dx = none) (ne : dx ≠ p)
    (hs : ∀ v, spec (.own v (oins K C []) :: cs) (fun c cs' => c = .dat .none ∧ ∃ fs t, cs' = .own v (oins K C fs) :: t ∧ QC (.pin (insP K C fs))) (fun y _ => RX y))
    (k : ∀ v F' H' c, Grow F H F' H' → Hold K F' H' v (fun _ => False) c → QC c → QV v H') (kx : ∀ cls od F' H' y, Grow F H F' H' → XHold K F' H' (fun _ => False) cls od y → RX y → E cls od H') :
    spG K spec (.ref p :: vs) (upd (upd H dx (.own p)) p (.ins C dx [])) (fun v H2 => v = .non ∧ QV (.ref p) H2) E := by
  have nFp : F p = none := s.free np
  have nFd : F dx = none := s.free ndx
  have hst := h.sit s
  refine ⟨F, fun j b => j = 0 ∧ (b = p ∨ b = dx), .own (.ref p) (oins K C []) :: cs, _, _, ⟨fun b o e => ?_, fun j c e => ?_, fun i j b h1 h2 => by rw [h1.1, h2.1], by simp [h.length], fun j hj b z => ?_⟩, hs (.ref p), fun v F' H' S' Sv c cs' pr s' hv dj q => ?_, fun cls od F' H' S' y cs' pr s' xh q => ?_⟩
  · rw [upd_ne (ne_of_none e nFp), upd_ne (ne_of_none e nFd)]
    exact s b o e
  · cases j with
    | zero =>
      simp at e
      subst e
      have es : (fun b => (0 : Nat) = 0 ∧ (b = p ∨ b = dx)) = fun b => b = p ∨ b = dx := funext fun b => propext ⟨fun z => z.2, fun z => ⟨rfl, z⟩⟩
      refine ⟨.ref p, rfl, ?_⟩
      rw [es]
      exact ⟨rfl, ⟨p, dx, [], rfl, upd_same, by rw [upd_ne ne, upd_same], .nil, fun _ => Iff.rfl⟩, fun b z => by
        rcases z with z | z
        · subst z; exact ⟨nFp, _, upd_same⟩
        · subst z; exact ⟨nFd, _, by rw [upd_ne ne]; exact upd_same⟩⟩
    | succ j =>
      obtain ⟨v, h1, h2⟩ := hst.slot j c (by simpa using e)
      have es : (fun b => j + 1 = 0 ∧ (b = p ∨ b = dx)) = fun _ => False := funext fun b => propext ⟨fun z => by omega, False.elim⟩
      refine ⟨v, by simpa using h1, ?_⟩
      rw [es]
      exact h2.keep (Same.refl F) (fun _ z => z.elim) fun _ z => z.elim
  · exact hj (.own (.ref p) (oins K C [])) (by rw [z.1]; rfl)
  · obtain ⟨ec, fs, t, e1, qc⟩ := q
    subst ec
    have hnon := hv.1
    cases hnon
    subst e1
    obtain ⟨v0, e0, h0⟩ := s'.slot 0 _ rfl
    obtain ⟨ev, ⟨p', dx', vs', ep, h2, h3, h4, h5⟩, hn⟩ := h0
    have : V.ref p = v0 := by simpa using e0
    subst this
    cases ep
    have n1 : F' p = none := (hn p ((h5 p).mpr (.inl rfl))).1
    have n2 : F' dx' = none := (hn dx' ((h5 dx').mpr (.inr rfl))).1
    have ne' : dx' ≠ p := fun z => by subst z; rw [h2] at h3; cases h3
    have sf : Same F' (upd (upd F' p (.ins C dx' vs')) dx' (.own p)) := fun b o e => by rw [upd_ne (ne_of_none e n2), upd_ne (ne_of_none e n1)]; exact e
    have fresh : ∀ b, S' 0 b → H b = none := fun b z => by
      rcases pr.s b (.inl ⟨0, z⟩) with y | y
      · obtain ⟨j, y⟩ := y
        rcases y.2 with y | y
        · rw [y]; exact np
        · rw [y]; exact ndx
      · by_cases e1 : b = p
        · rw [e1]; exact np
        · by_cases e2 : b = dx
          · rw [e2]; exact ndx
          · rw [upd_ne e1, upd_ne e2] at y
            exact y
    have old : ∀ b o, H b = some o → H' b = some o := fun b o e => pr.keep b o (by rw [upd_ne (ne_of_none e np), upd_ne (ne_of_none e ndx)]; exact e) fun ⟨j, z⟩ => by
      rcases z.2 with z | z
      · rw [z, np] at e; cases e
      · rw [z, ndx] at e; cases e
    have nw : ∀ b o, F' b = some o → F b = some o ∨ H b = none := fun b o e => by
      rcases pr.new b o e with z | z | z
      · exact .inl z
      · by_cases e1 : b = p
        · exact .inr (by rw [e1]; exact np)
        · by_cases e2 : b = dx
          · exact .inr (by rw [e2]; exact ndx)
          · rw [upd_ne e1, upd_ne e2] at z
            exact .inr z
      · obtain ⟨j, z⟩ := z
        rcases z.2 with z | z
        · exact .inr (by rw [z]; exact np)
        · exact .inr (by rw [z]; exact ndx)
    refine ⟨rfl, k (.ref p) (upd (upd F' p (.ins C dx' vs')) dx' (.own p)) H' (.pin (insP K C fs)) ⟨pr.f.trans sf, old, fun b o e => ?_, fun b o e => ?_⟩ ⟨⟨p, dx', vs', rfl, by rw [upd_ne (Ne.symm ne')]; exact upd_same, upd_same, Paired.mapP h4 fun _ _ z => ⟨z.1, dp_mono sf z.2⟩⟩, fun _ z => z⟩ qc⟩
    · by_cases e1 : b = dx'
      · subst e1
        rw [upd_same] at e
        rw [h3]
        exact e
      · rw [upd_ne e1] at e
        by_cases e2 : b = p
        · subst e2
          rw [upd_same] at e
          rw [h2]
          exact e
        · rw [upd_ne e2] at e
          exact s'.sub b o e
    · by_cases e1 : b = dx'
      · subst e1
        exact .inr (fresh b ((h5 b).mpr (.inr rfl)))
      · rw [upd_ne e1] at e
        by_cases e2 : b = p
        · subst e2
          exact .inr np
        · rw [upd_ne e2] at e
          exact nw b o e
  · refine kx cls od F' H' y ⟨pr.f, fun b o e => ?_, s'.sub, fun b o e => ?_⟩ xh q
    · exact pr.keep b o (by rw [upd_ne (ne_of_none e np), upd_ne (ne_of_none e ndx)]; exact e) fun ⟨j, z⟩ => by
        rcases z.2 with z | z
        · rw [z, np] at e; cases e
        · rw [z, ndx] at e; cases e
    · rcases pr.new b o e with z | z | z
      · exact .inl z
      · by_cases e1 : b = p
        · exact .inr (by rw [e1]; exact np)
        · by_cases e2 : b = dx
          · exact .inr (by rw [e2]; exact ndx)
          · rw [upd_ne e1, upd_ne e2] at z
            exact .inr z
      · obtain ⟨j, z⟩ := z
        rcases z.2 with z | z
        · exact .inr (by rw [z]; exact np)
        · exact .inr (by rw [z]; exact ndx)
section
variable {X : Cx} {W : WX} {env : En} {D : DE} {c : Ct} {d d1 d2 : PyData} {e o a b tg iter : Expr} {es : List Expr} {body : List Stmt} {pos p pos' apos : Pos} {x f m : Str} {k : Nat} {Q : Ct → En → Prop} {RX : Xc → En → Prop} {C : Addr} {fs : List (Str × PyData)} {spec : Spec} {cs : List Ct} {E : XK}
/-- C(..), in a body whose exceptions leave the def -/
theorem ec_make (hI : Ini X.prog X.w X.K X.mg X.base x C k spec) (hr : Room (k + 1) X.A) (tk : Takes X (fun cls d _ H => E cls d H)) (ha : AC X (e :: es) env cs)
    (hs : ∀ v, spec (.own v (oins X.K C []) :: cs) (fun c cs' => c = .dat .none ∧ ∃ fs t, cs' = .own v (oins X.K C fs) :: t ∧ Q (.pin (insP X.K C fs)) env) (fun y _ => RX y env))
    (hg : Gl X x := by rfl) (hdb : (x == ("__debug__" : Str)) = false := by decide) (he : starEach (e :: es) X.env = (false, eval e X.env) :: starEach es X.env := by rfl) (hpl : (backTo pos (starEach es X.env)).any (·.1) = false := by rfl) :
    EC X (fun cls d _ H => E cls d H) (.Call (.Name x p) (e :: es) [] pos) Q RX env := fun F H σ S s QV kq kx => by
  obtain ⟨f, fd, ps, ok, hM, hm, hb⟩ := hI.ex
  refine ⟨_, pe_make (E := E) hM ok hr hg hm hb .nil (passes_call tk fun _ _ _ _ h => h) pwA hdb he hpl, ha F H σ S s _ fun vs F1 H1 g hvs q dx hq hdx hne => ?_⟩
  rw [List.append_nil]
  have s1 := s.grow g
  refine make_core (QC := fun c => Q c env) (RX := fun y => RX y env) g.sub hvs hq hdx hne hs (fun v F' H' c g' hv qc => ?_) fun cls od F' H' y g' xh r => ?_
  · refine kq v F' H' S (fun _ => False) c env ((g.trans g').prog.weak (fun _ z => z) fun a z => .inl (z.elim id False.elim)) (s.grow (g.trans g')) hv (fun _ _ _ z => z) qc
  · refine kx cls od F' H' S y env (g.trans g').prog (s.grow (g.trans g')) ?_ r
    obtain ⟨e1, e2⟩ := xh
    exact ⟨e1, e2⟩
/-- C(..) that raises nothing -/
theorem vc_make {c1 : Ct} (hI : Ini X.prog X.w X.K X.mg X.base x C k spec) (hr : Room (k + 1) X.A) (ha : AC X (e :: es) env cs)
    (hs : ∀ v, spec (.own v (oins X.K C []) :: cs) (fun c cs' => c = .dat .none ∧ ∃ fs t, cs' = .own v (oins X.K C fs) :: t ∧ Ct.pin (insP X.K C fs) = c1) (fun _ _ => False))
    (hg : Gl X x := by rfl) (hdb : (x == ("__debug__" : Str)) = false := by decide) (he : starEach (e :: es) X.env = (false, eval e X.env) :: starEach es X.env := by rfl) (hpl : (backTo pos (starEach es X.env)).any (·.1) = false := by rfl) :
    VC X (.Call (.Name x p) (e :: es) [] pos) env c1 := fun F H σ S s QV kq => by
  obtain ⟨f, fd, ps, ok, hM, hm, hb⟩ := hI.ex
  refine ⟨_, pe_make (E := E0) hM ok hr hg hm hb .nil passL pwA hdb he hpl, ha F H σ S s _ fun vs F1 H1 g hvs q dx hq hdx hne => ?_⟩
  rw [List.append_nil]
  refine make_core (QC := fun c => c = c1) (RX := fun _ => False) g.sub hvs hq hdx hne hs (fun v F' H' c g' hv qc => ?_) fun cls od F' H' y g' xh r => r.elim
  subst qc
  exact kq v F' H' (fun _ => False) (g.trans g') hv fun _ z => z.elim
/-- o.m(), o a lasting instance -/
theorem vc_meth0 (hF : Fm X.prog X.w X.K X.mg X.base C m k spec) (hr : Room k X.A) (cl : Cls X.K C) (ho : VC X o env (.pin (insP X.K C fs))) (hs : spec [.pin (insP X.K C fs)] (fun c' _ => c' = c) (fun _ _ => False)) (hl : fs.lookup m = none)
    {pl : Sem Bool} (ht : eval (.Call (.Attribute o m apos) [] [] pos) X.env = (do
      let ov ← eval o X.env
      standAt apos.atName
      let (f, first) ← holding [ov] (getMethod ov m pl)
      callWith pos f first (backTo pos (starEach [] X.env)) (backToKw pos (keywordEach [] X.env))) := by rfl) : VC X (.Call (.Attribute o m apos) [] [] pos) env c := fun F H σ S s Q kq => by
  obtain ⟨f, fd, ps, ok, hm, hb⟩ := hF.ex
  refine ⟨_, pe_meth0 (E := E0) pwE cl hm ok hr hb .nil passL ht, ho F H σ S s _ fun v F1 H1 Sv g hv _ => ?_⟩
  obtain ⟨⟨q, dx, vs, rfl, h2, h3, h4⟩, _⟩ := hv
  refine ⟨q, dx, vs, rfl, g.sub _ _ h2, ?_, ?_⟩
  · have : ∀ {vs : List (Str × V)} {fs : List (Str × PyData)}, Paired (fun (a : Str × V) (b : Str × PyData) => a.1 = b.1 ∧ Dp X.K F1 a.2 b.2) vs fs → fs.lookup m = none → vs.lookup m = none := by
      intro vs fs hp
      induction hp with
      | nil => intro _; rfl
      | @cons a b as bs h _ ih =>
        obtain ⟨x, y⟩ := a
        obtain ⟨x', y'⟩ := b
        have : x = x' := h.1
        subst this
        intro hh
        rw [List.lookup_cons] at hh ⊢
        cases q : m == x with
        | true => rw [q] at hh; cases hh
        | false => rw [q] at hh; exact ih hh
    exact this h4 hl
  · exact call_pure g.sub (.pin (P := insP X.K C fs) ⟨q, dx, vs, rfl, h2, h3, h4⟩ .nil) hs fun v F' H' Sv c' g' hv fr e => by
      subst e
      exact kq v F' H' Sv (g.trans g') hv fun a z => g.h.free (fr a z)
end
end G

set_option maxRecDepth 100000
set_option maxHeartbeats 4000000
/-! raise, try, == of instances -/
namespace G
open PySem PySem.Spec PyProof.Rows L2
/-- what the __init__ of an exception with one field does -/
def spExc (C : Addr) (f : Str) : Sp := fun vs H Q _ => ∃ a v, vs = [.ref a, v] ∧ H a = some (exo a C none) ∧ ∀ dx, H dx = none → dx ≠ a → Q .non (upd (upd H dx (exd dx [(f, v)])) a (exo a C (some dx)))
structure Exk (P : Program) (w : World) (K : PySem.W.Frag) (mg : Str → Option Value) (base : Heap) (x : Str) (C : Addr) (f : Str) : Prop where
  oex : OexC K C
  xf : XfC K C
  gm : mg x = some (.ref C)
  no : PySem.W.findIn K (.ref C) f = some none
  me : PySem.W.exmOne K (.ref C) (.ref C) = some true
  ini : ∃ fI fd ps, PySem.W.findIn K (.ref C) "__init__" = some (some (.ref fI)) ∧ PySem.W.typeIn K (.ref fI) = some (.type "function") ∧ Binds K fd ps [] ∧ FnOk P w K mg base (L2.CX P w) 1 fI fd ps (spExc C f)
section
variable {X : Cx} {W : WX} {env : En} {D : DE} {c : Ct} {d d1 d2 : PyData} {e o a b : Expr} {es : List Expr} {body : List Stmt} {pos p pos' pos2 apos np : Pos} {x f m n : Str} {k : Nat} {Q : Ct → En → Prop} {RX : Xc → En → Prop} {C : Addr}
/-- raise x(e) -/
theorem ws_raise (T : Exk X.prog X.w X.K X.mg X.base x C f) (hr : Room 2 X.A) (tk : Takes X W) (h : VC X e env (.dat d)) (k : D.ex ⟨C, some (f, d)⟩ env) (hc : X.calm = true := by rfl) (hg : Gl X x := by rfl) (hdb : (x == ("__debug__" : Str)) = false := by decide)
    (he : starEach [e] X.env = (false, eval e X.env) :: starEach [] X.env := by rfl) (hpl : (backTo pos (starEach [] X.env)).any (·.1) = false := by rfl) : WS X W (.Raise (some (.Call (.Name x p) [e] [] pos)) none pos2) D env := fun F H σ S s E m => by
  obtain ⟨fI, fd, ps, iC, tI, hb, ok⟩ := T.ini
  refine ⟨_, ps_raise hc tk (pmk_oex T.oex iC tI ok hr hb .nil passL hg T.gm (pa_cons pwE pa_nil he) hdb he hpl), h F H σ S s _ fun v F1 H1 Sv g hv _ => ⟨by simp, fun q hq => ⟨q, v, rfl, upd_same, fun dx hdx hne => ⟨rfl, dx, [(f, v)], upd_same, ?_, ?_, ?_⟩⟩⟩⟩
  · rw [upd_ne hne, upd_same]
  · rw [upd_ne hne] at hdx; exact hdx
  · have hdx' : H1 dx = none := by rw [upd_ne hne] at hdx; exact hdx
    have e1 : upd (del (upd (upd (upd H1 q (exo q C none)) dx (exd dx [(f, v)])) q (exo q C (some dx))) q) dx (.xd [(f, v)]) = upd H1 dx (.xd [(f, v)]) := by
      funext b
      by_cases e1 : b = dx
      · subst e1; rw [upd_same, upd_same]
      · rw [upd_ne e1, upd_ne e1]
        by_cases e2 : b = q
        · subst e2; rw [del_same, hq]
        · rw [del_ne e2, upd_ne e2, upd_ne e1, upd_ne e2]
    rw [e1]
    have g2 := Grow.laid (o := HO.xd [(f, v)]) g.sub hdx'
    have s2 := (s.grow g).grow g2
    exact m.ex (.ref C) (some dx) _ _ σ S ⟨C, some (f, d)⟩ env (g.trans g2).prog s2 ⟨rfl, dx, v, rfl, upd_same, dp_mono g2.f hv.1⟩ k
/-- the exception that a suite holds -/
def xcP (K : PySem.W.Frag) (a : Addr) (od : Option Addr) (x : Xc) : Ps where
  At F v := v = .ref a ∧ match x.fld with
    | none => od = none
    | some (f, d) => ∃ p w, od = some p ∧ F p = some (.xd [(f, w)]) ∧ Dp K F w d
  mono := fun {F F' v} e ⟨h1, h2⟩ => ⟨h1, by
    cases q : x.fld with
    | none => rw [q] at h2; exact h2
    | some fd =>
      rw [q] at h2
      obtain ⟨p, w, a1, a2, a3⟩ := h2
      exact ⟨p, w, a1, e _ _ a2, dp_mono e a3⟩⟩
/-- e.f there -/
theorem vc_xf {a C : Addr} {oe : Obj} {od : Option Addr} {pn : List (Addr × Obj)} (T : XfC X.K C) (hno : PySem.W.findIn X.K (.ref C) f = some none) (hz : Zc (.ref C) od oe) (hf : ∃ vs, oe.data = .fields vs)
    (h : VC (X.suite a ((a, oe) :: pn)) e env (.pin (xcP X.K a od ⟨C, some (f, d)⟩))) (hb : attributeBase e f X.env (eval e X.env) = eval e X.env := by rfl) : VC (X.suite a ((a, oe) :: pn)) (.Attribute e f pos) env (.dat d) := fun F H σ S s Q kq =>
  ⟨_, pe_xf T hno hz hf (pwE (X := X.suite a ((a, oe) :: pn))) hb, h F H σ S s _ fun v F1 H1 Sv g hv _ => by
    obtain ⟨⟨e1, p, w, e2, h2, h3⟩, _⟩ := hv
    exact ⟨e1, rfl, p, [(f, w)], w, e2, g.sub _ _ h2, by simp [List.lookup], kq w F1 H1 (fun _ => False) g ⟨h3, fun _ z => z⟩ fun _ z => z.elim⟩⟩
/-- try: body; except x as n: suite -/
theorem ws_try_as (i : Nat) {b₀ : Stmt} {suite : List Stmt} {hpos : Pos} {cv : Value} (hN : X.N.Nodup) (hcn : Names X x cv) (tk : Takes X W)
    (hb : ∀ (W' : WX) (pn : List (Addr × Obj)) (xe : Value → Shared → Prop), Takes (X.tr pn xe) W' → PassesOwn (model X.prog X.w) X.A X.env xe → WB (X.tr pn xe) W' body { D with ex := fun y env1 => ∃ b, PySem.W.exmOne X.K (.ref y.cls) cv = some b ∧
      (b = true → ∀ (a : Addr) (oe : Obj) (od : Option Addr) (pn : List (Addr × Obj)), Zc (.ref y.cls) od oe → (∃ vs, oe.data = .fields vs) → WB (X.suite a ((a, oe) :: pn)) (fun _ _ _ _ => False) (b₀ :: suite) { nx := fun env2 => D.nx (env2.set i none), rt := D.rt, bk := fun env2 => D.bk (env2.set i none), ct := fun env2 => D.ct (env2.set i none) } (env1.set i (some (.pin (xcP X.K a od y))))) ∧
      (b = false → D.ex y env1) } env)
    (hi : X.N[i]? = some n := by rfl) (hs : X.stack = X.env :: X.outer := by rfl) (hf : X.env.frame = some X.env.locals := by rfl) (hln : X.env.kindOf n = some .local := by rfl) :
    WS X W (.Try body [.ExceptHandler (some (.Name x np)) (some n) (b₀ :: suite) hpos] [] [] pos) D env := fun F H σ S s E m => by
  let tb : WX → TS := fun W' D' σ' H' => ∀ (pn : List (Addr × Obj)) (xe : Value → Shared → Prop), Takes (X.tr pn xe) W' → PassesOwn (model X.prog X.w) X.A X.env xe → wB (X.tr pn xe) body D' σ' H'
  let ts : Addr → Value → Option Addr → TS := fun a cls od D' σ' H' => ∀ (oe : Obj) (pn : List (Addr × Obj)), Zc cls od oe → (∃ vs, oe.data = .fields vs) → wB (X.suite a ((a, oe) :: pn)) (b₀ :: suite) D' σ' H'
  refine ⟨_, ps_try_as (tb := tb) (ts := ts) hs hf hN hi hln hcn tk (fun W' pn xe h1 h2 => ⟨fun pins s σ H Q I q => pwB.run pins s σ H Q I (q pn xe h1 h2)⟩) (fun a oe cls od pn h1 h2 => ⟨fun pins s σ H Q I q => pwB.run pins s σ H Q I (q oe pn h1 h2)⟩), ?_⟩
  intro pn xe h1 h2
  refine hb _ pn xe h1 h2 F H σ S s E ⟨m.nx, m.rt, m.bk, m.ct, fun cls od F' H' σ' S' y env' p s' xh ⟨b, hb1, hy, hn⟩ => ?_⟩
  have ec : cls = .ref y.cls := xh.1
  subst ec
  refine ⟨b, hb1, fun eb a ha => ?_, fun eb => m.ex _ _ F' H' σ' S' y env' p s' xh (hn eb)⟩
  intro oe pn' hz hfl
  obtain ⟨S2, s2, t2⟩ := s'.put (i := i) (c := .pin (xcP X.K a od y)) (v := .ref a) (Sv := fun _ => False) ⟨⟨rfl, xh.2⟩, fun _ z => z⟩ (fun _ _ _ z => z)
  have p2 : Prog F H (tot S) F' H' (tot S2) := p.trans (s'.sub_tot fun a z => (t2 a z).elim id False.elim)
  refine hy eb a oe od pn' hz hfl F' H' _ S2 s2 _ ⟨fun F3 H3 σ3 S3 env3 p3 s3 q => ?_, fun v F3 H3 σ3 S3 Sv c env3 p3 s3 hv dj q => m.rt v F3 H3 σ3 S3 Sv c env3 (p2.trans p3) s3 hv dj q, fun F3 H3 σ3 S3 env3 p3 s3 q => ?_, fun F3 H3 σ3 S3 env3 p3 s3 q => ?_, fun _ _ _ _ _ _ _ _ _ _ _ z => z.elim⟩
  · exact m.nx F3 H3 _ _ _ ((p2.trans p3).trans (s3.sub_tot (S' := fun j => if j = i then fun _ => False else S3 j) fun a ⟨j, z⟩ => by by_cases e : j = i <;> simp [e] at z; exact ⟨j, z⟩)) (s3.drop i) q
  · exact m.bk F3 H3 _ _ _ ((p2.trans p3).trans (s3.sub_tot (S' := fun j => if j = i then fun _ => False else S3 j) fun a ⟨j, z⟩ => by by_cases e : j = i <;> simp [e] at z; exact ⟨j, z⟩)) (s3.drop i) q
  · exact m.ct F3 H3 _ _ _ ((p2.trans p3).trans (s3.sub_tot (S' := fun j => if j = i then fun _ => False else S3 j) fun a ⟨j, z⟩ => by by_cases e : j = i <;> simp [e] at z; exact ⟨j, z⟩)) (s3.drop i) q
/-- try: body; except x: suite -/
theorem ws_try {b₀ : Stmt} {suite : List Stmt} {hpos : Pos} {cv : Value} (hcn : Names X x cv) (tk : Takes X W)
    (hb : ∀ (W' : WX) (pn : List (Addr × Obj)) (xe : Value → Shared → Prop), Takes (X.tr pn xe) W' → PassesOwn (model X.prog X.w) X.A X.env xe → WB (X.tr pn xe) W' body { D with ex := fun y env1 => ∃ b, PySem.W.exmOne X.K (.ref y.cls) cv = some b ∧
      (b = true → ∀ (a : Addr) (oe : Obj) (pn : List (Addr × Obj)), WB (X.suite a ((a, oe) :: pn)) (fun _ _ _ _ => False) (b₀ :: suite) { nx := D.nx, rt := D.rt, bk := D.bk, ct := D.ct } env1) ∧
      (b = false → D.ex y env1) } env)
    (hs : X.stack = X.env :: X.outer := by rfl) (hf : X.env.frame = some X.env.locals := by rfl) :
    WS X W (.Try body [.ExceptHandler (some (.Name x np)) none (b₀ :: suite) hpos] [] [] pos) D env := fun F H σ S s E m => by
  let tb : WX → TS := fun W' D' σ' H' => ∀ (pn : List (Addr × Obj)) (xe : Value → Shared → Prop), Takes (X.tr pn xe) W' → PassesOwn (model X.prog X.w) X.A X.env xe → wB (X.tr pn xe) body D' σ' H'
  let ts : Addr → Value → Option Addr → TS := fun a cls od D' σ' H' => ∀ (oe : Obj) (pn : List (Addr × Obj)), wB (X.suite a ((a, oe) :: pn)) (b₀ :: suite) D' σ' H'
  refine ⟨_, ps_try_only (tb := tb) (ts := ts) hs hf hcn tk (fun W' pn xe h1 h2 => ⟨fun pins s σ H Q I q => pwB.run pins s σ H Q I (q pn xe h1 h2)⟩) (fun a oe cls od pn h1 h2 => ⟨fun pins s σ H Q I q => pwB.run pins s σ H Q I (q oe pn)⟩), ?_⟩
  intro pn xe h1 h2
  refine hb _ pn xe h1 h2 F H σ S s E ⟨m.nx, m.rt, m.bk, m.ct, fun cls od F' H' σ' S' y env' p s' xh ⟨b, hb1, hy, hn⟩ => ?_⟩
  have ec : cls = .ref y.cls := xh.1
  subst ec
  refine ⟨b, hb1, fun eb a ha oe pn' => ?_, fun eb => m.ex _ _ F' H' σ' S' y env' p s' xh (hn eb)⟩
  have m2 := m.from p
  exact hy eb a oe pn' F' H' σ' S' s' _ ⟨m2.nx, m2.rt, m2.bk, m2.ct, fun _ _ _ _ _ _ _ _ _ _ _ z => z.elim⟩
/-! ### == of instances with an __eq__ of their own -/
theorem op_eqOwn {CX : CXT} {C f : Addr} {fd : FuncData} {ps : List Str} {sp : Sp} {E : XK} {k : Nat} (F : FnOk X.prog X.w X.K X.mg X.base CX k f fd ps sp) (hs : PySem.W.findIn X.K (.ref C) "__eq__" = some (some (.ref f))) (hf : PySem.W.isFn X.K (.ref f) = true) (hb : Binds X.K fd ps []) (hx : Passes CX X E) (hr : Room k X.A) :
    OpR X (compareOp .Eq) (fun x y H Q => ∃ a b dx dy fs gs, x = .ref a ∧ y = .ref b ∧ H a = some (.ins C dx fs) ∧ H b = some (.ins C dy gs) ∧ sp [.ref a, .ref b] H Q E) := by
  intro pins s σ H x y v u Q I rx ry hq
  obtain ⟨a, b, dx, dy, fs, gs, rfl, rfl, ha, hb', hsp⟩ := hq
  cases rx
  cases ry
  obtain ⟨mA, J, _⟩ := ins_get I.hok ha
  obtain ⟨mB, J', _⟩ := ins_get I.hok hb'
  obtain ⟨od, J, _⟩ := J.look
  obtain ⟨od', J', _⟩ := J'.look
  obtain ⟨m, hF⟩ := I.fr
  show wpAny (model X.prog X.w) X.A (richCompare .Eq _ _) (EP X pins σ Q) X.xe s
  refine PySem.W.cmp_K (op := .Eq) (tb := .ref C) hr.units0 hF I.ok.mod.kin J J'.type (by simp [PySem.W.notFirst]) hs hf ?_
  have hl := F.len _ _ _ _ hsp
  have r2 : Vals [V.ref a, V.ref b] [Value.ref a, Value.ref b] := .cons rfl (.cons rfl .nil)
  refine wpAny_mono (run_fn (us := [.ref a, .ref b]) (vs := [.ref a, .ref b]) F hr hb .nil hx I r2 hsp) (fun r s' z => ?_) fun _ _ x => x
  obtain ⟨z, H', I', rz, q⟩ := z
  have q' : EP X pins σ Q r s' := ⟨z, H', I', rz, q⟩
  cases z with
  | non => cases (show r = Value.none from rz); exact q'
  | bl b => cases (show r = Value.bool b from rz); exact q'
  | int i => obtain ⟨t, e⟩ := (show ∃ t, r = Value.int i t from rz); cases e; exact q'
  | str i => obtain ⟨t, e⟩ := (show ∃ t, r = Value.str i t from rz); cases e; exact q'
  | byt i => obtain ⟨t, e⟩ := (show ∃ t, r = Value.bytes i t from rz); cases e; exact q'
  | flt i => obtain ⟨t, e⟩ := (show ∃ t, r = Value.float i t from rz); cases e; exact q'
  | ref i => cases (show r = Value.ref i from rz); exact q'
  | ty i => cases (show r = Value.type i from rz); exact q'
/-- a == b -/
theorem vc_eqOwn {C : Addr} {fs gs : List (Str × PyData)} {spec : Spec} (hF : Fm X.prog X.w X.K X.mg X.base C "__eq__" k spec) (hr : Room k X.A) (ha : VC X a env (.pin (insP X.K C fs))) (hb : VC X b env (.pin (insP X.K C gs))) (hs : spec [.pin (insP X.K C fs), .pin (insP X.K C gs)] (fun c' _ => c' = c) (fun _ _ => False))
    (hm : behindInMarks .Eq b = false := by first | exact nomark _ | rfl) : VC X (.Compare a [.Eq] [b] pos) env c := fun F H σ S s Q kq => by
  obtain ⟨f, fd, ps, ok, hM, hbd⟩ := hF.ex
  refine ⟨_, pe_cmpR (op_eqOwn (E := E0) ok hM.at_ hM.fn hbd passL hr) pwE pwE hm, ha F H σ S s _ fun v1 F1 H1 _ g1 h1 _ => hb F1 H1 σ S (s.grow g1) _ fun v2 F2 H2 _ g2 h2 _ => ?_⟩
  have h1' := (insP X.K C fs).mono g2.f h1.1
  obtain ⟨q, dx, vs, rfl, a2, a3, a4⟩ := id h1'
  obtain ⟨q', dx', vs', rfl, b2, b3, b4⟩ := id h2.1
  refine ⟨q, q', dx, dx', vs, vs', rfl, rfl, g2.sub _ _ a2, g2.sub _ _ b2, call_pure g2.sub (.pin h1' (.pin h2.1 .nil)) hs fun v F' H' Sv c' g' hv fr e => ?_⟩
  subst e
  exact kq v F' H' Sv ((g1.trans g2).trans g') hv fun z y => (g1.trans g2).h.free (fr z y)
/-! ### isinstance with a class of the module -/
structure IsiC (K : PySem.W.Frag) (C : Addr) : Prop where
  cl : Cls K C
  ha : PySem.W.findIn K (.ref C) "__class__" = some (some (.builtin "object.__class__"))
  hn : PySem.W.specialIn K (.builtin "object.__class__") "__get__" = some (some (.builtin "getset_descriptor.__get__"))
  htk : PySem.W.takesIn K (.builtin "object.__class__") = some true
  hm : PySem.W.mroIn K C (.type "object") = some true
  me : PySem.W.kitOne K (.ref C) (.ref C) = some true
theorem vc_isiC {C : Addr} {fs : List (Str × PyData)} {nm : Str} {p0 p1 : Pos} (T : IsiC X.K C) (hm : X.mg "isinstance" = none) (hT : X.mg nm = some (.ref C)) (h : VC X e env (.pin (insP X.K C fs))) (hg : Gl X "isinstance" := by rfl) (hgT : Gl X nm := by rfl) (hdb : (nm == ("__debug__" : Str)) = false := by decide)
    (hs : starEach [e, .Name nm p1] X.env = (false, eval e X.env) :: starEach [.Name nm p1] X.env := by rfl) (hs2 : starEach [.Name nm p1] X.env = (false, eval (.Name nm p1) X.env) :: starEach [] X.env := by rfl)
    (hpl : (backTo pos (starEach [.Name nm p1] X.env)).any (·.1) = false := by rfl) : VC X (.Call (.Name "isinstance" p0) [e, .Name nm p1] [] pos) env (.dat (.bool true)) := fun F H σ S s Q kq =>
  ⟨_, pe_callB call_isi hg hm (by decide +kernel) (pa_cons pwE (pa_cons (pe_glob hgT hT (v := .ref C) rfl hdb) pa_nil hs2) hs) (by decide) (by decide) hs hpl, h F H σ S s _ fun v F1 H1 Sv g hv _ => by
    obtain ⟨⟨q, dx, vs, rfl, h2, h3, h4⟩, _⟩ := hv
    exact ⟨.ref q, .ref C, .ref C, .ref C, true, rfl, .own C, .base (.ins (g.sub _ _ h2) T.cl T.ha T.hn T.htk T.hm), T.me, kq _ F1 H1 (fun _ => False) g ⟨.bl _, fun _ z => z⟩ fun _ z => z.elim⟩⟩
end
/-! ### the rules for methods -/
section
variable {P : Program} {w : World} {K : PySem.W.Frag} {mg : Str → Option Value} {base : Heap} {x qual : Str} {st : Stmt} {N ps : List Str} {k : Nat} {spec : Spec} {C : Addr}
structure Dm (K : PySem.W.Frag) (C : Addr) (m qual : Str) (st : Stmt) (ps : List Str) : Prop where
  ex : ∃ f fd, Fun K m qual st f fd ∧ Meth K C m f ∧ Binds K fd ps []
structure Di (K : PySem.W.Frag) (mg : Str → Option Value) (x : Str) (C : Addr) (qual : Str) (st : Stmt) (ps : List Str) : Prop where
  ex : ∃ f fd, Fun K "__init__" qual st f fd ∧ Mk K C f ∧ mg x = some (.ref C) ∧ Binds K fd ps []
theorem fnM {m : Str} (D : Dm K C m qual st ps) (Sc : FnScope N ps (defScope st)) (len : ∀ cs R RX, spec cs R RX → cs.length = ps.length)
    (hbody : ∀ (f : Addr) (cdv : Value) (A : Around) (outer : List Env) (s : Shared) (H : Hp) (E : XK) (X : Cx), X = cxOf (L2.CX P w) P w K mg base N qual (defScope st) f cdv A outer s H E → Room k X.A → Takes X (fun cls d _ H => E cls d H) → PassesOwn (model X.prog X.w) X.A X.env X.xe →
      ∀ (cs : List Ct) (R : Ct → List Ct → Prop) (RX : Xc → List Ct → Prop), spec cs R RX →
        WB X (fun cls d _ H => E cls d H) (defBody st) { nx := fun env' => ∃ cs', Back cs env' cs' ∧ R (.dat .none) cs', rt := fun c env' => ∃ cs', Back cs env' cs' ∧ R c cs', ex := fun x env' => ∃ cs', Back cs env' cs' ∧ RX x cs' } (cs.map some ++ List.replicate (N.length - ps.length) none)) :
    Fm P w K mg base C m (k + 1) spec := by
  obtain ⟨f, fd, F, hm, hb⟩ := D.ex
  exact ⟨f, fd, ps, okG F Sc len fun cdv A outer s H E X e hr tk hp cs R RX sp => hbody f cdv A outer s H E X e hr tk hp cs R RX sp, hm, hb⟩
theorem fnI (D : Di K mg x C qual st ps) (Sc : FnScope N ps (defScope st)) (len : ∀ cs R RX, spec cs R RX → cs.length = ps.length)
    (hbody : ∀ (f : Addr) (cdv : Value) (A : Around) (outer : List Env) (s : Shared) (H : Hp) (E : XK) (X : Cx), X = cxOf (L2.CX P w) P w K mg base N qual (defScope st) f cdv A outer s H E → Room k X.A → Takes X (fun cls d _ H => E cls d H) → PassesOwn (model X.prog X.w) X.A X.env X.xe →
      ∀ (cs : List Ct) (R : Ct → List Ct → Prop) (RX : Xc → List Ct → Prop), spec cs R RX →
        WB X (fun cls d _ H => E cls d H) (defBody st) { nx := fun env' => ∃ cs', Back cs env' cs' ∧ R (.dat .none) cs', rt := fun c env' => ∃ cs', Back cs env' cs' ∧ R c cs', ex := fun x env' => ∃ cs', Back cs env' cs' ∧ RX x cs' } (cs.map some ++ List.replicate (N.length - ps.length) none)) :
    Ini P w K mg base x C (k + 1) spec := by
  obtain ⟨f, fd, F, hM, hm, hb⟩ := D.ex
  exact ⟨f, fd, ps, okG F Sc len fun cdv A outer s H E X e hr tk hp cs R RX sp => hbody f cdv A outer s H E X e hr tk hp cs R RX sp, hM, hm, hb⟩
/-- the __init__ of an exception: self.f = f -/
theorem ok_exc {f : Str} {fI : Addr} {fd : FuncData} {a1 a2 a3 a4 : Pos} (F : Fun K "__init__" qual st fI fd) (Sc : FnScope [("self" : Str), f] [("self" : Str), f] (defScope st)) (T : OexC K C) (no : PySem.W.findIn K (.ref C) f = some none)
    (hbd : defBody st = [.Assign [.Attribute (.Name "self" a1) f a2] (.Name f a3) a4])
    (hps : ∀ X : Cx, X.K = K → X.N = [("self" : Str), f] → X.env.scope = defScope st → PSs X [.Assign [.Attribute (.Name "self" a1) f a2] (.Name f a3) a4] (tOst K f (tVar 0) (tVar 1))) : FnOk P w K mg base (L2.CX P w) 1 fI fd [("self" : Str), f] (spExc C f) := by
  refine F.okX Sc (fun vs H Q E h => ?_) fun cdv A outer s H vs Q E hr h => ?_
  · obtain ⟨a, v, rfl, _⟩ := h
    rfl
  · obtain ⟨a, v, rfl, ha, k⟩ := h
    rw [hbd]
    exact ⟨_, hps _ rfl rfl rfl, v, rfl, .ref a, rfl, a, C, rfl, T, no, .inl ⟨ha, fun dx hdx hne => k dx hdx hne⟩⟩
end
end G

set_option maxRecDepth 100000
set_option maxHeartbeats 4000000
/-! calls of methods; small things -/
namespace G
open PySem PySem.Spec PyProof.Rows L2
/-- a method call, what it may let out told at the slots -/
def tMethW (C : Addr) (m : Str) (sp : Sp) (E : L2.St → XK) (ta : TE) (t : TA) : TE := fun σ H Q => ta σ H fun x H1 => ∃ q dx vs, x = .ref q ∧ H1 q = some (.ins C dx vs) ∧ vs.lookup m = none ∧ t σ H1 fun us H2 => sp (x :: us) H2 Q (E σ)
theorem pe_methW {X : Cx} {CX : CXT} {k : Nat} {C g : Addr} {m : Str} {fd : FuncData} {ps : List Str} {sp : Sp} {E : L2.St → XK} {o e : Expr} {es : List Expr} {ta : TE} {t : TA} {apos pos : Pos} {pl : Sem Bool}
    (ho : PE X o ta) (cl : Cls X.K C) (hm : Meth X.K C m g) (ok : FnOk X.prog X.w X.K X.mg X.base CX k g fd ps sp) (rm : Room k X.A) (bd : Binds X.K fd ps []) (px : ∀ σ, PassesAt CX X σ (E σ)) (has : PA X (e :: es) t)
    (h1 : starEach (e :: es) X.env = (false, eval e X.env) :: starEach es X.env) (h2 : (backTo pos (starEach es X.env)).any (·.1) = false)
    (h3 : eval (.Call (.Attribute o m apos) (e :: es) [] pos) X.env = (do let ov ← eval o X.env; standAt apos.atName; let (f, first) ← holding [ov] (getMethod ov m pl); callWith pos f first (backTo pos (starEach (e :: es) X.env)) (backToKw pos (keywordEach [] X.env)))) :
    PE X (.Call (.Attribute o m apos) (e :: es) [] pos) (tMethW C m sp E ta t) :=
  ⟨fun pins s σ H Q I h => PySem.W.methodCall_KW (pl := pl) (thn (ho.run pins s σ H _ I h) fun u s1 z => by
    obtain ⟨x, H1, I1, rx, q, dx, vs, ex, eq, l, k⟩ := z
    subst ex
    have eu : u = Value.ref q := rx
    subst eu
    exact getmeth_ok I1 eq cl hm l (PySem.W.callWith_K (first := [.ref q]) (h₀ := X.base) I.ok.mod.kin hm.kp (thn (has.run pos pins s1 σ H1 _ I1 k) fun us s2 z2 => by
      obtain ⟨ws, H2, I2, r2, k2⟩ := z2
      exact ⟨I2.kIn, run_fnS (us := .ref q :: us) (vs := .ref q :: ws) ok rm bd (px σ) I2 (.cons rfl r2) k2⟩) h1 h2)) h3⟩
section
variable {X : Cx} {W : WX} {env : En} {D : DE} {c : Ct} {d d1 d2 : PyData} {e o a b : Expr} {es : List Expr} {pos p pos' apos : Pos} {x f m : Str} {k : Nat} {Q : Ct → En → Prop} {RX : Xc → En → Prop} {C : Addr} {fs : List (Str × PyData)} {spec : Spec} {cs : List Ct}
theorem call_pureX {K : PySem.W.Frag} {QV : VK} {F H : Hp} {vs : List L2.V} {E : XK} {PC : Ct → Prop} {PX : Xc → Prop} (s : Same F H) (h : Holds K F vs cs) (hs : spec cs (fun c' _ => PC c') (fun y _ => PX y))
    (kq : ∀ v F' H' Sv c', Grow F H F' H' → Hold K F' H' v Sv c' → (∀ a, Sv a → H a = none) → PC c' → QV v H') (kx : ∀ cls od F' H' y, Grow F H F' H' → XHold K F' H' (fun _ => False) cls od y → PX y → E cls od H') : spG K spec vs H QV E := by
  have nt : ∀ a, ¬ tot (fun _ _ => False : Foot) a := fun a ⟨_, z⟩ => z
  refine ⟨F, fun _ _ => False, cs, _, _, h.sit s, hs, fun v F' H' S' Sv c cs' p s' hv dj q => ?_, fun cls od F' H' S' y cs' p s' xh q => ?_⟩
  · exact kq v F' H' Sv c ⟨p.f, fun a o e => p.keep a o e (nt a), s'.sub, fun a o e => (p.new a o e).elim .inl fun z => .inr (z.elim id fun z => (nt a z).elim)⟩ hv (fun a z => (p.s a (.inr z)).elim (fun z => (nt a z).elim) id) q
  · exact kx cls od F' H' y ⟨p.f, fun a o e => p.keep a o e (nt a), s'.sub, fun a o e => (p.new a o e).elim .inl fun z => .inr (z.elim id fun z => (nt a z).elim)⟩ xh q
theorem paired_none {K : PySem.W.Frag} {F : Hp} {m : Str} : ∀ {vs : List (Str × L2.V)} {fs : List (Str × PyData)}, Paired (fun (a : Str × L2.V) (b : Str × PyData) => a.1 = b.1 ∧ Dp K F a.2 b.2) vs fs → fs.lookup m = none → vs.lookup m = none
  | _, _, .nil, _ => rfl
  | (x, y) :: vs, (x', y') :: fs, .cons h hs, e => by
    have : x = x' := h.1
    subst this
    rw [List.lookup_cons] at e ⊢
    cases q : m == x with
    | true => rw [q] at e; cases e
    | false => rw [q] at e; exact paired_none hs e
/-- o.m(e, ..), o a lasting instance, the rest known -/
theorem ec_meth (hF : Fm X.prog X.w X.K X.mg X.base C m k spec) (hr : Room k X.A) (tk : Takes X W) (cl : Cls X.K C) (ho : VC X o env (.pin (insP X.K C fs))) (hl : fs.lookup m = none) (ha : AC X (e :: es) env cs)
    (hs : spec (.pin (insP X.K C fs) :: cs) (fun c' _ => Q c' env) (fun y _ => RX y env)) {pl : Sem Bool}
    (h1 : starEach (e :: es) X.env = (false, eval e X.env) :: starEach es X.env := by rfl) (h2 : (backTo pos (starEach es X.env)).any (·.1) = false := by rfl)
    (h3 : eval (.Call (.Attribute o m apos) (e :: es) [] pos) X.env = (do let ov ← eval o X.env; standAt apos.atName; let (f, first) ← holding [ov] (getMethod ov m pl); callWith pos f first (backTo pos (starEach (e :: es) X.env)) (backToKw pos (keywordEach [] X.env))) := by rfl) :
    EC X W (.Call (.Attribute o m apos) (e :: es) [] pos) Q RX env := fun F H σ S s QV kq kx => by
  obtain ⟨g, fd, ps, ok, hm, hb⟩ := hF.ex
  refine ⟨_, pe_methW (E := WE W) (pl := pl) pwE cl hm ok hr hb (fun σ => passAt tk σ) pwA h1 h2 h3, ho F H σ S s _ fun v F1 H1 Sv g1 hv _ => ?_⟩
  obtain ⟨⟨q, dx, vs, rfl, a2, a3, a4⟩, _⟩ := hv
  refine ⟨q, dx, vs, rfl, g1.sub _ _ a2, paired_none a4 hl, ha F1 H1 σ S (s.grow g1) _ fun us F2 H2 g2 hus => ?_⟩
  have s2 := (s.grow g1).grow g2
  refine call_pureX (PC := fun c => Q c env) (PX := fun y => RX y env) g2.sub (.pin (P := insP X.K C fs) ((insP X.K C fs).mono g2.f ⟨q, dx, vs, rfl, a2, a3, a4⟩) hus) hs (fun v F' H' Sv c' g' hv fr qc => ?_) fun cls od F' H' y g' xh r => ?_
  · have gg := (g1.trans g2).trans g'
    refine kq v F' H' S Sv c' env ⟨gg.f, fun a o e _ => gg.h a o e, fun a o e => (gg.new a o e).elim .inl fun z => .inr (.inl z), fun a z => z.elim .inl fun z => .inr ((g1.trans g2).h.free (fr a z))⟩ (s.grow gg) hv (fun i a z y => ?_) qc
    obtain ⟨_, o, ho⟩ := s2.no z
    rw [fr a y] at ho
    cases ho
  · have gg := (g1.trans g2).trans g'
    exact kx cls od F' H' S y env gg.prog (s.grow gg) ⟨xh.1, xh.2⟩ r
theorem vc_meth (hF : Fm X.prog X.w X.K X.mg X.base C m k spec) (hr : Room k X.A) (cl : Cls X.K C) (ho : VC X o env (.pin (insP X.K C fs))) (hl : fs.lookup m = none) (ha : AC X (e :: es) env cs)
    (hs : spec (.pin (insP X.K C fs) :: cs) (fun c' _ => c' = c) (fun _ _ => False)) {pl : Sem Bool}
    (h1 : starEach (e :: es) X.env = (false, eval e X.env) :: starEach es X.env := by rfl) (h2 : (backTo pos (starEach es X.env)).any (·.1) = false := by rfl)
    (h3 : eval (.Call (.Attribute o m apos) (e :: es) [] pos) X.env = (do let ov ← eval o X.env; standAt apos.atName; let (f, first) ← holding [ov] (getMethod ov m pl); callWith pos f first (backTo pos (starEach (e :: es) X.env)) (backToKw pos (keywordEach [] X.env))) := by rfl) :
    VC X (.Call (.Attribute o m apos) (e :: es) [] pos) env c := fun F H σ S s QV kq => by
  obtain ⟨g, fd, ps, ok, hm, hb⟩ := hF.ex
  refine ⟨_, pe_methW (E := WE fun _ _ _ _ => False) (pl := pl) pwE cl hm ok hr hb (fun σ => passAt takes0 σ) pwA h1 h2 h3, ho F H σ S s _ fun v F1 H1 Sv g1 hv _ => ?_⟩
  obtain ⟨⟨q, dx, vs, rfl, a2, a3, a4⟩, _⟩ := hv
  refine ⟨q, dx, vs, rfl, g1.sub _ _ a2, paired_none a4 hl, ha F1 H1 σ S (s.grow g1) _ fun us F2 H2 g2 hus => ?_⟩
  exact call_pure g2.sub (.pin (P := insP X.K C fs) ((insP X.K C fs).mono g2.f ⟨q, dx, vs, rfl, a2, a3, a4⟩) hus) hs fun v F' H' Sv c' g' hv fr e => by
    subst e
    exact kq v F' H' Sv ((g1.trans g2).trans g') hv fun z y => (g1.trans g2).h.free (fr z y)
/-- f(), pure -/
theorem vc_call0 (hF : Fn X.prog X.w X.K X.mg X.base x k spec) (hr : Room k X.A) (hs : spec [] (fun c' _ => c' = c) (fun _ _ => False)) (hg : Gl X x := by rfl) (hdb : (x == ("__debug__" : Str)) = false := by decide) : VC X (.Call (.Name x p) [] [] pos) env c := fun F H σ S s Q kq => by
  obtain ⟨f, fd, ps, ok, hm, hk, hb⟩ := hF.ex
  exact ⟨_, pe_call0 ok hr hg hm hk hb .nil passL hdb, call_pure s.sub .nil hs fun v F' H' Sv c' g' hv fr e => by
    subst e
    exact kq v F' H' Sv g' hv fr⟩
/-- e is None, e an instance -/
theorem tc_isPin {j : Nat} {p2 : Pos} (h : VC X e env (.pin (insP X.K C fs))) : TC X (.Compare e [.Is] [.Constant .none j p2] pos) env false := fun F H σ S s Q k =>
  ⟨_, pt_cmpR op_isN pwE pwE (by first | exact nomark _ | rfl), h F H σ S s _ fun v F1 H1 Sv g hv _ => by
    obtain ⟨⟨q, dx, vs, rfl, _⟩, _⟩ := hv
    refine (vc_non (env := env)) F1 H1 σ S (s.grow g) _ fun w F2 H2 _ g2 hw _ => ?_
    have e := hw.1
    cases e
    exact ⟨rfl, false, rfl, k F2 H2 (g.trans g2)⟩⟩
theorem eqv_self {d : PyData} (h : SeqAt.shaped d = true) : PyData.eqv d d = true := PySem.SeqAt.eqv_refl d (SeqAt.canLay_of_shaped h)
end
end G

set_option maxRecDepth 100000
set_option maxHeartbeats 4000000
/-! the mirror of steps.py: standings, rules, deeds -/
namespace M
open PySem
inductive S3 where
  | live | gone | cleared
  deriving DecidableEq, Repr
def S3.str : S3 → Str
  | .live => "live"
  | .gone => "gone"
  | .cleared => "cleared"
inductive Tk where
  | non | self | num (n : Nat)
  deriving DecidableEq, Repr
def Tk.d : Tk → PyData
  | .non => .none
  | .self => .str "self"
  | .num n => .int (n : Int)
abbrev Ow := Str × S3
abbrev Th := Nat × S3 × Tk
structure Std where
  os : List Ow
  ts : List Th
  deriving DecidableEq
def oD (o : Ow) : PyData := .tuple [.str o.1, .str o.2.str]
def tD (t : Th) : PyData := .tuple [.int (t.1 : Int), .str t.2.1.str, t.2.2.d]
def Std.d (s : Std) : PyData := .tuple [.tuple (s.os.map oD), .tuple (s.ts.map tD)]
structure Std.Ok (s : Std) : Prop where
  key : ∀ o ∈ s.os, PyData.strOk o.1 = true
  own : ∀ t ∈ s.ts, t.1 < s.os.length
  ol : s.os.length ≤ 1000
  tl : s.ts.length ≤ 1000
inductive Mk where
  | alone | along | barred
  deriving DecidableEq, Repr
def Mk.str : Mk → Str
  | .alone => "alone"
  | .along => "along"
  | .barred => "barred"
inductive Bk where
  | none | same | all
  deriving DecidableEq, Repr
def Bk.str : Bk → Str
  | .none => "none"
  | .same => "same"
  | .all => "all"
inductive Cl where
  | plain | along | kept
  deriving DecidableEq, Repr
def Cl.str : Cl → Str
  | .plain => "plain"
  | .along => "along"
  | .kept => "kept"
structure Rl where
  hold : Bool   -- "all"
  link : Bool   -- "any"
  mark : Mk
  check : Bool
  back : Bk
  whole : Bool
  clear : Cl
  count : Bool  -- "all"
  join : Bool   -- "own"
  deriving DecidableEq
def bstr (b : Bool) (x y : Str) : Str := if b then x else y
/-- the attributes, in the order in which they are stored -/
def Rl.fs (r : Rl) : List (Str × PyData) := [("holding", .str (bstr r.hold "all" "live")), ("links", .str (bstr r.link "any" "live")), ("marking", .str r.mark.str), ("check", .bool r.check), ("back", .str r.back.str), ("whole", .bool r.whole),
  ("clearing", .str r.clear.str), ("counting", .str (bstr r.count "all" "live")), ("joining", .str (bstr r.join "own" "both"))]
inductive Deed where
  | own (k : Str) | put (o : Nat) | move (t o : Nat) | mark (o : Nat) | take (t : Nat) | fetch (o : Nat) | raise (t : Nat) | clear
  deriving DecidableEq
def Deed.d : Deed → PyData
  | .own k => .tuple [.str "own", .str k]
  | .put o => .tuple [.str "put", .int (o : Int)]
  | .move t o => .tuple [.str "move", .int (t : Int), .int (o : Int)]
  | .mark o => .tuple [.str "mark", .int (o : Int)]
  | .take t => .tuple [.str "take", .int (t : Int)]
  | .fetch o => .tuple [.str "fetch", .int (o : Int)]
  | .raise t => .tuple [.str "raise", .int (t : Int)]
  | .clear => .tuple [.str "clear"]
/-! ### what a deed does -/
def oSt (s : Std) (n : Nat) : Option S3 := s.os[n]?.map (·.2)
def tSt (s : Std) (n : Nat) : Option S3 := s.ts[n]?.map (·.2.1)
def hasLive (os : List Ow) (key : Str) : Bool := os.any fun o => decide (o = (key, .live))
def mayOwn (r : Rl) (os : List Ow) (key : Str) : Bool := !hasLive os key && (!r.hold || !(os.any fun o => decide (o = (key, .gone))))
def mayHave (r : Rl) (os : List Ow) (n : Nat) : Bool := decide (os[n]?.map (·.2) = some .live) || (r.link && decide (os[n]?.map (·.2) = some .gone))
def keyAt (s : Std) (n : Nat) : Str := (s.os.getD n ("", .live)).1
def ownAt (s : Std) (n : Nat) : Nat := (s.ts.getD n (0, .live, .non)).1
def marked (r : Rl) (s : Std) (n : Nat) : Option Std :=
  if oSt s n ≠ some .live then none
  else if r.mark = .barred ∧ (s.ts.any fun t => decide (t.1 = n) && decide (t.2.1 = .live)) = true then none
  else some ⟨s.os.set n (keyAt s n, .gone), if r.mark = .along then s.ts.map fun t => if t.1 = n ∧ t.2.1 = .live then (n, .gone, .num n) else t else s.ts⟩
def fetched (r : Rl) (s : Std) (n : Nat) : Option Std :=
  if oSt s n ≠ some .gone ∨ (r.check = true ∧ hasLive s.os (keyAt s n) = true) then none
  else some ⟨s.os.set n (keyAt s n, .live), s.ts.map fun t => if t.1 = n ∧ t.2.1 = .gone ∧ (r.back = .all ∨ (r.back = .same ∧ t.2.2 = .num n)) then (t.1, .live, .non) else t⟩
def raised (r : Rl) (s : Std) (n : Nat) : Option Std :=
  if tSt s n ≠ some .gone then none
  else if r.whole = true ∧ oSt s (ownAt s n) ≠ some .live then none
  else some ⟨s.os, s.ts.set n (ownAt s n, .live, .non)⟩
def cleared (r : Rl) (s : Std) : Std :=
  let ts := s.ts.map fun t => if t.2.1 = .gone then (t.1, .cleared, .non) else t
  let os := s.os.zipIdx.map fun p => if (decide (p.1.2 = .gone) && !(decide (r.clear = .kept) && (ts.any fun t => decide (t.1 = p.2) && decide (t.2.1 = .live)))) = true then (p.1.1, .cleared) else p.1
  ⟨os, if r.clear = .along then ts.map fun t => if oSt s t.1 = some .gone then (t.1, .cleared, .non) else t else ts⟩
def behind (r : Rl) (s : Std) : Deed → Option Std
  | .own k => if mayOwn r s.os k then some ⟨s.os ++ [(k, .live)], s.ts⟩ else none
  | .put o => if mayHave r s.os o then some ⟨s.os, s.ts ++ [(o, .live, .non)]⟩ else none
  | .move t o => if tSt s t ≠ some .live ∨ ownAt s t = o ∨ mayHave r s.os o = false then none else some ⟨s.os, s.ts.set t (o, .live, .non)⟩
  | .mark o => marked r s o
  | .take t => if tSt s t ≠ some .live then none else some ⟨s.os, s.ts.set t (ownAt s t, .gone, .self)⟩
  | .fetch o => fetched r s o
  | .raise t => raised r s t
  | .clear => some (cleared r s)
def step (r : Rl) (s : Std) (d : Deed) : Bool × Std := match behind r s d with
  | none => (false, s)
  | some s' => (true, s')
def wordD (b : Bool) : Str := if b then "done" else "refused"
def counted (r : Rl) (s : Std) (o : Nat) : Nat := (s.ts.filter fun t => decide (t.1 = o) && (decide (t.2.1 = .live) || (r.count && decide (t.2.1 = .gone)))).length
def shown (r : Rl) (s : Std) : List Nat := (s.ts.zipIdx.filter fun p => decide (p.1.2.1 = .live) && (r.join || decide (oSt s p.1.1 = some .live))).map (·.2)
/-! ### equality of data -/
open G
theorem S3.ok (a : S3) : PyData.strOk a.str = true := by cases a <;> decide +kernel
theorem S3.eqv (a b : S3) : PyData.eqv (.str a.str) (.str b.str) = decide (a = b) := by
  rw [eqv_str]
  cases a <;> cases b <;> decide +kernel
theorem sh_st (a : S3) : SeqAt.shaped (.str a.str) = true := (shaped_str (S3.ok a)).1
theorem oD_shaped {k : Str} (h : PyData.strOk k = true) (x : S3) : SeqAt.shaped (.tuple [.str k, .str x.str]) = true := sh2 (shaped_str h) (shaped_str (S3.ok x))
theorem oD_eqv (o : Ow) (k : Str) (x : S3) : PyData.eqv (oD o) (.tuple [.str k, .str x.str]) = decide (o = (k, x)) := by
  unfold oD
  rw [eqv_tup2, eqv_str, S3.eqv, Bool.eq_iff_iff]
  obtain ⟨a, b⟩ := o
  simp
theorem Rl.look_holding (r : Rl) : r.fs.lookup (Str.ofString "holding") = some (.str (bstr r.hold "all" "live")) := by rfl
theorem Rl.look_links (r : Rl) : r.fs.lookup (Str.ofString "links") = some (.str (bstr r.link "any" "live")) := by rfl
theorem Rl.look_marking (r : Rl) : r.fs.lookup (Str.ofString "marking") = some (.str r.mark.str) := by rfl
theorem Rl.look_check (r : Rl) : r.fs.lookup (Str.ofString "check") = some (.bool r.check) := by rfl
theorem Rl.look_back (r : Rl) : r.fs.lookup (Str.ofString "back") = some (.str r.back.str) := by rfl
theorem Rl.look_whole (r : Rl) : r.fs.lookup (Str.ofString "whole") = some (.bool r.whole) := by rfl
theorem Rl.look_clearing (r : Rl) : r.fs.lookup (Str.ofString "clearing") = some (.str r.clear.str) := by rfl
theorem Rl.look_counting (r : Rl) : r.fs.lookup (Str.ofString "counting") = some (.str (bstr r.count "all" "live")) := by rfl
theorem Rl.look_joining (r : Rl) : r.fs.lookup (Str.ofString "joining") = some (.str (bstr r.join "own" "both")) := by rfl
end M

set_option maxRecDepth 100000
set_option maxHeartbeats 4000000
/-! the mirror of rules.py -/
namespace M
open PySem G
def partsL : List Str := ["holding", "links", "marking", "check", "back", "whole", "clearing", "counting", "joining"]
def valsL : List (List PyData) := [[.str "all", .str "live"], [.str "any", .str "live"], [.str "alone", .str "along", .str "barred"], [.bool true, .bool false], [.str "none", .str "same", .str "all"], [.bool true, .bool false],
  [.str "plain", .str "along", .str "kept"], [.str "all", .str "live"], [.str "own", .str "both"]]
def partsD : PyData := .tuple (partsL.map .str)
def valsD : PyData := .tuple (valsL.map .tuple)
def isB : PyData → Bool
  | .bool _ => true
  | _ => false
def isS : PyData → Bool
  | .str _ => true
  | _ => false
def isVal (some : List PyData) (d : PyData) : Bool := if isB (some.headD .none) then isB d else isS d && some.any fun z => PyData.eqv z d
abbrev Row9 := Str × PyData × List PyData
def rowD (p : Row9) : PyData := .tuple [.str p.1, p.2.1, .tuple p.2.2]
def rows9 (ps : List PyData) : List Row9 := partsL.zip (ps.zip valsL)
def badOf (L : List Row9) : Option Str := (L.find? fun p => !isVal p.2.2 p.2.1).map (·.1)
def fs9 (ps : List PyData) : List (Str × PyData) := partsL.zip ps
theorem badOf_step {L : List Row9} {i : Nat} {p : Row9} (h : L[i]? = some p) : badOf (L.drop i) = if isVal p.2.2 p.2.1 then badOf (L.drop (i + 1)) else some p.1 := by
  obtain ⟨hi, e⟩ := List.getElem?_eq_some_iff.mp h
  subst e
  rw [List.drop_eq_getElem_cons hi]
  unfold badOf
  rw [List.find?_cons]
  cases q : isVal L[i].2.2 L[i].2.1 <;> simp
theorem kit_bool (d : PyData) : L2.kitB (tyD d) "bool" = some (isB d) := by cases d <;> simp only [tyD, isB, isS] <;> decide +kernel
theorem kit_str (d : PyData) : L2.kitB (tyD d) "str" = some (isS d) := by cases d <;> simp only [tyD, isB, isS] <;> decide +kernel
theorem vals_flat : ∀ ss ∈ valsL, ss.all flatD = true := by decide
theorem vals_ne : ∀ ss ∈ valsL, ss ≠ [] := by decide
theorem Rl.fs_look (r : Rl) : r.fs = fs9 (r.fs.map (·.2)) := rfl
end M

set_option maxRecDepth 100000
namespace Pg
open PySem L2
def top (i : Nat) : Stmt := PySem.Challenge.pw_markedgone_k01_rules_refused.main.body.getD i (.Pass ⟨0, 0, 0, 0⟩)
abbrev s_BadRule_init : Stmt := inClass (top 2) 0
abbrev n_BadRule_init : List Str := ["self", "part"]
abbrev p_BadRule_init : List Str := ["self", "part"]
theorem sc_BadRule_init : FnScope n_BadRule_init p_BadRule_init (defScope s_BadRule_init) := ⟨rfl, rfl, rfl, by decide +kernel, rfl, by decide +kernel, by decide +kernel⟩
abbrev s_is_value : Stmt := top 6
abbrev n_is_value : List Str := ["value", "some"]
abbrev p_is_value : List Str := ["value", "some"]
theorem sc_is_value : FnScope n_is_value p_is_value (defScope s_is_value) := ⟨rfl, rfl, rfl, by decide +kernel, rfl, by decide +kernel, by decide +kernel⟩
abbrev s_Rule_init : Stmt := inClass (top 7) 0
abbrev n_Rule_init : List Str := ["self", "holding", "links", "marking", "check", "back", "whole", "clearing", "counting", "joining", "row", "part", "value", "some"]
abbrev p_Rule_init : List Str := ["self", "holding", "links", "marking", "check", "back", "whole", "clearing", "counting", "joining"]
theorem sc_Rule_init : FnScope n_Rule_init p_Rule_init (defScope s_Rule_init) := ⟨rfl, rfl, rfl, by decide +kernel, rfl, by decide +kernel, by decide +kernel⟩
abbrev s_Rule_parts : Stmt := inClass (top 7) 1
abbrev n_Rule_parts : List Str := ["self", "first"]
abbrev p_Rule_parts : List Str := ["self"]
theorem sc_Rule_parts : FnScope n_Rule_parts p_Rule_parts (defScope s_Rule_parts) := ⟨rfl, rfl, rfl, by decide +kernel, rfl, by decide +kernel, by decide +kernel⟩
abbrev s_Rule_eq : Stmt := inClass (top 7) 2
abbrev n_Rule_eq : List Str := ["self", "other"]
abbrev p_Rule_eq : List Str := ["self", "other"]
theorem sc_Rule_eq : FnScope n_Rule_eq p_Rule_eq (defScope s_Rule_eq) := ⟨rfl, rfl, rfl, by decide +kernel, rfl, by decide +kernel, by decide +kernel⟩
abbrev s_Rule_turned : Stmt := inClass (top 7) 3
abbrev n_Rule_turned : List Str := ["self", "part", "value", "row", "one", "before"]
abbrev p_Rule_turned : List Str := ["self", "part", "value"]
theorem sc_Rule_turned : FnScope n_Rule_turned p_Rule_turned (defScope s_Rule_turned) := ⟨rfl, rfl, rfl, by decide +kernel, rfl, by decide +kernel, by decide +kernel⟩
abbrev s_rule_of : Stmt := top 8
abbrev n_rule_of : List Str := ["row"]
abbrev p_rule_of : List Str := ["row"]
theorem sc_rule_of : FnScope n_rule_of p_rule_of (defScope s_rule_of) := ⟨rfl, rfl, rfl, by decide +kernel, rfl, by decide +kernel, by decide +kernel⟩
abbrev s__law_begin : Stmt := top 10
abbrev n__law_begin : List Str := ["_law_script"]
abbrev p__law_begin : List Str := ["_law_script"]
theorem sc__law_begin : FnScope n__law_begin p__law_begin (defScope s__law_begin) := ⟨rfl, rfl, rfl, by decide +kernel, rfl, by decide +kernel, by decide +kernel⟩
abbrev s__law_draw : Stmt := top 11
abbrev n__law_draw : List Str := ["_law_draws", "_law_size", "_law_cell", "_law_found"]
abbrev p__law_draw : List Str := ["_law_draws", "_law_size"]
theorem sc__law_draw : FnScope n__law_draw p__law_draw (defScope s__law_draw) := ⟨rfl, rfl, rfl, by decide +kernel, rfl, by decide +kernel, by decide +kernel⟩
abbrev s__law_values : Stmt := top 12
abbrev n__law_values : List Str := ["_law_whole"]
abbrev p__law_values : List Str := []
theorem sc__law_values : FnScope n__law_values p__law_values (defScope s__law_values) := ⟨rfl, rfl, rfl, by decide +kernel, rfl, by decide +kernel, by decide +kernel⟩
abbrev s__law_names : Stmt := top 13
abbrev n__law_names : List Str := ["_law_first"]
abbrev p__law_names : List Str := []
theorem sc__law_names : FnScope n__law_names p__law_names (defScope s__law_names) := ⟨rfl, rfl, rfl, by decide +kernel, rfl, by decide +kernel, by decide +kernel⟩
abbrev s__law_parts : Stmt := top 14
abbrev n__law_parts : List Str := ["_law_draws", "_law_some"]
abbrev p__law_parts : List Str := ["_law_draws"]
theorem sc__law_parts : FnScope n__law_parts p__law_parts (defScope s__law_parts) := ⟨rfl, rfl, rfl, by decide +kernel, rfl, by decide +kernel, by decide +kernel⟩
abbrev s__law_rule : Stmt := top 15
abbrev n__law_rule : List Str := ["_law_parts_here"]
abbrev p__law_rule : List Str := ["_law_parts_here"]
theorem sc__law_rule : FnScope n__law_rule p__law_rule (defScope s__law_rule) := ⟨rfl, rfl, rfl, by decide +kernel, rfl, by decide +kernel, by decide +kernel⟩
abbrev s__law_due : Stmt := top 16
abbrev n__law_due : List Str := ["_law_parts_here", "_law_k", "_law_some", "_law_value"]
abbrev p__law_due : List Str := ["_law_parts_here"]
theorem sc__law_due : FnScope n__law_due p__law_due (defScope s__law_due) := ⟨rfl, rfl, rfl, by decide +kernel, rfl, by decide +kernel, by decide +kernel⟩
abbrev s_law : Stmt := top 17
abbrev n_law : List Str := ["_law_script", "_law_draws", "_law_parts_here", "_law_k", "_law_odd", "_law_told", "_law_rule_here", "e", "_law_other", "_law_at", "_law_turned", "_law_due_here", "_law_fields", "_law_refused", "_law_some"]
abbrev p_law : List Str := ["_law_script"]
theorem sc_law : FnScope n_law p_law (defScope s_law) := ⟨rfl, rfl, rfl, by decide +kernel, rfl, by decide +kernel, by decide +kernel⟩
end Pg

set_option maxRecDepth 100000
set_option maxHeartbeats 4000000
/-! rules.py, walked -/
namespace Pg
open PySem L2 G M
/-- a module's constant -/
def GlobD (K : PySem.W.Frag) (mg : Str → Option Value) (x : Str) (d : PyData) : Prop := ∃ v u, mg x = some u ∧ RelV v u ∧ ∀ F, Dp K F v d
section
variable {P : Program} {w : World} {K : PySem.W.Frag} {mg : Str → Option Value} {base : Heap} {C CB : Addr}
def sp_is_value : G.Spec := fun cs R _ => ∃ (d s0 : PyData) (ss : List PyData), cs = [.dat d, .dat (.tuple (s0 :: ss))] ∧ (s0 :: ss).all flatD = true ∧ R (.dat (.bool (isVal (s0 :: ss) d))) cs
theorem isS_flat {d : PyData} (h : isS d = true) : flatD d = true := by cases d <;> simp [isS] at h <;> rfl
theorem fn_is_value (B : Bi mg) (D : Df K mg "is_value" s_is_value p_is_value) : Fn P w K mg base "is_value" 1 sp_is_value := by
  refine fnG D sc_is_value (fun cs R RX h => ?_) (fun f cdv A outer s H E X eX hr tk hp cs R RX h => ?_)
  · obtain ⟨_, _, _, rfl, _⟩ := h
    rfl
  · subst eX
    obtain ⟨d, s0, ss, rfl, hf, k⟩ := h
    have h0 : atI (s0 :: ss) 0 = some s0 := atI_nat (j := 0) rfl
    refine wb_cons (ws_ifP (b' := isB s0) (tc_val (vc_isi B.isinstance B.bool (vc_ixT (ds := s0 :: ss) (i := 0) (vc_dat 1) vc_int h0) (kit_bool _))) (fun hb => ?_) fun hb => wb_nil ?_)
    · refine wb_cons (ws_ret (.pure (vc_isi B.isinstance B.bool (vc_dat 0) (kit_bool _)) ⟨_, .dat (.dat .nil), ?_⟩))
      have e : isVal (s0 :: ss) d = isB d := by unfold isVal; rw [show (s0 :: ss).headD .none = s0 from rfl, hb]; rfl
      rw [e] at k
      exact k
    · have e : isVal (s0 :: ss) d = (isS d && (s0 :: ss).any fun z => PyData.eqv z d) := by unfold isVal; rw [show (s0 :: ss).headD .none = s0 from rfl, hb]; rfl
      rw [e] at k
      exact wb_cons (ws_ret (.pure (vc_andB (b2 := (s0 :: ss).any fun z => PyData.eqv z d) (vc_isi B.isinstance B.str (vc_dat 0) (kit_str _)) fun h => vc_one (vc_cmp op_in_seq (od_in (neg := false) (Or.inr rfl) (isS_flat h) hf) (vc_dat 0) (vc_dat 1))) ⟨_, .dat (.dat .nil), k⟩))
/-- the class Rule for its making -/
structure RuleK (P : Program) (w : World) (K : PySem.W.Frag) (mg : Str → Option Value) (base : Heap) (C CB : Addr) : Prop where
  cl : Cls K C
  na : ∀ x ∈ partsL, NoAttr K C x
  bad : Exk P w K mg base "BadRule" CB "part"
  parts : GlobD K mg "PARTS" partsD
  values : GlobD K mg "VALUES" valsD
def sp_rule_init (K : PySem.W.Frag) (C CB : Addr) : G.Spec := fun cs R RX => ∃ (v : L2.V) (ps : List PyData), ps.length = 9 ∧ cs = .own v (oins K C []) :: ps.map .dat ∧
  (badOf (rows9 ps) = none → R (.dat .none) (.own v (oins K C (fs9 ps)) :: ps.map .dat)) ∧ (∀ x, badOf (rows9 ps) = some x → RX ⟨CB, some ("part", .str x)⟩ (.own v (oins K C []) :: ps.map .dat))
theorem nine {ps : List PyData} (h : ps.length = 9) : ∃ a b c d e f g i j, ps = [a, b, c, d, e, f, g, i, j] := by
  match ps, h with
  | [a, b, c, d, e, f, g, i, j], _ => exact ⟨a, b, c, d, e, f, g, i, j, rfl⟩
theorem row9_in {ps : List PyData} {i : Nat} {p : Row9} (h : (rows9 ps)[i]? = some p) : p.2.2 ∈ valsL := by
  have := List.mem_of_getElem? h
  unfold rows9 at this
  exact (List.of_mem_zip (List.of_mem_zip this).2).2
theorem ini_rule (B : Bi mg) (T : RuleK P w K mg base C CB) (D : Di K mg "Rule" C "Rule.__init__" s_Rule_init p_Rule_init) (IV : Fn P w K mg base "is_value" 1 sp_is_value) : Ini P w K mg base "Rule" C 3 (sp_rule_init K C CB) := by
  have nd := sc_Rule_init.nd
  obtain ⟨vp, up, mp, rp, dp⟩ := T.parts
  obtain ⟨vv, uv, mv, rv, dv⟩ := T.values
  refine fnI D sc_Rule_init (fun cs R RX h => ?_) (fun f cdv A outer s H E X eX hr tk hp cs R RX h => ?_)
  · obtain ⟨v, ps, hl, rfl, _⟩ := h
    simp [hl]
  · subst eX
    obtain ⟨v, ps, hl, rfl, k1, k2⟩ := h
    obtain ⟨a, b, c, d, e, f, g, i, j, rfl⟩ := nine hl
    have na := T.na
    refine wb_cons (ws_set 10 (.pure (vc_tup (ds := [a, b, c, d, e, f, g, i, j]) (dc_cons (vc_dat 1) (dc_cons (vc_dat 2) (dc_cons (vc_dat 3) (dc_cons (vc_dat 4) (dc_cons (vc_dat 5) (dc_cons (vc_dat 6) (dc_cons (vc_dat 7) (dc_cons (vc_dat 8) (dc_cons (vc_dat 9) dc_nil)))))))))) ?_) nd)
    let L := rows9 [a, b, c, d, e, f, g, i, j]
    refine wb_cons (ws_for (items := L.map rowD) hp rfl (vi_z3 (ds1 := partsL.map .str) (ds2 := [a, b, c, d, e, f, g, i, j]) (ds3 := valsL.map .tuple) B.zip (vc_glob mp rp dp) (vc_dat 10) (vc_glob mv rv dv) (Or.inr rfl) (Or.inr rfl) (Or.inr rfl))
      (fun n env1 => badOf (L.drop n) = badOf L ∧ ∃ x y z, env1 = [some (.own v (oins K C [])), some (.dat a), some (.dat b), some (.dat c), some (.dat d), some (.dat e), some (.dat f), some (.dat g), some (.dat i), some (.dat j), some (.dat (.tuple [a, b, c, d, e, f, g, i, j])), x, y, z])
      ⟨rfl, _, _, _, rfl⟩ ?_ ?_)
    · rintro n it hn env1 ⟨hb, x, y, z, rfl⟩
      rw [List.getElem?_map] at hn
      cases q : L[n]? with
      | none => rw [q] at hn; cases hn
      | some p =>
        rw [q] at hn
        cases hn
        have hin := row9_in q
        obtain ⟨nm, pv, some⟩ := p
        have hne := vals_ne _ hin
        have hfl := vals_flat _ hin
        cases some with
        | nil => exact absurd rfl hne
        | cons s0 ss =>
          have st := badOf_step q
          refine ⟨_, _, gc_tup rfl (gcs_cons (gc_name 11 nd) (gcs_cons (gc_name 12 nd) (gcs_cons (gc_name 13 nd) gcs_nil))), ?_⟩
          refine wb_cons (ws_ifP (b' := !isVal (s0 :: ss) pv) (tc_not (tc_val (vc_call IV (hr.mono (by decide)) (ac_cons (vc_dat 12) (ac_cons (vc_dat 13) ac_nil)) ⟨pv, s0, ss, rfl, hfl, rfl⟩))) (fun hbd => ?_) fun hbd => wb_nil (wb_nil ?_))
          · have hv : isVal (s0 :: ss) pv = false := by simpa using hbd
            rw [hv] at st
            refine wb_cons (ws_raise T.bad hr tk (vc_dat 11) ⟨_, .own (.dat (.dat (.dat (.dat (.dat (.dat (.dat (.dat (.dat .nil))))))))), k2 nm ?_⟩)
            rw [← hb]
            exact st
          · have hv : isVal (s0 :: ss) pv = true := by simpa using hbd
            rw [hv] at st
            exact ⟨st.symm.trans hb, _, _, _, rfl⟩
    · rintro env1 ⟨hb, x, y, z, rfl⟩
      have e0 : badOf L = none := by rw [← hb]; rfl
      have sep : ∀ {x : Str} {l : List Str}, x ∉ l → ∀ g ∈ l, g ≠ x := fun h g hg e => h (e ▸ hg)
      refine wb_cons (ws_fld (fs := []) 0 (vc_dat 1) ?_ T.cl (na _ (by decide +kernel)) (by intro g hg; cases hg) (by decide))
      refine wb_cons (ws_fld (fs := [("holding", a)]) 0 (vc_dat 2) ?_ T.cl (na _ (by decide +kernel)) (sep (l := ["holding"]) (by decide +kernel)) (by decide : 1 < 1000))
      refine wb_cons (ws_fld (fs := [("holding", a), ("links", b)]) 0 (vc_dat 3) ?_ T.cl (na _ (by decide +kernel)) (sep (l := ["holding", "links"]) (by decide +kernel)) (by decide : 2 < 1000))
      refine wb_cons (ws_fld (fs := [("holding", a), ("links", b), ("marking", c)]) 0 (vc_dat 4) ?_ T.cl (na _ (by decide +kernel)) (sep (l := ["holding", "links", "marking"]) (by decide +kernel)) (by decide : 3 < 1000))
      refine wb_cons (ws_fld (fs := [("holding", a), ("links", b), ("marking", c), ("check", d)]) 0 (vc_dat 5) ?_ T.cl (na _ (by decide +kernel)) (sep (l := ["holding", "links", "marking", "check"]) (by decide +kernel)) (by decide : 4 < 1000))
      refine wb_cons (ws_fld (fs := [("holding", a), ("links", b), ("marking", c), ("check", d), ("back", e)]) 0 (vc_dat 6) ?_ T.cl (na _ (by decide +kernel)) (sep (l := ["holding", "links", "marking", "check", "back"]) (by decide +kernel)) (by decide : 5 < 1000))
      refine wb_cons (ws_fld (fs := [("holding", a), ("links", b), ("marking", c), ("check", d), ("back", e), ("whole", f)]) 0 (vc_dat 7) ?_ T.cl (na _ (by decide +kernel)) (sep (l := ["holding", "links", "marking", "check", "back", "whole"]) (by decide +kernel)) (by decide : 6 < 1000))
      refine wb_cons (ws_fld (fs := [("holding", a), ("links", b), ("marking", c), ("check", d), ("back", e), ("whole", f), ("clearing", g)]) 0 (vc_dat 8) ?_ T.cl (na _ (by decide +kernel)) (sep (l := ["holding", "links", "marking", "check", "back", "whole", "clearing"]) (by decide +kernel)) (by decide : 7 < 1000))
      refine wb_cons (ws_fld (fs := [("holding", a), ("links", b), ("marking", c), ("check", d), ("back", e), ("whole", f), ("clearing", g), ("counting", i)]) 0 (vc_dat 9) ?_ T.cl (na _ (by decide +kernel)) (sep (l := ["holding", "links", "marking", "check", "back", "whole", "clearing", "counting"]) (by decide +kernel)) (by decide : 8 < 1000))
      exact wb_nil ⟨_, .own (.dat (.dat (.dat (.dat (.dat (.dat (.dat (.dat (.dat .nil))))))))), k1 e0⟩
end
end Pg

set_option maxRecDepth 100000
set_option maxHeartbeats 4000000
namespace Pg
open PySem L2 G M
section
variable {P : Program} {w : World} {K : PySem.W.Frag} {mg : Str → Option Value} {base : Heap} {C CB : Addr}
def sp_rule_parts (K : PySem.W.Frag) (C : Addr) : G.Spec := fun cs R _ => ∃ ps : List PyData, ps.length = 9 ∧ cs = [.pin (insP K C (fs9 ps))] ∧ R (.dat (.tuple ps)) cs
theorem fm_parts (T : RuleK P w K mg base C CB) (D : Dm K C "parts" "Rule.parts" s_Rule_parts p_Rule_parts) : Fm P w K mg base C "parts" 1 (sp_rule_parts K C) := by
  have nd := sc_Rule_parts.nd
  have na := T.na
  refine fnM D sc_Rule_parts (fun cs R RX h => ?_) (fun f cdv A outer s H E X eX hr tk hp cs R RX h => ?_)
  · obtain ⟨ps, _, rfl, _⟩ := h
    rfl
  · subst eX
    obtain ⟨ps, hl, rfl, k⟩ := h
    obtain ⟨a, b, c, d, e, f, g, i, j, rfl⟩ := nine hl
    refine wb_cons (ws_set 1 (.pure (vc_tup (ds := [a, b, c, d, e]) (dc_cons (vc_fld (vc_pin 0) T.cl (na _ (by decide +kernel)) rfl) (dc_cons (vc_fld (vc_pin 0) T.cl (na _ (by decide +kernel)) rfl) (dc_cons (vc_fld (vc_pin 0) T.cl (na _ (by decide +kernel)) rfl) (dc_cons (vc_fld (vc_pin 0) T.cl (na _ (by decide +kernel)) rfl) (dc_cons (vc_fld (vc_pin 0) T.cl (na _ (by decide +kernel)) rfl) dc_nil)))))) ?_) nd)
    exact wb_cons (ws_ret (.pure (vc_op op_catA (od_catT (ds := [a, b, c, d, e]) (es := [f, g, i, j]) (by simp)) (vc_dat 1) (vc_tup (dc_cons (vc_fld (vc_pin 0) T.cl (na _ (by decide +kernel)) rfl) (dc_cons (vc_fld (vc_pin 0) T.cl (na _ (by decide +kernel)) rfl) (dc_cons (vc_fld (vc_pin 0) T.cl (na _ (by decide +kernel)) rfl) (dc_cons (vc_fld (vc_pin 0) T.cl (na _ (by decide +kernel)) rfl) dc_nil)))))) ⟨_, .pin .nil, k⟩))
def sp_rule_eq (K : PySem.W.Frag) (C : Addr) : G.Spec := fun cs R _ => ∃ ps qs : List PyData, ps.length = 9 ∧ qs.length = 9 ∧ SeqAt.shaped (.tuple ps) = true ∧ SeqAt.shaped (.tuple qs) = true ∧ cs = [.pin (insP K C (fs9 ps)), .pin (insP K C (fs9 qs))] ∧ R (.dat (.bool (PyData.eqv (.tuple ps) (.tuple qs)))) cs
theorem fm_eq (B : Bi mg) (T : RuleK P w K mg base C CB) (I : IsiC K C) (gC : mg "Rule" = some (.ref C)) (D : Dm K C "__eq__" "Rule.__eq__" s_Rule_eq p_Rule_eq) (MP : Fm P w K mg base C "parts" 1 (sp_rule_parts K C)) : Fm P w K mg base C "__eq__" 2 (sp_rule_eq K C) := by
  refine fnM D sc_Rule_eq (fun cs R RX h => ?_) (fun f cdv A outer s H E X eX hr tk hp cs R RX h => ?_)
  · obtain ⟨ps, qs, _, _, _, _, rfl, _⟩ := h
    rfl
  · subst eX
    obtain ⟨ps, qs, hl, hl2, s1, s2, rfl, k⟩ := h
    have l1 : (fs9 ps).lookup (Str.ofString "parts") = none := by
      obtain ⟨a, b, c, d, e, f, g, i, j, rfl⟩ := nine hl
      rfl
    have l2 : (fs9 qs).lookup (Str.ofString "parts") = none := by
      obtain ⟨a, b, c, d, e, f, g, i, j, rfl⟩ := nine hl2
      rfl
    exact wb_cons (ws_ret (.pure (vc_andB (b1 := true) (b2 := PyData.eqv (.tuple ps) (.tuple qs)) (vc_isiC I B.isinstance gC (vc_pin 1)) fun _ => vc_one (vc_cmp (op_eqD hr.units) (od_eqD s1 s2) (vc_meth0 MP hr T.cl (vc_pin 0) ⟨ps, hl, rfl, rfl⟩ l1) (vc_meth0 MP hr T.cl (vc_pin 1) ⟨qs, hl2, rfl, rfl⟩ l2))) ⟨_, .pin (.pin .nil), by simpa using k⟩))
def sp_rule_of (K : PySem.W.Frag) (C CB : Addr) : G.Spec := fun cs R RX => ∃ ps : List PyData, ps.length = 9 ∧ cs = [.dat (.list ps)] ∧ (badOf (rows9 ps) = none → R (.pin (insP K C (fs9 ps))) cs) ∧ (∀ x, badOf (rows9 ps) = some x → RX ⟨CB, some ("part", .str x)⟩ cs)
theorem fn_rule_of (D : Df K mg "rule_of" s_rule_of p_rule_of) (IR : Ini P w K mg base "Rule" C 3 (sp_rule_init K C CB)) : Fn P w K mg base "rule_of" 5 (sp_rule_of K C CB) := by
  refine fnG D sc_rule_of (fun cs R RX h => ?_) (fun f cdv A outer s H E X eX hr tk hp cs R RX h => ?_)
  · obtain ⟨ps, _, rfl, _⟩ := h
    rfl
  · subst eX
    obtain ⟨ps, hl, rfl, k1, k2⟩ := h
    obtain ⟨a, b, c, d, e, f, g, i, j, rfl⟩ := nine hl
    let L := [a, b, c, d, e, f, g, i, j]
    refine wb_cons (ws_ret (ec_make IR hr tk (ac_cons (vc_ixL (ds := L) (i := 0) (vc_dat 0) vc_int rfl) (ac_cons (vc_ixL (ds := L) (i := 1) (vc_dat 0) vc_int rfl) (ac_cons (vc_ixL (ds := L) (i := 2) (vc_dat 0) vc_int rfl) (ac_cons (vc_ixL (ds := L) (i := 3) (vc_dat 0) vc_int rfl) (ac_cons (vc_ixL (ds := L) (i := 4) (vc_dat 0) vc_int rfl) (ac_cons (vc_ixL (ds := L) (i := 5) (vc_dat 0) vc_int rfl) (ac_cons (vc_ixL (ds := L) (i := 6) (vc_dat 0) vc_int rfl) (ac_cons (vc_ixL (ds := L) (i := 7) (vc_dat 0) vc_int rfl) (ac_cons (vc_ixL (ds := L) (i := 8) (vc_dat 0) vc_int rfl) ac_nil))))))))) fun v => ⟨v, L, rfl, rfl, fun hb => ⟨rfl, _, _, rfl, ⟨_, .dat .nil, k1 hb⟩⟩, fun x hx => ⟨_, .dat .nil, k2 x hx⟩⟩))
theorem vi_eq2 {X : Cx} {tg iter : Expr} {env : En} {xs ys : List PyData} (h : xs = ys) (k : VI X tg iter env xs) : VI X tg iter env ys := h ▸ k
/-- a row with one part turned -/
def turnD (ps : List PyData) (x : Str) (v : PyData) : List PyData := (partsL.zip ps).map fun p => if p.1 = x then v else p.2
theorem parts_ok : ∀ x ∈ partsL, PyData.strOk x = true := by decide +kernel
theorem parts_flat : (partsL.map PyData.str).all flatD = true := by decide +kernel
theorem any_parts (x : Str) : ((partsL.map PyData.str).any fun z => PyData.eqv z (.str x)) = decide (x ∈ partsL) := by
  rw [List.any_map, Bool.eq_iff_iff]
  simp only [List.any_eq_true, Function.comp, eqv_str, decide_eq_true_eq]
  constructor
  · rintro ⟨y, hy, rfl⟩; exact hy
  · intro h; exact ⟨x, h, rfl⟩
def sp_turned (K : PySem.W.Frag) (C CB : Addr) : G.Spec := fun cs R RX => ∃ (ps : List PyData) (x : Str) (v : PyData), ps.length = 9 ∧ cs = [.pin (insP K C (fs9 ps)), .dat (.str x), .dat v] ∧
  (x ∉ partsL → RX ⟨CB, some ("part", .str x)⟩ cs) ∧ (x ∈ partsL → (badOf (rows9 (turnD ps x v)) = none → R (.pin (insP K C (fs9 (turnD ps x v)))) cs) ∧ (∀ y, badOf (rows9 (turnD ps x v)) = some y → RX ⟨CB, some ("part", .str y)⟩ cs))
theorem fm_turned (B : Bi mg) (T : RuleK P w K mg base C CB) (D : Dm K C "turned" "Rule.turned" s_Rule_turned p_Rule_turned) (MP : Fm P w K mg base C "parts" 1 (sp_rule_parts K C)) (RO : Fn P w K mg base "rule_of" 5 (sp_rule_of K C CB)) : Fm P w K mg base C "turned" 6 (sp_turned K C CB) := by
  have nd := sc_Rule_turned.nd
  obtain ⟨vp, up, mp, rp, dp⟩ := T.parts
  refine fnM D sc_Rule_turned (fun cs R RX h => ?_) (fun f cdv A outer s H E X eX hr tk hp cs R RX h => ?_)
  · obtain ⟨ps, x, v, _, rfl, _⟩ := h
    rfl
  · subst eX
    obtain ⟨ps, x, v, hl, rfl, k1, k2⟩ := h
    have l1 : (fs9 ps).lookup (Str.ofString "parts") = none := by
      obtain ⟨a, b, c, d, e, f, g, i, j, rfl⟩ := nine hl
      rfl
    refine wb_cons (ws_ifP (b' := !true || !decide (x ∈ partsL)) (WC.tc (wc_or (tc_not (tc_val (vc_isi (b := true) B.isinstance B.str (vc_dat 1) (kit_str _)))) fun _ => wc_or1 (tis (congrArg (! ·) (any_parts x)) (tc_cmp op_notIn_seq (od_in (d := .str x) (neg := true) (Or.inr rfl) rfl parts_flat) (vc_dat 1) (vc_glob mp rp dp))))) (fun hb => ?_) fun hb => wb_nil ?_)
    · have hx : x ∉ partsL := by simpa using hb
      exact wb_cons (ws_raise T.bad (hr.mono (by decide)) tk (vc_dat 1) ⟨_, .pin (.dat (.dat .nil)), k1 hx⟩)
    · have hx : x ∈ partsL := by simpa using hb
      obtain ⟨k2, k3⟩ := k2 hx
      have hz : (partsL.zip ps).length = 9 := by simp [partsL, hl]
      refine wb_cons (ws_map (own := [("one", 4), ("before", 5)]) 3 (partsL.zip ps) (fun p => .tuple [.str p.1, p.2]) (fun p => if p.1 = x then v else p.2) nd ?_ (fun p hp _ _ _ _ _ => gc_tup rfl (gcs_cons (gc_name 4 nd) (gcs_cons (gc_name 5 nd) gcs_nil)))
        (fun p hp _ _ _ _ _ => ?_) (by omega) fun v' => ?_)
      · refine vi_eq2 ?_ (vi_z2 (ds1 := partsL.map .str) (ds2 := ps) B.zip (vc_glob mp rp dp) (vc_meth0 MP (hr.mono (by decide)) T.cl (vc_pin 0) ⟨ps, hl, rfl, rfl⟩ l1) (Or.inr rfl) (Or.inr rfl))
        rw [List.zip_map_left, List.map_map]
        rfl
      · have hp1 : p.1 ∈ partsL := (List.of_mem_zip hp).1
        exact vc_if (b' := decide (p.1 = x)) (tis (eqv_str _ _) (tc_cmp (op_eqD hr.units) (od_eqD (shaped_str (parts_ok _ hp1)).1 (shaped_str (parts_ok _ hx)).1) (vc_dat 4) (vc_dat 1))) (fun h => vis (by rw [if_pos (by simpa using h)]) (vc_dat 2)) fun h => vis (by rw [if_neg (by simpa using h)]) (vc_dat 5)
      · refine wb_frz 3 frz_olst rfl ?_
        exact wb_cons (ws_ret (ec_call RO hr tk (ea_dat (vc_dat 3) (ea_nil ⟨trivial, List.nodup_nil, turnD ps x v, by simp [turnD, hz], rfl, fun hb => ⟨_, .pin (.dat (.dat .nil)), k2 hb⟩, fun y hy => ⟨_, .pin (.dat (.dat .nil)), k3 y hy⟩⟩))))
end
end Pg

set_option maxRecDepth 100000
set_option maxHeartbeats 4000000
/-! what each law has: draws, parts, a rule -/
namespace M
open PySem
/-- the draws: the script, the place, what is left of a long number, the state -/
structure Dr where
  ns : List Int
  at_ : Nat
  c : Int
  z : Int
def Dr.ds (D : Dr) : List PyData := [.list (D.ns.map .int), .int (D.at_ : Int), .int D.c, .int D.z]
def PartsOk (n : Nat) (ps : List PyData) : Prop := ps.length = n ∧ ∀ (i : Nat) (vs : List PyData), i < n → valsL[i]? = some vs → ∃ p, ps[i]? = some p ∧ p ∈ vs
end M
namespace Pg
open PySem L2 G M
section
variable {P : Program} {w : World} {K : PySem.W.Frag} {mg : Str → Option Value} {base : Heap} {C CB : Addr}
def sp_begin (K : PySem.W.Frag) : G.Spec := fun cs R _ => ∃ ns : List Int, cs = [.dat (.list (ns.map .int))] ∧ ∀ v, R (.own v (olst K (Dr.ds ⟨ns, 0, 0, 7⟩))) cs
theorem fn_begin (B : Bi mg) (D : Df K mg "_law_begin" s__law_begin p__law_begin) : Fn P w K mg base "_law_begin" 1 (sp_begin K) := by
  refine fnG D sc__law_begin (fun cs R RX h => ?_) (fun f cdv A outer s H E X eX hr tk hp cs R RX h => ?_)
  · obtain ⟨ns, rfl, _⟩ := h
    rfl
  · subst eX
    obtain ⟨ns, rfl, k⟩ := h
    exact wb_cons (ws_ret (VO.eff (vo_lst (ds := Dr.ds ⟨ns, 0, 0, 7⟩) (dc_cons (VO.dat (vo_list (ds := ns.map .int) B.list (vc_dat 0) (Or.inl rfl))) (dc_cons vc_int (dc_cons vc_int (dc_cons vc_int dc_nil))))) fun v => ⟨_, .dat .nil, k v⟩))
def sp_draw (K : PySem.W.Frag) : G.Spec := fun cs R _ => ∃ (v : L2.V) (D : Dr) (n : Nat), cs = [.own v (olst K D.ds), .dat (.int (n : Int))] ∧ 0 < n ∧ n < 1073741824 ∧ ∀ (k : Nat) (D' : Dr), k < n → R (.dat (.int (k : Int))) [.own v (olst K D'.ds), .dat (.int (n : Int))]
theorem fn_draw (B : Bi mg) (D : Df K mg "_law_draw" s__law_draw p__law_draw) : Fn P w K mg base "_law_draw" 1 (sp_draw K) := by
  have nd := sc__law_draw.nd
  refine fnG D sc__law_draw (fun cs R RX h => ?_) (fun f cdv A outer s H E X eX hr tk hp cs R RX h => ?_)
  · obtain ⟨v, D, n, rfl, _⟩ := h
    rfl
  · subst eX
    obtain ⟨v, D, n, rfl, hn, hn2, k⟩ := h
    have rest : ∀ i : Int, ∃ q : Nat, q < n ∧ i % (n : Int) = (q : Int) := fun i => ⟨(i % (n : Int)).toNat, by have := Int.emod_lt_of_pos i (b := (n : Int)) (by omega); have := Int.emod_nonneg i (b := (n : Int)) (by omega); omega, by have := Int.emod_nonneg i (b := (n : Int)) (by omega); omega⟩
    refine wb_mid (fun env' => ∃ (D' : Dr) (x y : Option Ct), env' = [some (.own v (olst K D'.ds)), some (.dat (.int (n : Int))), x, y]) (ws_ifP (b' := decide (D.c = 0)) ?t1 (fun h1 => ?_) fun h1 => wb_nil ⟨D, _, _, rfl⟩) ?_
    case t1 =>
      exact tc_lend 0 frz_olst (tis (eqv_int _ _) (tc_cmp (op_eqD hr.units) (od_eqD rfl rfl) (vc_ixL (ds := D.ds) (i := 2) (vc_dat 0) vc_int rfl) vc_int))
    · refine wb_cons (ws_ifP (b' := decide ((D.at_ : Int) < (D.ns.length : Int))) ?t2 (fun h2 => ?_) fun h2 => ?_)
      case t2 =>
        exact tc_lend 0 frz_olst (tis (by simp) (tc_cmp op_lt od_lt (vc_ixL (ds := D.ds) (i := 1) (vc_dat 0) vc_int rfl) (vc_len (ds := D.ns.map .int) B.len (vc_ixL (ds := D.ds) (i := 0) (vc_dat 0) vc_int rfl))))
      · have hlt : D.at_ < D.ns.length := by simpa using h2
        have hg : atI (D.ns.map PyData.int) (D.at_ : Int) = some (.int D.ns[D.at_]) := atI_nat (by rw [List.getElem?_map, List.getElem?_eq_getElem hlt]; rfl)
        refine wb_cons (ws_set 2 (.pure (vc_lend 0 frz_olst (c := .dat (.int D.ns[D.at_])) rfl (vc_ixL (ds := D.ns.map .int) (vc_ixL (ds := D.ds) (i := 0) (vc_dat 0) vc_int rfl) (vc_ixL (ds := D.ds) (i := 1) (vc_dat 0) vc_int rfl) hg)) ?_) nd)
        refine wb_cons (ws_setIx (j := 1) 0 (.pure (vc_lend 0 frz_olst (c := .dat (.int ((D.at_ + 1 : Nat) : Int))) rfl (vc_op op_add od_add (vc_ixL (ds := D.ds) (i := 1) (vc_dat 0) vc_int rfl) vc_int)) ⟨_, D.ds, rfl, rfl, vc_int, by simp [Dr.ds], ?_⟩))
        refine wb_cons (ws_ifP (b' := decide ((10 : Int) ^ 18 ≤ D.ns[D.at_])) (tc_cmp op_ge od_ge (vc_dat 2) (vc_op op_pow (od_pow (i := 10) (j := 18) ⟨by decide, by decide, by decide⟩) vc_int vc_int)) (fun h3 => ?_) fun h3 => ?_)
        · refine wb_cons (ws_setIx (j := 2) 0 (.pure (vc_dat 2) ⟨_, Dr.ds ⟨D.ns, D.at_ + 1, D.c, D.z⟩, rfl, rfl, vc_int, by simp [Dr.ds], ?_⟩))
          exact wb_nil (wb_nil (wb_nil ⟨⟨D.ns, D.at_ + 1, D.ns[D.at_], D.z⟩, _, _, rfl⟩))
        · refine wb_cons (ws_setIx (j := 3) 0 (.pure (vc_lend (c := .dat (.int ((D.z * 48271 + D.ns[D.at_] * 69621 + 11) % 2147483647))) 0 frz_olst rfl (vc_op op_mod (od_mod (by decide)) (vc_toInt (d := .int (D.z * 48271 + D.ns[D.at_] * 69621 + 11)) B.int (vc_op op_add od_add (vc_op op_add od_add (vc_op op_mul (od_mul (.inr (by decide))) (vc_ixL (ds := Dr.ds ⟨D.ns, D.at_ + 1, D.c, D.z⟩) (i := 3) (vc_dat 0) vc_int rfl) vc_int) (vc_op op_mul (od_mul (.inr (by decide))) (vc_dat 2) vc_int)) vc_int)) vc_int)) ⟨_, Dr.ds ⟨D.ns, D.at_ + 1, D.c, D.z⟩, rfl, rfl, vc_int, by simp [Dr.ds], ?_⟩))
          exact wb_nil (wb_nil (wb_nil ⟨⟨D.ns, D.at_ + 1, D.c, (D.z * 48271 + D.ns[D.at_] * 69621 + 11) % 2147483647⟩, _, _, rfl⟩))
      · refine wb_cons (ws_setIx (j := 3) 0 (.pure (vc_lend (c := .dat (.int ((D.z * 48271 + 7) % 2147483647))) 0 frz_olst rfl (vc_op op_mod (od_mod (by decide)) (vc_toInt (d := .int (D.z * 48271 + 7)) B.int (vc_op op_add od_add (vc_op op_mul (od_mul (.inr (by decide))) (vc_ixL (ds := D.ds) (i := 3) (vc_dat 0) vc_int rfl) vc_int) vc_int)) vc_int)) ⟨_, D.ds, rfl, rfl, vc_int, by simp [Dr.ds], ?_⟩))
        exact wb_nil (wb_nil ⟨⟨D.ns, D.at_, D.c, (D.z * 48271 + 7) % 2147483647⟩, _, _, rfl⟩)
    · rintro env' ⟨D, x, y, rfl⟩
      refine wb_cons (ws_ifP (b' := decide (0 < D.c)) ?t4 (fun h4 => ?_) fun h4 => wb_nil ?_)
      case t4 =>
        exact tc_lend 0 frz_olst (tc_cmp op_gt od_gt (vc_ixL (ds := D.ds) (i := 2) (vc_dat 0) vc_int rfl) vc_int)
      · obtain ⟨q, hq, eq⟩ := rest D.c
        refine wb_cons (ws_set 3 (.pure (vc_lend (c := .dat (.int (q : Int))) 0 frz_olst rfl (vis (by rw [eq]) (vc_op op_mod (od_mod (by omega)) (vc_toInt (d := .int D.c) B.int (vc_ixL (ds := D.ds) (i := 2) (vc_dat 0) vc_int rfl)) (vc_dat 1)))) ?_) nd)
        refine wb_cons (ws_setIx (j := 2) 0 (.pure (vc_lend (c := .dat (.int (D.c / (n : Int)))) 0 frz_olst rfl (vc_op op_fdiv (od_fdiv ⟨by omega, by omega⟩) (vc_ixL (ds := D.ds) (i := 2) (vc_dat 0) vc_int rfl) (vc_dat 1))) ⟨_, D.ds, rfl, rfl, vc_int, by simp [Dr.ds], ?_⟩))
        exact wb_cons (ws_ret (.pure (vc_dat 3) ⟨_, .own (.dat .nil), k q ⟨D.ns, D.at_, D.c / (n : Int), D.z⟩ hq⟩))
      · obtain ⟨q, hq, eq⟩ := rest (D.z * 16807 % 2147483629)
        exact wb_cons (ws_ret (.pure (vc_lend (c := .dat (.int (q : Int))) 0 frz_olst rfl (vis (by rw [eq]) (vc_op op_mod (od_mod (by omega)) (vc_op op_mod (od_mod (by decide)) (vc_toInt (d := .int (D.z * 16807)) B.int (vc_op op_mul (od_mul (.inr (by decide))) (vc_ixL (ds := D.ds) (i := 3) (vc_dat 0) vc_int rfl) vc_int)) vc_int) (vc_dat 1)))) ⟨_, .own (.dat .nil), k q D hq⟩))
end
end Pg

set_option maxRecDepth 100000
set_option maxHeartbeats 4000000
namespace Pg
open PySem L2 G M
def valsLD : PyData := .list (valsL.map .list)
def namesLD : PyData := .list (partsL.map .str)
section
variable {P : Program} {w : World} {K : PySem.W.Frag} {mg : Str → Option Value} {base : Heap} {C CB : Addr}
def sp_const (d : PyData) : G.Spec := fun cs R _ => cs = [] ∧ R (.dat d) []
theorem fn_values (D : Df K mg "_law_values" s__law_values p__law_values) : Fn P w K mg base "_law_values" 1 (sp_const valsLD) := by
  have nd := sc__law_values.nd
  refine fnG D sc__law_values (fun cs R RX h => ?_) (fun f cdv A outer s H E X eX hr tk hp cs R RX h => ?_)
  · obtain ⟨rfl, _⟩ := h
    rfl
  · subst eX
    obtain ⟨rfl, k⟩ := h
    refine wb_cons (ws_set 0 (.pure (vc_lst (ds := (valsL.take 5).map .list) (dc_cons (vc_lst (ds := [.str "all", .str "live"]) (dc_cons vc_str (dc_cons vc_str dc_nil))) (dc_cons (vc_lst (ds := [.str "any", .str "live"]) (dc_cons vc_str (dc_cons vc_str dc_nil))) (dc_cons (vc_lst (ds := [.str "alone", .str "along", .str "barred"]) (dc_cons vc_str (dc_cons vc_str (dc_cons vc_str dc_nil)))) (dc_cons (vc_lst (ds := [.bool true, .bool false]) (dc_cons vc_bl (dc_cons vc_bl dc_nil))) (dc_cons (vc_lst (ds := [.str "none", .str "same", .str "all"]) (dc_cons vc_str (dc_cons vc_str (dc_cons vc_str dc_nil)))) dc_nil)))))) ?_) nd)
    exact wb_cons (ws_ret (.pure (VO.dat (vo_cat (es1 := (valsL.take 5).map .list) (es2 := (valsL.drop 5).map .list) (vc_dat 0) (vc_lst (dc_cons (vc_lst (ds := [.bool true, .bool false]) (dc_cons vc_bl (dc_cons vc_bl dc_nil))) (dc_cons (vc_lst (ds := [.str "plain", .str "along", .str "kept"]) (dc_cons vc_str (dc_cons vc_str (dc_cons vc_str dc_nil)))) (dc_cons (vc_lst (ds := [.str "all", .str "live"]) (dc_cons vc_str (dc_cons vc_str dc_nil))) (dc_cons (vc_lst (ds := [.str "own", .str "both"]) (dc_cons vc_str (dc_cons vc_str dc_nil))) dc_nil))))) (by decide))) ⟨_, .nil, k⟩))
theorem fn_names (D : Df K mg "_law_names" s__law_names p__law_names) : Fn P w K mg base "_law_names" 1 (sp_const namesLD) := by
  have nd := sc__law_names.nd
  refine fnG D sc__law_names (fun cs R RX h => ?_) (fun f cdv A outer s H E X eX hr tk hp cs R RX h => ?_)
  · obtain ⟨rfl, _⟩ := h
    rfl
  · subst eX
    obtain ⟨rfl, k⟩ := h
    refine wb_cons (ws_set 0 (.pure (vc_lst (ds := (partsL.take 5).map .str) (dc_cons vc_str (dc_cons vc_str (dc_cons vc_str (dc_cons vc_str (dc_cons vc_str dc_nil)))))) ?_) nd)
    exact wb_cons (ws_ret (.pure (VO.dat (vo_cat (es1 := (partsL.take 5).map .str) (es2 := (partsL.drop 5).map .str) (vc_dat 0) (vc_lst (dc_cons vc_str (dc_cons vc_str (dc_cons vc_str (dc_cons vc_str dc_nil))))) (by decide))) ⟨_, .nil, k⟩))
def sp_parts (K : PySem.W.Frag) : G.Spec := fun cs R _ => ∃ (v : L2.V) (D : Dr), cs = [.own v (olst K D.ds)] ∧ ∀ (w : L2.V) (ps : List PyData) (D' : Dr), PartsOk 9 ps → R (.own w (olst K ps)) [.own v (olst K D'.ds)]
theorem vals_small : ∀ vs ∈ valsL, 0 < vs.length ∧ vs.length < 1073741824 := by decide
theorem fn_parts (B : Bi mg) (D : Df K mg "_law_parts" s__law_parts p__law_parts) (FD : Fn P w K mg base "_law_draw" 1 (sp_draw K)) (FV : Fn P w K mg base "_law_values" 1 (sp_const valsLD)) : Fn P w K mg base "_law_parts" 2 (sp_parts K) := by
  have nd := sc__law_parts.nd
  refine fnG D sc__law_parts (fun cs R RX h => ?_) (fun f cdv A outer s H E X eX hr tk hp cs R RX h => ?_)
  · obtain ⟨v, D, rfl, _⟩ := h
    rfl
  · subst eX
    obtain ⟨v, D, rfl, k⟩ := h
    refine wb_cons (ws_ret (ec_lc (own := [("_law_some", 1)]) valsL .list [1] (fun i ds env1 => ∃ D' : Dr, env1 = [some (.own v (olst K D'.ds)), none] ∧ ∀ j vs, j < i → valsL[j]? = some vs → ∃ p, ds[j]? = some p ∧ p ∈ vs) nd (vi_list (vc_call0 FV hr ⟨rfl, rfl⟩)) ⟨D, rfl, fun j vs h => by omega⟩ ?_ ?_ (by decide)))
    · rintro i vs hi ds env1 hl ⟨D', rfl, hds⟩
      obtain ⟨h1, h2⟩ := vals_small vs (List.mem_of_getElem? hi)
      intro sS sH sC scl sfp
      refine ⟨_, gc_name 1 nd, ?_⟩
      intro sS sH sC scl sfp
      refine ec_ixL (ds := vs) (vc_dat 1) (ec_call FD hr takes0 (ea_own 0 (ea_dat (vc_len (ds := vs) B.len (vc_dat 1) (Or.inl rfl)) (ea_nil ⟨⟨⟨_, rfl⟩, trivial⟩, by simp [slotsA], v, D', vs.length, rfl, h1, h2, fun q D2 hq => ⟨(q : Int), vs[q], rfl, atI_nat (List.getElem?_eq_getElem hq), _, rfl, D2, rfl, ?_⟩⟩))))
      intro j ws hj hw
      by_cases hji : j < i
      · obtain ⟨p, hp1, hp2⟩ := hds j ws hji hw
        exact ⟨p, by rw [List.getElem?_append_left (by omega)]; exact hp1, hp2⟩
      · have e : j = i := by omega
        subst e
        rw [hi] at hw
        cases hw
        exact ⟨vs[q], by rw [List.getElem?_append_right (by omega), hl]; simp, List.getElem_mem hq⟩
    · rintro w' ds env1 hl ⟨D', rfl, hds⟩
      refine ⟨fun i hi c => by simp at hi; subst hi; simp, _, .own .nil, k w' ds D' ⟨hl, fun i vs h1 h2 => hds i vs (by exact h1) h2⟩⟩
def sp_law_rule (K : PySem.W.Frag) (C CB : Addr) : G.Spec := sp_rule_of K C CB
theorem fn_law_rule (D : Df K mg "_law_rule" s__law_rule p__law_rule) (IR : Ini P w K mg base "Rule" C 3 (sp_rule_init K C CB)) : Fn P w K mg base "_law_rule" 5 (sp_law_rule K C CB) := by
  refine fnG D sc__law_rule (fun cs R RX h => ?_) (fun f cdv A outer s H E X eX hr tk hp cs R RX h => ?_)
  · obtain ⟨ps, _, rfl, _⟩ := h
    rfl
  · subst eX
    obtain ⟨ps, hl, rfl, k1, k2⟩ := h
    obtain ⟨a, b, c, d, e, f, g, i, j, rfl⟩ := nine hl
    let L := [a, b, c, d, e, f, g, i, j]
    refine wb_cons (ws_ret (ec_make IR hr tk (ac_cons (vc_ixL (ds := L) (i := 0) (vc_dat 0) vc_int rfl) (ac_cons (vc_ixL (ds := L) (i := 1) (vc_dat 0) vc_int rfl) (ac_cons (vc_ixL (ds := L) (i := 2) (vc_dat 0) vc_int rfl) (ac_cons (vc_ixL (ds := L) (i := 3) (vc_dat 0) vc_int rfl) (ac_cons (vc_ixL (ds := L) (i := 4) (vc_dat 0) vc_int rfl) (ac_cons (vc_ixL (ds := L) (i := 5) (vc_dat 0) vc_int rfl) (ac_cons (vc_ixL (ds := L) (i := 6) (vc_dat 0) vc_int rfl) (ac_cons (vc_ixL (ds := L) (i := 7) (vc_dat 0) vc_int rfl) (ac_cons (vc_ixL (ds := L) (i := 8) (vc_dat 0) vc_int rfl) ac_nil))))))))) fun v => ⟨v, L, rfl, rfl, fun hb => ⟨rfl, _, _, rfl, ⟨_, .dat .nil, k1 hb⟩⟩, fun x hx => ⟨_, .dat .nil, k2 x hx⟩⟩))
end
end Pg

set_option maxRecDepth 100000
set_option maxHeartbeats 4000000
namespace M
open PySem G
/-- all that a part can be in this law -/
def oddL : List PyData := [.none, .int 0, .int 1, .str "all", .bool true, .str "live", .str "along", .str "", .str "own", .tuple [.str "any"], .str "none", .str "barred", .bool false, .str "both"]
def allL : List PyData := oddL ++ [.str "any", .str "alone", .str "same", .str "plain", .str "kept"]
def lawVal (vs : List PyData) (d : PyData) : Bool := vs.any fun v => (isB v == isB d) && PyData.eqv v d
theorem law_val : ∀ vs ∈ valsL, ∀ d ∈ allL, lawVal vs d = isVal vs d := by decide +kernel
theorem vals_val : ∀ vs ∈ valsL, ∀ d ∈ vs, isVal vs d = true := by decide +kernel
theorem vals_in : ∀ vs ∈ valsL, ∀ d ∈ vs, d ∈ allL := by simp [valsL, allL, oddL]
theorem vals_all (vs : List PyData) (h : vs ∈ valsL) (d : PyData) (hd : d ∈ vs) : d ∈ allL ∧ isVal vs d = true := ⟨vals_in vs h d hd, vals_val vs h d hd⟩
theorem all_shaped : ∀ d ∈ allL, SeqAt.shaped d = true ∧ d.depth ≤ 1 := by decide +kernel
theorem badOf_none {L : List Row9} : badOf L = none ↔ ∀ p ∈ L, isVal p.2.2 p.2.1 = true := by
  unfold badOf
  rw [Option.map_eq_none_iff, List.find?_eq_none]
  simp
theorem badOf_mem {ps : List PyData} {x : Str} (h : badOf (rows9 ps) = some x) : x ∈ partsL := by
  unfold badOf at h
  obtain ⟨p, hp, rfl⟩ := Option.map_eq_some_iff.mp h
  have := List.mem_of_find?_eq_some hp
  unfold rows9 at this
  exact (List.of_mem_zip this).1
theorem rows9_get {ps : List PyData} (hl : ps.length = 9) {i : Nat} (hi : i < 9) : (rows9 ps)[i]? = some (partsL[i]'hi, ps[i]'(by omega), valsL[i]'hi) := by
  unfold rows9
  rw [List.getElem?_eq_getElem (by simp [partsL, valsL, hl, hi])]
  simp
  exact ⟨rfl, rfl⟩
/-- fine: each part is a value -/
theorem fine_iff {ps : List PyData} (hl : ps.length = 9) : badOf (rows9 ps) = none ↔ ∀ (i : Nat) (hi : i < 9), isVal (valsL[i]'hi) (ps[i]'(by omega)) = true := by
  rw [badOf_none]
  constructor
  · intro h i hi
    exact h _ (List.mem_of_getElem? (rows9_get hl hi))
  · intro h p hp
    obtain ⟨i, hi, e⟩ := List.mem_iff_getElem.mp hp
    have hi9 : i < 9 := by
      unfold rows9 at hi
      simp [partsL, valsL, hl] at hi
      exact hi
    have := rows9_get hl hi9
    rw [List.getElem?_eq_getElem hi, e] at this
    cases this
    exact h i hi9
theorem PartsOk.fine {ps : List PyData} (h : PartsOk 9 ps) : badOf (rows9 ps) = none := by
  rw [fine_iff h.1]
  intro i hi
  obtain ⟨p, h1, h2⟩ := h.2 i _ hi (List.getElem?_eq_getElem (show i < valsL.length from hi))
  obtain ⟨hlt, e⟩ := List.getElem?_eq_some_iff.mp h1
  rw [e]
  exact (vals_all _ (List.getElem_mem _) p h2).2
theorem PartsOk.all {ps : List PyData} (h : PartsOk 9 ps) : ∀ p ∈ ps, p ∈ allL := by
  intro p hp
  obtain ⟨i, hi, e⟩ := List.mem_iff_getElem.mp hp
  have hi9 : i < 9 := by have := h.1; omega
  obtain ⟨q, h1, h2⟩ := h.2 i _ hi9 (List.getElem?_eq_getElem (show i < valsL.length from hi9))
  rw [List.getElem?_eq_getElem hi, e] at h1
  cases h1
  exact (vals_all _ (List.getElem_mem _) p h2).1
theorem shaped_ps {ps : List PyData} (h : ∀ p ∈ ps, p ∈ allL) : SeqAt.shaped (.tuple ps) = true ∧ SeqAt.shaped (.list ps) = true :=
  ⟨(shaped_tup (n := 1) (by decide) fun d hd => all_shaped d (h d hd)).1, (shaped_lst (n := 1) (by decide) fun d hd => all_shaped d (h d hd)).1⟩
theorem eqv_bool (a b : Bool) : PyData.eqv (.bool a) (.bool b) = (a == b) := by cases a <;> cases b <;> rfl
theorem eqv_tl (a b : List PyData) : PyData.eqv (.tuple a) (.tuple b) = PyData.eqv (.list a) (.list b) := by simp [PyData.eqv]
theorem vals_len : ∀ vs ∈ valsL, vs.length ≤ 10 := by decide
theorem parts_nd : partsL.Nodup := by decide +kernel
theorem set_cut {α : Type} (xs : List α) (i : Nat) (v : α) (h : i < xs.length) : xs.take i ++ [v] ++ xs.drop (i + 1) = xs.set i v := by
  rw [List.set_eq_take_append_cons_drop, if_pos h]
  simp
end M
namespace Pg
open PySem L2 G M
theorem turn_set {ps : List PyData} (hl : ps.length = 9) {i : Nat} (hi : i < 9) (v : PyData) : turnD ps (partsL[i]'hi) v = ps.set i v := by
  have hp : partsL.length = 9 := rfl
  apply List.ext_getElem
  · simp [turnD, hl, hp]
  · intro j h1 h2
    have hj : j < 9 := by simp [turnD, hl, hp] at h1; omega
    simp only [turnD, List.getElem_map, List.getElem_zip]
    rw [List.getElem_set]
    by_cases e : i = j
    · subst e
      rw [if_pos rfl]
      exact if_pos rfl
    · rw [if_neg e, if_neg]
      intro z
      exact e ((List.getElem_inj parts_nd).mp z.symm)
theorem fine_set {ps : List PyData} (hl : ps.length = 9) (hf : badOf (rows9 ps) = none) {i : Nat} (hi : i < 9) {v : PyData} (hv : v ∈ valsL[i]'hi) : badOf (rows9 (ps.set i v)) = none := by
  have hl2 : (ps.set i v).length = 9 := by simpa using hl
  rw [fine_iff hl2]
  intro j hj
  rw [List.getElem_set]
  by_cases e : i = j
  · subst e
    rw [if_pos rfl]
    exact (vals_all _ (List.getElem_mem _) v hv).2
  · rw [if_neg e]
    exact (fine_iff hl).mp hf j hj
section
variable {P : Program} {w : World} {K : PySem.W.Frag} {mg : Str → Option Value} {base : Heap} {C CB : Addr}
def dueD (o : Option Str) : PyData := match o with
  | none => .none
  | some x => .str x
def sp_due : G.Spec := fun cs R _ => ∃ ps : List PyData, ps.length = 9 ∧ (∀ p ∈ ps, p ∈ allL) ∧ cs = [.dat (.list ps)] ∧ R (.dat (dueD (badOf (rows9 ps)))) cs
theorem fn_due (B : Bi mg) (D : Df K mg "_law_due" s__law_due p__law_due) (FV : Fn P w K mg base "_law_values" 1 (sp_const valsLD)) (FN : Fn P w K mg base "_law_names" 1 (sp_const namesLD)) : Fn P w K mg base "_law_due" 2 sp_due := by
  have nd := sc__law_due.nd
  refine fnG D sc__law_due (fun cs R RX h => ?_) (fun f cdv A outer s H E X eX hr tk hp cs R RX h => ?_)
  · obtain ⟨ps, _, _, rfl, _⟩ := h
    rfl
  · subst eX
    obtain ⟨ps, hl, hall, rfl, k⟩ := h
    refine wb_cons (ws_for (items := (List.range 9).map fun (i : Nat) => .int (i : Int)) hp rfl (vi_range1 (n := 9) B.range vc_int) (fun i env1 => badOf ((rows9 ps).drop i) = badOf (rows9 ps) ∧ ∃ x y, env1 = [some (.dat (.list ps)), x, y, none]) ⟨rfl, _, _, rfl⟩ ?_ ?_)
    · rintro i d hd env1 ⟨hb, x, y, rfl⟩
      have hi : i < 9 := by
        have := (List.getElem?_eq_some_iff.mp hd).1
        simpa using this
      have ed : d = .int (i : Int) := by
        rw [List.getElem?_map, List.getElem?_range hi] at hd
        exact (Option.some.inj hd).symm
      subst ed
      have hv : valsL[i]? = some (valsL[i]'hi) := List.getElem?_eq_getElem _
      have hvm : valsL[i]'hi ∈ valsL := List.getElem_mem _
      generalize valsL[i]'hi = vs at hv hvm
      have hp1 : ps[i]? = some (ps[i]'(by omega)) := List.getElem?_eq_getElem _
      have hpm : ps[i]'(by omega) ∈ ps := List.getElem_mem _
      have st := badOf_step (rows9_get hl hi)
      have hve : valsL[i]'hi = vs := by rw [List.getElem?_eq_getElem (show i < valsL.length from hi)] at hv; exact Option.some.inj hv
      rw [hve] at st
      generalize ps[i]'(by omega) = q at hp1 hpm st
      have hpa := hall q hpm
      have hsh := (all_shaped q hpa).1
      refine ⟨_, _, gc_name 1 nd, ?_⟩
      refine wb_cons (ws_set 2 (.pure (vc_ixL (ds := valsL.map .list) (i := (i : Int)) (vc_call0 FV hr ⟨rfl, rfl⟩) (vc_dat 1) (atI_nat (by rw [List.getElem?_map, hv]; rfl))) ?_) nd)
      refine wb_cons (ws_ifP (b' := !lawVal vs q) (tc_not (tc_val (vis (by rw [List.any_map]; rfl) (vc_any (bs := vs.map fun v => (isB v == isB q) && PyData.eqv v q) rfl B.any (vis (by rw [List.map_map]; rfl) (VO.dat (vo_map (own := [("_law_value", 3)]) vs id (fun v => .bool ((isB v == isB q) && PyData.eqv v q)) nd (vi_eq2 (xs := vs) (ys := vs.map id) (by simp) (vi_list (vc_dat 2))) (fun v hv _ _ _ _ _ => gc_name 3 nd)
        (fun v hvv _ _ _ _ _ => ?el) ?sz))))))) (fun hbd => ?_) fun hbd => wb_nil (wb_nil ?_))
      case el =>
        have hsv := (all_shaped v (vals_all vs hvm v hvv).1).1
        exact vc_andB (vis (bool_d (eqv_bool _ _)) (vc_cmp (op_eqD hr.units) (od_eqD rfl rfl) (vc_isi B.isinstance B.bool (vc_dat 3) (kit_bool _)) (vc_isi B.isinstance B.bool (vc_ixL (vc_dat 0) (vc_dat 1) (atI_nat hp1)) (kit_bool _)))) fun _ => vc_one (vc_cmp (op_eqD hr.units) (od_eqD hsv hsh) (vc_dat 3) (vc_ixL (vc_dat 0) (vc_dat 1) (atI_nat hp1)))
      case sz =>
        have := vals_len vs hvm
        omega
      · have hf : isVal vs q = false := by rw [← law_val vs hvm q hpa]; simpa using hbd
        rw [hf] at st
        have e : badOf (rows9 ps) = some (partsL[i]'hi) := hb.symm.trans st
        rw [e] at k
        exact wb_cons (ws_ret (.pure (vc_ixL (ds := partsL.map .str) (i := (i : Int)) (vc_call0 FN hr ⟨rfl, rfl⟩) (vc_dat 1) (atI_nat (by rw [List.getElem?_map, List.getElem?_eq_getElem (show i < partsL.length from hi)]; rfl))) ⟨_, .dat .nil, k⟩))
      · have hf : isVal vs q = true := by rw [← law_val vs hvm q hpa]; simpa using hbd
        rw [hf] at st
        exact ⟨st.symm.trans hb, _, _, rfl⟩
    · rintro env1 ⟨hb, x, y, rfl⟩
      have e : badOf (rows9 ps) = none := by
        rw [← hb, List.drop_eq_nil_of_le (by simp [rows9, partsL, valsL, hl])]
        rfl
      rw [e] at k
      exact wb_cons (ws_ret (.pure vc_non ⟨_, .dat .nil, k⟩))
end
end Pg

set_option maxRecDepth 100000
set_option maxHeartbeats 4000000
namespace Pg
open PySem L2 G M
section
variable {P : Program} {w : World} {K : PySem.W.Frag} {mg : Str → Option Value} {base : Heap} {C CB : Addr}
def sp_law : G.Spec := fun cs R _ => ∃ ns : List Int, cs = [.dat (.list (ns.map .int))] ∧ R (.dat (.bool true)) cs
theorem odd_len : oddL.length = 14 := rfl
theorem parts_eq : PyData.eqv (.list (partsL.map .str)) (.list (partsL.map .str)) = true := eqv_self (shaped_lst (n := 0) (by decide) fun d hd => by
  obtain ⟨x, hx, rfl⟩ := List.mem_map.mp hd
  exact shaped_str (parts_ok x hx)).1
theorem parts_sh : SeqAt.shaped (.list (partsL.map .str)) = true := (shaped_lst (n := 0) (by decide) fun d hd => by
  obtain ⟨x, hx, rfl⟩ := List.mem_map.mp hd
  exact shaped_str (parts_ok x hx)).1
theorem vals_sh : SeqAt.shaped (.list (valsL.map .list)) = true := by decide +kernel
theorem cut_take {ps : List PyData} {i : Nat} (hl : ps.length = 9) (hi : i ≤ 9) : cut ps none (some (i : Int)) = ps.take i := by
  unfold cut
  rw [HT.sIx_nat, HT.sIx_none]
  simp
theorem cut_drop {ps : List PyData} {i : Nat} (hl : ps.length = 9) (hi : i + 1 ≤ 9) : cut ps (some ((i : Int) + 1)) none = ps.drop (i + 1) := by
  unfold cut
  rw [show ((i : Int) + 1) = ((i + 1 : Nat) : Int) from rfl, HT.sIx_nat, HT.sIx_none, Nat.min_eq_left (by omega)]
  rw [List.take_of_length_le (by simp)]
theorem due_sh {ps : List PyData} : SeqAt.shaped (dueD (badOf (rows9 ps))) = true := by
  cases h : badOf (rows9 ps) with
  | none => rfl
  | some x => exact (shaped_str (parts_ok x (badOf_mem h))).1
theorem ok_law {f : Addr} {fd : FuncData} (B : Bi mg) (T : RuleK P w K mg base C CB) (F : L2.Fun K "law" "law" s_law f fd) (FB : Fn P w K mg base "_law_begin" 1 (sp_begin K)) (FD : Fn P w K mg base "_law_draw" 1 (sp_draw K)) (FV : Fn P w K mg base "_law_values" 1 (sp_const valsLD)) (FN : Fn P w K mg base "_law_names" 1 (sp_const namesLD))
    (FP : Fn P w K mg base "_law_parts" 2 (sp_parts K)) (FR : Fn P w K mg base "_law_rule" 5 (sp_law_rule K C CB)) (FE : Fn P w K mg base "_law_due" 2 sp_due) (MP : Fm P w K mg base C "parts" 1 (sp_rule_parts K C)) (ME : Fm P w K mg base C "__eq__" 2 (sp_rule_eq K C)) (MT : Fm P w K mg base C "turned" 6 (sp_turned K C CB)) : FnOk P w K mg base (L2.CX P w) 7 f fd p_law (spG K sp_law) := by
  have nd := sc_law.nd
  obtain ⟨vp, up, mp, rp, dp⟩ := T.parts
  obtain ⟨vv, uv, mv, rv, dv⟩ := T.values
  have na := T.na
  refine okG F sc_law (fun cs R RX h => ?_) (fun cdv A outer s H E X eX hr tk hp cs R RX h => ?_)
  · obtain ⟨ns, rfl, _⟩ := h
    rfl
  · subst eX
    obtain ⟨ns, rfl, k⟩ := h
    have hr1 := hr.mono (show 1 ≤ 6 by decide)
    have hr2 := hr.mono (show 2 ≤ 6 by decide)
    have hr5 := hr.mono (show 5 ≤ 6 by decide)
    refine wb_cons (ws_set 1 (VO.eff (vo_call FB hr1 (ac_cons (vc_dat 0) ac_nil) ⟨ns, rfl, fun v => ⟨v, rfl⟩⟩) fun v => ?_) nd)
    refine wb_cons (ws_set 2 (ec_call FP hr2 tk (ea_own 1 (ea_nil ⟨⟨⟨_, rfl⟩, trivial⟩, by simp [slotsA], v, _, rfl, fun w' ps D' hps => ?_⟩))) nd)
    refine wb_cons (ws_forE hp rfl (ei_range1 B.range (ec_call FD hr1 tk (ea_own 1 (ea_dat vc_int (ea_nil ⟨⟨⟨_, rfl⟩, trivial⟩, by simp [slotsA], v, D', 3, rfl, by decide, by decide, fun n0 D2 hn0 => ⟨n0, rfl, by omega,
      fun i env1 => ∃ (D : Dr) (ps : List PyData) (x y : Option Ct), ps.length = 9 ∧ (∀ p ∈ ps, p ∈ allL) ∧ env1 = [some (.dat (.list (ns.map .int))), some (.own v (olst K D.ds)), some (.own w' (olst K ps)), x, y, none, none, none, none, none, none, none, none, none, none],
      ⟨D2, ps, _, _, hps.1, hps.all, rfl⟩, ?_, ?_⟩⟩))))))
    · rintro i d hd env1 ⟨D, ps, x, y, hl, hall, rfl⟩
      refine ⟨_, _, gc_name 3 nd, ?_⟩
      refine wb_cons (ws_set 4 (.pure (vc_lst (ds := oddL) (dc_cons vc_non (dc_cons vc_int (dc_cons vc_int (dc_cons vc_str (dc_cons vc_bl (dc_cons vc_str (dc_cons vc_str (dc_cons vc_str (dc_cons vc_str (dc_cons (vc_tup (dc_cons vc_str dc_nil)) (dc_cons vc_str (dc_cons vc_str (dc_cons vc_bl (dc_cons vc_str dc_nil))))))))))))))) ?_) nd)
      refine wb_cons (ws_setIxE 2 (ec_ixL (ds := oddL) (vc_dat 4) (ec_call FD hr1 tk (ea_own 1 (ea_dat (vc_len (ds := oddL) B.len (vc_dat 4) (Or.inl rfl)) (ea_nil ⟨⟨⟨_, rfl⟩, trivial⟩, by simp [slotsA], v, D, 14, rfl, by decide, by decide, fun q D3 hq => ⟨(q : Int), oddL[q], rfl, atI_nat (List.getElem?_eq_getElem hq), _, rfl, ?_, _, rfl⟩⟩))))))
      refine ec_call FD hr1 tk (ea_own 1 (ea_dat vc_int (ea_nil ⟨⟨⟨_, rfl⟩, trivial⟩, by simp [slotsA], v, D3, 9, rfl, by decide, by decide, fun q2 D4 hq2 => ⟨q2, ps, rfl, rfl, by omega, wb_nil ⟨D4, ps.set q2 oddL[q], _, _, by simpa using hl, fun p hpp => ?_, rfl⟩⟩⟩)))
      rcases List.mem_or_eq_of_mem_set hpp with h | h
      · exact hall p h
      · rw [h]
        exact List.mem_append_left _ (List.getElem_mem _)
    rintro env1 ⟨D, ps, x, y, hl, hall, rfl⟩
    obtain ⟨sh1, sh2⟩ := shaped_ps hall
    refine wb_frz 2 frz_olst rfl ?_
    refine wb_cons (ws_set 5 (.pure vc_non ?_) nd)
    refine wb_cons (ws_set 6 (.pure vc_non ?_) nd)
    refine wb_mid (fun env' => (∃ z, badOf (rows9 ps) = some z ∧ env' = [some (.dat (.list (ns.map .int))), some (.own v (olst K D.ds)), some (.dat (.list ps)), x, y, some (.dat (.str z)), some (.dat .none), none, none, none, none, none, none, none, none]) ∨
      (badOf (rows9 ps) = none ∧ env' = [some (.dat (.list (ns.map .int))), some (.own v (olst K D.ds)), some (.dat (.list ps)), x, y, some (.dat .none), some (.pin (insP K C (fs9 ps))), none, none, none, none, none, none, none, none]))
      (ws_try_as 7 nd ⟨rfl, by decide, .inl T.bad.gm⟩ tk ?tr) ?_
    case tr =>
      intro W' pn xe tk' po
      refine wb_cons (ws_set 6 (ec_call (X := Cx.tr _ pn xe) FR hr5 tk' (ea_dat (vc_dat 2) (ea_nil ⟨trivial, List.nodup_nil, ps, hl, rfl, fun hb => wb_nil (.inr ⟨hb, rfl⟩), fun z hz => ⟨true, T.bad.me, fun _ a oe od pn' hz' hf => ?_, fun e => Bool.noConfusion e⟩⟩))) nd)
      refine wb_cons (ws_set 5 (.pure (vc_xf T.bad.xf T.bad.no hz' hf (vc_pin 7)) ?_) nd)
      exact wb_nil (.inl ⟨z, hz, rfl⟩)
    rintro env' (⟨z, hz, rfl⟩ | ⟨hb, rfl⟩)
    · -- refused
      refine wb_cons (ws_ifP (b' := false) (WC.tc (wc_or (b1 := false) (tis (by rw [hz]; simp [dueD, eqv_str]) (tc_cmp (op_neD hr.units) (od_neD (e := dueD (badOf (rows9 ps))) (shaped_str (parts_ok z (badOf_mem hz))).1 due_sh) (vc_dat 5) (vc_call FE hr2 (ac_cons (vc_dat 2) ac_nil) ⟨ps, hl, hall, rfl, rfl⟩))) fun _ => wc_or1 (tis (by rw [parts_eq]; rfl) (tc_cmp (op_neD hr.units) (od_neD parts_sh parts_sh) (VO.dat (vo_list (ds := partsL.map .str) B.list (vc_glob mp rp dp) (Or.inr rfl))) (vc_call0 FN hr1 ⟨rfl, rfl⟩))))) (fun e => Bool.noConfusion e) fun _ => wb_nil ?_)
      refine wb_cons (ws_ifP (b' := false) (tis (by rw [eqv_self vals_sh]; rfl) (tc_cmp (op_neD hr.units) (od_neD vals_sh vals_sh) (VO.dat (vo_map (own := [("_law_some", 14)]) valsL .tuple .list nd (vi_tup (vc_glob mv rv dv)) (fun ss hss _ _ _ _ _ => gc_name 14 nd) (fun ss hss _ _ _ _ _ => VO.dat (vo_list (ds := ss) B.list (vc_dat 14) (Or.inr rfl))) (by decide))) (vc_call0 FV hr1 ⟨rfl, rfl⟩))) (fun e => Bool.noConfusion e) fun _ => wb_nil ?_)
      exact wb_cons (ws_ifP (b' := true) (tc_cmp op_isN (od_isN (d := .none)) (vc_dat 6) vc_non) (fun _ => wb_cons (ws_ret (.pure vc_bl ⟨_, .dat .nil, k⟩))) fun e => Bool.noConfusion e)
    · -- a rule stands
      refine wb_cons (ws_ifP (b' := false) (WC.tc (wc_or (b1 := false) (tis (by rw [hb]; rfl) (tc_cmp (op_neD hr.units) (od_neD (d := .none) (e := dueD (badOf (rows9 ps))) rfl due_sh) (vc_dat 5) (vc_call FE hr2 (ac_cons (vc_dat 2) ac_nil) ⟨ps, hl, hall, rfl, rfl⟩))) fun _ => wc_or1 (tis (by rw [parts_eq]; rfl) (tc_cmp (op_neD hr.units) (od_neD parts_sh parts_sh) (VO.dat (vo_list (ds := partsL.map .str) B.list (vc_glob mp rp dp) (Or.inr rfl))) (vc_call0 FN hr1 ⟨rfl, rfl⟩))))) (fun e => Bool.noConfusion e) fun _ => wb_nil ?_)
      refine wb_cons (ws_ifP (b' := false) (tis (by rw [eqv_self vals_sh]; rfl) (tc_cmp (op_neD hr.units) (od_neD vals_sh vals_sh) (VO.dat (vo_map (own := [("_law_some", 14)]) valsL .tuple .list nd (vi_tup (vc_glob mv rv dv)) (fun ss hss _ _ _ _ _ => gc_name 14 nd) (fun ss hss _ _ _ _ _ => VO.dat (vo_list (ds := ss) B.list (vc_dat 14) (Or.inr rfl))) (by decide))) (vc_call0 FV hr1 ⟨rfl, rfl⟩))) (fun e => Bool.noConfusion e) fun _ => wb_nil ?_)
      refine wb_cons (ws_ifP (b' := false) (tc_isPin (vc_pin 6)) (fun e => Bool.noConfusion e) fun _ => wb_nil ?_)
      refine wb_cons (ws_set 8 (ec_call FP hr2 tk (ea_own 1 (ea_nil ⟨⟨⟨_, rfl⟩, trivial⟩, by simp [slotsA], v, _, rfl, fun w2 qs D2 hqs => ?_⟩))) nd)
      have hall2 := hqs.all
      have hl2 := hqs.1
      obtain ⟨sq1, sq2⟩ := shaped_ps hall2
      refine wb_frz 8 frz_olst rfl ?_
      refine wb_cons (ws_set 9 (ec_call FD hr1 tk (ea_own 1 (ea_dat vc_int (ea_nil ⟨⟨⟨_, rfl⟩, trivial⟩, by simp [slotsA], v, D2, 9, rfl, by decide, by decide, fun at_ D3 hat => ?_⟩)))) nd)
      have hv : valsL[at_]? = some (valsL[at_]'hat) := List.getElem?_eq_getElem _
      obtain ⟨q, hq1, hq2⟩ := hqs.2 at_ _ hat hv
      have hf2 : badOf (rows9 (turnD ps (partsL[at_]'hat) q)) = none := by rw [turn_set hl hat]; exact fine_set hl hb hat hq2
      have hl3 : (ps.set at_ q).length = 9 := by simpa using hl
      have hall3 : ∀ p ∈ ps.set at_ q, p ∈ allL := fun p hp => by
        rcases List.mem_or_eq_of_mem_set hp with h | h
        · exact hall p h
        · rw [h]; exact hall2 q (List.mem_of_getElem? hq1)
      obtain ⟨st1, st2⟩ := shaped_ps hall3
      have lk : ∀ {ps : List PyData} {m : Str}, ps.length = 9 → m ∉ partsL → (fs9 ps).lookup m = none := fun {ps m} hl hm => by
        rw [List.lookup_eq_none_iff]
        intro p hp
        have := (List.of_mem_zip hp).1
        simp only [bne_iff_ne, ne_eq, beq_eq_false_iff_ne]
        intro z
        exact hm (z ▸ this)
      refine wb_cons (ws_set 10 (.pure (vc_meth (c := .pin (insP K C (fs9 (ps.set at_ q)))) MT hr T.cl (vc_pin 6) (lk hl (by decide +kernel)) (ac_cons (vc_ixL (ds := partsL.map .str) (i := (at_ : Int)) (d := .str (partsL[at_]'hat)) (vc_call0 FN hr1 ⟨rfl, rfl⟩) (vc_dat 9) (atI_nat (by rw [List.getElem?_map, List.getElem?_eq_getElem (show at_ < partsL.length from hat)]; rfl))) (ac_cons (vc_ixL (ds := qs) (i := (at_ : Int)) (vc_dat 8) (vc_dat 9) (atI_nat hq1)) ac_nil))
        ⟨ps, partsL[at_]'hat, q, hl, rfl, fun z => absurd (List.getElem_mem _) z, fun _ => ⟨fun _ => by rw [turn_set hl hat], fun y hy => by rw [hf2] at hy; cases hy⟩⟩) ?_) nd)
      have cut1 : cut ps none (some (at_ : Int)) = ps.take at_ := cut_take hl (by omega)
      have cut2 : cut ps (some ((at_ : Int) + 1)) none = ps.drop (at_ + 1) := cut_drop hl (by omega)
      refine wb_cons (ws_set 11 (.pure (vis (d1 := .list (ps.set at_ q)) (congrArg PyData.list ((by rw [cut1, cut2] : _ = ps.take at_ ++ [q] ++ ps.drop (at_ + 1)).trans (set_cut ps at_ q (by omega)))) (VO.dat (vo_cat (VO.dat (vo_cat (VO.dat (vo_sliceL (vc_dat 2) oc_none (oc_some (vc_dat 9)))) (vc_lst (ds := [q]) (dc_cons (vc_ixL (ds := qs) (i := (at_ : Int)) (vc_dat 8) (vc_dat 9) (atI_nat hq1)) dc_nil)) (by rw [cut1]; simp <;> omega))) (VO.dat (vo_sliceL (vc_dat 2) (oc_some (vc_op op_add od_add (vc_dat 9) vc_int)) oc_none)) (by rw [cut1, cut2]; simp <;> omega)))) ?_) nd)
      obtain ⟨a, b, c, d, e, f, g, i, j, rfl⟩ := nine hl
      refine wb_cons (ws_set 12 (.pure (vc_lst (ds := [a, b, c, d, e]) (dc_cons (vc_fld (vc_pin 6) T.cl (na _ (by decide +kernel)) rfl) (dc_cons (vc_fld (vc_pin 6) T.cl (na _ (by decide +kernel)) rfl) (dc_cons (vc_fld (vc_pin 6) T.cl (na _ (by decide +kernel)) rfl) (dc_cons (vc_fld (vc_pin 6) T.cl (na _ (by decide +kernel)) rfl) (dc_cons (vc_fld (vc_pin 6) T.cl (na _ (by decide +kernel)) rfl) dc_nil)))))) ?_) nd)
      refine wb_cons (ws_set 12 (.pure (VO.dat (vo_cat (es1 := [a, b, c, d, e]) (es2 := [f, g, i, j]) (vc_dat 12) (vc_lst (dc_cons (vc_fld (vc_pin 6) T.cl (na _ (by decide +kernel)) rfl) (dc_cons (vc_fld (vc_pin 6) T.cl (na _ (by decide +kernel)) rfl) (dc_cons (vc_fld (vc_pin 6) T.cl (na _ (by decide +kernel)) rfl) (dc_cons (vc_fld (vc_pin 6) T.cl (na _ (by decide +kernel)) rfl) dc_nil))))) (by simp))) ?_) nd)
      let ps := [a, b, c, d, e, f, g, i, j]
      refine wb_cons (ws_ifP (b' := false) (WC.tc (wc_or (b1 := false) (tis (by rw [eqv_self sh2]; rfl) (tc_cmp (op_neD hr.units) (od_neD (d := .list ps) (e := .list ps) sh2 sh2) (vc_dat 12) (vc_dat 2))) fun _ => wc_or (b1 := false) (tis (by rw [eqv_self sh1]; rfl) (tc_cmp (op_neD hr.units) (od_neD (d := .tuple ps) (e := .tuple ps) sh1 sh1) (vc_meth0 MP hr1 T.cl (vc_pin 6) ⟨ps, hl, rfl, rfl⟩ (lk hl (by decide +kernel))) (vc_tuple (ds := ps) B.tuple (vc_dat 2) (Or.inl rfl)))) fun _ => wc_or1 (tis (by rw [eqv_self st1]; rfl) (tc_cmp (op_neD hr.units) (od_neD (d := .tuple (ps.set at_ q)) (e := .tuple (ps.set at_ q)) st1 st1) (vc_meth0 MP hr1 T.cl (vc_pin 10) ⟨ps.set at_ q, hl3, rfl, rfl⟩ (lk hl3 (by decide +kernel))) (vc_tuple (ds := ps.set at_ q) B.tuple (vc_dat 11) (Or.inl rfl)))))) (fun e => Bool.noConfusion e) fun _ => wb_nil ?_)
      refine wb_cons (ws_set 13 (.pure vc_bl ?_) nd)
      refine wb_mid (fun env' => env' = [some (.dat (.list (ns.map .int))), some (.own v (olst K D3.ds)), some (.dat (.list ps)), x, y, some (.dat .none), some (.pin (insP K C (fs9 ps))), none, some (.dat (.list qs)), some (.dat (.int (at_ : Int))), some (.pin (insP K C (fs9 (ps.set at_ q)))), some (.dat (.list (ps.set at_ q))), some (.dat (.list ps)), some (.dat (.bool true)), none])
        (ws_try ⟨rfl, by decide, .inl T.bad.gm⟩ tk ?tr2) ?_
      case tr2 =>
        intro W' pn xe tk' po
        refine wb_cons (ws_expr (ec_meth (X := Cx.tr _ pn xe) MT hr tk' T.cl (vc_pin 6) (lk hl (by decide +kernel)) (ac_cons vc_str (ac_cons vc_str ac_nil)) ⟨ps, "keys", .str "all", hl, rfl, fun _ => ⟨true, T.bad.me, fun _ a oe pn' => ?_, fun e => Bool.noConfusion e⟩, fun z => absurd z (by decide +kernel)⟩))
        refine wb_cons (ws_set 13 (.pure vc_bl ?_) nd)
        exact wb_nil rfl
      rintro env' rfl
      refine wb_cons (ws_ret (.pure (vc_andB (b1 := true) (b2 := true) (vc_dat 13) fun _ => vc_one (vis (bool_d (by rw [eqv_bool, eqv_tl]; simp)) (vc_cmp (op_eqD hr.units) (od_eqD (d := .bool (PyData.eqv (.tuple ps) (.tuple qs))) (e := .bool (PyData.eqv (.list ps) (.list qs))) rfl rfl) (vc_eqOwn ME hr2 (vc_pin 6) (vc_call FR hr5 (ac_cons (vc_dat 8) ac_nil) ⟨qs, hl2, rfl, fun _ => rfl, fun y hy => by rw [hqs.fine] at hy; cases hy⟩) ⟨ps, qs, hl, hl2, sh1, sq1, rfl, rfl⟩) (vc_cmp (op_eqD hr.units) (od_eqD sh2 sq2) (vc_dat 2) (vc_dat 8))))) ⟨_, .dat .nil, k⟩))
end
end Pg

set_option maxRecDepth 100000
set_option maxHeartbeats 4000000
/-! the end: what the top has made, read by one hook -/
namespace G
open PySem PySem.Spec PyProof.Rows L2 He
/-! ### constants -/
mutual
def datB (K : PySem.W.Frag) : PyData → Value → Bool
  | .none, u => (match u with | .none => true | _ => false)
  | .bool b, u => (match u with | .bool c => b == c | _ => false)
  | .int i, u => (match u with | .int j _ => decide (i = j) | _ => false)
  | .str x, u => (match u with | .str y _ => decide (x = y) | _ => false)
  | .tuple ds, u => (match u with
    | .ref a => (match K.lookup a with
      | some ⟨.type c, _, .seq its _, _⟩ => decide (c = "tuple") && (decide (its.size ≤ sizeLine) && datsB K ds its.toList)
      | _ => false)
    | _ => false)
  | .list _, _ => false
  | .dict _, _ => false
def datsB (K : PySem.W.Frag) : List PyData → List Value → Bool
  | [], us => us.isEmpty
  | d :: ds, us => (match us with | u :: us => datB K d u && datsB K ds us | [] => false)
end
mutual
theorem datB_ok {K : PySem.W.Frag} : ∀ (d : PyData) (u : Value), datB K d u = true → ∃ v, RelV v u ∧ ∀ F, Dp K F v d
  | .none, u, h => by
    cases u with
    | none => exact ⟨.non, rfl, fun _ => .non⟩
    | _ => simp [datB] at h
  | .bool b, u, h => by
    cases u with
    | bool c =>
      have e : b = c := by simpa [datB] using h
      subst e
      exact ⟨.bl b, rfl, fun _ => .bl b⟩
    | _ => simp [datB] at h
  | .int i, u, h => by
    cases u with
    | int j t =>
      have e : i = j := by simpa [datB] using h
      subst e
      exact ⟨.int i, ⟨t, rfl⟩, fun _ => .int i⟩
    | _ => simp [datB] at h
  | .str x, u, h => by
    cases u with
    | str y t =>
      have e : x = y := by simpa [datB] using h
      subst e
      exact ⟨.str x, ⟨t, rfl⟩, fun _ => .str x⟩
    | _ => simp [datB] at h
  | .tuple ds, u, h => by
    cases u with
    | ref a =>
      rw [datB] at h
      split at h
      · rename_i c od its n osl hk
        obtain ⟨h1, h2⟩ := ba h
        obtain ⟨h3, h4⟩ := ba h2
        obtain ⟨vs, hv, hd⟩ := datsB_ok ds its.toList h4
        exact ⟨.ref a, rfl, fun F => .tup (.inr ⟨_, its, n, hk, congrArg Value.type (of_decide_eq_true h1), rfl, of_decide_eq_true h3, hv⟩) (hd F)⟩
      · cases h
    | _ => simp [datB] at h
  | .list _, u, h => by simp [datB] at h
  | .dict _, u, h => by simp [datB] at h
theorem datsB_ok {K : PySem.W.Frag} : ∀ (ds : List PyData) (us : List Value), datsB K ds us = true → ∃ vs, Vals vs us ∧ ∀ F, DpAll K F vs ds
  | [], [], _ => ⟨[], .nil, fun _ => .nil⟩
  | [], _ :: _, h => by simp [datsB] at h
  | _ :: _, [], h => by simp [datsB] at h
  | d :: ds, u :: us, h => by
    rw [datsB] at h
    obtain ⟨h1, h2⟩ := ba h
    obtain ⟨v, hv, hd⟩ := datB_ok d u h1
    obtain ⟨vs, hvs, hds⟩ := datsB_ok ds us h2
    exact ⟨v :: vs, .cons hv hvs, fun F => .cons (hd F) (hds F)⟩
end
def globB (K : PySem.W.Frag) (x : Str) (d : PyData) : Bool := match PySem.W.nsIn K mainGlobals x with
  | some (some u) => datB K d u
  | _ => false
theorem globB_ok {K : PySem.W.Frag} {h : Heap} {mg : Str → Option Value} (X : K.In h) (N : h.Ns mainGlobals mg) {x : Str} {d : PyData} (c : globB K x d = true) : ∃ v u, mg x = some u ∧ RelV v u ∧ ∀ F, Dp K F v d := by
  unfold globB at c
  split at c
  · rename_i u e
    obtain ⟨v, h1, h2⟩ := datB_ok d u c
    exact ⟨v, u, PySem.W.mg_of X N e, h1, h2⟩
  · cases c
/-! ### classes -/
def oexB (K : PySem.W.Frag) (C : Addr) : Bool := match K.lookup C with
  | some ⟨.type "type", _, .cls cd, sl⟩ => (match cd.mro, sl.toList with
    | .ref C1 :: bm, [_, _, _, _, some (.builtin n), _] => C1 == C && (n == "ValueError.__new__" && (!cd.hasDel && (cd.hasDict && PySem.HandSPX.refsVE bm)))
    | _, _ => false)
  | _ => false
theorem oexB_ok {K : PySem.W.Frag} {C : Addr} (q : oexB K C = true) : ∃ nm q N bs bm sn sub ab col dd k0 k1 k2 k3 k5, K.lookup C = some (excClassObj nm q C N bs bm true sn sub ab col dd k0 k1 k2 k3 k5 "ValueError.__new__") ∧ PySem.HandSPX.refsVE bm = true := by
  unfold oexB at q
  split at q
  · rename_i dd cd sl ho
    split at q
    · rename_i C1 bm k0 k1 k2 k3 n k5 hm hs
      obtain ⟨q1, q⟩ := ba q
      obtain ⟨q2, q⟩ := ba q
      obtain ⟨q3, q⟩ := ba q
      obtain ⟨q4, q5⟩ := ba q
      have e1 := beq_iff_eq.mp q1
      have e2 := beq_iff_eq.mp q2
      subst e1 e2
      obtain ⟨nm, bs, mro, ns, qn, hd, sn, sub, ab, col, del⟩ := cd
      have e3 : del = false := by simpa using q3
      have e4 : hd = true := q4
      have e5 : mro = .ref C1 :: bm := hm
      subst e3 e4 e5
      refine ⟨nm, qn, ns, bs, bm, sn, sub, ab, col, dd, k0, k1, k2, k3, k5, ?_, q5⟩
      rw [ho]
      obtain ⟨l⟩ := sl
      have e6 : l = [k0, k1, k2, k3, some (.builtin "ValueError.__new__"), k5] := hs
      rw [e6]
    · cases q
  · cases q
/-- an own exception with one field -/
def excB (K : PySem.W.Frag) (x f : Str) : Bool := oexB K (ga K x) && (xfB K (ga K x) && ((Fa.glo x).ok K && ((Fa.noat x f).ok K && ((Fa.exm x x true).ok K && ((Fa.meth x "__init__").ok K && (decide (PySem.W.typeIn K (.ref (ma K (ga K x) "__init__")) = some (.type "function")) &&
  (eqO (PySem.W.findIn K (.ref (ga K x)) "__setattr__") (some (some (.builtin "object.__setattr__"))) && (decide (PySem.W.subIn K (.ref (ga K x)) (.type "BaseException") = some true) && (decide (PySem.W.typeIn K (.ref (ga K x)) = some (.type "type")) && PySem.W.keepIn K (.ref (ga K x)))))))))))
theorem excB_ok {P : Program} {w : World} {K : PySem.W.Frag} {h : Heap} {mg : Str → Option Value} {base : Heap} (X : K.In h) (N : h.Ns mainGlobals mg) {x f : Str} (c : excB K x f = true)
    (ini : ∀ fI, PySem.W.findIn K (.ref (ga K x)) "__init__" = some (some (.ref fI)) → fI = ma K (ga K x) "__init__" → OexC K (ga K x) → PySem.W.findIn K (.ref (ga K x)) f = some none → ∃ fd ps, Binds K fd ps [] ∧ FnOk P w K mg base (L2.CX P w) 1 fI fd ps (spExc (ga K x) f)) : Exk P w K mg base x (ga K x) f := by
  unfold excB at c
  obtain ⟨c1, c⟩ := ba c
  obtain ⟨c2, c⟩ := ba c
  obtain ⟨c3, c⟩ := ba c
  obtain ⟨c4, c⟩ := ba c
  obtain ⟨c5, c⟩ := ba c
  obtain ⟨c6, c⟩ := ba c
  obtain ⟨c7, c⟩ := ba c
  obtain ⟨c8, c⟩ := ba c
  obtain ⟨c9, c⟩ := ba c
  obtain ⟨c10, c11⟩ := ba c
  have oe : OexC K (ga K x) := ⟨oexB_ok c1, eqO_ok c8, of_decide_eq_true c9, of_decide_eq_true c10, c11⟩
  have no : PySem.W.findIn K (.ref (ga K x)) f = some none := noat_ok c4
  have me := meth_ok c6
  obtain ⟨fd, ps, hb, ok⟩ := ini _ me.at_ rfl oe no
  exact ⟨oe, xfB_ok c2, glo_ok X N c3, no, exm_ok c5, _, fd, ps, me.at_, of_decide_eq_true c7, hb, ok⟩
/-- isinstance(.., x) of x's instances -/
def isiB (K : PySem.W.Frag) (x : Str) : Bool := (Fa.cls x).ok K && (eqO (PySem.W.findIn K (.ref (ga K x)) "__class__") (some (some (.builtin "object.__class__"))) && (eqO (PySem.W.specialIn K (.builtin "object.__class__") "__get__") (some (some (.builtin "getset_descriptor.__get__"))) &&
  (decide (PySem.W.takesIn K (.builtin "object.__class__") = some true) && (decide (PySem.W.mroIn K (ga K x) (.type "object") = some true) && decide (PySem.W.kitOne K (.ref (ga K x)) (.ref (ga K x)) = some true)))))
theorem isiB_ok {K : PySem.W.Frag} {x : Str} (c : isiB K x = true) : IsiC K (ga K x) := by
  unfold isiB at c
  obtain ⟨c1, c⟩ := ba c
  obtain ⟨c2, c⟩ := ba c
  obtain ⟨c3, c⟩ := ba c
  obtain ⟨c4, c⟩ := ba c
  obtain ⟨c5, c6⟩ := ba c
  exact ⟨cls_ok c1, eqO_ok c2, eqO_ok c3, of_decide_eq_true c4, of_decide_eq_true c5, of_decide_eq_true c6⟩
/-! ### defs -/
structure DD where
  at_ : Str × Option Str
  qual : Str
  st : Stmt
def DD.name (d : DD) : Str := match d.at_.2 with
  | none => d.at_.1
  | some m => m
def DD.fnd (d : DD) : FnD := ⟨d.at_, d.name, d.qual, defArgs d.st, defBody d.st, defScope d.st⟩
def DD.ok (K : PySem.W.Frag) (d : DD) : Bool := (Fa.code d.at_ d.qual).ok K && (match d.at_.2 with
  | none => (Fa.glo d.at_.1).ok K && (Fa.keep d.at_.1).ok K
  | some m => (Fa.meth d.at_.1 m).ok K)
abbrev AlM : Type := Bool × List FnV
def obsM (ds : List DD) (ex : PySem.W.Frag → Bool) (K : PySem.W.Frag) : AlM := ((ds.all fun d => d.ok K) && ex K, ds.map fun d => fnObs K d.at_)
def valM (ds : List DD) : AlM := (true, ds.map fun d => d.fnd.val)
def obsMG (n : Nat) (ds : List DD) (ex : PySem.W.Frag → Bool) (g : Addr → Option Obj) : AlM := obsM ds ex (frG g (asD g n))
def hookM (n : Nat) (ds : List DD) (ex : PySem.W.Frag → Bool) : PySem.W.Hook where
  α := AlM
  obs := fun s => obsMG n ds ex s.heap.get?
  val := fun _ => valM ds
  says := fun _ h => ∃ K : PySem.W.Frag, K.In h ∧ obsM ds ex K = valM ds
  of := fun _ _ e => ⟨_, frG_in, e⟩
  keeps := fun _ _ _ ⟨K, hK, c⟩ k => ⟨K, PySem.W.Frag.In.keeps hK k, c⟩
theorem obsM_eq {n : Nat} {ds : List DD} {ex : PySem.W.Frag → Bool} {g : Addr → Option Obj} {s : Shared} (h : ∀ a, g a = s.heap.get? a) : obsMG n ds ex g = (hookM n ds ex).obs s := by
  have e : g = s.heap.get? := funext h
  rw [e] <;> rfl
section
variable {ds : List DD} {ex : PySem.W.Frag → Bool} {K : PySem.W.Frag} {h : Heap} {mg : Str → Option Value}
theorem says_ex (c : obsM ds ex K = valM ds) : ex K = true := (ba (show ((ds.all fun d => d.ok K) && ex K) = true from congrArg (fun z : AlM => z.1) c)).2
theorem says_fun (c : obsM ds ex K = valM ds) (i : Nat) {d : DD} (hd : ds[i]? = some d) (hk : PySem.W.keepIn K (.ref (fAd K d.at_)) = true) : ∃ fd, Fun K d.name d.qual d.st (fAd K d.at_) fd := by
  have c2 := (ba (show ((ds.all fun d => d.ok K) && ex K) = true from congrArg (fun z : AlM => z.1) c)).1
  have e : ds.map (fun d => fnObs K d.at_) = ds.map fun d => d.fnd.val := congrArg (fun z : AlM => z.2) c
  have e2 : (ds.map fun d => fnObs K d.at_)[i]? = (ds.map fun d => d.fnd.val)[i]? := by rw [e]
  rw [List.getElem?_map, List.getElem?_map, hd] at e2
  have ok := List.all_eq_true.mp c2 d (List.mem_of_getElem? hd)
  obtain ⟨oc, od, osl, kV, doc, pm, an, cdv, ct, l, cc⟩ := fn_ok (d := d.fnd) (Option.some.inj e2) (ba ok).1
  exact ⟨_, fun_mk l cc hk⟩
theorem says_glo (c : obsM ds ex K = valM ds) (X : K.In h) (N : h.Ns mainGlobals mg) (i : Nat) {x : Str} {st : Stmt} (hd : ds[i]? = some ⟨(x, none), x, st⟩) {ps : List Str}
    (hb : ∀ (kV doc pm : Value) (an : Option Addr) (cdv ct : Value) (us : List Value), us.length = ps.length → bindArgs (PySem.W.fnOf x x (defArgs st) (defBody st) (defScope st) .none kV doc pm an cdv ct) ⟨us, []⟩ = pure (ps.zip us)) : Df K mg x st ps := by
  have c2 := (ba (show ((ds.all fun d => d.ok K) && ex K) = true from congrArg (fun z : AlM => z.1) c)).1
  have ok := List.all_eq_true.mp c2 _ (List.mem_of_getElem? hd)
  obtain ⟨g1, g2⟩ := ba (ba ok).2
  obtain ⟨fd, F⟩ := says_fun c i hd (keep_ok g2)
  exact ⟨_, fd, F, glo_ok X N g1, F.binds hb⟩
theorem says_meth (c : obsM ds ex K = valM ds) (i : Nat) {x m q : Str} {st : Stmt} (hd : ds[i]? = some ⟨(x, some m), q, st⟩) {ps : List Str}
    (hb : ∀ (kV doc pm : Value) (an : Option Addr) (cdv ct : Value) (us : List Value), us.length = ps.length → bindArgs (PySem.W.fnOf m q (defArgs st) (defBody st) (defScope st) .none kV doc pm an cdv ct) ⟨us, []⟩ = pure (ps.zip us)) : Dm K (ga K x) m q st ps := by
  have c2 := (ba (show ((ds.all fun d => d.ok K) && ex K) = true from congrArg (fun z : AlM => z.1) c)).1
  have ok := List.all_eq_true.mp c2 _ (List.mem_of_getElem? hd)
  have g := meth_ok (ba ok).2
  obtain ⟨fd, F⟩ := says_fun c i hd g.kp
  exact ⟨_, fd, F, g, F.binds hb⟩
theorem says_init (c : obsM ds ex K = valM ds) (X : K.In h) (N : h.Ns mainGlobals mg) (i : Nat) {x q : Str} {st : Stmt} (hd : ds[i]? = some ⟨(x, some "__init__"), q, st⟩) {ps : List Str} (hm : (Fa.mkr x).ok K = true) (hg : (Fa.glo x).ok K = true)
    (hb : ∀ (kV doc pm : Value) (an : Option Addr) (cdv ct : Value) (us : List Value), us.length = ps.length → bindArgs (PySem.W.fnOf "__init__" q (defArgs st) (defBody st) (defScope st) .none kV doc pm an cdv ct) ⟨us, []⟩ = pure (ps.zip us)) : Di K mg x (ga K x) q st ps := by
  have c2 := (ba (show ((ds.all fun d => d.ok K) && ex K) = true from congrArg (fun z : AlM => z.1) c)).1
  have ok := List.all_eq_true.mp c2 _ (List.mem_of_getElem? hd)
  have g := meth_ok (ba ok).2
  obtain ⟨fd, F⟩ := says_fun c i hd g.kp
  exact ⟨_, fd, F, mkr_ok hm, glo_ok X N hg, F.binds hb⟩
end
def biL : List Str := ["len", "any", "all", "list", "tuple", "range", "enumerate", "zip", "int", "str", "bool", "isinstance", "set", "dict", "max", "min", "sorted"]
def biB (K : PySem.W.Frag) : Bool := biL.all fun x => (Fa.free x).ok K
theorem biB_ok {K : PySem.W.Frag} {h : Heap} {mg : Str → Option Value} (X : K.In h) (N : h.Ns mainGlobals mg) (c : biB K = true) : Bi mg := by
  have f : ∀ i x, biL[i]? = some x → mg x = none := fun i x e => free_ok X N (List.all_eq_true.mp c x (List.mem_of_getElem? e))
  exact ⟨f 0 _ rfl, f 1 _ rfl, f 2 _ rfl, f 3 _ rfl, f 4 _ rfl, f 5 _ rfl, f 6 _ rfl, f 7 _ rfl, f 8 _ rfl, f 9 _ rfl, f 10 _ rfl, f 11 _ rfl, f 12 _ rfl, f 13 _ rfl, f 14 _ rfl, f 15 _ rfl, f 16 _ rfl⟩
/-- the law's promise from its Fn -/
theorem law_end {P : Program} {w : World} {K : PySem.W.Frag} {mg : Str → Option Value} {base : Heap} {k : Nat} {spec : Spec} {f : Addr} {fd : FuncData} {ps : List Str} (ok : FnOk P w K mg base (L2.CX P w) k f fd ps (spG K spec))
    {H : Hp} {a : Addr} {ns : List Int} (hS : SqL K H a (ns.map V.int)) (only : Same H H) (hs : spec [.dat (.list (ns.map .int))] (fun c _ => c = .dat (.bool true)) (fun _ _ => False)) : spG K spec [.ref a] H (fun v _ => v = .bl true) fun _ _ _ => False := by
  have hd : DpAll K H (ns.map L2.V.int) (ns.map .int) := by
    clear hS hs
    induction ns with
    | nil => exact .nil
    | cons n ns ih => exact .cons (.int n) ih
  refine call_pureX (PC := fun c => c = .dat (.bool true)) (PX := fun _ => False) (F := H) only (.dat (.lst hS hd) .nil) hs (fun v F' H' Sv c g hv _ e => ?_) fun _ _ _ _ _ _ _ z => z.elim
  subst e
  have := hv.1
  cases this
  rfl
end G

set_option maxRecDepth 100000
set_option maxHeartbeats 4000000
namespace G
open PySem PySem.Spec PyProof.Rows L2 He
theorem cx_never {P : Program} {w : World} (H : Hp) (s : Shared) (e : Value) (s' : Shared) : ¬ L2.CX P w [] H s (fun _ _ _ => False) e s' := fun ⟨_, _, _, _, _, _, _, _, _, _, _, _, z⟩ => z
/-- from the hook's word to the law -/
theorem walkG {l : PySem.W.OpenLaw} {k m : Nat} {q : Program} {loose : List Str} {XP : (Str → Option Value) → Heap → Prop} {d : DefRec} {x : Str} {ds : List DD} {ex : PySem.W.Frag → Bool}
    (hn : l.most = some 63) (hdf : d.params.defaults = []) (hr : Room k callerA)
    (F : ∀ (w : World) (mg : Str → Option Value) (h : Heap) (K : PySem.W.Frag), K.In h → h.Ns mainGlobals mg → obsM ds ex K = valM ds → ∃ (f : Addr) (fd : FuncData), mg d.name = some (.ref f) ∧ (∀ (s : Shared) (u : Value), BindsTo s fd ⟨[u], []⟩ [(x, u)]) ∧
      ∀ base : Heap, K.In base → base.Ns mainGlobals mg → FnOk l.prog w K mg base (L2.CX l.prog w) k f fd [x] (spG K fun cs R _ => ∃ ns : List Int, cs = [.dat (.list (ns.map .int))] ∧ R (.dat (.bool true)) cs)) :
    PySem.W.WalkO q loose XP (hookM m ds ex).says l.row.toRowW d [] (fun f vs => PySem.call f vs) := by
  refine Att.attach_call hn hdf (fun w s0 s1 mg mb fa o pm cd doc a vs ns G Y ho hd hcd hmg hobj hints hlen hg => ?_)
  obtain ⟨K, KX, c⟩ := Y
  obtain ⟨f, fd, hf, hb, hF⟩ := F w mg _ K KX G.T.g c
  have e := hmg.symm.trans hf
  cases e
  refine law_call KX G.T.g G.T.b G.T.builtins G.T.nolimit hg hobj hints (Nat.le_trans hlen (by rw [sizeLine_eq]; decide)) hr (fun base h1 h2 => hF base h1 h2) hb (fun H hO hS => ?_) fun H e => cx_never H s1 e
  exact law_end (hF _ KX G.T.g) hS (Same.refl H) ⟨ns, rfl, rfl⟩
end G

set_option maxRecDepth 100000
set_option maxHeartbeats 0
namespace Pg
open PySem PySem.Spec PyProof.Rows L2 G M He
def dds : List DD := [⟨("is_value", none), "is_value", s_is_value⟩, ⟨("rule_of", none), "rule_of", s_rule_of⟩, ⟨("_law_begin", none), "_law_begin", s__law_begin⟩, ⟨("_law_draw", none), "_law_draw", s__law_draw⟩, ⟨("_law_values", none), "_law_values", s__law_values⟩, ⟨("_law_names", none), "_law_names", s__law_names⟩,
  ⟨("_law_parts", none), "_law_parts", s__law_parts⟩, ⟨("_law_rule", none), "_law_rule", s__law_rule⟩, ⟨("_law_due", none), "_law_due", s__law_due⟩, ⟨("law", none), "law", s_law⟩,
  ⟨("BadRule", some "__init__"), "BadRule.__init__", s_BadRule_init⟩, ⟨("Rule", some "__init__"), "Rule.__init__", s_Rule_init⟩, ⟨("Rule", some "parts"), "Rule.parts", s_Rule_parts⟩, ⟨("Rule", some "__eq__"), "Rule.__eq__", s_Rule_eq⟩, ⟨("Rule", some "turned"), "Rule.turned", s_Rule_turned⟩]
def ruleB (K : PySem.W.Frag) : Bool := (Fa.mkr "Rule").ok K && ((Fa.glo "Rule").ok K && (isiB K "Rule" && ((partsL.all fun x => (Fa.noat "Rule" x).ok K) && (excB K "BadRule" "part" && (globB K "PARTS" partsD && globB K "VALUES" valsD)))))
def exK (K : PySem.W.Frag) : Bool := biB K && ruleB K
abbrev RR : PySem.W.OpenRow := PySem.W.OpenLaw.row PySem.Challenge.rw_markedgone_k01_rules_refused
abbrev hkM : PySem.W.Hook := hookM 6 dds exK
def obM (s : PySem.W.SharedT) : AlM := obsMG 6 dds exK (HandSHeadRun.getT s)
theorem obM_eq (s : PySem.W.SharedT) : obM s = hkM.obs s.abs := obsM_eq (HandSHeadRun.getT_eq s)
def loose : List Str := ["GoneError", "BadRule", "PARTS", "VALUES", "is_value", "Rule", "rule_of", "_law_begin", "_law_draw", "_law_values", "_law_names", "_law_parts", "_law_rule", "_law_due"]
theorem run (w : World) : HandSHeadRun.RunEq RR (PySem.W.view RR.prog [17]) hkM obM 3000 loose w := by
  intro os
  kernel_rfl
section
variable {P : Program} {w : World} {K : PySem.W.Frag} {h : Heap} {mg : Str → Option Value}
theorem ok_badrule {base : Heap} {C fI : Addr} {fd : FuncData} (F : L2.Fun K "__init__" "BadRule.__init__" s_BadRule_init fI fd) (T : OexC K C) (no : PySem.W.findIn K (.ref C) "part" = some none) : FnOk P w K mg base (L2.CX P w) 1 fI fd p_BadRule_init (spExc C "part") := by
  refine F.okX sc_BadRule_init (fun vs H Q E h => ?_) fun cdv A outer s H vs Q E hr h => ?_
  · obtain ⟨a, v, rfl, _⟩ := h
    rfl
  · obtain ⟨a, v, rfl, ha, k⟩ := h
    exact ⟨_, pss_one (ps_ost (pv 0) (pv 1)), v, rfl, .ref a, rfl, a, C, rfl, T, no, .inl ⟨ha, k⟩⟩
theorem ruleK_of {base : Heap} (X : K.In h) (N : h.Ns mainGlobals mg) (c : obsM dds exK K = valM dds) (q : ruleB K = true) : RuleK P w K mg base (ga K "Rule") (ga K "BadRule") ∧ IsiC K (ga K "Rule") ∧ mg "Rule" = some (.ref (ga K "Rule")) := by
  unfold ruleB at q
  obtain ⟨q1, q⟩ := ba q
  obtain ⟨q2, q⟩ := ba q
  obtain ⟨q3, q⟩ := ba q
  obtain ⟨q4, q⟩ := ba q
  obtain ⟨q5, q⟩ := ba q
  obtain ⟨q6, q7⟩ := ba q
  refine ⟨⟨(isiB_ok q3).cl, fun x hx => noat_ok (List.all_eq_true.mp q4 x hx), ?_, globB_ok X N q6, globB_ok X N q7⟩, isiB_ok q3, glo_ok X N q2⟩
  refine excB_ok X N q5 fun fI h1 h2 oe no => ?_
  obtain ⟨f, fd, F, m, b⟩ := says_meth c 10 (x := "BadRule") (m := "__init__") rfl (ps := p_BadRule_init) fun _ _ _ _ _ _ us hl => match us, hl with | [_, _], _ => rfl
  have e : f = fI := by have := m.at_.symm.trans h1; cases this; rfl
  subst e
  exact ⟨fd, _, b, ok_badrule F oe no⟩
theorem all_of (X : K.In h) (N : h.Ns mainGlobals mg) (c : obsM dds exK K = valM dds) : ∃ (f : Addr) (fd : FuncData), mg "law" = some (.ref f) ∧ (∀ (s : Shared) (u : Value), BindsTo s fd ⟨[u], []⟩ [("_law_script", u)]) ∧
    ∀ base : Heap, K.In base → base.Ns mainGlobals mg → FnOk P w K mg base (L2.CX P w) 7 f fd ["_law_script"] (spG K sp_law) := by
  have ex : (biB K && ruleB K) = true := says_ex c
  obtain ⟨x1, x2⟩ := ba ex
  have B : Bi mg := biB_ok X N x1
  have DL : Df K mg "law" s_law p_law := says_glo c X N 9 rfl fun _ _ _ _ _ _ us hl => match us, hl with | [_], _ => rfl
  obtain ⟨f, fd, FL, gl, bl⟩ := DL.ex
  refine ⟨f, fd, gl, ?_, fun base Xb Nb => ?_⟩
  · obtain ⟨oc, od, kV, doc, pm, an, cdv, ct, osl, rfl, _⟩ := FL.ex
    exact fun s u => .of_eq rfl
  obtain ⟨T, I, gR⟩ := ruleK_of (P := P) (w := w) (base := base) X N c x2
  have q2 : (Fa.mkr "Rule").ok K = true := (ba x2).1
  have q3 : (Fa.glo "Rule").ok K = true := (ba (ba x2).2).1
  have IV := fn_is_value (P := P) (w := w) (K := K) (base := base) B (says_glo c X N 0 rfl fun _ _ _ _ _ _ us hl => match us, hl with | [_, _], _ => rfl)
  have IR := ini_rule B T (says_init c X N 11 rfl q2 q3 fun _ _ _ _ _ _ us hl => match us, hl with | [_, _, _, _, _, _, _, _, _, _], _ => rfl) IV
  have RO := fn_rule_of (says_glo c X N 1 rfl fun _ _ _ _ _ _ us hl => match us, hl with | [_], _ => rfl) IR
  have MP := fm_parts T (says_meth c 12 rfl fun _ _ _ _ _ _ us hl => match us, hl with | [_], _ => rfl)
  have ME := fm_eq B T I gR (says_meth c 13 rfl fun _ _ _ _ _ _ us hl => match us, hl with | [_, _], _ => rfl) MP
  have MT := fm_turned B T (says_meth c 14 rfl fun _ _ _ _ _ _ us hl => match us, hl with | [_, _, _], _ => rfl) MP RO
  have FB := fn_begin (P := P) (w := w) (K := K) (base := base) B (says_glo c X N 2 rfl fun _ _ _ _ _ _ us hl => match us, hl with | [_], _ => rfl)
  have FD := fn_draw (P := P) (w := w) (K := K) (base := base) B (says_glo c X N 3 rfl fun _ _ _ _ _ _ us hl => match us, hl with | [_, _], _ => rfl)
  have FV := fn_values (P := P) (w := w) (K := K) (base := base) (says_glo c X N 4 rfl fun _ _ _ _ _ _ us hl => match us, hl with | [], _ => rfl)
  have FN := fn_names (P := P) (w := w) (K := K) (base := base) (says_glo c X N 5 rfl fun _ _ _ _ _ _ us hl => match us, hl with | [], _ => rfl)
  have FP := fn_parts B (says_glo c X N 6 rfl fun _ _ _ _ _ _ us hl => match us, hl with | [_], _ => rfl) FD FV
  have FR := fn_law_rule (says_glo c X N 7 rfl fun _ _ _ _ _ _ us hl => match us, hl with | [_], _ => rfl) IR
  have FE := fn_due B (says_glo c X N 8 rfl fun _ _ _ _ _ _ us hl => match us, hl with | [_], _ => rfl) FV FN
  exact ok_law B T FL FB FD FV FN FP FR FE MP ME MT
end
end Pg
open PySem PySem.W PySem.Calls PyProof.Rows
theorem PySem.Challenge.cw_markedgone_k01_rules_refused_holds : PySem.Challenge.rw_markedgone_k01_rules_refused.Holds := by
  w_on; o_law
  refine HandSHeadRun.head_any (r := OpenLaw.row PySem.Challenge.rw_markedgone_k01_rules_refused) (q := view (OpenLaw.row PySem.Challenge.rw_markedgone_k01_rules_refused).prog [17]) (H := Pg.hkM) (ob := Pg.obM) (M := 3000) (loose := Pg.loose) (d := HandSHeadRun.topDef (OpenLaw.row PySem.Challenge.rw_markedgone_k01_rules_refused).prog 17) (kwd := []) Pg.obM_eq
    (by kernel_rfl) (fun s => by kernel_rfl) Pg.run (by kernel_rfl) (by kernel_rfl) (by kernel_rfl) (by rfl) (by first | assumption | decide +kernel) (by decide +kernel) ⟨rfl, rfl, rfl, rfl, rfl, by decide +kernel⟩ ?hw ?hc
  case hw => w_witness2
  case hc =>
    refine G.walkG (l := PySem.Challenge.rw_markedgone_k01_rules_refused) (k := 7) (m := 6) (x := "_law_script") (ds := Pg.dds) (ex := Pg.exK) rfl (by kernel_rfl) ⟨rfl, by decide, by decide⟩ fun w mg h K KX N c => ?_
    have e : (HandSHeadRun.topDef (OpenLaw.row PySem.Challenge.rw_markedgone_k01_rules_refused).prog 17).name = ("law" : PySem.Str) := by kernel_rfl
    rw [e]
    exact Pg.all_of KX N c

