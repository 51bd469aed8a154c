import PyProof.Rows.All
import Wide.All
import OpenK.AllK
import Wide.FinOn
import HandS.ForMost
import HandS.TupAny
import HandS.Exc
import HandS.ExcOwn
import HandS.TryOnly
import HandS.TryMany
import HandS.WordsExc
import KE.GoesNew
import KE.GoesMore
import KE.GoesEnum
import HandS.Deep
import HandS.IsInst
import HandS.DictComp
import HandS.ExcField
import HandS.ExcInit
import HandS.OwnEq
import KE.KDictZip
import KE.GoesZip
import HandS.Strs
import PySem.Challenge.RW_markedgone_k05_whole_known_faults
import HandS.Conv
import KE.KDictDisplayH
import HandS.TupLen
import HandS.Iter
import HandS.More
import HandS.Head0
import HandS.Head1
import HandS.Head2
import HandS.HeadHook1
import HandS.HeadHook2
import HandS.HeadEnd
set_option Elab.async false
set_option linter.all false
set_option maxRecDepth 100000
set_option maxHeartbeats 2000000
/-! A layer of data over the hand layer: what a name holds is plain data (PyData), a lasting fact, or an object of one's own. -/
namespace G
open PySem PySem.Spec PyProof.Rows L2

abbrev St := L2.St
abbrev V := L2.V
/-! ### fused readings -/
def wE (X : Cx) (e : Expr) : TE := fun σ H Q => ∃ t, PE X e t ∧ t σ H Q
def wT (X : Cx) (e : Expr) : TT := fun σ H Q => ∃ t, PT X e t ∧ t σ H Q
def wW (X : Cx) (e : Expr) : TT := fun σ H Q => ∃ t, PW X e t ∧ t σ H Q
def wA (X : Cx) (es : List Expr) : TA := fun σ H Q => ∃ t, PA X es t ∧ t σ H Q
def wS (X : Cx) (s : Stmt) : TS := fun D σ H => ∃ t, PS X s t ∧ t D σ H
def wB (X : Cx) (ss : List Stmt) : TS := fun D σ H => ∃ t, PSs X ss t ∧ t D σ H
def wI (X : Cx) (tg e : Expr) : TI := fun σ H R => ∃ t, PI X tg e t ∧ t σ H R
def wG (X : Cx) (tg : Expr) : TG := fun v σ H Q => ∃ t, PG X tg t ∧ t v σ H Q
section
variable {X : Cx}
theorem pwE {e : Expr} : PE X e (wE X e) := ⟨fun pins s σ H Q I ⟨t, h, q⟩ => h.run pins s σ H Q I q⟩
theorem pwT {e : Expr} : PT X e (wT X e) := ⟨fun pins s σ H Q I ⟨t, h, q⟩ => h.run pins s σ H Q I q⟩
theorem pwW {e : Expr} : PW X e (wW X e) := ⟨fun whole pins s σ H Q I ⟨t, h, q⟩ => h.run whole pins s σ H Q I q⟩
theorem pwA {e : List Expr} : PA X e (wA X e) := ⟨fun pos pins s σ H Q I ⟨t, h, q⟩ => h.run pos pins s σ H Q I q⟩
theorem pwS {e : Stmt} : PS X e (wS X e) := ⟨fun pins s σ H Q I ⟨t, h, q⟩ => h.run pins s σ H Q I q⟩
theorem pwB {e : List Stmt} : PSs X e (wB X e) := ⟨fun pins s σ H Q I ⟨t, h, q⟩ => h.run pins s σ H Q I q⟩
end

/-! ### data -/
/-- a text of a written one -/
abbrev S (x : String) : Str := Str.ofString x
/-- what is lasting -/
structure Ps where
  At : Hp → V → Prop
  mono : ∀ {F F' : Hp} {v : V}, Same F F' → At F v → At F' v
/-- what is one's own: at the known part F, in the heap H, the value v, over the places S -/
structure Rs where
  At : Hp → Hp → V → (Addr → Prop) → Prop
  mono : ∀ {F F' H H' : Hp} {v : V} {S : Addr → Prop}, Same F F' → (∀ a, S a → H' a = H a) → At F H v S → At F' H' v S
inductive Ct where
  | dat (d : PyData)
  | pin (P : Ps)
  | own (v : V) (R : Rs)
abbrev En := List (Option Ct)

section
variable {K : PySem.W.Frag} {F F' H H' : Hp}
theorem same_sqT {a : Addr} {xs : List V} (e : Same F F') (h : SqT K F a xs) : SqT K F' a xs := by
  rcases h with (h | ⟨o, h⟩) | h
  · exact .inl (.inl (e _ _ h))
  · exact .inl (.inr ⟨o, e _ _ h⟩)
  · exact .inr h
mutual
theorem dp_mono (e : Same F F') : ∀ {v : V} {d : PyData}, Dp K F v d → Dp K F' v d
  | _, _, .non => .non
  | _, _, .bl b => .bl b
  | _, _, .int i => .int i
  | _, _, .str x => .str x
  | _, _, .lst h hs => .lst (e.seq h) (dps_mono e hs)
  | _, _, .tup h hs => .tup (same_sqT e h) (dps_mono e hs)
theorem dps_mono (e : Same F F') : ∀ {vs : List V} {ds : List PyData}, DpAll K F vs ds → DpAll K F' vs ds
  | _, _, .nil => .nil
  | _, _, .cons h hs => .cons (dp_mono e h) (dps_mono e hs)
end
theorem dps_length : ∀ {vs : List V} {ds : List PyData}, DpAll K F vs ds → vs.length = ds.length
  | _, _, .nil => rfl
  | _, _, .cons _ hs => by rw [List.length_cons, List.length_cons, dps_length hs]
theorem dps_get : ∀ {vs : List V} {ds : List PyData}, DpAll K F vs ds → ∀ {i : Nat} {d : PyData}, ds[i]? = some d → ∃ v, vs[i]? = some v ∧ Dp K F v d
  | _, _, .nil, i, d, h => by simp at h
  | _, _, .cons (v := v) h hs, 0, d, e => by
    simp at e
    subst e
    exact ⟨v, rfl, h⟩
  | _, _, .cons h hs, i + 1, d, e => by
    obtain ⟨v, h1, h2⟩ := dps_get hs (i := i) (d := d) (by simpa using e)
    exact ⟨v, by simpa using h1, h2⟩
theorem dps_getv : ∀ {vs : List V} {ds : List PyData}, DpAll K F vs ds → ∀ {i : Nat} {v : V}, vs[i]? = some v → ∃ d, ds[i]? = some d ∧ Dp K F v d
  | _, _, .nil, i, d, h => by simp at h
  | _, _, .cons (d := d) h hs, 0, v, e => by
    simp at e
    subst e
    exact ⟨d, rfl, h⟩
  | _, _, .cons h hs, i + 1, d, e => by
    obtain ⟨v, h1, h2⟩ := dps_getv hs (i := i) (v := d) (by simpa using e)
    exact ⟨v, by simpa using h1, h2⟩
theorem dps_append : ∀ {vs ws : List V} {ds es : List PyData}, DpAll K F vs ds → DpAll K F ws es → DpAll K F (vs ++ ws) (ds ++ es)
  | _, _, _, _, .nil, h => h
  | _, _, _, _, .cons h hs, h' => .cons h (dps_append hs h')
theorem dps_take : ∀ {vs : List V} {ds : List PyData} (n : Nat), DpAll K F vs ds → DpAll K F (vs.take n) (ds.take n)
  | _, _, 0, _ => .nil
  | _, _, _ + 1, .nil => .nil
  | _, _, n + 1, .cons h hs => .cons h (dps_take n hs)
theorem dps_drop : ∀ {vs : List V} {ds : List PyData} (n : Nat), DpAll K F vs ds → DpAll K F (vs.drop n) (ds.drop n)
  | _, _, 0, h => h
  | _, _, _ + 1, .nil => .nil
  | _, _, n + 1, .cons h hs => dps_drop n hs
theorem dps_set {v : V} {d : PyData} (h : Dp K F v d) : ∀ {vs : List V} {ds : List PyData} (i : Nat), DpAll K F vs ds → DpAll K F (vs.set i v) (ds.set i d)
  | _, _, _, .nil => .nil
  | _, _, 0, .cons _ t => .cons h t
  | _, _, i + 1, .cons q t => .cons q (dps_set h i t)
theorem dps_reverse : ∀ {vs : List V} {ds : List PyData}, DpAll K F vs ds → DpAll K F vs.reverse ds.reverse
  | _, _, .nil => .nil
  | _, _, .cons h hs => by
    rw [List.reverse_cons, List.reverse_cons]
    exact dps_append (dps_reverse hs) (.cons h .nil)

def Hold (K : PySem.W.Frag) (F H : Hp) (v : V) (S : Addr → Prop) : Ct → Prop
  | .dat d => Dp K F v d ∧ ∀ a, ¬ S a
  | .pin P => P.At F v ∧ ∀ a, ¬ S a
  | .own v' R => v = v' ∧ R.At F H v S ∧ ∀ a, S a → F a = none ∧ ∃ o, H a = some o
theorem Hold.keep {v : V} {S : Addr → Prop} {c : Ct} (h : Hold K F H v S c) (e : Same F F') (eH : ∀ a, S a → H' a = H a) (eF : ∀ a, S a → F' a = none) : Hold K F' H' v S c := by
  cases c with
  | dat d => exact ⟨dp_mono e h.1, h.2⟩
  | pin P => exact ⟨P.mono e h.1, h.2⟩
  | own v' R =>
    obtain ⟨h0, h1, h2⟩ := h
    exact ⟨h0, R.mono e eH h1, fun a s => ⟨eF a s, by rw [eH a s]; exact (h2 a s).2⟩⟩
theorem Hold.no {v : V} {S : Addr → Prop} {c : Ct} (h : Hold K F H v S c) {a : Addr} (s : S a) : F a = none ∧ ∃ o, H a = some o := by
  cases c with
  | dat d => exact absurd s (h.2 a)
  | pin P => exact absurd s (h.2 a)
  | own v' R => exact h.2.2 a s
end

/-- the known part grows; all that stood stands -/
structure Grow (F H F' H' : Hp) : Prop where
  f : Same F F'
  h : Same H H'
  sub : Same F' H'
  new : ∀ a o, F' a = some o → F a = some o ∨ H a = none
/-- the same where what is one's own (at S) may change -/
structure Prog (F H : Hp) (S : Addr → Prop) (F' H' : Hp) (S' : Addr → Prop) : Prop where
  f : Same F F'
  keep : ∀ a o, H a = some o → ¬ S a → H' a = some o
  new : ∀ a o, F' a = some o → F a = some o ∨ H a = none ∨ S a
  s : ∀ a, S' a → S a ∨ H a = none
section
variable {F H F1 H1 F2 H2 : Hp} {S S1 S2 : Addr → Prop}
theorem Grow.refl (h : Same F H) : Grow F H F H := ⟨Same.refl F, Same.refl H, h, fun _ _ e => .inl e⟩
theorem Grow.trans (a : Grow F H F1 H1) (b : Grow F1 H1 F2 H2) : Grow F H F2 H2 :=
  ⟨a.f.trans b.f, a.h.trans b.h, b.sub, fun c o e => by
    rcases b.new c o e with z | z
    · exact a.new c o z
    · exact .inr (a.h.free z)⟩
/-- a new object, known from now on -/
theorem Grow.laid {p : Addr} {o : HO} (h : Same F H) (n : H p = none) : Grow F H (upd F p o) (upd H p o) := by
  have nF : F p = none := h.free n
  refine ⟨fun b u e => ?_, fun b u e => ?_, fun b u e => ?_, fun b u e => ?_⟩
  · rw [upd_ne (ne_of_none e nF)]
    exact e
  · rw [upd_ne (ne_of_none e n)]
    exact e
  · by_cases hb : b = p
    · subst hb
      rw [upd_same] at e ⊢
      exact e
    · rw [upd_ne hb] at e ⊢
      exact h b u e
  · by_cases hb : b = p
    · subst hb
      exact .inr n
    · rw [upd_ne hb] at e
      exact .inl e
/-- a new object, not known (yet) -/
theorem Grow.made {p : Addr} {o : HO} (h : Same F H) (n : H p = none) : Grow F H F (upd H p o) :=
  ⟨Same.refl F, fun b u e => by rw [upd_ne (ne_of_none e n)]; exact e, fun b u e => by rw [upd_ne (ne_of_none (h b u e) n)]; exact h b u e, fun _ _ e => .inl e⟩
theorem Grow.prog (g : Grow F H F1 H1) : Prog F H S F1 H1 S :=
  ⟨g.f, fun a o e _ => g.h a o e, fun a o e => (g.new a o e).elim .inl fun z => .inr (.inl z), fun a s => .inl s⟩
theorem Prog.refl : Prog F H S F H S := ⟨Same.refl F, fun _ _ e _ => e, fun _ _ e => .inl e, fun _ s => .inl s⟩
theorem Prog.none {a : Addr} (p : Prog F H S F1 H1 S1) (n : H1 a = none) : H a = none ∨ S a := by
  by_cases s : S a
  · exact .inr s
  · left
    cases e : H a with
    | none => rfl
    | some o =>
      rw [p.keep a o e s] at n
      cases n
theorem Prog.trans (p : Prog F H S F1 H1 S1) (q : Prog F1 H1 S1 F2 H2 S2) : Prog F H S F2 H2 S2 :=
  ⟨p.f.trans q.f, fun a o e s => q.keep a o (p.keep a o e s) fun s1 => (p.s a s1).elim s fun z => (by rw [e] at z; cases z),
    fun a o e => by
      rcases q.new a o e with z | z | z
      · exact p.new a o z
      · exact (p.none z).elim (fun z => .inr (.inl z)) fun z => .inr (.inr z)
      · exact (p.s a z).elim (fun z => .inr (.inr z)) fun z => .inr (.inl z),
    fun a s => by
      rcases q.s a s with z | z
      · exact p.s a z
      · exact (p.none z).elim .inr .inl⟩
theorem Prog.weak {S' S1' : Addr → Prop} (p : Prog F H S F1 H1 S1) (h : ∀ a, S a → S' a) (h1 : ∀ a, S1' a → S1 a ∨ S' a) : Prog F H S' F1 H1 S1' :=
  ⟨p.f, fun a o e s => p.keep a o e fun z => s (h a z), fun a o e => (p.new a o e).elim .inl fun z => .inr (z.elim .inl fun z => .inr (h a z)), fun a s => (h1 a s).elim (fun z => (p.s a z).elim (fun z => .inl (h a z)) .inr) .inl⟩
end

abbrev Foot := Nat → Addr → Prop
def tot (S : Foot) : Addr → Prop := fun a => ∃ i, S i a
/-- the situation: slots, their contents, the places of what is one's own -/
structure Sit (K : PySem.W.Frag) (F H : Hp) (σ : St) (S : Foot) (env : En) : Prop where
  sub : Same F H
  slot : ∀ i c, env[i]? = some (some c) → ∃ v, σ[i]? = some (some v) ∧ Hold K F H v (S i) c
  dis : ∀ i j a, S i a → S j a → i = j
  len : σ.length = env.length
  emp : ∀ i, (∀ c, env[i]? ≠ some (some c)) → ∀ a, ¬ S i a
section
variable {K : PySem.W.Frag} {F H F' H' : Hp} {σ : St} {S : Foot} {env : En}
theorem Sit.no (s : Sit K F H σ S env) {i : Nat} {a : Addr} (h : S i a) : F a = none ∧ ∃ o, H a = some o := by
  have : ∃ c, env[i]? = some (some c) := by
    by_cases z : ∃ c, env[i]? = some (some c)
    · exact z
    · exact absurd h (s.emp i (fun c e => z ⟨c, e⟩) a)
  obtain ⟨c, e⟩ := this
  obtain ⟨v, _, hh⟩ := s.slot i c e
  exact hh.no h
theorem Sit.grow (s : Sit K F H σ S env) (g : Grow F H F' H') : Sit K F' H' σ S env := by
  refine ⟨g.sub, fun i c e => ?_, s.dis, s.len, s.emp⟩
  obtain ⟨v, e1, h1⟩ := s.slot i c e
  refine ⟨v, e1, h1.keep g.f (fun a z => ?_) fun a z => ?_⟩
  · obtain ⟨_, o, ho⟩ := h1.no z
    rw [ho, g.h a o ho]
  · obtain ⟨nF, o, ho⟩ := h1.no z
    cases q : F' a with
    | none => rfl
    | some u =>
      rcases g.new a u q with y | y
      · rw [nF] at y
        cases y
      · rw [ho] at y
        cases y
/-- a slot is stored -/
theorem Sit.set (s : Sit K F H σ S env) {i : Nat} {v : V} {c : Ct} {Sv : Addr → Prop} (hi : i < env.length) (h : Hold K F H v Sv c) (d : ∀ j a, S j a → ¬ Sv a) :
    Sit K F H (σ.set i (some v)) (fun j => if j = i then Sv else S j) (env.set i (some c)) := by
  have hl := s.len
  refine ⟨s.sub, fun j c' e => ?_, fun j k a hj hk => ?_, by simp [hl], fun j hj a => ?_⟩
  · by_cases hji : j = i
    · subst hji
      rw [List.getElem?_set_self hi] at e
      cases e
      refine ⟨v, List.getElem?_set_self (by omega), ?_⟩
      simpa using h
    · rw [List.getElem?_set_ne (Ne.symm hji)] at e
      obtain ⟨v', e', h'⟩ := s.slot j c' e
      refine ⟨v', by rw [List.getElem?_set_ne (Ne.symm hji)]; exact e', ?_⟩
      simpa [hji] using h'
  · by_cases hji : j = i
    · by_cases hki : k = i
      · rw [hji, hki]
      · simp only [hji, hki, if_true, if_false] at hj hk
        exact absurd hj (d k a hk)
    · by_cases hki : k = i
      · simp only [hji, hki, if_true, if_false] at hj hk
        exact absurd hk (d j a hj)
      · simp only [hji, hki, if_false] at hj hk
        exact s.dis j k a hj hk
  · by_cases hji : j = i
    · subst hji
      exact absurd (List.getElem?_set_self hi) (hj c)
    · simp only [hji, if_false]
      exact s.emp j (fun c' e => hj c' (by rw [List.getElem?_set_ne (Ne.symm hji)]; exact e)) a
theorem tot_set {i : Nat} {Sv : Addr → Prop} {a : Addr} (h : tot (fun j => if j = i then Sv else S j) a) : tot S a ∨ Sv a := by
  obtain ⟨j, h⟩ := h
  by_cases e : j = i
  · simp only [e, if_true] at h
    exact .inr h
  · simp only [e, if_false] at h
    exact .inl ⟨j, h⟩
/-- a slot is emptied -/
theorem Sit.drop (s : Sit K F H σ S env) (i : Nat) {o : Option V} : Sit K F H (σ.set i o) (fun j => if j = i then fun _ => False else S j) (env.set i none) := by
  have hl := s.len
  refine ⟨s.sub, fun j c' e => ?_, fun j k a hj hk => ?_, by simp [hl], fun j hj a => ?_⟩
  · by_cases hji : j = i
    · subst hji
      by_cases hi : j < env.length
      · rw [List.getElem?_set_self hi] at e
        cases e
      · rw [List.getElem?_eq_none (by simp; omega)] at e
        cases e
    · rw [List.getElem?_set_ne (Ne.symm hji)] at e
      obtain ⟨v', e', h'⟩ := s.slot j c' e
      refine ⟨v', by rw [List.getElem?_set_ne (Ne.symm hji)]; exact e', ?_⟩
      simpa [hji] using h'
  · by_cases hji : j = i
    · simp only [hji, if_true] at hj
    · by_cases hki : k = i
      · simp only [hki, if_true] at hk
      · simp only [hji, hki, if_false] at hj hk
        exact s.dis j k a hj hk
  · by_cases hji : j = i
    · simp only [hji, if_true]
      exact fun z => z
    · simp only [hji, if_false]
      exact s.emp j (fun c' e => hj c' (by rw [List.getElem?_set_ne (Ne.symm hji)]; exact e)) a
end
end G


set_option maxRecDepth 100000
set_option maxHeartbeats 2000000
namespace G
open PySem PySem.Spec PyProof.Rows L2

/-- an exception: its class, its field -/
structure Xc where
  cls : Addr
  fld : Option (Str × PyData)
def XHold (K : PySem.W.Frag) (F H : Hp) (S : Addr → Prop) (cls : Value) (od : Option Addr) (x : Xc) : Prop :=
  cls = .ref x.cls ∧ match x.fld with
    | none => od = none
    | some (f, d) => ∃ p v, od = some p ∧ F p = some (.xd [(f, v)]) ∧ Dp K F v d

/-! ### judgements -/
/-- pure: the value's content is c; what stood stands -/
def VC (X : Cx) (e : Expr) (env : En) (c : Ct) : Prop := ∀ (F H : Hp) (σ : St) (S : Foot), Sit X.K F H σ S env → ∀ Q : VK,
  (∀ v F' H' Sv, Grow F H F' H' → Hold X.K F' H' v Sv c → (∀ a, Sv a → H a = none) → Q v H') → wE X e σ H Q
def TC (X : Cx) (e : Expr) (env : En) (b : Bool) : Prop := ∀ (F H : Hp) (σ : St) (S : Foot), Sit X.K F H σ S env → ∀ Q : Bool → Hp → Prop,
  (∀ F' H', Grow F H F' H' → Q b H') → wT X e σ H Q
def WC (X : Cx) (e : Expr) (env : En) (b : Bool) : Prop := ∀ (F H : Hp) (σ : St) (S : Foot), Sit X.K F H σ S env → ∀ Q : Bool → Hp → Prop,
  (∀ F' H', Grow F H F' H' → Q b H') → wW X e σ H Q
/-- persistent contents of several values -/
inductive Holds (K : PySem.W.Frag) (F : Hp) : List V → List Ct → Prop
  | nil : Holds K F [] []
  | dat {v d vs cs} : Dp K F v d → Holds K F vs cs → Holds K F (v :: vs) (.dat d :: cs)
  | pin {v P vs cs} : P.At F v → Holds K F vs cs → Holds K F (v :: vs) (.pin P :: cs)
theorem Holds.mono {K : PySem.W.Frag} {F F' : Hp} (e : Same F F') : ∀ {vs : List V} {cs : List Ct}, Holds K F vs cs → Holds K F' vs cs
  | _, _, .nil => .nil
  | _, _, .dat h hs => .dat (dp_mono e h) (Holds.mono e hs)
  | _, _, .pin h hs => .pin (Ps.mono _ e h) (Holds.mono e hs)
def AC (X : Cx) (es : List Expr) (env : En) (cs : List Ct) : Prop := ∀ (F H : Hp) (σ : St) (S : Foot), Sit X.K F H σ S env → ∀ Q : List V → Hp → Prop,
  (∀ vs F' H', Grow F H F' H' → Holds X.K F' vs cs → Q vs H') → wA X es σ H Q
/-- with effects: Q for the value and the slots' contents, RX for what is raised -/
def EC (X : Cx) (W : WX) (e : Expr) (Q : Ct → En → Prop) (RX : Xc → En → Prop) (env : En) : Prop := ∀ (F H : Hp) (σ : St) (S : Foot), Sit X.K F H σ S env → ∀ QV : VK,
  (∀ v F' H' S' Sv c env', Prog F H (tot S) F' H' (fun a => tot S' a ∨ Sv a) → Sit X.K F' H' σ S' env' → Hold X.K F' H' v Sv c → (∀ i a, S' i a → ¬ Sv a) → Q c env' → QV v H') →
  (∀ cls od F' H' S' x env', Prog F H (tot S) F' H' (tot S') → Sit X.K F' H' σ S' env' → XHold X.K F' H' (tot S') cls od x → RX x env' → W cls od σ H') → wE X e σ H QV
def TEC (X : Cx) (W : WX) (e : Expr) (Q : Bool → En → Prop) (RX : Xc → En → Prop) (env : En) : Prop := ∀ (F H : Hp) (σ : St) (S : Foot), Sit X.K F H σ S env → ∀ QV : Bool → Hp → Prop,
  (∀ b F' H' S' env', Prog F H (tot S) F' H' (tot S') → Sit X.K F' H' σ S' env' → Q b env' → QV b H') →
  (∀ cls od F' H' S' x env', Prog F H (tot S) F' H' (tot S') → Sit X.K F' H' σ S' env' → XHold X.K F' H' (tot S') cls od x → RX x env' → W cls od σ H') → wT X e σ H QV
structure DE where
  nx : En → Prop
  rt : Ct → En → Prop
  bk : En → Prop := fun _ => False
  ct : En → Prop := fun _ => False
  ex : Xc → En → Prop := fun _ _ => False
structure Mee (K : PySem.W.Frag) (F0 H0 : Hp) (S0 : Addr → Prop) (D : DE) (E : Ends) (W : WX) : Prop where
  nx : ∀ F' H' σ' S' env', Prog F0 H0 S0 F' H' (tot S') → Sit K F' H' σ' S' env' → D.nx env' → E.nx σ' H'
  rt : ∀ v F' H' σ' S' Sv c env', Prog F0 H0 S0 F' H' (fun a => tot S' a ∨ Sv a) → Sit K F' H' σ' S' env' → Hold K F' H' v Sv c → (∀ i a, S' i a → ¬ Sv a) → D.rt c env' → E.rt v H'
  bk : ∀ F' H' σ' S' env', Prog F0 H0 S0 F' H' (tot S') → Sit K F' H' σ' S' env' → D.bk env' → E.bk σ' H'
  ct : ∀ F' H' σ' S' env', Prog F0 H0 S0 F' H' (tot S') → Sit K F' H' σ' S' env' → D.ct env' → E.ct σ' H'
  ex : ∀ cls od F' H' σ' S' x env', Prog F0 H0 S0 F' H' (tot S') → Sit K F' H' σ' S' env' → XHold K F' H' (tot S') cls od x → D.ex x env' → W cls od σ' H'
def WS (X : Cx) (W : WX) (s : Stmt) (D : DE) (env : En) : Prop := ∀ (F H : Hp) (σ : St) (S : Foot), Sit X.K F H σ S env → ∀ E : Ends, Mee X.K F H (tot S) D E W → wS X s E σ H
def WB (X : Cx) (W : WX) (s : List Stmt) (D : DE) (env : En) : Prop := ∀ (F H : Hp) (σ : St) (S : Foot), Sit X.K F H σ S env → ∀ E : Ends, Mee X.K F H (tot S) D E W → wB X s E σ H
section
variable {K : PySem.W.Frag} {F0 H0 F H : Hp} {S0 S1 : Addr → Prop} {D D' : DE} {E : Ends} {W : WX}
theorem Mee.from (m : Mee K F0 H0 S0 D E W) (p : Prog F0 H0 S0 F H S1) : Mee K F H S1 D E W :=
  ⟨fun F' H' σ' S' env' q => m.nx F' H' σ' S' env' (p.trans q), fun v F' H' σ' S' Sv c env' q => m.rt v F' H' σ' S' Sv c env' (p.trans q), fun F' H' σ' S' env' q => m.bk F' H' σ' S' env' (p.trans q),
    fun F' H' σ' S' env' q => m.ct F' H' σ' S' env' (p.trans q), fun cls od F' H' σ' S' x env' q => m.ex cls od F' H' σ' S' x env' (p.trans q)⟩
end

section
variable {X : Cx} {W : WX} {env : En} {c c1 c2 : Ct} {d d1 d2 : PyData} {e e1 e2 a b : Expr} {es : List Expr} {pos p : Pos}
/-- a pure one among those with effects -/
theorem EC.pure {Q : Ct → En → Prop} {RX : Xc → En → Prop} (h : VC X e env c) (q : Q c env) : EC X W e Q RX env := fun F H σ S s QV k _ =>
  h F H σ S s _ fun v F' H' Sv g hv fr => k v F' H' S Sv c env
    ⟨g.f, fun a o e _ => g.h a o e, fun a o e => (g.new a o e).elim .inl fun z => .inr (.inl z), fun a z => z.elim .inl fun z => .inr (fr a z)⟩ (s.grow g) hv
    (fun i a z y => by obtain ⟨_, o, ho⟩ := s.no z; rw [fr a y] at ho; cases ho) q
theorem TEC.pure {b : Bool} {Q : Bool → En → Prop} {RX : Xc → En → Prop} (h : TC X e env b) (q : Q b env) : TEC X W e Q RX env := fun F H σ S s QV k _ =>
  h F H σ S s _ fun F' H' g => k b F' H' S env g.prog (s.grow g) q

/-! ### names, constants -/
theorem vc_dat (i : Nat) (h : env[i]? = some (some (.dat d)) := by rfl) {x : Str} (hN : X.N[i]? = some x := by rfl) (hv : Vis X.env.scope x := by first | exact Or.inl rfl | exact Or.inr (Or.inl rfl) | exact Or.inr (Or.inr rfl)) (hd : (x == ("__debug__" : Str)) = false := by decide)
    (hcd : (x == ("__classdict__" : Str)) = false := by decide) : VC X (.Name x pos) env (.dat d) := fun F H σ S s Q k => by
  obtain ⟨v, e1, h1⟩ := s.slot i _ h
  exact ⟨_, pe_var hN hv hd hcd, v, e1, k v F H (S i) (Grow.refl s.sub) h1 fun a z => absurd z (h1.2 a)⟩
theorem vc_pin {P : Ps} (i : Nat) (h : env[i]? = some (some (.pin P)) := by rfl) {x : Str} (hN : X.N[i]? = some x := by rfl) (hv : Vis X.env.scope x := by first | exact Or.inl rfl | exact Or.inr (Or.inl rfl) | exact Or.inr (Or.inr rfl)) (hd : (x == ("__debug__" : Str)) = false := by decide)
    (hcd : (x == ("__classdict__" : Str)) = false := by decide) : VC X (.Name x pos) env (.pin P) := fun F H σ S s Q k => by
  obtain ⟨v, e1, h1⟩ := s.slot i _ h
  exact ⟨_, pe_var hN hv hd hcd, v, e1, k v F H (S i) (Grow.refl s.sub) h1 fun a z => absurd z (h1.2 a)⟩
theorem vc_val {t : TE} {v : V} {c : Ct} (h : PE X e t) (ht : ∀ σ H (Q : VK), Q v H → t σ H Q) (hc : ∀ F H, Hold X.K F H v (fun _ => False) c) : VC X e env c := fun F H σ S s Q k =>
  ⟨t, h, ht σ H Q (k v F H _ (Grow.refl s.sub) (hc F H) fun _ z => z.elim)⟩
theorem vc_int {i : Int} {j : Nat} : VC X (.Constant (.int i) j pos) env (.dat (.int i)) := vc_val pe_int (fun _ _ _ q => q) fun _ _ => ⟨.int i, fun _ z => z⟩
theorem vc_bl {i : Bool} {j : Nat} : VC X (.Constant (.bool i) j pos) env (.dat (.bool i)) := vc_val pe_bl (fun _ _ _ q => q) fun _ _ => ⟨.bl i, fun _ z => z⟩
theorem vc_non {j : Nat} : VC X (.Constant .none j pos) env (.dat .none) := vc_val pe_non (fun _ _ _ q => q) fun _ _ => ⟨.non, fun _ z => z⟩
theorem vc_str {x : Str} {j : Nat} : VC X (.Constant (.str x) j pos) env (.dat (.str x)) := vc_val pe_str (fun _ _ _ q => q) fun _ _ => ⟨.str x, fun _ z => z⟩
/-- a module's constant -/
theorem vc_glob {x : Str} {v : V} {u : Value} (hm : X.mg x = some u) (r : RelV v u) (hd : ∀ F, Dp X.K F v d) (hg : Gl X x := by rfl) (hb : (x == ("__debug__" : Str)) = false := by decide) : VC X (.Name x pos) env (.dat d) :=
  vc_val (pe_glob hg hm r hb) (fun _ _ _ q => q) fun F _ => ⟨hd F, fun _ z => z⟩

/-! ### lists of arguments, displays -/
theorem ac_nil : AC X [] env [] := fun F H σ S s Q k => ⟨_, pa_nil, k [] F H (Grow.refl s.sub) .nil⟩
theorem ac_cons {cs : List Ct} (h : VC X e env (.dat d)) (hr : AC X es env cs) (hs : starEach (e :: es) X.env = (false, eval e X.env) :: starEach es X.env := by rfl) : AC X (e :: es) env (.dat d :: cs) := fun F H σ S s Q k =>
  ⟨_, pa_cons pwE pwA hs, h F H σ S s _ fun v F1 H1 _ g1 hv _ => hr F1 H1 σ S (s.grow g1) _ fun vs F2 H2 g2 hvs => k _ F2 H2 (g1.trans g2) (.dat (dp_mono g2.f hv.1) hvs)⟩
/-- arguments that are all data -/
def DC (X : Cx) (es : List Expr) (env : En) (ds : List PyData) : Prop := AC X es env (ds.map .dat)
theorem dc_nil : DC X [] env [] := ac_nil
theorem dc_cons {ds : List PyData} (h : VC X e env (.dat d)) (hr : DC X es env ds) (hs : starEach (e :: es) X.env = (false, eval e X.env) :: starEach es X.env := by rfl) : DC X (e :: es) env (d :: ds) := ac_cons h hr hs
theorem ac_pin {cs : List Ct} {P : Ps} (h : VC X e env (.pin P)) (hr : AC X es env cs) (hs : starEach (e :: es) X.env = (false, eval e X.env) :: starEach es X.env := by rfl) : AC X (e :: es) env (.pin P :: cs) := fun F H σ S s Q k =>
  ⟨_, pa_cons pwE pwA hs, h F H σ S s _ fun v F1 H1 _ g1 hv _ => hr F1 H1 σ S (s.grow g1) _ fun vs F2 H2 g2 hvs => k _ F2 H2 (g1.trans g2) (.pin (P.mono g2.f hv.1) hvs)⟩
theorem Holds.dps {K : PySem.W.Frag} {F : Hp} : ∀ {vs : List V} {ds : List PyData}, Holds K F vs (ds.map .dat) → DpAll K F vs ds
  | _, [], .nil => .nil
  | _, _ :: _, .dat h hs => .cons h (Holds.dps hs)
theorem Holds.length {K : PySem.W.Frag} {F : Hp} : ∀ {vs : List V} {cs : List Ct}, Holds K F vs cs → vs.length = cs.length
  | _, _, .nil => rfl
  | _, _, .dat _ hs => by rw [List.length_cons, List.length_cons, hs.length]
  | _, _, .pin _ hs => by rw [List.length_cons, List.length_cons, hs.length]
/-- a list of one's own, its items known data -/
def olst (K : PySem.W.Frag) (ds : List PyData) : Rs where
  At F H v S := ∃ a xs, v = .ref a ∧ H a = some (.lst xs) ∧ DpAll K F xs ds ∧ ∀ b, S b ↔ b = a
  mono := fun {F F' H H' v S} e eH ⟨a, xs, h1, h2, h3, h4⟩ => ⟨a, xs, h1, by rw [eH a ((h4 a).mpr rfl)]; exact h2, dps_mono e h3, h4⟩
theorem olst_new {K : PySem.W.Frag} {F H : Hp} {p : Addr} {xs : List V} {ds : List PyData} (hF : Same F H) (n : H p = none) (h : DpAll K F xs ds) : Hold K F (upd H p (.lst xs)) (.ref p) (fun b => b = p) (.own (.ref p) (olst K ds)) :=
  ⟨rfl, ⟨p, xs, rfl, upd_same, h, fun _ => Iff.rfl⟩, fun a z => by subst z; exact ⟨hF.free n, _, upd_same⟩⟩
/-- fresh results: an own one is told at whatever value -/
def VO (X : Cx) (e : Expr) (env : En) (R : Rs) : Prop := ∀ (F H : Hp) (σ : St) (S : Foot), Sit X.K F H σ S env → ∀ Q : VK,
  (∀ v F' H' Sv, Grow F H F' H' → Hold X.K F' H' v Sv (.own v R) → (∀ a, Sv a → H a = none) → Q v H') → wE X e σ H Q
theorem vc_tup {ds : List PyData} {x1} (h : DC X es env ds) (hl : ds.length ≤ 1000 := by exact Nat.le_of_ble_eq_true rfl) : VC X (.Tuple es x1 pos) env (.dat (.tuple ds)) := fun F H σ S s Q k =>
  ⟨_, pe_tup pwA, h F H σ S s _ fun vs F1 H1 g1 hv => by
    have hd := hv.dps
    have ln := dps_length hd
    refine ⟨by rw [ln]; exact Nat.le_of_lt (small1000 hl), fun p hp => ?_⟩
    have g2 := Grow.laid (o := .tup vs) g1.sub hp
    exact k (.ref p) _ _ (fun _ => False) (g1.trans g2) ⟨.tup (SqT.of upd_same) (dps_mono g2.f hd), fun _ z => z⟩ fun _ z => z.elim⟩
theorem vo_lst {ds : List PyData} (h : DC X es env ds) (hl : ds.length ≤ 1000 := by exact Nat.le_of_ble_eq_true rfl) : VO X (.List es pos) env (olst X.K ds) := fun F H σ S s Q k =>
  ⟨_, pe_lst pwA, h F H σ S s _ fun vs F1 H1 g1 hv => by
    have hd := hv.dps
    have ln := dps_length hd
    refine ⟨by rw [ln]; exact Nat.le_of_lt (small1000 hl), fun p hp => ?_⟩
    have g2 := Grow.made (F := F1) (o := .lst vs) g1.sub hp
    exact k (.ref p) _ _ _ (g1.trans g2) (olst_new g1.sub hp hd) fun a z => by subst z; exact g1.h.free hp⟩
/-- a new list is known data from now on -/
theorem VO.dat {ds : List PyData} (h : VO X e env (olst X.K ds)) : VC X e env (.dat (.list ds)) := fun F H σ S s Q k =>
  h F H σ S s _ fun v F1 H1 Sv g hv fr => by
    obtain ⟨_, ⟨a, xs, rfl, ha, hd, hS⟩, hn⟩ := hv
    have nF : F1 a = none := (hn a ((hS a).mpr rfl)).1
    have sf : Same F1 (upd F1 a (.lst xs)) := fun b o e => by rw [upd_ne (ne_of_none e nF)]; exact e
    refine k (.ref a) (upd F1 a (.lst xs)) H1 (fun _ => False) ⟨g.f.trans sf, g.h, fun b o e => ?_, fun b o e => ?_⟩ ⟨.lst (SqL.of upd_same) (dps_mono sf hd), fun _ z => z⟩ fun _ z => z.elim
    · by_cases hb : b = a
      · subst hb
        rw [upd_same] at e
        cases e
        exact ha
      · rw [upd_ne hb] at e
        exact g.sub b o e
    · by_cases hb : b = a
      · subst hb
        exact .inr (fr b ((hS b).mpr rfl))
      · rw [upd_ne hb] at e
        exact g.new b o e
theorem vc_lst {ds : List PyData} (h : DC X es env ds) (hl : ds.length ≤ 1000 := by exact Nat.le_of_ble_eq_true rfl) : VC X (.List es pos) env (.dat (.list ds)) := (vo_lst h hl).dat

/-! ### operations -/
abbrev KQ (K : PySem.W.Frag) (F H : Hp) (c : Ct) (Q : VK) : Prop := ∀ v F' H' Sv, Grow F H F' H' → Hold K F' H' v Sv c → (∀ a, Sv a → H a = none) → Q v H'
def OpD (K : PySem.W.Frag) (r : R2) (d1 d2 : PyData) (d : PyData) : Prop := ∀ (F H : Hp) (v1 v2 : V), Same F H → Dp K F v1 d1 → Dp K F v2 d2 → ∀ Q : VK, (∀ v F' H', Grow F H F' H' → Dp K F' v d → Q v H') → r v1 v2 H Q
theorem two {a b : Expr} (ha : VC X a env (.dat d1)) (hb : VC X b env (.dat d2)) {F H : Hp} {σ : St} {S : Foot} (s : Sit X.K F H σ S env) {k : V → V → Hp → Prop}
    (hk : ∀ v1 v2 F' H', Grow F H F' H' → Dp X.K F' v1 d1 → Dp X.K F' v2 d2 → k v1 v2 H') : wE X a σ H fun x H1 => wE X b σ H1 fun y H2 => k x y H2 :=
  ha F H σ S s _ fun v1 F1 H1 _ g1 h1 _ => hb F1 H1 σ S (s.grow g1) _ fun v2 F2 H2 _ g2 h2 _ => hk v1 v2 F2 H2 (g1.trans g2) (dp_mono g2.f h1.1) h2.1
theorem vc_op {op : Operator} {r : R2} (ho : OpR X (binaryOp op) r) (od : OpD X.K r d1 d2 d) (ha : VC X a env (.dat d1)) (hb : VC X b env (.dat d2)) : VC X (.BinOp a op b pos) env (.dat d) := fun F H σ S s Q k =>
  ⟨_, pe_op ho pwE pwE, two ha hb s fun v1 v2 F1 H1 g h1 h2 => od F1 H1 v1 v2 g.sub h1 h2 Q fun v F' H' g' hv => k v F' H' (fun _ => False) (g.trans g') ⟨hv, fun _ z => z⟩ fun _ z => z.elim⟩
theorem vc_cmp {op : CmpOp} {r : R2} (ho : OpR X (compareOp op) r) (od : OpD X.K r d1 d2 d) (ha : VC X a env (.dat d1)) (hb : VC X b env (.dat d2)) (hm : behindInMarks op b = false := by first | exact nomark _ | rfl) : VC X (.Compare a [op] [b] pos) env (.dat d) := fun F H σ S s Q k =>
  ⟨_, pe_cmpR ho pwE pwE hm, two ha hb s fun v1 v2 F1 H1 g h1 h2 => od F1 H1 v1 v2 g.sub h1 h2 Q fun v F' H' g' hv => k v F' H' (fun _ => False) (g.trans g') ⟨hv, fun _ z => z⟩ fun _ z => z.elim⟩
theorem tc_cmp {op : CmpOp} {r : R2} {b' : Bool} (ho : OpR X (compareOp op) r) (od : OpD X.K r d1 d2 (.bool b')) (ha : VC X a env (.dat d1)) (hb : VC X b env (.dat d2)) (hm : behindInMarks op b = false := by first | exact nomark _ | rfl) : TC X (.Compare a [op] [b] pos) env b' := fun F H σ S s Q k =>
  ⟨_, pt_cmpR ho pwE pwE hm, two ha hb s fun v1 v2 F1 H1 g h1 h2 => od F1 H1 v1 v2 g.sub h1 h2 _ fun v F' H' g' hv => by
    cases hv
    exact ⟨b', rfl, k F' H' (g.trans g')⟩⟩
theorem vc_chain {op op' : CmpOp} {r r' : R2} {b1 b2 : Bool} {c : Expr} {d3 : PyData} (ho : OpR X (compareOp op) r) (ho' : OpR X (compareOp op') r') (od : OpD X.K r d1 d2 (.bool b1)) (od' : OpD X.K r' d2 d3 (.bool b2)) (ha : VC X a env (.dat d1)) (hb : VC X b env (.dat d2)) (hc : VC X c env (.dat d3))
    (hm : lastMarks [op, op'] [b, c] = false := by with_unfolding_all rfl) : VC X (.Compare a [op, op'] [b, c] pos) env (.dat (.bool (b1 && b2))) := by
  intro F H σ S s Q k
  refine ⟨_, pe_chain ho ho' pwE pwE pwE hm, two ha hb s fun v1 v2 F1 H1 g h1 h2 => ?_⟩
  refine od F1 H1 v1 v2 g.sub h1 h2 _ fun v F2 H2 g2 hv => ?_
  cases hv
  refine ⟨b1, rfl, ?_⟩
  cases b1 with
  | false => exact k _ F2 H2 (fun _ => False) (g.trans g2) ⟨.bl _, fun _ z => z⟩ fun _ z => z.elim
  | true =>
    refine hc F2 H2 σ S (s.grow (g.trans g2)) _ fun v3 F3 H3 _ g3 h3 _ => ?_
    refine od' F3 H3 v2 v3 g3.sub (dp_mono (g2.f.trans g3.f) h2) h3.1 Q fun v F' H' g' hv => ?_
    cases hv
    exact k _ F' H' (fun _ => False) (((g.trans g2).trans g3).trans g') ⟨.bl _, fun _ z => z⟩ fun _ z => z.elim
theorem tc_chain {op op' : CmpOp} {r r' : R2} {b1 b2 : Bool} {c : Expr} {d3 : PyData} (ho : OpR X (compareOp op) r) (ho' : OpR X (compareOp op') r') (od : OpD X.K r d1 d2 (.bool b1)) (od' : OpD X.K r' d2 d3 (.bool b2)) (ha : VC X a env (.dat d1)) (hb : VC X b env (.dat d2)) (hc : VC X c env (.dat d3))
    (hm : lastMarks [op, op'] [b, c] = false := by with_unfolding_all rfl) : TC X (.Compare a [op, op'] [b, c] pos) env (b1 && b2) := by
  intro F H σ S s Q k
  refine ⟨_, pt_chain ho ho' pwE pwE pwE hm, two ha hb s fun v1 v2 F1 H1 g h1 h2 => ?_⟩
  refine od F1 H1 v1 v2 g.sub h1 h2 _ fun v F2 H2 g2 hv => ?_
  cases hv
  refine ⟨b1, rfl, ?_⟩
  cases b1 with
  | false => exact ⟨_, rfl, k F2 H2 (g.trans g2)⟩
  | true =>
    refine hc F2 H2 σ S (s.grow (g.trans g2)) _ fun v3 F3 H3 _ g3 h3 _ => ?_
    refine od' F3 H3 v2 v3 g3.sub (dp_mono (g2.f.trans g3.f) h2) h3.1 _ fun v F' H' g' hv => ?_
    cases hv
    exact ⟨_, rfl, k F' H' (((g.trans g2).trans g3).trans g')⟩

/-! ### tests -/
theorem tc_val {b' : Bool} (h : VC X e env (.dat (.bool b'))) (he : ∀ whole, isTrue e X.env whole = (do let v ← whole; standAt e.pos; holding [v] (truthy v)) := by intro _; rfl) : TC X e env b' := fun F H σ S s Q k =>
  ⟨_, pt_val pwE he, h F H σ S s _ fun v F' H' _ g hv _ => by
    cases hv.1
    exact ⟨b', rfl, k F' H' g⟩⟩
def truD : PyData → Bool
  | .none => false
  | .bool b => b
  | .int i => i != 0
  | .str x => (x.length : Int) != 0
  | .list xs => !xs.isEmpty
  | .tuple xs => !xs.isEmpty
  | .dict _ => false
theorem isEmpty_dps {K : PySem.W.Frag} {F : Hp} {vs : List V} {ds : List PyData} (h : DpAll K F vs ds) : (!ds.isEmpty) = !vs.isEmpty := by
  cases h <;> rfl
theorem tc_truth (h : VC X e env (.dat d)) (hs : ∀ x, d = .str x → x.length ≤ 16777216 := by intro _ h; cases h) (he : ∀ whole, isTrue e X.env whole = (do let v ← whole; standAt e.pos; holding [v] (truthy v)) := by intro _; rfl) : TC X e env (truD d) := fun F H σ S s Q k =>
  ⟨_, pt_truth pwE he, h F H σ S s _ fun v F' H' _ g hv _ => by
    refine ⟨truD d, ?_, k F' H' g⟩
    cases hv.1 with
    | non => rfl
    | bl b => rfl
    | int i => rfl
    | str x => exact ⟨by rw [sizeLine_eq]; exact hs _ rfl, rfl⟩
    | lst h1 h2 => exact .inl ⟨_, g.sub.seq h1, isEmpty_dps h2⟩
    | tup h1 h2 => exact .inr (.inl ⟨_, same_sqT g.sub h1, isEmpty_dps h2⟩)⟩
theorem WC.tc {b' : Bool} (h : WC X e env b') : TC X e env b' := fun F H σ S s Q k => by
  obtain ⟨t, ht, q⟩ := h F H σ S s Q k
  exact ⟨t, ht.pt, q⟩
theorem tc_not {b' : Bool} (h : TC X a env b') : TC X (.UnaryOp .Not a pos) env (!b') := fun F H σ S s Q k =>
  ⟨_, pt_not pwT, h F H σ S s _ k⟩
theorem wc_and {b1 b2 : Bool} (h1 : TC X a env b1) (h2 : b1 = true → WC X (.BoolOp .And (b :: es) pos) env b2) : WC X (.BoolOp .And (a :: b :: es) pos) env (b1 && b2) := fun F H σ S s Q k =>
  ⟨_, pw_and pwT pwW, h1 F H σ S s _ fun F1 H1 g1 => by
    cases b1 with
    | true => exact h2 rfl F1 H1 σ S (s.grow g1) Q fun F' H' g' => k F' H' (g1.trans g')
    | false => exact k F1 H1 g1⟩
theorem wc_or {b1 b2 : Bool} (h1 : TC X a env b1) (h2 : b1 = false → WC X (.BoolOp .Or (b :: es) pos) env b2) : WC X (.BoolOp .Or (a :: b :: es) pos) env (b1 || b2) := fun F H σ S s Q k =>
  ⟨_, pw_or pwT pwW, h1 F H σ S s _ fun F1 H1 g1 => by
    cases b1 with
    | false => exact h2 rfl F1 H1 σ S (s.grow g1) Q fun F' H' g' => k F' H' (g1.trans g')
    | true => exact k F1 H1 g1⟩
theorem wc_and1 {b1 : Bool} (h1 : TC X a env b1) : WC X (.BoolOp .And [a] pos) env b1 := fun F H σ S s Q k => ⟨_, pw_and1 pwT, h1 F H σ S s _ k⟩
theorem wc_or1 {b1 : Bool} (h1 : TC X a env b1) : WC X (.BoolOp .Or [a] pos) env b1 := fun F H σ S s Q k => ⟨_, pw_or1 pwT, h1 F H σ S s _ k⟩
theorem vc_not {b' : Bool} (h : VC X a env (.dat (.bool b'))) : VC X (.UnaryOp .Not a pos) env (.dat (.bool (!b'))) := fun F H σ S s Q k =>
  ⟨_, pe_not pwE, h F H σ S s _ fun v F' H' _ g hv _ => by
    cases hv.1
    exact ⟨b', rfl, k _ F' H' (fun _ => False) g ⟨.bl _, fun _ z => z⟩ fun _ z => z.elim⟩⟩
theorem vc_and {b1 : Bool} (h1 : VC X a env (.dat (.bool b1))) (h2 : b1 = true → VC X (.BoolOp .And (b :: es) pos) env (.dat d)) (hd : b1 = false → d = .bool false) : VC X (.BoolOp .And (a :: b :: es) pos) env (.dat d) := fun F H σ S s Q k =>
  ⟨_, pe_and pwE pwE, h1 F H σ S s _ fun v F1 H1 _ g1 hv _ => by
    cases hv.1
    refine ⟨b1, rfl, ?_⟩
    cases b1 with
    | true => exact h2 rfl F1 H1 σ S (s.grow g1) Q fun v F' H' Sv g' hv fr => k v F' H' Sv (g1.trans g') hv fun a z => g1.h.free (fr a z)
    | false =>
      cases hd rfl
      exact k _ F1 H1 (fun _ => False) g1 ⟨.bl _, fun _ z => z⟩ fun _ z => z.elim⟩
theorem vc_or {b1 : Bool} (h1 : VC X a env (.dat (.bool b1))) (h2 : b1 = false → VC X (.BoolOp .Or (b :: es) pos) env (.dat d)) (hd : b1 = true → d = .bool true) : VC X (.BoolOp .Or (a :: b :: es) pos) env (.dat d) := fun F H σ S s Q k =>
  ⟨_, pe_or pwE pwE, h1 F H σ S s _ fun v F1 H1 _ g1 hv _ => by
    cases hv.1
    refine ⟨b1, rfl, ?_⟩
    cases b1 with
    | false => exact h2 rfl F1 H1 σ S (s.grow g1) Q fun v F' H' Sv g' hv fr => k v F' H' Sv (g1.trans g') hv fun a z => g1.h.free (fr a z)
    | true =>
      cases hd rfl
      exact k _ F1 H1 (fun _ => False) g1 ⟨.bl _, fun _ z => z⟩ fun _ z => z.elim⟩
theorem vc_one {op : BoolOp} (h1 : VC X a env c) : VC X (.BoolOp op [a] pos) env c := fun F H σ S s Q k => ⟨_, pe_one pwE, h1 F H σ S s _ k⟩
theorem vc_andB {b1 b2 : Bool} (h1 : VC X a env (.dat (.bool b1))) (h2 : b1 = true → VC X (.BoolOp .And (b :: es) pos) env (.dat (.bool b2))) : VC X (.BoolOp .And (a :: b :: es) pos) env (.dat (.bool (b1 && b2))) :=
  vc_and h1 (fun e => by subst e; exact h2 rfl) fun e => by subst e; rfl
theorem vc_orB {b1 b2 : Bool} (h1 : VC X a env (.dat (.bool b1))) (h2 : b1 = false → VC X (.BoolOp .Or (b :: es) pos) env (.dat (.bool b2))) : VC X (.BoolOp .Or (a :: b :: es) pos) env (.dat (.bool (b1 || b2))) :=
  vc_or h1 (fun e => by subst e; exact h2 rfl) fun e => by subst e; rfl
theorem vc_if {t : Expr} {b' : Bool} (h : TC X t env b') (h1 : b' = true → VC X a env c) (h2 : b' = false → VC X b env c) : VC X (.IfExp t a b pos) env c := fun F H σ S s Q k =>
  ⟨_, pe_ifExp pwT pwE pwE, h F H σ S s _ fun F1 H1 g1 => by
    cases b' with
    | true => exact h1 rfl F1 H1 σ S (s.grow g1) Q fun v F' H' Sv g' hv fr => k v F' H' Sv (g1.trans g') hv fun a z => g1.h.free (fr a z)
    | false => exact h2 rfl F1 H1 σ S (s.grow g1) Q fun v F' H' Sv g' hv fr => k v F' H' Sv (g1.trans g') hv fun a z => g1.h.free (fr a z)⟩
/-- the same value, otherwise said -/
theorem VC.to (h : VC X e env c) (eq : c = c1) : VC X e env c1 := eq ▸ h
theorem TC.to {b1 b2 : Bool} (h : TC X e env b1) (eq : b1 = b2) : TC X e env b2 := eq ▸ h
theorem VC.is (h : VC X e env (.dat d)) (eq : d = d1) : VC X e env (.dat d1) := eq ▸ h
end
end G


set_option maxRecDepth 100000
set_option maxHeartbeats 4000000
/-! enumerate and zip over lists and tuples, in any mix -/
namespace G
open PySem PySem.Spec PyProof.Rows L2

/-- a list or a tuple that is walked -/
inductive Src where
  | L (a : Addr)
  | T (a : Addr)
def Src.ad : Src → Addr
  | .L a => a
  | .T a => a
def Src.Sq (K : PySem.W.Frag) (H : Hp) (xs : List V) : Src → Prop
  | .L a => SqL K H a xs
  | .T a => SqT K H a xs
def Src.Itr (h : Heap) (it : Addr) (i : Nat) : Src → Prop
  | .L a => h.IsListIter it a i
  | .T a => h.IsTupleIter it a i
def Src.Isd (h : Heap) (items : Array Value) : Src → Prop
  | .L a => h.IsList a items
  | .T a => h.IsTuple a items
def Src.ob : Src → Obj
  | .L a => { cls := .type "list_iterator", data := .fields #[.ref a, .int 0 0] }
  | .T a => { cls := .type "tuple_iterator", data := .fields #[.ref a, .int 0 0] }
section
variable {X : Cx} {pins : List (Addr × Obj)} {σ : St} {H : Hp} {s : Shared} {xs ys : List V} {K : PySem.W.Frag}
theorem Src.inv (I : Inv X pins σ H s) {r : Src} (h : r.Sq X.K H xs) : ∃ its : List Value, Vals xs its ∧ r.Isd s.heap its.toArray ∧ xs.length ≤ sizeLine := by
  cases r with
  | L a =>
    obtain ⟨its, rv, p, hz⟩ := I.list h
    exact ⟨its, rv, p.isList, hz⟩
  | T a =>
    obtain ⟨its, rv, p, hz⟩ := I.tuple h
    exact ⟨its, rv, p, hz⟩
theorem Src.inj (I : Inv X pins σ H s) {r : Src} (h : r.Sq X.K H xs) (h' : r.Sq X.K H ys) : xs = ys := by
  cases r with
  | L a => exact I.list_inj h h'
  | T a => exact I.tuple_inj h h'
theorem Src.at {h h' : Heap} {it : Addr} {i : Nat} {r : Src} (x : r.Itr h it i) (k : ∀ o, h.get? it = some o → h'.get? it = some o) : r.Itr h' it i := by
  cases r with
  | L a => exact Heap.IsListIter.at x k
  | T a => exact Heap.IsTupleIter.at x k
theorem Src.ob_at {h : Heap} {it : Addr} {r : Src} (e : h.get? it = some r.ob) : r.Itr h it 0 := by
  cases r with
  | L a => exact ⟨_, e, rfl, rfl⟩
  | T a => exact ⟨_, e, rfl, rfl⟩
theorem Src.obj {h : Heap} {it : Addr} {i : Nat} {r : Src} (x : r.Itr h it i) : ∃ o, h.get? it = some o ∧ ∀ v, o.data ≠ .cell v := by
  cases r with
  | L a =>
    obtain ⟨o, h1, _, h3⟩ := x
    exact ⟨o, h1, fun v q => by rw [h3] at q; cases q⟩
  | T a =>
    obtain ⟨o, h1, _, h3⟩ := x
    exact ⟨o, h1, fun v q => by rw [h3] at q; cases q⟩
theorem Src.lt {h : Heap} {items : Array Value} {r : Src} (x : r.Isd h items) : r.ad < h.objs.size := by
  cases r with
  | L a =>
    obtain ⟨_, e, _⟩ := x
    exact Heap.lt_size e
  | T a =>
    obtain ⟨_, e, _⟩ := x
    exact Heap.lt_size e
theorem Src.draws {prog : Program} {w : World} {A : Around} (hh : A.handled = none) (it : Addr) (r : Src) (hne : r.ad ≠ it) (items : Array Value) :
    Draws prog w A it [it, r.ad] items.size (fun i v => items[i]? = some v) (fun i h => r.Itr h it i ∧ r.Isd h items) := by
  cases r with
  | L a => exact Draws.list hh it a hne items
  | T a => exact Draws.tuple hh it a hne items
theorem Src.begins (r : Src) (items : Array Value) : Begins (.ref r.ad) r.ob fun h => r.Isd h items := by
  cases r with
  | L a => exact begins_list a items
  | T a => exact begins_tuple a items
theorem Src.of_dp {F H : Hp} {v : V} {d : PyData} (h : Same F H) (x : Dp K F v d) {ds : List PyData} (hd : d = .list ds ∨ d = .tuple ds) : ∃ (r : Src) (xs : List V), v = .ref r.ad ∧ (∀ H', Same F H' → r.Sq K H' xs) ∧ DpAll K F xs ds := by
  cases x with
  | lst h1 h2 =>
    rename_i a xs ds'
    rcases hd with hd | hd <;> cases hd
    exact ⟨.L a, xs, rfl, fun H' e => e.seq h1, h2⟩
  | tup h1 h2 =>
    rename_i a xs ds'
    rcases hd with hd | hd <;> cases hd
    exact ⟨.T a, xs, rfl, fun H' e => same_sqT e h1, h2⟩
  | non => rcases hd with hd | hd <;> cases hd
  | bl b => rcases hd with hd | hd <;> cases hd
  | int b => rcases hd with hd | hd <;> cases hd
  | str b => rcases hd with hd | hd <;> cases hd
end

/-- a walk by the library's GoesN, each item a new tuple -/
theorem turn_gen {P : Program} {w : World} {K : PySem.W.Frag} {tg : Expr} {J : It} {fp : List Addr} {it : Addr} {tn : Nat → Heap → Prop} (mem : it ∈ fp)
    (obj : ∀ i h, tn i h → ∀ b ∈ fp, ∃ o, h.get? b = some o ∧ ∀ v, o.data ≠ .cell v)
    (keep : ∀ i h h', tn i h → (∀ b ∈ fp, ∀ o, h.get? b = some o → h'.get? b = some o) → tn i h')
    (item : ∀ (X : Cx), X.prog = P → X.w = w → X.K = K → X.calm = true → ∀ (i : Nat) (pins : List (Addr × Obj)) (s : Shared) (σ : St) (H : Hp), Inv X pins σ H s → (∀ b ∈ fp, FpOk X pins H b) → tn i s.heap → J.go i H →
      ∃ fpG wr n Y St, GoesN P w X.A tg it fpG wr n Y St ∧ i < n ∧ St i s.heap ∧ (∀ b ∈ wr, b ∈ fp) ∧ ∀ v h', Y i s.heap v h' → St (i + 1) h' → (∀ b o, b ∉ wr → s.heap.get? b = some o → h'.get? b = some o) →
        ∃ T xs its, v = .ref T ∧ s.heap.objs.size ≤ T ∧ xs.length ≤ sizeLine ∧ Vals xs its ∧ h'.IsTuple T its.toArray ∧ J.yld i H (.ref T) (upd H T (.tup xs)) ∧ tn (i + 1) h')
    (done : ∀ (X : Cx), X.prog = P → X.w = w → X.K = K → X.calm = true → ∀ (i : Nat) (pins : List (Addr × Obj)) (s : Shared) (σ : St) (H : Hp), Inv X pins σ H s → (∀ b ∈ fp, FpOk X pins H b) → tn i s.heap → J.stop i H →
      ∃ fpG wr Y St, GoesN P w X.A tg it fpG wr i Y St ∧ St i s.heap ∧ (∀ b ∈ wr, b ∈ fp))
    (self : ∀ (A : Around) (i : Nat) (s : Shared) (Q : Value → Shared → Prop) (E : Value → Shared → Prop), tn i s.heap → Q (.ref it) s → wpAny (model P w) A (pyIter (.ref it)) Q E s) : Turn P w K tg J fp it tn where
  mem := mem
  obj := obj
  keep := keep
  item := by
    intro X hP hw hK hc i pins s σ H E I hf st hg
    obtain ⟨fpG, wr, n, Y, St, W, hi, hst, hwr, hY⟩ := item X hP hw hK hc i pins s σ H I hf st hg
    refine W.goes i s (fun v s2 => ∃ x H', Inv X pins σ H' s2 ∧ RelV x v ∧ J.yld i H x H' ∧ tn (i + 1) s2.heap ∧ ∀ b ∈ fp, H' b = none) E hi hst fun v h' tk y st' hk htk => ?_
    obtain ⟨T, xs, its, rfl, hT, hz, rv, tup, jy, tn'⟩ := hY v h' y st' hk
    have new : ObjOk X.prog X.w (upd H T (.tup xs)) h' T (.tup xs) := ⟨hz, its, rv, tup⟩
    refine ⟨.ref T, _, I.turnedNew (t' := tk) (ch := fp) (fun b o hb q => hk b o (fun z => hb (hwr b z)) q) hf hT new, rfl, jy, tn', fun b hb => ?_⟩
    obtain ⟨o, ho, _⟩ := obj i _ st b hb
    rw [upd_ne (Nat.ne_of_lt (Nat.lt_of_lt_of_le (Heap.lt_size ho) hT))]
    exact (hf b hb).1
  done := by
    intro X hP hw hK hc i pins s σ H E I hf st hg
    obtain ⟨fpG, wr, Y, St, W, hst, hwr⟩ := done X hP hw hK hc i pins s σ H I hf st hg
    exact W.stops s (fun s1 => Inv X pins σ H s1) E hst fun h' tk hk _ => I.turnedL (t' := tk) (ch := fp) (fun b o hb q => hk b o (fun z => hb (hwr b z)) q) hf
  self := self

/-- zip of two -/
def Iz2 (K : PySem.W.Frag) (r1 r2 : Src) : It :=
  ⟨fun i H => ∃ xs ys x y, r1.Sq K H xs ∧ r2.Sq K H ys ∧ xs[i]? = some x ∧ ys[i]? = some y,
   fun i H v H' => ∃ T x y, v = .ref T ∧ H T = none ∧ H' = upd H T (.tup [x, y]) ∧ (∀ xs, r1.Sq K H xs → xs[i]? = some x) ∧ ∀ ys, r2.Sq K H ys → ys[i]? = some y,
   fun i H => ∃ xs ys, r1.Sq K H xs ∧ r2.Sq K H ys ∧ min xs.length ys.length = i⟩
def Iz3 (K : PySem.W.Frag) (r1 r2 r3 : Src) : It :=
  ⟨fun i H => ∃ xs ys zs x y z, r1.Sq K H xs ∧ r2.Sq K H ys ∧ r3.Sq K H zs ∧ xs[i]? = some x ∧ ys[i]? = some y ∧ zs[i]? = some z,
   fun i H v H' => ∃ T x y z, v = .ref T ∧ H T = none ∧ H' = upd H T (.tup [x, y, z]) ∧ (∀ xs, r1.Sq K H xs → xs[i]? = some x) ∧ (∀ ys, r2.Sq K H ys → ys[i]? = some y) ∧ ∀ zs, r3.Sq K H zs → zs[i]? = some z,
   fun i H => ∃ xs ys zs, r1.Sq K H xs ∧ r2.Sq K H ys ∧ r3.Sq K H zs ∧ min (min xs.length ys.length) zs.length = i⟩
def Ien (K : PySem.W.Frag) (r : Src) : It :=
  ⟨fun i H => ∃ xs x, r.Sq K H xs ∧ xs[i]? = some x,
   fun i H v H' => ∃ T x, v = .ref T ∧ H T = none ∧ H' = upd H T (.tup [.int (i : Nat), x]) ∧ ∀ xs, r.Sq K H xs → xs[i]? = some x,
   fun i H => ∃ xs, r.Sq K H xs ∧ xs.length = i⟩
section
variable {P : Program} {w : World} {K : PySem.W.Frag} {elts : List Expr} {kk : Nat} {tpos : Pos}
theorem turn_en {r : Src} {N : Addr} (hr : r.ad < N) : Turn P w K (.Tuple elts kk tpos) (Ien K r) [N + 1, N] (N + 1) (fun i h => (∃ old, IsEnum h (N + 1) N ((i : Nat) : Int) old) ∧ r.Itr h N i) := by
  have hne : r.ad ≠ N := Nat.ne_of_lt hr
  have hei : (N + 1 : Nat) ≠ N := Nat.succ_ne_self N
  have hef : (N + 1 : Nat) ∉ [N, r.ad] := by
    intro z
    rcases List.mem_cons.mp z with z | z
    · exact hei z
    · exact Nat.ne_of_gt (Nat.lt_succ_of_lt hr) (List.mem_singleton.mp z)
  have G : ∀ (A : Around), A.handled = none → ∀ items : Array Value, GoesN P w A (.Tuple elts kk tpos) (N + 1 : Nat) [(N + 1 : Nat), N, r.ad] [(N + 1 : Nat), N] items.size _ _ := fun A hh items =>
    GoesN.enumFrom 0 (Src.draws (prog := P) (w := w) (A := A.in1) hh N r hne items) (N + 1 : Nat) hei hef (List.mem_cons_self ..)
  refine turn_gen (List.mem_cons_self ..) (fun i h st b hb => ?_) (fun i h h' st k => ?_) ?_ ?_ (fun A i s Q E st h => ?_)
  · obtain ⟨⟨old, he⟩, hi⟩ := st
    rcases List.mem_cons.mp hb with z | z
    · rw [z]; exact ⟨_, he, fun v q => nomatch q⟩
    · rw [List.mem_singleton.mp z]; exact Src.obj hi
  · obtain ⟨⟨old, he⟩, hi⟩ := st
    exact ⟨⟨old, k (N + 1) (List.mem_cons_self ..) _ he⟩, Src.at hi fun o q => k N (by simp) o q⟩
  · intro X hP hw hK hc i pins s σ H I hf st hg
    subst hK
    obtain ⟨⟨old, he⟩, hit⟩ := st
    obtain ⟨xs, x, hq, hx⟩ := hg
    obtain ⟨its, rv, p, hz⟩ := Src.inv I hq
    have hl := rv.length
    have hil : i < xs.length := (List.getElem?_eq_some_iff.mp hx).1
    refine ⟨_, _, _, _, _, G X.A (I.ok.hd hc) its.toArray, by simp; omega, ⟨⟨old, ?_⟩, hit, p⟩, fun b hb => hb, fun v h' y st' hk => ?_⟩
    · rw [Int.zero_add]; exact he
    · obtain ⟨T, t, u, rfl, hT, hu, tup⟩ := y
      obtain ⟨⟨old', he'⟩, hit', _⟩ := st'
      obtain ⟨u', hu', ru⟩ := rv.get hx
      have e1 : u = u' := by
        have q : its[i]? = some u := by simpa using hu
        rw [hu'] at q
        exact (Option.some.inj q).symm
      subst e1
      rw [Int.zero_add] at tup he'
      exact ⟨T, [.int (i : Nat), x], [.int (i : Nat) t, u], rfl, hT, by show 2 ≤ sizeLine; decide, .cons ⟨t, rfl⟩ (.cons ru .nil), tup, ⟨T, x, rfl, I.hok.fresh hT, rfl, fun ys hy => by rw [Src.inj I hy hq]; exact hx⟩, ⟨old', he'⟩, hit'⟩
  · intro X hP hw hK hc i pins s σ H I hf st hg
    subst hK
    obtain ⟨⟨old, he⟩, hit⟩ := st
    obtain ⟨xs, hq, hx⟩ := hg
    obtain ⟨its, rv, p, hz⟩ := Src.inv I hq
    have hl := rv.length
    have e : i = its.toArray.size := by simp; omega
    rw [e] at he hit ⊢
    refine ⟨_, _, _, _, G X.A (I.ok.hd hc) its.toArray, ⟨⟨old, ?_⟩, hit, p⟩, fun b hb => hb⟩
    rw [Int.zero_add]; exact he
  · obtain ⟨⟨old, he⟩, _⟩ := st
    exact wpAny_pyIter_enum he h
theorem turn_z2 {r1 r2 : Src} {N : Addr} (h1 : r1.ad < N) (h2 : r2.ad < N) : Turn P w K (.Tuple elts kk tpos) (Iz2 K r1 r2) [N + 4, N + 2, N + 3, N, N + 1] (N + 4)
    (fun i h => IsZip h (N + 4) (N + 2) (N + 3) .none ∧ IsTupOf2 h (N + 2) (.ref N) (.ref (N + 1)) ∧ (∃ a1 a2, IsTupOf2 h (N + 3) a1 a2) ∧ r1.Itr h N i ∧ r2.Itr h (N + 1) i) := by
  have hne1 : r1.ad ≠ N := Nat.ne_of_lt h1
  have hne2 : r2.ad ≠ (N + 1 : Nat) := Nat.ne_of_lt (Nat.lt_succ_of_lt h2)
  have SEP : ZipSep2 (N + 4 : Nat) (N + 2 : Nat) (N + 3 : Nat) N (N + 1 : Nat) [N, r1.ad] [(N + 1 : Nat), r2.ad] := zip_sep2 (fun b hb => by rw [List.mem_singleton.mp hb]; exact h1) (fun b hb => by rw [List.mem_singleton.mp hb]; exact h2)
  have G : ∀ (A : Around), A.handled = none → ∀ i1 i2 : Array Value, GoesN P w A (.Tuple elts kk tpos) (N + 4 : Nat) _ [(N + 4 : Nat), (N + 3 : Nat), N, (N + 1 : Nat)] (min i1.size i2.size) _ _ := fun A hh i1 i2 =>
    GoesN.zip2 SEP (Src.draws (prog := P) (w := w) (A := A.in1) hh N r1 hne1 i1) (Src.draws (prog := P) (w := w) (A := A.in1) hh (N + 1 : Nat) r2 hne2 i2)
  have wrs : ∀ b ∈ [(N + 4 : Nat), (N + 3 : Nat), N, (N + 1 : Nat)], b ∈ [(N + 4 : Nat), (N + 2 : Nat), (N + 3 : Nat), N, (N + 1 : Nat)] := fun b hb => by
    simp only [List.mem_cons] at hb ⊢
    rcases hb with z | z | z | z | z
    · exact .inl z
    · exact .inr (.inr (.inl z))
    · exact .inr (.inr (.inr (.inl z)))
    · exact .inr (.inr (.inr (.inr (.inl z))))
    · cases z
  refine turn_gen (List.mem_cons_self ..) (fun i h st b hb => ?_) (fun i h h' st k => ?_) ?_ ?_ (fun A i s Q E st h => wpAny_pyIter_zip st.1 h)
  · obtain ⟨hz, hTI, ⟨a1, a2, hTO⟩, hi1, hi2⟩ := st
    simp only [List.mem_cons] at hb
    rcases hb with z | z | z | z | z | z
    · rw [z]; exact ⟨_, hz, fun v q => nomatch q⟩
    · rw [z]; exact ⟨_, hTI, fun v q => nomatch q⟩
    · rw [z]; exact ⟨_, hTO, fun v q => nomatch q⟩
    · rw [z]; exact Src.obj hi1
    · rw [z]; exact Src.obj hi2
    · cases z
  · obtain ⟨hz, hTI, ⟨a1, a2, hTO⟩, hi1, hi2⟩ := st
    exact ⟨k _ (by simp) _ hz, k _ (by simp) _ hTI, ⟨a1, a2, k _ (by simp) _ hTO⟩, Src.at hi1 fun o q => k _ (by simp) o q, Src.at hi2 fun o q => k _ (by simp) o q⟩
  · intro X hP hw hK hc i pins s σ H I hf st hg
    subst hK
    obtain ⟨hz, hTI, hTO, hi1, hi2⟩ := st
    obtain ⟨xs, ys, x, y, hqx, hqy, hx, hy⟩ := hg
    obtain ⟨its, rv, p, _⟩ := Src.inv I hqx
    obtain ⟨its2, rv2, p2, _⟩ := Src.inv I hqy
    have l1 := rv.length
    have l2 := rv2.length
    have b1 : i < xs.length := (List.getElem?_eq_some_iff.mp hx).1
    have b2 : i < ys.length := (List.getElem?_eq_some_iff.mp hy).1
    refine ⟨_, _, _, _, _, G X.A (I.ok.hd hc) its.toArray its2.toArray, by simp; omega, ⟨hz, hTI, hTO, ⟨hi1, p⟩, ⟨hi2, p2⟩⟩, wrs, fun v h' yy st' hk => ?_⟩
    obtain ⟨T, u, u2, rfl, hT, hu, hu2, tup⟩ := yy
    obtain ⟨hz', hTI', hTO', ⟨hi1', _⟩, ⟨hi2', _⟩⟩ := st'
    obtain ⟨u', e1, ru⟩ := rv.get hx
    obtain ⟨u2', e2, ru2⟩ := rv2.get hy
    have q1 : u = u' := by
      have q : its[i]? = some u := by simpa using hu
      rw [e1] at q
      exact (Option.some.inj q).symm
    have q2 : u2 = u2' := by
      have q : its2[i]? = some u2 := by simpa using hu2
      rw [e2] at q
      exact (Option.some.inj q).symm
    subst q1 q2
    exact ⟨T, [x, y], [u, u2], rfl, hT, by show 2 ≤ sizeLine; decide, .cons ru (.cons ru2 .nil), tup, ⟨T, x, y, rfl, I.hok.fresh hT, rfl, fun l hl => by rw [Src.inj I hl hqx]; exact hx, fun l hl => by rw [Src.inj I hl hqy]; exact hy⟩, hz', hTI', hTO', hi1', hi2'⟩
  · intro X hP hw hK hc i pins s σ H I hf st hg
    subst hK
    obtain ⟨hz, hTI, hTO, hi1, hi2⟩ := st
    obtain ⟨xs, ys, hqx, hqy, hend⟩ := hg
    obtain ⟨its, rv, p, _⟩ := Src.inv I hqx
    obtain ⟨its2, rv2, p2, _⟩ := Src.inv I hqy
    have l1 := rv.length
    have l2 := rv2.length
    have e : i = min its.toArray.size its2.toArray.size := by simp; omega
    rw [e] at hi1 hi2 ⊢
    exact ⟨_, _, _, _, G X.A (I.ok.hd hc) its.toArray its2.toArray, ⟨hz, hTI, hTO, ⟨hi1, p⟩, ⟨hi2, p2⟩⟩, wrs⟩
theorem turn_z3 {r1 r2 r3 : Src} {N : Addr} (h1 : r1.ad < N) (h2 : r2.ad < N) (h3 : r3.ad < N) : Turn P w K (.Tuple elts kk tpos) (Iz3 K r1 r2 r3) [N + 5, N + 3, N + 4, N, N + 1, N + 2] (N + 5)
    (fun i h => IsZip h (N + 5) (N + 3) (N + 4) .none ∧ IsTupOf3 h (N + 3) (.ref N) (.ref (N + 1)) (.ref (N + 2)) ∧ (∃ a1 a2 a3, IsTupOf3 h (N + 4) a1 a2 a3) ∧ r1.Itr h N i ∧ r2.Itr h (N + 1) i ∧ r3.Itr h (N + 2) i) := by
  have hne1 : r1.ad ≠ N := Nat.ne_of_lt h1
  have hne2 : r2.ad ≠ (N + 1 : Nat) := Nat.ne_of_lt (Nat.lt_succ_of_lt h2)
  have hne3 : r3.ad ≠ (N + 2 : Nat) := Nat.ne_of_lt (Nat.lt_succ_of_lt (Nat.lt_succ_of_lt h3))
  have SEP : ZipSep3 (N + 5 : Nat) (N + 3 : Nat) (N + 4 : Nat) N (N + 1 : Nat) (N + 2 : Nat) [N, r1.ad] [(N + 1 : Nat), r2.ad] [(N + 2 : Nat), r3.ad] := zip_sep3 (fun b hb => by rw [List.mem_singleton.mp hb]; exact h1) (fun b hb => by rw [List.mem_singleton.mp hb]; exact h2) (fun b hb => by rw [List.mem_singleton.mp hb]; exact h3)
  have G : ∀ (A : Around), A.handled = none → ∀ i1 i2 i3 : Array Value, GoesN P w A (.Tuple elts kk tpos) (N + 5 : Nat) _ [(N + 5 : Nat), (N + 4 : Nat), N, (N + 1 : Nat), (N + 2 : Nat)] (min (min i1.size i2.size) i3.size) _ _ := fun A hh i1 i2 i3 =>
    GoesN.zip3 SEP (Src.draws (prog := P) (w := w) (A := A.in1) hh N r1 hne1 i1) (Src.draws (prog := P) (w := w) (A := A.in1) hh (N + 1 : Nat) r2 hne2 i2) (Src.draws (prog := P) (w := w) (A := A.in1) hh (N + 2 : Nat) r3 hne3 i3)
  have wrs : ∀ b ∈ [(N + 5 : Nat), (N + 4 : Nat), N, (N + 1 : Nat), (N + 2 : Nat)], b ∈ [(N + 5 : Nat), (N + 3 : Nat), (N + 4 : Nat), N, (N + 1 : Nat), (N + 2 : Nat)] := fun b hb => by
    simp only [List.mem_cons] at hb ⊢
    rcases hb with z | z | z | z | z | z
    · exact .inl z
    · exact .inr (.inr (.inl z))
    · exact .inr (.inr (.inr (.inl z)))
    · exact .inr (.inr (.inr (.inr (.inl z))))
    · exact .inr (.inr (.inr (.inr (.inr (.inl z)))))
    · cases z
  refine turn_gen (List.mem_cons_self ..) (fun i h st b hb => ?_) (fun i h h' st k => ?_) ?_ ?_ (fun A i s Q E st h => wpAny_pyIter_zip st.1 h)
  · obtain ⟨hz, hTI, ⟨a1, a2, a3, hTO⟩, hi1, hi2, hi3⟩ := st
    simp only [List.mem_cons] at hb
    rcases hb with z | z | z | z | z | z | z
    · rw [z]; exact ⟨_, hz, fun v q => nomatch q⟩
    · rw [z]; exact ⟨_, hTI, fun v q => nomatch q⟩
    · rw [z]; exact ⟨_, hTO, fun v q => nomatch q⟩
    · rw [z]; exact Src.obj hi1
    · rw [z]; exact Src.obj hi2
    · rw [z]; exact Src.obj hi3
    · cases z
  · obtain ⟨hz, hTI, ⟨a1, a2, a3, hTO⟩, hi1, hi2, hi3⟩ := st
    exact ⟨k _ (by simp) _ hz, k _ (by simp) _ hTI, ⟨a1, a2, a3, k _ (by simp) _ hTO⟩, Src.at hi1 fun o q => k _ (by simp) o q, Src.at hi2 fun o q => k _ (by simp) o q, Src.at hi3 fun o q => k _ (by simp) o q⟩
  · intro X hP hw hK hc i pins s σ H I hf st hg
    subst hK
    obtain ⟨hz, hTI, hTO, hi1, hi2, hi3⟩ := st
    obtain ⟨xs, ys, zs, x, y, z, hqx, hqy, hqz, hx, hy, hzz⟩ := hg
    obtain ⟨its, rv, p, _⟩ := Src.inv I hqx
    obtain ⟨its2, rv2, p2, _⟩ := Src.inv I hqy
    obtain ⟨its3, rv3, p3, _⟩ := Src.inv I hqz
    have l1 := rv.length
    have l2 := rv2.length
    have l3 := rv3.length
    have b1 : i < xs.length := (List.getElem?_eq_some_iff.mp hx).1
    have b2 : i < ys.length := (List.getElem?_eq_some_iff.mp hy).1
    have b3 : i < zs.length := (List.getElem?_eq_some_iff.mp hzz).1
    refine ⟨_, _, _, _, _, G X.A (I.ok.hd hc) its.toArray its2.toArray its3.toArray, by simp; omega, ⟨hz, hTI, hTO, ⟨hi1, p⟩, ⟨hi2, p2⟩, ⟨hi3, p3⟩⟩, wrs, fun v h' yy st' hk => ?_⟩
    obtain ⟨T, u, u2, u3, rfl, hT, hu, hu2, hu3, tup⟩ := yy
    obtain ⟨hz', hTI', hTO', ⟨hi1', _⟩, ⟨hi2', _⟩, ⟨hi3', _⟩⟩ := st'
    obtain ⟨u', e1, ru⟩ := rv.get hx
    obtain ⟨u2', e2, ru2⟩ := rv2.get hy
    obtain ⟨u3', e3, ru3⟩ := rv3.get hzz
    have q1 : u = u' := by
      have q : its[i]? = some u := by simpa using hu
      rw [e1] at q
      exact (Option.some.inj q).symm
    have q2 : u2 = u2' := by
      have q : its2[i]? = some u2 := by simpa using hu2
      rw [e2] at q
      exact (Option.some.inj q).symm
    have q3 : u3 = u3' := by
      have q : its3[i]? = some u3 := by simpa using hu3
      rw [e3] at q
      exact (Option.some.inj q).symm
    subst q1 q2 q3
    exact ⟨T, [x, y, z], [u, u2, u3], rfl, hT, by show 3 ≤ sizeLine; decide, .cons ru (.cons ru2 (.cons ru3 .nil)), tup, ⟨T, x, y, z, rfl, I.hok.fresh hT, rfl, fun l hl => by rw [Src.inj I hl hqx]; exact hx, fun l hl => by rw [Src.inj I hl hqy]; exact hy, fun l hl => by rw [Src.inj I hl hqz]; exact hzz⟩, hz', hTI', hTO', hi1', hi2', hi3'⟩
  · intro X hP hw hK hc i pins s σ H I hf st hg
    subst hK
    obtain ⟨hz, hTI, hTO, hi1, hi2, hi3⟩ := st
    obtain ⟨xs, ys, zs, hqx, hqy, hqz, hend⟩ := hg
    obtain ⟨its, rv, p, _⟩ := Src.inv I hqx
    obtain ⟨its2, rv2, p2, _⟩ := Src.inv I hqy
    obtain ⟨its3, rv3, p3, _⟩ := Src.inv I hqz
    have l1 := rv.length
    have l2 := rv2.length
    have l3 := rv3.length
    have e : i = min (min its.toArray.size its2.toArray.size) its3.toArray.size := by simp; omega
    rw [e] at hi1 hi2 hi3 ⊢
    exact ⟨_, _, _, _, G X.A (I.ok.hd hc) its.toArray its2.toArray its3.toArray, ⟨hz, hTI, hTO, ⟨hi1, p⟩, ⟨hi2, p2⟩, ⟨hi3, p3⟩⟩, wrs⟩
end
end G


set_option maxRecDepth 100000
set_option maxHeartbeats 4000000
namespace PySem
open Sem (wp)
theorem g_enumerate_newT (l : Addr) (items : Array Value) :
    Meets (Builtin.«enumerate.__new__» ⟨[.type "enumerate", .ref l], []⟩) (fun _ R s => s.heap.IsTuple l items ∧
      R (.ok (.ret (.ref (s.heap.push { cls := .type "tuple_iterator", data := .fields #[.ref l, .int 0 0] }).objs.size)))
        { s with heap := (s.heap.push { cls := .type "tuple_iterator", data := .fields #[.ref l, .int 0 0] }).push { cls := .type "enumerate", data := .fields #[.none, .bool false, .ref s.heap.objs.size, rawInt 0, .none, .none] } }) :=
  .of_wp fun prog w A R s h => by
    obtain ⟨hp, g, d, tk, os⟩ := s; obtain ⟨hL, h⟩ := h
    have hsub := sub_enumerate
    wp_walk
    refine wpAny_stack_any fun st => wpAny_pure ?_
    split
    · rename_i c _ _ _ _ _
      cases (c == Value.type "enumerate")
      · wp_walk using wpAny_pyIter_tuple hL
        exact ⟨_, rfl, h⟩
      · wp_walk using wpAny_pyIter_tuple hL
        exact ⟨_, rfl, h⟩
    · wp_walk using wpAny_pyIter_tuple hL
      exact ⟨_, rfl, h⟩
theorem g_enumerate_tuple {prog : Program} {w : World} {A : Around} {E : Value → Shared → Prop} {s : Shared} {l : Addr} {items : Array Value} {Q : Value → Shared → Prop} (hL : s.heap.IsTuple l items)
    (h : ∀ h', IsEnum h' (s.heap.objs.size + 1) s.heap.objs.size 0 .none → h'.IsTupleIter s.heap.objs.size l 0 → h'.objs.size = s.heap.objs.size + 2 →
      (∀ b o, s.heap.get? b = some o → h'.get? b = some o) → Q (.ref (s.heap.objs.size + 1)) { s with heap := h' }) :
    wpAny (model prog w) A (call (.type "enumerate") [.ref l]) Q E s := by
  refine callType_new F.called_enumerate (by decide) (F.typeCall_enumerate_1 _) (F.newCall_enumerate_1 _) (fun obj => F.args_object_init_2 obj _) F.entry_enumerate_new
    (g_enumerate_newT l items) ⟨hL, ?_⟩
  have hz : (s.heap.push { cls := .type "tuple_iterator", data := .fields #[.ref l, .int 0 0] }).objs.size = s.heap.objs.size + 1 := Heap.size_push ..
  show _ ∧ _
  rw [hz]
  have he : IsEnum ((s.heap.push { cls := .type "tuple_iterator", data := .fields #[.ref l, .int 0 0] }).push
      { cls := .type "enumerate", data := .fields #[.none, .bool false, .ref s.heap.objs.size, rawInt 0, .none, .none] }) (s.heap.objs.size + 1) s.heap.objs.size 0 .none := by
    have := Heap.get?_push_size (s.heap.push { cls := .type "tuple_iterator", data := .fields #[.ref l, .int 0 0] })
      (o := { cls := .type "enumerate", data := .fields #[.none, .bool false, .ref s.heap.objs.size, rawInt 0, .none, .none] }) rfl
    rw [hz] at this; exact this
  refine ⟨⟨_, he, rfl⟩, h _ he ⟨_, Heap.get?_push_of_some _ (Heap.get?_push_size _ rfl), rfl, rfl⟩ (by rw [Heap.size_push, hz]) fun b o x => Heap.get?_push_of_some _ (Heap.get?_push_of_some _ x)⟩
end PySem

namespace G
open PySem PySem.Spec PyProof.Rows L2

section
variable {X : Cx} {p pos tpos : Pos} {elts : List Expr} {kk : Nat} {e e2 e3 tg : Expr} {ta : TA}
def iEn (K : PySem.W.Frag) (ta : TA) : TI := fun σ H R => ta σ H fun vs H1 => ∃ (r : Src) (xs : List V), vs = [.ref r.ad] ∧ r.Sq K H1 xs ∧ R (Ien K r) H1
theorem pi_en (hg : Gl X "enumerate") (hm : X.mg "enumerate" = none) (ha : PA X [e] ta) (hs : starEach [e] X.env = [(false, eval e X.env)] := by rfl) : PI X (.Tuple elts kk tpos) (.Call (.Name "enumerate" p) [e] [] pos) (iEn X.K ta) := by
  refine ⟨fun pins s σ H R I h => ?_⟩
  refine Call_ (ld_blt I hg hm boot_enumerate (PyProof.Rows.callWith_type1 (thn (ha.run pos pins s σ H _ I h) fun us s1 ⟨vs, H1, I1, r1, q1⟩ => ?_) hs rfl))
  obtain ⟨r, xs, ex, hq, q⟩ := q1
  subst ex
  cases r1 with
  | cons r0 rr =>
    cases rr
    cases r0
    obtain ⟨its, rv, p', hz⟩ := Src.inv I1 hq
    have lt := Src.lt p'
    have fin : ∀ h' : Heap, IsEnum h' (s1.heap.objs.size + 1) s1.heap.objs.size 0 .none → r.Itr h' s1.heap.objs.size 0 → (∀ b o, s1.heap.get? b = some o → h'.get? b = some o) →
        wpAny (model X.prog X.w) X.A (pyIter (.ref (s1.heap.objs.size + 1))) (PIE X pins σ (.Tuple elts kk tpos) R) X.xe { s1 with heap := h' } := fun h' he hit hk => wpAny_pyIter_enum he (by
      have I2 : Inv X pins σ H1 { s1 with heap := h' } := I1.kept (t' := s1.toks) hk
      refine ⟨s1.heap.objs.size + 1, [s1.heap.objs.size + 1, s1.heap.objs.size], _, _, H1, rfl, I2, turn_en lt, ⟨⟨.none, he⟩, hit⟩, fun b hb => ?_, q⟩
      have hle : s1.heap.objs.size ≤ b := by
        rcases List.mem_cons.mp hb with z | z
        · rw [z]; exact Nat.le_add_right _ _
        · rw [List.mem_singleton.mp z]; exact Nat.le_refl _
      exact I1.fpOk hle (I1.hok.fresh hle))
    cases r with
    | L a => exact call_enumerate_list p' fun h' he hit hsz hk => fin h' he hit hk
    | T a => exact g_enumerate_tuple p' fun h' he hit hsz hk => fin h' he hit hk
def iZ2 (K : PySem.W.Frag) (ta : TA) : TI := fun σ H R => ta σ H fun vs H1 => ∃ (r1 r2 : Src) (xs ys : List V), vs = [.ref r1.ad, .ref r2.ad] ∧ r1.Sq K H1 xs ∧ r2.Sq K H1 ys ∧ R (Iz2 K r1 r2) H1
theorem pi_z2 (hg : Gl X "zip") (hm : X.mg "zip" = none) (ha : PA X [e, e2] ta)
    (hs : starEach [e, e2] X.env = (false, eval e X.env) :: starEach [e2] X.env := by rfl) (hpl : (backTo pos (starEach [e2] X.env)).any (·.1) = false := by rfl) : PI X (.Tuple elts kk tpos) (.Call (.Name "zip" p) [e, e2] [] pos) (iZ2 X.K ta) := by
  refine ⟨fun pins s σ H R I h => ?_⟩
  refine Call_ (ld_blt I hg hm PyProof.Rows.boot_zip (PyProof.Rows.callWith_type1 (thn (ha.run pos pins s σ H _ I h) fun us s1 ⟨vs, H1, I1, r1, q1⟩ => ?_) hs hpl))
  obtain ⟨ra, rb, xs, ys, ex, hqx, hqy, q⟩ := q1
  subst ex
  cases r1 with
  | cons r rr =>
    cases rr with
    | cons r' rr =>
      cases rr
      cases r
      cases r'
      obtain ⟨its, rv, p1, _⟩ := Src.inv I1 hqx
      obtain ⟨its2, rv2, p2, _⟩ := Src.inv I1 hqy
      refine zip_begins2 (Src.begins ra its.toArray) (Src.begins rb its2.toArray) p1 p2 fun h' hz hTI hTO h1 h2 hsz hk => wpAny_pyIter_zip hz ?_
      have I2 : Inv X pins σ H1 { s1 with heap := h' } := I1.kept (t' := s1.toks) hk
      refine ⟨s1.heap.objs.size + 4, _, _, _, H1, rfl, I2, turn_z2 (Src.lt p1) (Src.lt p2), ⟨hz, hTI, ⟨_, _, hTO⟩, Src.ob_at h1, Src.ob_at h2⟩, fun b hb => ?_, q⟩
      have hle : s1.heap.objs.size ≤ b := by
        simp only [List.mem_cons] at hb
        rcases hb with z | z | z | z | z | z
        · rw [z]; exact Nat.le_add_right _ _
        · rw [z]; exact Nat.le_add_right _ _
        · rw [z]; exact Nat.le_add_right _ _
        · rw [z]; exact Nat.le_refl _
        · rw [z]; exact Nat.le_add_right _ _
        · cases z
      exact I1.fpOk hle (I1.hok.fresh hle)
def iZ3 (K : PySem.W.Frag) (ta : TA) : TI := fun σ H R => ta σ H fun vs H1 => ∃ (r1 r2 r3 : Src) (xs ys zs : List V), vs = [.ref r1.ad, .ref r2.ad, .ref r3.ad] ∧ r1.Sq K H1 xs ∧ r2.Sq K H1 ys ∧ r3.Sq K H1 zs ∧ R (Iz3 K r1 r2 r3) H1
theorem pi_z3 (hg : Gl X "zip") (hm : X.mg "zip" = none) (ha : PA X [e, e2, e3] ta)
    (hs : starEach [e, e2, e3] X.env = (false, eval e X.env) :: starEach [e2, e3] X.env := by rfl) (hpl : (backTo pos (starEach [e2, e3] X.env)).any (·.1) = false := by rfl) : PI X (.Tuple elts kk tpos) (.Call (.Name "zip" p) [e, e2, e3] [] pos) (iZ3 X.K ta) := by
  refine ⟨fun pins s σ H R I h => ?_⟩
  refine Call_ (ld_blt I hg hm PyProof.Rows.boot_zip (PyProof.Rows.callWith_type1 (thn (ha.run pos pins s σ H _ I h) fun us s1 ⟨vs, H1, I1, r1, q1⟩ => ?_) hs hpl))
  obtain ⟨ra, rb, rc, xs, ys, zs, ex, hqx, hqy, hqz, q⟩ := q1
  subst ex
  cases r1 with
  | cons r rr =>
    cases rr with
    | cons r' rr =>
      cases rr with
      | cons r'' rr =>
        cases rr
        cases r
        cases r'
        cases r''
        obtain ⟨its, rv, p1, _⟩ := Src.inv I1 hqx
        obtain ⟨its2, rv2, p2, _⟩ := Src.inv I1 hqy
        obtain ⟨its3, rv3, p3, _⟩ := Src.inv I1 hqz
        refine zip_begins3 (Src.begins ra its.toArray) (Src.begins rb its2.toArray) (Src.begins rc its3.toArray) p1 p2 p3 fun h' hz hTI hTO h1 h2 h3 hsz hk => wpAny_pyIter_zip hz ?_
        have I2 : Inv X pins σ H1 { s1 with heap := h' } := I1.kept (t' := s1.toks) hk
        refine ⟨s1.heap.objs.size + 5, _, _, _, H1, rfl, I2, turn_z3 (Src.lt p1) (Src.lt p2) (Src.lt p3), ⟨hz, hTI, ⟨_, _, _, hTO⟩, Src.ob_at h1, Src.ob_at h2, Src.ob_at h3⟩, fun b hb => ?_, q⟩
        have hle : s1.heap.objs.size ≤ b := by
          simp only [List.mem_cons] at hb
          rcases hb with z | z | z | z | z | z | z
          · rw [z]; exact Nat.le_add_right _ _
          · rw [z]; exact Nat.le_add_right _ _
          · rw [z]; exact Nat.le_add_right _ _
          · rw [z]; exact Nat.le_refl _
          · rw [z]; exact Nat.le_add_right _ _
          · rw [z]; exact Nat.le_add_right _ _
          · cases z
        exact I1.fpOk hle (I1.hok.fresh hle)
end

/-! ### what is walked, as data -/
theorem zip_get {α β : Type} {xs : List α} {ys : List β} {i : Nat} {a : α} {b : β} (h1 : xs[i]? = some a) (h2 : ys[i]? = some b) : (xs.zip ys)[i]? = some (a, b) :=
  List.getElem?_zip_eq_some.mpr ⟨h1, h2⟩
structure Yields (K : PySem.W.Frag) (J : It) (F0 : Hp) (items : List PyData) : Prop where
  go : ∀ i F H, i < items.length → Same F0 F → Same F H → J.go i H
  yld : ∀ i F H x H', i < items.length → Same F0 F → Same F H → J.yld i H x H' → ∃ d F', items[i]? = some d ∧ Grow F H F' H' ∧ Dp K F' x d
  stop : ∀ F H, Same F0 F → Same F H → J.stop items.length H
def VI (X : Cx) (tg iter : Expr) (env : En) (items : List PyData) : Prop := ∀ (F H : Hp) (σ : St) (S : Foot), Sit X.K F H σ S env → ∀ R : It → Hp → Prop,
  (∀ J F' H', Grow F H F' H' → Yields X.K J F' items → R J H') → wI X tg iter σ H R
section
variable {X : Cx} {env : En} {tg e e1 e2 e3 : Expr} {ds : List PyData} {p pos tpos : Pos} {elts : List Expr} {kk : Nat}
theorem yields_src {K : PySem.W.Frag} {F : Hp} {r : Src} {xs : List V} (hs : ∀ H', Same F H' → r.Sq K H' xs) (hd : DpAll K F xs ds) : Yields K (match r with | .L a => Itl K a | .T a => Itt K a) F ds := by
  have hl := dps_length hd
  cases r with
  | L a =>
    refine ⟨fun i F' H hi e1 e2 => ⟨xs, xs[i]'(by omega), hs H (e1.trans e2), List.getElem?_eq_getElem _⟩, fun i F' H x H' hi e1 e2 ⟨e, q⟩ => ?_, fun F' H e1 e2 => ⟨xs, hs H (e1.trans e2), by omega⟩⟩
    subst e
    obtain ⟨d, h1, h2⟩ := dps_getv hd (q xs (hs _ (e1.trans e2)))
    exact ⟨d, F', h1, Grow.refl e2, dp_mono e1 h2⟩
  | T a =>
    refine ⟨fun i F' H hi e1 e2 => ⟨xs, xs[i]'(by omega), hs H (e1.trans e2), List.getElem?_eq_getElem _⟩, fun i F' H x H' hi e1 e2 ⟨e, q⟩ => ?_, fun F' H e1 e2 => ⟨xs, hs H (e1.trans e2), by omega⟩⟩
    subst e
    obtain ⟨d, h1, h2⟩ := dps_getv hd (q xs (hs _ (e1.trans e2)))
    exact ⟨d, F', h1, Grow.refl e2, dp_mono e1 h2⟩
theorem vi_list (h : VC X e env (.dat (.list ds))) : VI X tg e env ds := fun F H σ S s R k =>
  ⟨_, pi_list pwE, h F H σ S s _ fun v F1 H1 Sv g hv _ => by
    cases hv.1 with
    | lst h1 h2 => exact ⟨_, rfl, ⟨_, g.sub.seq h1⟩, k _ F1 H1 g (yields_src (r := .L _) (fun H' e => e.seq h1) h2)⟩⟩
theorem vi_tup (h : VC X e env (.dat (.tuple ds))) : VI X tg e env ds := fun F H σ S s R k =>
  ⟨_, pi_tup pwE, h F H σ S s _ fun v F1 H1 Sv g hv _ => by
    cases hv.1 with
    | tup h1 h2 => exact ⟨_, rfl, ⟨_, same_sqT g.sub h1⟩, k _ F1 H1 g (yields_src (r := .T _) (fun H' e => same_sqT e h1) h2)⟩⟩
theorem yields_range {K : PySem.W.Frag} {F : Hp} {lo : Int} {n : Nat} : Yields K (Itr lo n) F ((List.range n).map fun (i : Nat) => .int (lo + (i : Int))) := by
  refine ⟨fun i F' H hi e1 e2 => show i < n by simpa using hi, fun i F' H x H' hi e1 e2 ⟨e, q⟩ => ?_, fun F' H e1 e2 => ?_⟩
  · subst e q
    exact ⟨.int (lo + i), F', by simp at hi ⊢; simp [hi], Grow.refl e2, .int _⟩
  · show n ≤ _
    simp
theorem vi_range1 {n : Nat} (hm : X.mg "range" = none) (h : VC X e env (.dat (.int (n : Int)))) (hn : n ≤ 1000000000000 := by decide) (hg : Gl X "range" := by rfl) (hs : starEach [e] X.env = [(false, eval e X.env)] := by rfl) :
    VI X tg (.Call (.Name "range" p) [e] [] pos) env ((List.range n).map fun (i : Nat) => .int (i : Int)) := fun F H σ S s R k =>
  ⟨_, pi_range1 hg hm (pa_cons pwE pa_nil hs) hs, h F H σ S s _ fun v F1 H1 Sv g hv _ => by
    cases hv.1
    refine ⟨(n : Int), rfl, by omega, by omega, k _ F1 H1 g ?_⟩
    have y : Yields X.K (Itr 0 n) F1 ((List.range n).map fun (i : Nat) => .int ((0 : Int) + (i : Int))) := yields_range
    simpa using y⟩
theorem vi_range2 {a b : Nat} (hm : X.mg "range" = none) (h1 : VC X e1 env (.dat (.int (a : Int)))) (h2 : VC X e2 env (.dat (.int (b : Int)))) (hn : a ≤ 1000000000000 ∧ b ≤ 1000000000000 := by omega) (hg : Gl X "range" := by rfl) (hs : starEach [e1, e2] X.env = [(false, eval e1 X.env), (false, eval e2 X.env)] := by rfl) (hs2 : starEach [e2] X.env = [(false, eval e2 X.env)] := by rfl) :
    VI X tg (.Call (.Name "range" p) [e1, e2] [] pos) env ((List.range (b - a)).map fun (i : Nat) => .int ((a : Int) + (i : Int))) := fun F H σ S s R k =>
  ⟨_, pi_range2 hg hm (pa_cons pwE (pa_cons pwE pa_nil hs2) (by rw [hs, hs2])) hs hs2, two h1 h2 s fun v1 v2 F1 H1 g q1 q2 => by
    cases q1
    cases q2
    refine ⟨(a : Int), (b : Int), rfl, by omega, k _ F1 H1 g ?_⟩
    have e : ((b : Int) - (a : Int)).toNat = b - a := by omega
    rw [e]
    exact yields_range⟩
theorem vi_en {d : PyData} (hm : X.mg "enumerate" = none) (h : VC X e env (.dat d)) (hd : d = .list ds ∨ d = .tuple ds := by first | exact Or.inl rfl | exact Or.inr rfl) (hg : Gl X "enumerate" := by rfl) (hs : starEach [e] X.env = [(false, eval e X.env)] := by rfl) :
    VI X (.Tuple elts kk tpos) (.Call (.Name "enumerate" p) [e] [] pos) env (ds.zipIdx.map fun x => .tuple [.int (x.2 : Int), x.1]) := fun F H σ S s R k =>
  ⟨_, pi_en hg hm (pa_cons pwE pa_nil hs) hs, h F H σ S s _ fun v F1 H1 Sv g hv _ => by
    obtain ⟨r, xs, rfl, hq, hdp⟩ := Src.of_dp g.sub hv.1 hd
    have hl := dps_length hdp
    refine ⟨r, xs, rfl, hq H1 g.sub, k _ F1 H1 g ⟨fun i F' H' hi e1 e2 => ?_, fun i F' H' x H'' hi e1 e2 q => ?_, fun F' H' e1 e2 => ?_⟩⟩
    · simp at hi
      exact ⟨xs, xs[i]'(by omega), hq H' (e1.trans e2), List.getElem?_eq_getElem _⟩
    · obtain ⟨T, y, rfl, hT, rfl, q⟩ := q
      obtain ⟨d', h1, h2⟩ := dps_getv hdp (q xs (hq _ (e1.trans e2)))
      have g2 := Grow.laid (o := .tup [.int (i : Nat), y]) e2 hT
      exact ⟨.tuple [.int (i : Int), d'], _, by simp [h1], g2, .tup (SqT.of upd_same) (.cons (.int _) (.cons (dp_mono (e1.trans g2.f) h2) .nil))⟩
    · exact ⟨xs, hq H' (e1.trans e2), by simp; omega⟩⟩
theorem vi_z2 {d1 d2 : PyData} {ds1 ds2 : List PyData} (hm : X.mg "zip" = none) (h1 : VC X e1 env (.dat d1)) (h2 : VC X e2 env (.dat d2)) (hd1 : d1 = .list ds1 ∨ d1 = .tuple ds1 := by first | exact Or.inl rfl | exact Or.inr rfl) (hd2 : d2 = .list ds2 ∨ d2 = .tuple ds2 := by first | exact Or.inl rfl | exact Or.inr rfl)
    (hg : Gl X "zip" := by rfl) (hs : starEach [e1, e2] X.env = (false, eval e1 X.env) :: starEach [e2] X.env := by rfl) (hs2 : starEach [e2] X.env = [(false, eval e2 X.env)] := by rfl) (hpl : (backTo pos (starEach [e2] X.env)).any (·.1) = false := by rfl) :
    VI X (.Tuple elts kk tpos) (.Call (.Name "zip" p) [e1, e2] [] pos) env ((ds1.zip ds2).map fun x => .tuple [x.1, x.2]) := fun F H σ S s R k =>
  ⟨_, pi_z2 hg hm (pa_cons pwE (pa_cons pwE pa_nil hs2) hs) hs hpl, two h1 h2 s fun v1 v2 F1 H1 g q1 q2 => by
    obtain ⟨r1, xs, rfl, hq1, hdp1⟩ := Src.of_dp g.sub q1 hd1
    obtain ⟨r2, ys, rfl, hq2, hdp2⟩ := Src.of_dp g.sub q2 hd2
    have hl1 := dps_length hdp1
    have hl2 := dps_length hdp2
    refine ⟨r1, r2, xs, ys, rfl, hq1 H1 g.sub, hq2 H1 g.sub, k _ F1 H1 g ⟨fun i F' H' hi e1 e2 => ?_, fun i F' H' x H'' hi e1 e2 q => ?_, fun F' H' e1 e2 => ?_⟩⟩
    · simp at hi
      exact ⟨xs, ys, xs[i]'(by omega), ys[i]'(by omega), hq1 H' (e1.trans e2), hq2 H' (e1.trans e2), List.getElem?_eq_getElem _, List.getElem?_eq_getElem _⟩
    · obtain ⟨T, y, z, rfl, hT, rfl, qa, qb⟩ := q
      obtain ⟨d', a1, a2⟩ := dps_getv hdp1 (qa xs (hq1 _ (e1.trans e2)))
      obtain ⟨d'', b1, b2⟩ := dps_getv hdp2 (qb ys (hq2 _ (e1.trans e2)))
      have g2 := Grow.laid (o := .tup [y, z]) e2 hT
      exact ⟨.tuple [d', d''], _, by rw [List.getElem?_map, zip_get a1 b1] <;> rfl, g2, .tup (SqT.of upd_same) (.cons (dp_mono (e1.trans g2.f) a2) (.cons (dp_mono (e1.trans g2.f) b2) .nil))⟩
    · exact ⟨xs, ys, hq1 H' (e1.trans e2), hq2 H' (e1.trans e2), by simp; omega⟩⟩
theorem two3 {d1 d2 d3 : PyData} (h1 : VC X e1 env (.dat d1)) (h2 : VC X e2 env (.dat d2)) (h3 : VC X e3 env (.dat d3)) {F H : Hp} {σ : St} {S : Foot} (s : Sit X.K F H σ S env) {k : V → V → V → Hp → Prop}
    (hk : ∀ v1 v2 v3 F' H', Grow F H F' H' → Dp X.K F' v1 d1 → Dp X.K F' v2 d2 → Dp X.K F' v3 d3 → k v1 v2 v3 H') : wE X e1 σ H fun x H1 => wE X e2 σ H1 fun y H2 => wE X e3 σ H2 fun z H3 => k x y z H3 :=
  two h1 h2 s fun v1 v2 F1 H1 g1 a b => h3 F1 H1 σ S (s.grow g1) _ fun v3 F2 H2 _ g2 c _ => hk v1 v2 v3 F2 H2 (g1.trans g2) (dp_mono g2.f a) (dp_mono g2.f b) c.1
theorem vi_z3 {d1 d2 d3 : PyData} {ds1 ds2 ds3 : List PyData} (hm : X.mg "zip" = none) (h1 : VC X e1 env (.dat d1)) (h2 : VC X e2 env (.dat d2)) (h3 : VC X e3 env (.dat d3)) (hd1 : d1 = .list ds1 ∨ d1 = .tuple ds1 := by first | exact Or.inl rfl | exact Or.inr rfl) (hd2 : d2 = .list ds2 ∨ d2 = .tuple ds2 := by first | exact Or.inl rfl | exact Or.inr rfl) (hd3 : d3 = .list ds3 ∨ d3 = .tuple ds3 := by first | exact Or.inl rfl | exact Or.inr rfl)
    (hg : Gl X "zip" := by rfl) (hs : starEach [e1, e2, e3] X.env = (false, eval e1 X.env) :: starEach [e2, e3] X.env := by rfl) (hs2 : starEach [e2, e3] X.env = (false, eval e2 X.env) :: starEach [e3] X.env := by rfl) (hs3 : starEach [e3] X.env = [(false, eval e3 X.env)] := by rfl) (hpl : (backTo pos (starEach [e2, e3] X.env)).any (·.1) = false := by rfl) :
    VI X (.Tuple elts kk tpos) (.Call (.Name "zip" p) [e1, e2, e3] [] pos) env ((ds1.zip (ds2.zip ds3)).map fun x => .tuple [x.1, x.2.1, x.2.2]) := fun F H σ S s R k =>
  ⟨_, pi_z3 hg hm (pa_cons pwE (pa_cons pwE (pa_cons pwE pa_nil hs3) hs2) hs) hs hpl, two3 h1 h2 h3 s fun v1 v2 v3 F1 H1 g q1 q2 q3 => by
    obtain ⟨r1, xs, rfl, hq1, hdp1⟩ := Src.of_dp g.sub q1 hd1
    obtain ⟨r2, ys, rfl, hq2, hdp2⟩ := Src.of_dp g.sub q2 hd2
    obtain ⟨r3, zs, rfl, hq3, hdp3⟩ := Src.of_dp g.sub q3 hd3
    have hl1 := dps_length hdp1
    have hl2 := dps_length hdp2
    have hl3 := dps_length hdp3
    refine ⟨r1, r2, r3, xs, ys, zs, rfl, hq1 H1 g.sub, hq2 H1 g.sub, hq3 H1 g.sub, k _ F1 H1 g ⟨fun i F' H' hi e1 e2 => ?_, fun i F' H' x H'' hi e1 e2 q => ?_, fun F' H' e1 e2 => ?_⟩⟩
    · simp at hi
      exact ⟨xs, ys, zs, xs[i]'(by omega), ys[i]'(by omega), zs[i]'(by omega), hq1 H' (e1.trans e2), hq2 H' (e1.trans e2), hq3 H' (e1.trans e2), List.getElem?_eq_getElem _, List.getElem?_eq_getElem _, List.getElem?_eq_getElem _⟩
    · obtain ⟨T, y, z, u, rfl, hT, rfl, qa, qb, qc⟩ := q
      obtain ⟨d', a1, a2⟩ := dps_getv hdp1 (qa xs (hq1 _ (e1.trans e2)))
      obtain ⟨d'', b1, b2⟩ := dps_getv hdp2 (qb ys (hq2 _ (e1.trans e2)))
      obtain ⟨d''', c1, c2⟩ := dps_getv hdp3 (qc zs (hq3 _ (e1.trans e2)))
      have g2 := Grow.laid (o := .tup [y, z, u]) e2 hT
      exact ⟨.tuple [d', d'', d'''], _, by rw [List.getElem?_map, zip_get a1 (zip_get b1 c1)] <;> rfl, g2, .tup (SqT.of upd_same) (.cons (dp_mono (e1.trans g2.f) a2) (.cons (dp_mono (e1.trans g2.f) b2) (.cons (dp_mono (e1.trans g2.f) c2) .nil)))⟩
    · exact ⟨xs, ys, zs, hq1 H' (e1.trans e2), hq2 H' (e1.trans e2), hq3 H' (e1.trans e2), by simp; omega⟩⟩
end
end G


set_option maxRecDepth 100000
set_option maxHeartbeats 4000000
namespace G
open PySem PySem.Spec PyProof.Rows L2

section
variable {K : PySem.W.Frag} {F H F' H' : Hp} {σ : St} {S : Foot} {env : En}
theorem Sit.put (s : Sit K F H σ S env) {i : Nat} {v : V} {c : Ct} {Sv : Addr → Prop} (h : Hold K F H v Sv c) (d : ∀ j a, S j a → ¬ Sv a) :
    ∃ S', Sit K F H (σ.set i (some v)) S' (env.set i (some c)) ∧ ∀ a, tot S' a → tot S a ∨ Sv a := by
  by_cases hi : i < env.length
  · exact ⟨_, s.set hi h d, fun a z => tot_set z⟩
  · have h1 : env.set i (some c) = env := List.set_eq_of_length_le (by omega)
    have h2 : σ.set i (some v) = σ := List.set_eq_of_length_le (by have := s.len; omega)
    rw [h1, h2]
    exact ⟨S, s, fun a z => .inl z⟩
def wipE (env : En) : List Nat → En
  | [] => env
  | v :: vs => (wipE env vs).set v none
theorem Sit.wipe (s : Sit K F H σ S env) : ∀ vs : List Nat, ∃ S', Sit K F H (L2.wipe σ vs) S' (wipE env vs) ∧ ∀ a, tot S' a → tot S a
  | [] => ⟨S, s, fun _ z => z⟩
  | v :: vs => by
    obtain ⟨S', s', h'⟩ := s.wipe vs
    refine ⟨_, s'.drop v (o := none), fun a z => h' a ?_⟩
    obtain ⟨j, z⟩ := z
    by_cases e : j = v
    · simp only [e, if_true] at z
    · simp only [e, if_false] at z
      exact ⟨j, z⟩
theorem Sit.sub_tot {S' : Foot} (s : Sit K F H σ S env) (h : ∀ a, tot S' a → tot S a) : Prog F H (tot S) F H (tot S') :=
  ⟨Same.refl F, fun _ _ e _ => e, fun _ _ e => .inl e, fun a z => .inl (h a z)⟩
end

/-! ### targets -/
def GC (X : Cx) (tg : Expr) (d : PyData) (env : En) (js : List Nat) (env' : En) : Prop := ∀ (F H : Hp) (σ : St) (S : Foot) (v : V), Sit X.K F H σ S env → Dp X.K F v d → ∀ Q : St → Hp → Prop,
  (∀ σ' S', Sit X.K F H σ' S' env' → (∀ a, tot S' a → tot S a) → (∀ i, i ∉ js → σ'[i]? = σ[i]?) ∧ σ'.length = σ.length → Q σ' H) → wG X tg v σ H Q
def wGs (X : Cx) (ts : List Expr) : TGs := fun vs σ H Q => ∃ t, PGs X ts t ∧ t vs σ H Q
def GCs (X : Cx) (ts : List Expr) (ds : List PyData) (env : En) (js : List Nat) (env' : En) : Prop := ∀ (F H : Hp) (σ : St) (S : Foot) (vs : List V), Sit X.K F H σ S env → DpAll X.K F vs ds → ∀ Q : St → Hp → Prop,
  (∀ σ' S', Sit X.K F H σ' S' env' → (∀ a, tot S' a → tot S a) → (∀ i, i ∉ js → σ'[i]? = σ[i]?) ∧ σ'.length = σ.length → Q σ' H) → wGs X ts vs σ H Q
section
variable {X : Cx} {env env' env2 : En} {d : PyData} {ds : List PyData} {pos : Pos} {e : Expr} {es : List Expr} {js js' : List Nat}
theorem pwG : PG X e (wG X e) := ⟨fun pins s σ H v u Q I r ⟨t, h, q⟩ => h.run pins s σ H v u Q I r q⟩
theorem pwGs : PGs X es (wGs X es) := ⟨fun pins s σ H vs us Q I r ⟨t, h, q⟩ => h.run pins s σ H vs us Q I r q⟩
theorem gc_name (i : Nat) (hN : X.N.Nodup) {x : Str} (hi : X.N[i]? = some x := by rfl) (hx : Loc X.env.scope x := by first | exact Or.inl rfl | exact Or.inr rfl) (hf : X.fn x = true ∨ X.env.scope.names.lookup x = some .local := by first | exact .inl rfl | exact .inr rfl | assumption) :
    GC X (.Name x pos) d env [i] (env.set i (some (.dat d))) := fun F H σ S v s hv Q k => by
  refine ⟨_, pg_name hN hi hx hf, ?_⟩
  obtain ⟨S', s', h'⟩ := s.put (i := i) (c := .dat d) (Sv := fun _ => False) ⟨hv, fun _ z => z⟩ (fun _ _ _ z => z)
  exact k _ S' s' (fun a z => (h' a z).elim id False.elim) ⟨fun j hj => List.getElem?_set_ne (fun e => hj (by simp [e])), List.length_set⟩
theorem gcs_nil : GCs X [] [] env [] env := fun F H σ S vs s hv Q k => by
  cases hv
  exact ⟨_, pgs_nil, rfl, k σ S s (fun _ z => z) ⟨fun _ _ => rfl, rfl⟩⟩
theorem gcs_cons (h : GC X e d env js env') (hs : GCs X es ds env' js' env2) (ha : (assignEach (e :: es) X.env).map (·.2) = assign e X.env :: (assignEach es X.env).map (·.2) := by rfl) : GCs X (e :: es) (d :: ds) env (js ++ js') env2 := fun F H σ S vs s hv Q k => by
  cases hv with
  | cons h1 h2 =>
    refine ⟨_, pgs_cons pwG pwGs ha, _, _, rfl, h F H σ S _ s h1 _ fun σ1 S1 s1 t1 o1 => ?_⟩
    refine hs F H σ1 S1 _ s1 h2 _ fun σ2 S2 s2 t2 o2 => k σ2 S2 s2 (fun a z => t1 a (t2 a z)) ⟨fun i hi => ?_, o2.2.trans o1.2⟩
    rw [o2.1 i (fun z => hi (List.mem_append_right _ z)), o1.1 i (fun z => hi (List.mem_append_left _ z))]
theorem gc_tup {k' : Nat} (hc : X.calm = true) (h : GCs X es ds env js env') (hn : (assignEach es X.env).length = ds.length := by rfl) (hst : (assignEach es X.env).findIdx? (·.1) = none := by rfl) : GC X (.Tuple es k' pos) (.tuple ds) env js env' := fun F H σ S v s hv Q k => by
  cases hv with
  | tup h1 h2 => exact ⟨_, pg_tup hc pwGs hn hst, _, _, rfl, same_sqT s.sub h1, by rw [dps_length h2], h F H σ S _ s h2 Q k⟩
end

/-! ### comprehensions -/
section
variable {X : Cx} {env : En} {tg iter elt : Expr} {ifs : List Expr} {scope : Scope} {own : List (Str × Nat)} {pos : Pos}
abbrev Blk (X : Cx) (scope : Scope) (P : Cx → Prop) : Prop := ∀ (s : Shared) (H : Hp) (C : Addr) (cl : List (Str × Addr)) (fp : List Addr), P (X.blk s H scope (compEnvC scope cl C X.env) fp)
def wTs (X : Cx) (ifs : List Expr) : TT := fun σ H Q => ∃ t, PTs X ifs t ∧ t σ H Q
theorem pwTs : PTs X ifs (wTs X ifs) := ⟨fun pins s σ H Q I ⟨t, h, q⟩ => h.run pins s σ H Q I q⟩
def bG (X : Cx) (scope : Scope) (tg : Expr) : TG := fun v σ H Q => Blk X scope fun X' => wG X' tg v σ H Q
def bT (X : Cx) (scope : Scope) (ifs : List Expr) : TT := fun σ H Q => Blk X scope fun X' => wTs X' ifs σ H Q
def bE (X : Cx) (scope : Scope) (e : Expr) : TE := fun σ H Q => Blk X scope fun X' => wE X' e σ H Q
theorem pbG : Blk X scope fun X' => PG X' tg (bG X scope tg) := fun s H C cl fp => ⟨fun pins s' σ H' v u Q I r q => pwG.run pins s' σ H' v u Q I r (q s H C cl fp)⟩
theorem pbT : Blk X scope fun X' => PTs X' ifs (bT X scope ifs) := fun s H C cl fp => ⟨fun pins s' σ H' Q I q => pwTs.run pins s' σ H' Q I (q s H C cl fp)⟩
theorem pbE : Blk X scope fun X' => PE X' elt (bE X scope elt) := fun s H C cl fp => ⟨fun pins s' σ H' Q I q => pwE.run pins s' σ H' Q I (q s H C cl fp)⟩
/-- the clause's tests: none, or one -/
def TsC (X : Cx) (ifs : List Expr) (env : En) (b : Bool) : Prop := ∀ (F H : Hp) (σ : St) (S : Foot), Sit X.K F H σ S env → ∀ Q : Bool → Hp → Prop, (∀ F' H', Grow F H F' H' → Q b H') → wTs X ifs σ H Q
theorem ts_nil : TsC X [] env true := fun F H σ S s Q k => ⟨_, pts_nil, k F H (Grow.refl s.sub)⟩
theorem ts_one {c : Expr} {b : Bool} (h : TC X c env b) : TsC X [c] env b := fun F H σ S s Q k => ⟨_, pts_one pwT, h F H σ S s Q k⟩
theorem wipe_get (j : Nat) : ∀ (τ : St) (ws : List Nat), (L2.wipe τ ws)[j]? = if j ∈ ws then (if j < τ.length then some none else none) else τ[j]?
  | τ, [] => by simp [L2.wipe]
  | τ, w :: ws => by
    show ((L2.wipe τ ws).set w none)[j]? = _
    by_cases e : w = j
    · subst e
      rw [List.getElem?_set, if_pos rfl, L2.wipe_length, if_pos List.mem_cons_self]
    · rw [List.getElem?_set_ne e, wipe_get j τ ws]
      by_cases hj : j ∈ ws
      · rw [if_pos hj, if_pos (List.mem_cons_of_mem _ hj)]
      · rw [if_neg hj, if_neg (fun z => (List.mem_cons.mp z).elim (fun q => e q.symm) hj)]
theorem wipe_eq {σ σ' : St} {vs : List Nat} (h : ∀ i, i ∉ vs → σ'[i]? = σ[i]?) (hl : σ'.length = σ.length) : L2.wipe σ' vs = L2.wipe σ vs := by
  apply List.ext_getElem?
  intro j
  rw [wipe_get, wipe_get, hl]
  by_cases hj : j ∈ vs
  · rw [if_pos hj, if_pos hj]
  · rw [if_neg hj, if_neg hj]
    exact h j hj
theorem wipe_twice {σ : St} {vs : List Nat} : L2.wipe (L2.wipe σ vs) vs = L2.wipe σ vs := by
  refine wipe_eq (fun i hi => ?_) (L2.wipe_length σ vs)
  rw [wipe_get, if_neg hi]
theorem wipe_of {σ σ2 : St} {vs js : List Nat} (h : (∀ i, i ∉ js → σ2[i]? = (L2.wipe σ vs)[i]?) ∧ σ2.length = (L2.wipe σ vs).length) (hj : ∀ j ∈ js, j ∈ vs) : L2.wipe σ2 vs = L2.wipe σ vs :=
  (wipe_eq (fun i hi => h.1 i fun z => hi (hj i z)) h.2).trans wipe_twice

/-- [elt for tg in iter if ..], all pure: the items that pass, each as g tells -/
theorem lc_core {α : Type} (xs : List α) (f : α → PyData) (p : α → Bool) (g : α → PyData) (js : List Nat) (bnd : α → En) (hi : VI X tg iter env (xs.map f)) (hj : ∀ j ∈ js, j ∈ own.map (·.2))
    (hb : ∀ x ∈ xs, Blk X scope fun X' => GC X' tg (f x) (wipE env (own.map (·.2))) js (bnd x)) (ht : ∀ x ∈ xs, Blk X scope fun X' => TsC X' ifs (bnd x) (p x)) (he : ∀ x ∈ xs, p x = true → Blk X scope fun X' => VC X' elt (bnd x) (.dat (g x))) (hz : xs.length < 16777216)
    {F H : Hp} {σ : St} {S : Foot} (s : Sit X.K F H σ S env) {Q : VK} (k : ∀ v F' H' Sv, Grow F H F' H' → Hold X.K F' H' v Sv (.own v (olst X.K ((xs.filter p).map g))) → (∀ a, Sv a → H a = none) → Q v H') :
    tLc (wI X tg iter) (bG X scope tg) (bT X scope ifs) (bE X scope elt) (own.map (·.2)) σ H Q := by
  refine hi F H σ S s _ fun J F1 H1 g1 y D hD => ?_
  have s1 := s.grow g1
  obtain ⟨Sw, sw, tw⟩ := s1.wipe (own.map (·.2))
  have hl : (xs.map f).length = xs.length := List.length_map ..
  let Pv : Nat → Hp → Prop := fun i H' => ∃ F' acc, H' D = some (.lst acc) ∧ DpAll X.K F' acc (((xs.take i).filter p).map g) ∧ F' D = none ∧ Grow F1 H1 F' H'
  have hP0 : Pv 0 (upd H1 D (.lst [])) := ⟨F1, [], upd_same, .nil, g1.sub.free hD, Grow.made g1.sub hD⟩
  refine ⟨fun i m H' => m = xs.length - i ∧ i ≤ xs.length ∧ Pv i H', ⟨xs.length, rfl, Nat.zero_le _, hP0⟩, ?_⟩
  rintro i m H' ⟨rfl, hi', F', acc, hacc, hds, nF, g2⟩
  by_cases hlt : i < xs.length
  · refine .inr ⟨y.go i F' H' (by omega) g2.f g2.sub, Pv (i + 1), fun H'' p' => ⟨xs.length - (i + 1), by omega, rfl, hlt, p'⟩, fun x H'' hy => ?_⟩
    obtain ⟨d, F2, hd, g3, hx⟩ := y.yld i F' H' x H'' (by omega) g2.f g2.sub hy
    have hxi : xs[i]? = some xs[i] := List.getElem?_eq_getElem hlt
    have hmem : xs[i] ∈ xs := List.getElem_mem hlt
    have htk : xs.take (i + 1) = xs.take i ++ [xs[i]] := by rw [List.take_succ, hxi] <;> rfl
    have hd' : d = f xs[i] := by
      rw [List.getElem?_map, hxi] at hd
      exact (Option.some.inj hd).symm
    subst hd'
    have s2 : Sit X.K F2 H'' (L2.wipe σ (own.map (·.2))) Sw (wipE env (own.map (·.2))) := sw.grow (g2.trans g3)
    intro sS sH sC scl sfp
    refine hb _ hmem sS sH sC scl sfp F2 H'' _ Sw x s2 hx _ fun σ2 S2 s3 t2 o2 => ⟨wipe_of o2 hj, ?_⟩
    intro sS sH sC scl sfp
    refine ht _ hmem sS sH sC scl sfp F2 H'' σ2 S2 s3 _ fun F3 H3 g4 => ?_
    have hD3 : H3 D = some (.lst acc) := g4.h _ _ (g3.h _ _ hacc)
    have nD : ∀ {Fa Ha Fb Hb : Hp}, Fa D = none → Ha D = some (.lst acc) → Grow Fa Ha Fb Hb → Fb D = none := fun {Fa Ha Fb Hb} h1 h2 g => by
      cases q : Fb D with
      | none => rfl
      | some o =>
        rcases g.new D o q with z | z
        · rw [h1] at z; cases z
        · rw [h2] at z; cases z
    have nF2 : F2 D = none := nD nF hacc g3
    have nF3 : F3 D = none := nD nF2 (g3.h _ _ hacc) g4
    cases hp : p xs[i] with
    | false =>
      refine ⟨F3, acc, hD3, ?_, nF3, (g2.trans g3).trans g4⟩
      rw [htk, List.filter_append, List.map_append]
      have e : ([xs[i]].filter p).map g = [] := by rw [List.filter_cons, hp] <;> rfl
      rw [e, List.append_nil]
      exact dps_mono (g3.f.trans g4.f) hds
    | true =>
      intro sS sH sC scl sfp
      refine he _ hmem hp sS sH sC scl sfp F3 H3 σ2 S2 (s3.grow g4) _ fun v F4 H4 Sv g5 hv fr => ?_
      have hD4 : H4 D = some (.lst acc) := g5.h _ _ hD3
      have nF4 : F4 D = none := nD nF3 hD3 g5
      have hac : acc.length ≤ i := by
        rw [dps_length hds, List.length_map]
        have := List.length_filter_le p (xs.take i)
        rw [List.length_take] at this
        omega
      refine ⟨acc, hD4, by rw [sizeLine_eq]; omega, F4, acc ++ [v], upd_same, ?_, nF4, ?_⟩
      · rw [htk, List.filter_append, List.map_append]
        have e : ([xs[i]].filter p).map g = [g xs[i]] := by rw [List.filter_cons, hp] <;> rfl
        rw [e]
        exact dps_append (dps_mono ((g3.f.trans g4.f).trans g5.f) hds) (.cons hv.1 .nil)
      · have g6 := ((g2.trans g3).trans g4).trans g5
        exact ⟨g6.f, fun b o e => by rw [upd_ne (ne_of_none e hD)]; exact g6.h b o e, fun b o e => by rw [upd_ne (ne_of_none e nF4)]; exact g6.sub b o e, g6.new⟩
  · have e : i = xs.length := by omega
    subst e
    refine .inl ⟨by have z := y.stop F' H' g2.f g2.sub; rw [hl] at z; exact z, ?_⟩
    rw [List.take_length] at hds
    exact k (.ref D) F' H' (fun b => b = D) (g1.trans g2) ⟨rfl, ⟨D, acc, rfl, hacc, hds, fun _ => Iff.rfl⟩, fun b z => by subst z; exact ⟨nF, _, hacc⟩⟩ fun b z => by subst z; exact g1.h.free hD
theorem vo_lc {α : Type} (xs : List α) (f : α → PyData) (p : α → Bool) (g : α → PyData) (js : List Nat) (bnd : α → En) (hc : X.calm = true) (hN : X.N.Nodup) (ok : BlkOk X.N X.env.scope scope own) (hi : VI X tg iter env (xs.map f)) (hj : ∀ j ∈ js, j ∈ own.map (·.2))
    (hb : ∀ x ∈ xs, Blk X scope fun X' => GC X' tg (f x) (wipE env (own.map (·.2))) js (bnd x)) (ht : ∀ x ∈ xs, Blk X scope fun X' => TsC X' ifs (bnd x) (p x)) (he : ∀ x ∈ xs, p x = true → Blk X scope fun X' => VC X' elt (bnd x) (.dat (g x))) (hz : xs.length < 16777216)
    (hs : ∀ x, foldedSetIterable iter X.env x = pure x := by intro _; rfl) : VO X (.ListComp elt [⟨tg, iter, ifs, 0⟩] scope pos) env (olst X.K ((xs.filter p).map g)) := fun F H σ S s Q k =>
  ⟨_, pe_lc (own := own) hc hN (⟨fun pins s σ H R I ⟨t, h, q⟩ => h.run pins s σ H R I q⟩ : PI X tg iter (wI X tg iter)) ok pbG pbT pbE hs, lc_core xs f p g js bnd hi hj hb ht he hz s k⟩
end
end G


set_option maxRecDepth 100000
set_option maxHeartbeats 4000000
namespace G
open PySem PySem.Spec PyProof.Rows L2

/-! ### statements -/
section
variable {X : Cx} {W : WX} {D : DE} {env : En} {st : Stmt} {rest body els : List Stmt} {e c tg iter : Expr} {pos p' : Pos}
theorem wb_cons (h : WS X W st { D with nx := fun env' => WB X W rest D env' } env) : WB X W (st :: rest) D env := fun F H σ S s E m =>
  ⟨_, pss_cons pwS pwB, h F H σ S s _ ⟨fun F' H' σ' S' env' p s' q => q F' H' σ' S' s' E (m.from p), m.rt, m.bk, m.ct, m.ex⟩⟩
theorem wb_nil (h : D.nx env) : WB X W [] D env := fun F H σ S s E m => ⟨_, pss_nil, m.nx F H σ S env Prog.refl s h⟩
/-- an effectful value's Prog, its footprint told -/
theorem VO.eff {R : Rs} {Q : Ct → En → Prop} {RX : Xc → En → Prop} (h : VO X e env R) (q : ∀ v, Q (.own v R) env) : EC X W e Q RX env := fun F H σ S s QV k _ =>
  h F H σ S s _ fun v F' H' Sv g hv fr => k v F' H' S Sv (.own v R) env
    ⟨g.f, fun a o e _ => g.h a o e, fun a o e => (g.new a o e).elim .inl fun z => .inr (.inl z), fun a z => z.elim .inl fun z => .inr (fr a z)⟩ (s.grow g) hv
    (fun i a z y => by obtain ⟨_, o, ho⟩ := s.no z; rw [fr a y] at ho; cases ho) (q v)
theorem ws_set (i : Nat) (h : EC X W e (fun c env' => D.nx (env'.set i (some c))) D.ex env) (hN : X.N.Nodup) {x : Str} (hi : X.N[i]? = some x := by rfl) (hx : Loc X.env.scope x := by first | exact Or.inl rfl | exact Or.inr rfl)
    (hs : swapsWith e (some (.Name x p')) pos.line X.env = pure false := by rfl) (hf : X.fn x = true ∨ X.env.scope.names.lookup x = some .local := by first | exact .inl rfl | exact .inr rfl | assumption) : WS X W (.Assign [.Name x p'] e pos) D env := fun F H σ S s E m =>
  ⟨_, ps_set hN hi hx pwE hs hf, h F H σ S s _ (fun v F' H' S' Sv c env' p s' hv dj q => by
    obtain ⟨S2, s2, t2⟩ := s'.put (i := i) hv (fun j a z => dj j a z)
    exact m.nx F' H' _ S2 _ (p.trans ⟨Same.refl _, fun _ _ e _ => e, fun _ _ e => .inl e, fun a z => .inl (t2 a z)⟩) s2 q) fun cls od F' H' S' x env' p s' xh q => m.ex cls od F' H' σ S' x env' p s' xh q⟩
theorem ws_setLc {elt : Expr} {ifs : List Expr} {scope : Scope} {own : List (Str × Nat)} {lpos : Pos} {α : Type} (i : Nat) (xs : List α) (f : α → PyData) (p : α → Bool) (g : α → PyData) (js : List Nat) (bnd : α → En) (hc : X.calm = true) (hN : X.N.Nodup) {x : Str} (ok : BlkOk X.N X.env.scope scope own)
    (hi : VI X tg iter env (xs.map f)) (hj : ∀ j ∈ js, j ∈ own.map (·.2))
    (hb : ∀ x ∈ xs, Blk X scope fun X' => GC X' tg (f x) (wipE env (own.map (·.2))) js (bnd x)) (ht : ∀ x ∈ xs, Blk X scope fun X' => TsC X' ifs (bnd x) (p x)) (he : ∀ x ∈ xs, p x = true → Blk X scope fun X' => VC X' elt (bnd x) (.dat (g x))) (hz : xs.length < 16777216)
    (h : ∀ v, D.nx (env.set i (some (.own v (olst X.K ((xs.filter p).map g))))))
    (hy : X.N[i]? = some x := by rfl) (hyl : X.env.scope.names.lookup x = some .local := by rfl)
    (hsw : swapsWith (.ListComp elt [⟨tg, iter, ifs, 0⟩] scope lpos) (some (.Name x p')) pos.line X.env = pure true := by exact sw_true rfl rfl rfl (by decide +kernel))
    (hs : ∀ x, foldedSetIterable iter X.env x = pure x := by intro _; rfl) : WS X W (.Assign [.Name x p'] (.ListComp elt [⟨tg, iter, ifs, 0⟩] scope lpos) pos) D env := fun F H σ S s E m =>
  ⟨_, ps_setLc (own := own) hc hN hy hyl hsw (⟨fun pins s σ H R I ⟨t, h, q⟩ => h.run pins s σ H R I q⟩ : PI X tg iter (wI X tg iter)) ok pbG pbT pbE hs, lc_core xs f p g js bnd hi hj hb ht he hz s fun v F' H' Sv gr hv fr => by
    obtain ⟨S2, s2, t2⟩ := (s.grow gr).put (i := i) hv (fun j a z y => by obtain ⟨_, o, ho⟩ := s.no z; rw [fr a y] at ho; cases ho)
    exact m.nx F' H' _ S2 _ ⟨gr.f, fun a o e _ => gr.h a o e, fun a o e => (gr.new a o e).elim .inl fun z => .inr (.inl z), fun a z => (t2 a z).elim .inl fun y => .inr (fr a y)⟩ s2 (h v)⟩
theorem ws_ret (h : EC X W e D.rt D.ex env) : WS X W (.Return (some e) pos) D env := fun F H σ S s E m =>
  ⟨_, ps_ret pwE, h F H σ S s _ (fun v F' H' S' Sv c env' p s' hv dj q => m.rt v F' H' σ S' Sv c env' p s' hv dj q) fun cls od F' H' S' x env' p s' xh q => m.ex cls od F' H' σ S' x env' p s' xh q⟩
theorem ws_retN (h : D.rt (.dat .none) env) : WS X W (.Return none pos) D env := fun F H σ S s E m =>
  ⟨_, ps_retN, m.rt .non F H σ S (fun _ => False) (.dat .none) env ⟨Same.refl _, fun _ _ e _ => e, fun _ _ e => .inl e, fun a z => .inl (z.elim id False.elim)⟩ s ⟨.non, fun _ z => z⟩ (fun _ _ _ z => z) h⟩
/-- what a slot holds of one's own is handed back -/
theorem ec_name_own {v : V} {R : Rs} {Q : Ct → En → Prop} {RX : Xc → En → Prop} (i : Nat) (h : env[i]? = some (some (.own v R))) (q : Q (.own v R) (env.set i none)) {x : Str} (hN : X.N[i]? = some x := by rfl)
    (hv : Vis X.env.scope x := by first | exact Or.inl rfl | exact Or.inr (Or.inl rfl) | exact Or.inr (Or.inr rfl)) (hd : (x == ("__debug__" : Str)) = false := by decide) (hcd : (x == ("__classdict__" : Str)) = false := by decide) : EC X W (.Name x pos) Q RX env := fun F H σ S s QV k _ => by
  obtain ⟨v', e1, h1⟩ := s.slot i _ h
  have hi : i < env.length := (List.getElem?_eq_some_iff.mp h).1
  -- the slot itself stays as it is: only its content is forgotten
  have s' : Sit X.K F H σ (fun j => if j = i then fun _ => False else S j) (env.set i none) := by
    have d := s.drop i (o := some v')
    have e : σ.set i (some v') = σ := by
      apply List.ext_getElem?
      intro j
      by_cases hj : i = j
      · subst hj
        rw [List.getElem?_set, if_pos rfl, e1]
        simp [s.len, hi]
      · rw [List.getElem?_set_ne hj]
    rw [e] at d
    exact d
  refine ⟨_, pe_var hN hv hd hcd, v', e1, k v' F H _ (S i) _ _ ⟨Same.refl F, fun _ _ e _ => e, fun _ _ e => .inl e, fun a z => .inl ?_⟩ s' h1 (fun j a z y => ?_) q⟩
  · rcases z with ⟨j, z⟩ | z
    · by_cases e : j = i
      · simp only [e, if_true] at z
      · simp only [e, if_false] at z
        exact ⟨j, z⟩
    · exact ⟨i, z⟩
  · by_cases e : j = i
    · simp only [e, if_true] at z
    · simp only [e, if_false] at z
      exact e (s.dis j i a z y)
theorem ws_if {a b : List Stmt} (h : TEC X W c (fun b' env' => if b' = true then WB X W a D env' else WB X W b D env') D.ex env) : WS X W (.If c a b pos) D env := fun F H σ S s E m =>
  ⟨_, ps_if pwT pwB pwB, h F H σ S s _ (fun b' F' H' S' env' p s' q => by
    cases b' with
    | true => exact q F' H' σ S' s' E (m.from p)
    | false => exact q F' H' σ S' s' E (m.from p)) fun cls od F' H' S' x env' p s' xh q => m.ex cls od F' H' σ S' x env' p s' xh q⟩
/-- a pure test, both ways -/
theorem ws_ifP {a b : List Stmt} {b' : Bool} (h : TC X c env b') (h1 : b' = true → WB X W a D env) (h2 : b' = false → WB X W b D env) : WS X W (.If c a b pos) D env :=
  ws_if (TEC.pure h (by cases b' with | true => exact h1 rfl | false => exact h2 rfl))
theorem ws_expr (h : EC X W e (fun _ env' => D.nx env') D.ex env) (hs : swapsWith e none pos.line X.env = pure false := by rfl) : WS X W (.Expr e pos) D env := fun F H σ S s E m =>
  ⟨_, ps_expr pwE hs, h F H σ S s _ (fun v F' H' S' Sv c env' p s' hv dj q => m.nx F' H' σ S' env' (p.weak (fun _ z => z) fun a z => .inl (.inl z)) s' q) fun cls od F' H' S' x env' p s' xh q => m.ex cls od F' H' σ S' x env' p s' xh q⟩
theorem ws_pass (h : D.nx env) : WS X W (.Pass pos) D env := fun F H σ S s E m => ⟨_, ps_pass, m.nx F H σ S env Prog.refl s h⟩
theorem ws_break (h : D.bk env) : WS X W (.Break pos) D env := fun F H σ S s E m => ⟨_, ps_break, m.bk F H σ S env Prog.refl s h⟩
theorem ws_cont (h : D.ct env) : WS X W (.Continue pos) D env := fun F H σ S s E m => ⟨_, ps_continue, m.ct F H σ S env Prog.refl s h⟩
theorem ws_doc {x : Str} {j : Nat} (h : D.nx env) : WS X W (.Expr (.Constant (.str x) j p') pos) D env := fun F H σ S s E m => ⟨_, ps_doc, m.nx F H σ S env Prog.refl s h⟩
/-- tg = e, e data, tg any target -/
theorem ws_asg {d : PyData} {js : List Nat} {env' : En} (h : VC X e env (.dat d)) (hg : GC X tg d env js env') (k : D.nx env') (hs : swapsWithSole [tg] e pos.line X.env = pure false := by rfl) (hw : swappedStores [tg] e X.env = pure none := by rfl) (ha : (assignEach [tg] X.env).map (·.2) = [assign tg X.env] := by rfl) : WS X W (.Assign [tg] e pos) D env := fun F H σ S s E m =>
  ⟨_, ps_asg pwE pwG hs hw ha, h F H σ S s _ fun v F' H' Sv g hv fr => hg F' H' σ S v (s.grow g) hv.1 _ fun σ' S' s' t' o' => m.nx F' H' σ' S' env' (g.prog.trans ((s.grow g).sub_tot t')) s' k⟩
theorem ws_par {i j : Nat} {x y : Str} {a b : Expr} {d1 d2 : PyData} {px py pt : Pos} {kt k2 pt2} (hc : X.calm = true) (hN : X.N.Nodup) (h1 : VC X a env (.dat d1)) (h2 : VC X b env (.dat d2)) (k : D.nx ((env.set i (some (.dat d1))).set j (some (.dat d2))))
    (hps : ∀ ta, PA X [a, b] ta → PS X (.Assign [.Tuple [.Name x px, .Name y py] kt pt] (.Tuple [a, b] k2 pt2) pos) (tPar i j ta) := by exact fun _ h => ps_par (by rfl) (by assumption) rfl rfl (by decide) rfl rfl h (by rfl)) (hs : starEach [a, b] X.env = (false, eval a X.env) :: starEach [b] X.env := by rfl) (hs2 : starEach [b] X.env = (false, eval b X.env) :: starEach [] X.env := by rfl) :
    WS X W (.Assign [.Tuple [.Name x px, .Name y py] kt pt] (.Tuple [a, b] k2 pt2) pos) D env := fun F H σ S s E m =>
  ⟨_, hps _ (pa_cons pwE (pa_cons pwE pa_nil hs2) hs), two h1 h2 s fun v1 v2 F1 H1 g q1 q2 => by
    have s1 := s.grow g
    obtain ⟨S2, s2, t2⟩ := s1.put (i := i) (c := .dat d1) (Sv := fun _ => False) ⟨q1, fun _ z => z⟩ (fun _ _ _ z => z)
    obtain ⟨S3, s3, t3⟩ := s2.put (i := j) (c := .dat d2) (Sv := fun _ => False) ⟨q2, fun _ z => z⟩ (fun _ _ _ z => z)
    refine ⟨v1, v2, rfl, m.nx F1 H1 _ S3 _ (g.prog.trans (s1.sub_tot fun a z => ?_)) s3 k⟩
    exact (t3 a z).elim (fun z => (t2 a z).elim id False.elim) False.elim⟩
/-- over data -/
theorem ws_for {items : List PyData} (hp : PassesOwn (model X.prog X.w) X.A X.env X.xe) (hc : X.calm = true) (hi : VI X tg iter env items) (P : Nat → En → Prop) (h0 : P 0 env)
    (hs : ∀ i d, items[i]? = some d → ∀ env1, P i env1 → ∃ js env2, GC X tg d env1 js env2 ∧ WB X W body { D with nx := P (i + 1), ct := P (i + 1), bk := D.nx } env2) (hd : ∀ env1, P items.length env1 → D.nx env1)
    (hf : ∀ x, foldedSetIterable iter X.env x = pure x := by intro _; rfl) : WS X W (.For tg iter body [] pos) D env := fun F H σ S s E m =>
  ⟨_, ps_for hp hc (⟨fun pins s σ H R I ⟨t, h, q⟩ => h.run pins s σ H R I q⟩ : PI X tg iter (wI X tg iter)) pwG pwB hf, hi F H σ S s _ fun J F1 H1 g1 y => by
    let Pv : Nat → St → Hp → Prop := fun i σ' H' => ∃ F' S' env', Prog F1 H1 (tot S) F' H' (tot S') ∧ Sit X.K F' H' σ' S' env' ∧ P i env'
    refine ⟨fun i n σ' H' => n = items.length - i ∧ i ≤ items.length ∧ Pv i σ' H', ⟨items.length, rfl, Nat.zero_le _, F1, S, env, Prog.refl, s.grow g1, h0⟩, ?_⟩
    rintro i n σ' H' ⟨rfl, hi', F', S', env', p', s', q'⟩
    by_cases hlt : i < items.length
    · refine .inr ⟨y.go i F' H' hlt p'.f s'.sub, Pv (i + 1), fun σ2 H2 z => ⟨items.length - (i + 1), by omega, rfl, hlt, z⟩, fun x H2 hy => ?_⟩
      obtain ⟨d, F2, hd', g2, hx⟩ := y.yld i F' H' x H2 hlt p'.f s'.sub hy
      obtain ⟨js, env2, hg, hb⟩ := hs i d hd' env' q'
      refine hg F2 H2 σ' S' x (s'.grow g2) hx _ fun σ3 S3 s3 t3 o3 => ?_
      have p3 : Prog F1 H1 (tot S) F2 H2 (tot S3) := (p'.trans g2.prog).trans ((s'.grow g2).sub_tot t3)
      have pp : Prog F H (tot S) F2 H2 (tot S3) := g1.prog.trans p3
      have m3 := m.from pp
      exact hb F2 H2 σ3 S3 s3 _ ⟨fun F4 H4 σ4 S4 env4 p4 s4 q4 => ⟨F4, S4, env4, p3.trans p4, s4, q4⟩, m3.rt, m3.nx, fun F4 H4 σ4 S4 env4 p4 s4 q4 => ⟨F4, S4, env4, p3.trans p4, s4, q4⟩, m3.ex⟩
    · have e : i = items.length := by omega
      subst e
      exact .inl ⟨y.stop F' H' p'.f s'.sub, m.nx F' H' σ' S' env' (g1.prog.trans p') s' (hd env' q')⟩⟩
theorem ws_while (hp : PassesOwn (model X.prog X.w) X.A X.env X.xe) (P : Nat → En → Prop) (m0 : Nat) (h0 : P m0 env)
    (hs : ∀ n env1, P n env1 → ∃ b, TC X c env1 b ∧ (b = true → WB X W body { D with nx := fun e => ∃ n', n' < n ∧ P n' e, ct := fun e => ∃ n', n' < n ∧ P n' e, bk := D.nx } env1) ∧ (b = false → D.nx env1)) : WS X W (.While c body [] pos) D env := fun F H σ S s E m =>
  ⟨_, ps_while hp pwT pwB, by
    refine ⟨fun n σ' H' => ∃ F' S' env', Prog F H (tot S) F' H' (tot S') ∧ Sit X.K F' H' σ' S' env' ∧ P n env', ⟨m0, F, S, env, Prog.refl, s, h0⟩, ?_⟩
    rintro n σ' H' ⟨F', S', env', p', s', q'⟩
    obtain ⟨b, ht, h1, h2⟩ := hs n env' q'
    refine ht F' H' σ' S' s' _ fun F2 H2 g2 => ?_
    have p2 : Prog F H (tot S) F2 H2 (tot S') := p'.trans g2.prog
    have m2 := m.from p2
    cases b with
    | true =>
      refine ⟨fun σ3 H3 => ∃ n', n' < n ∧ ∃ F3 S3 env3, Prog F H (tot S) F3 H3 (tot S3) ∧ Sit X.K F3 H3 σ3 S3 env3 ∧ P n' env3, fun σ3 H3 z => z, ?_⟩
      have go : ∀ F4 H4 σ4 S4 env4, Prog F2 H2 (tot S') F4 H4 (tot S4) → Sit X.K F4 H4 σ4 S4 env4 → (∃ n', n' < n ∧ P n' env4) → ∃ n', n' < n ∧ ∃ F3 S3 env3, Prog F H (tot S) F3 H4 (tot S3) ∧ Sit X.K F3 H4 σ4 S3 env3 ∧ P n' env3 :=
        fun F4 H4 σ4 S4 env4 p4 s4 ⟨n', l, q4⟩ => ⟨n', l, F4, S4, env4, p2.trans p4, s4, q4⟩
      exact h1 rfl F2 H2 σ' S' (s'.grow g2) _ ⟨go, m2.rt, m2.nx, go, m2.ex⟩
    | false => exact m2.nx F2 H2 σ' S' env' Prog.refl (s'.grow g2) (h2 rfl)⟩
end

/-! ### defs -/
/-- the parameters' contents behind a body -/
inductive Back : List Ct → En → List Ct → Prop
  | nil {env} : Back [] env []
  | dat {d cs x env cs'} : Back cs env cs' → Back (.dat d :: cs) (x :: env) (.dat d :: cs')
  | pin {P cs x env cs'} : Back cs env cs' → Back (.pin P :: cs) (x :: env) (.pin P :: cs')
  | own {v R R' cs env cs'} : Back cs env cs' → Back (.own v R :: cs) (some (.own v R') :: env) (.own v R' :: cs')
abbrev Spec := List Ct → (Ct → List Ct → Prop) → (Xc → List Ct → Prop) → Prop
def spG (K : PySem.W.Frag) (spec : Spec) : Sp := fun vs H Q E => ∃ (F : Hp) (S : Foot) (cs : List Ct) (R : Ct → List Ct → Prop) (RX : Xc → List Ct → Prop), Sit K F H (vs.map some) S (cs.map some) ∧ spec cs R RX ∧
  (∀ v F' H' S' Sv c cs', Prog F H (tot S) F' H' (fun a => tot S' a ∨ Sv a) → Sit K F' H' (vs.map some) S' (cs'.map some) → Hold K F' H' v Sv c → (∀ i a, S' i a → ¬ Sv a) → R c cs' → Q v H') ∧
  (∀ cls od F' H' S' x cs', Prog F H (tot S) F' H' (tot S') → Sit K F' H' (vs.map some) S' (cs'.map some) → XHold K F' H' (tot S') cls od x → RX x cs' → E cls od H')
theorem Back.get {cs : List Ct} {env : En} {cs' : List Ct} (b : Back cs env cs') : cs'.length = cs.length ∧ ∀ (i : Nat) (c : Ct), cs[i]? = some c → match c with
    | Ct.dat d => cs'[i]? = some (Ct.dat d)
    | Ct.pin P => cs'[i]? = some (Ct.pin P)
    | Ct.own v _ => ∃ R', cs'[i]? = some (.own v R') ∧ env[i]? = some (some (.own v R')) := by
  induction b with
  | nil => exact ⟨rfl, fun i c h => by simp at h⟩
  | dat b ih =>
    refine ⟨by simp [ih.1], fun i c h => ?_⟩
    cases i with
    | zero => simp at h; subst h; rfl
    | succ i =>
      have := ih.2 i c (by simpa using h)
      cases c <;> simpa using this
  | pin b ih =>
    refine ⟨by simp [ih.1], fun i c h => ?_⟩
    cases i with
    | zero => simp at h; subst h; rfl
    | succ i =>
      have := ih.2 i c (by simpa using h)
      cases c <;> simpa using this
  | own b ih =>
    refine ⟨by simp [ih.1], fun i c h => ?_⟩
    cases i with
    | zero => simp at h; subst h; exact ⟨_, rfl, rfl⟩
    | succ i =>
      have := ih.2 i c (by simpa using h)
      cases c <;> simpa using this
/-- at a def's end: what the caller is told of the parameters -/
theorem sit_back {K : PySem.W.Frag} {F H F' H' : Hp} {vs : List V} {S S' : Foot} {S0 : Addr → Prop} {cs cs' : List Ct} {σ' : St} {env' : En} (s : Sit K F H (vs.map some) S (cs.map some)) (pf : Same F F') (s' : Sit K F' H' σ' S' env') (b : Back cs env' cs') :
    ∃ S2 : Foot, Sit K F' H' (vs.map some) S2 (cs'.map some) ∧ ∀ i a, S2 i a → S' i a := by
  obtain ⟨hl, hg⟩ := b.get
  have hvl : vs.length = cs.length := by have := s.len; simpa using this
  refine ⟨fun i a => S' i a ∧ ∃ v R, cs[i]? = some (.own v R), ⟨s'.sub, fun i c e => ?_, fun i j a h1 h2 => s'.dis i j a h1.1 h2.1, by simp [hvl, hl], fun i hi a z => ?_⟩, fun i a z => z.1⟩
  · rw [List.getElem?_map] at e
    cases e0 : cs'[i]? with
    | none => rw [e0] at e; cases e
    | some c0 =>
      rw [e0] at e
      have ec : c0 = c := Option.some.inj (Option.some.inj e)
      subst ec
      have hi : i < cs.length := by rw [← hl]; exact (List.getElem?_eq_some_iff.mp e0).1
      have ei : cs[i]? = some cs[i] := List.getElem?_eq_getElem hi
      have q := hg i _ ei
      obtain ⟨v, hv, hh⟩ := s.slot i cs[i] (by rw [List.getElem?_map, ei]; rfl)
      cases hc : cs[i] with
      | dat d =>
        rw [hc] at q hh
        simp only at q
        rw [e0] at q
        cases q
        exact ⟨v, hv, dp_mono pf hh.1, fun a z => by obtain ⟨_, v', R', z⟩ := z; rw [ei, hc] at z; cases z⟩
      | pin P =>
        rw [hc] at q hh
        simp only at q
        rw [e0] at q
        cases q
        exact ⟨v, hv, P.mono pf hh.1, fun a z => by obtain ⟨_, v', R', z⟩ := z; rw [ei, hc] at z; cases z⟩
      | own v0 R =>
        rw [hc] at q hh
        obtain ⟨R', q1, q2⟩ := q
        rw [e0] at q1
        cases q1
        obtain ⟨v', hv', hh'⟩ := s'.slot i _ q2
        obtain ⟨e1, h1, h2⟩ := hh'
        subst e1
        have e2 : v = v' := hh.1
        subst e2
        refine ⟨v, hv, rfl, ?_, fun a z => h2 a z.1⟩
        have hSS : ∀ a, S' i a ↔ (S' i a ∧ ∃ v R, cs[i]? = some (.own v R)) := fun a => ⟨fun z => ⟨z, v, R, by rw [ei, hc]⟩, fun z => z.1⟩
        have : (fun a => S' i a ∧ ∃ v R, cs[i]? = some (.own v R)) = S' i := funext fun a => propext (hSS a).symm
        show R'.At F' H' v (fun a => S' i a ∧ ∃ v R, cs[i]? = some (.own v R))
        rw [this]
        exact h1
  · obtain ⟨_, v, R, e⟩ := z
    have hi' : i < cs'.length := by rw [hl]; exact (List.getElem?_eq_some_iff.mp e).1
    exact hi cs'[i] (by rw [List.getElem?_map, List.getElem?_eq_getElem hi']; rfl)
/-- THE RULE for a def -/
theorem okG {P : Program} {w : World} {K : PySem.W.Frag} {mg : Str → Option Value} {base : Heap} {x qual : Str} {st : Stmt} {f : Addr} {fd : FuncData} {N ps : List Str} {k : Nat} {spec : Spec} (F : Fun K x qual st f fd) (Sc : FnScope N ps (defScope st))
    (len : ∀ cs R RX, spec cs R RX → cs.length = ps.length)
    (hbody : ∀ (cdv : Value) (A : Around) (outer : List Env) (s : Shared) (H : Hp) (E : XK) (X : Cx), X = cxOf (L2.CX P w) P w K mg base N qual (defScope st) f cdv A outer s H E → Room k X.A → Takes X (fun cls d _ H => E cls d H) → PassesOwn (model X.prog X.w) X.A X.env X.xe →
      ∀ (cs : List Ct) (R : Ct → List Ct → Prop) (RX : Xc → List Ct → Prop), spec cs R RX →
        WB X (fun cls d _ H => E cls d H) (defBody st) { nx := fun env' => ∃ cs', Back cs env' cs' ∧ R (.dat .none) cs', rt := fun c env' => ∃ cs', Back cs env' cs' ∧ R c cs', ex := fun x env' => ∃ cs', Back cs env' cs' ∧ RX x cs' } (cs.map some ++ List.replicate (N.length - ps.length) none)) :
    FnOk P w K mg base (L2.CX P w) (k + 1) f fd ps (spG K spec) := by
  have ln : ∀ vs H Q E, spG K spec vs H Q E → vs.length = ps.length := fun vs H Q E h => by
    obtain ⟨F0, S, cs, R, RX, s, sp, _⟩ := h
    have h1 := s.len
    simp only [List.length_map] at h1
    rw [h1]
    exact len cs R RX sp
  refine F.okX Sc ln fun cdv A outer s H vs Q E hr h => ?_
  have hl := ln _ _ _ _ h
  obtain ⟨F0, S, cs, R, RX, si, sp, kQ, kE⟩ := h
  refine ⟨_, pwB, hbody cdv A outer s H E _ rfl hr (takes_of rfl rfl rfl rfl) (passes_of rfl) cs R RX sp F0 H (L2.start N vs) S ?_ _ ?_⟩
  · have hcl : cs.length = ps.length := len cs R RX sp
    refine ⟨si.sub, fun i c e => ?_, si.dis, ?_, fun i hi a z => ?_⟩
    · by_cases hi : i < cs.length
      · rw [List.getElem?_append_left (by simpa using hi)] at e
        obtain ⟨v, h1, h2⟩ := si.slot i c e
        refine ⟨v, ?_, h2⟩
        unfold L2.start
        rw [List.getElem?_append_left (by simp; omega)]
        exact h1
      · rw [List.getElem?_append_right (by simpa using hi)] at e
        rw [List.getElem?_replicate] at e
        split at e <;> cases e
    · unfold L2.start
      simp [hl, hcl]
    · refine si.emp i (fun c e => ?_) a z
      have hi' : i < cs.length := by
        have := (List.getElem?_eq_some_iff.mp e).1
        simpa using this
      exact hi c (by rw [List.getElem?_append_left (by simpa using hi')]; exact e)
  · refine ⟨fun F' H' σ' S' env' p s' ⟨cs', b, q⟩ => ?_, fun v F' H' σ' S' Sv c env' p s' hv dj ⟨cs', b, q⟩ => ?_, fun _ _ _ _ _ _ _ z => z.elim, fun _ _ _ _ _ _ _ z => z.elim, fun cls od F' H' σ' S' x env' p s' xh ⟨cs', b, q⟩ => ?_⟩
    · obtain ⟨S2, s2, t2⟩ := sit_back (S0 := fun _ => False) si p.f s' b
      exact kQ .non F' H' S2 (fun _ => False) (.dat .none) cs' (p.weak (fun _ z => z) fun a z => .inl (z.elim (fun ⟨i, z⟩ => ⟨i, t2 i a z⟩) False.elim)) s2 ⟨.non, fun _ z => z⟩ (fun _ _ _ z => z) q
    · obtain ⟨S2, s2, t2⟩ := sit_back (S0 := fun _ => False) si p.f s' b
      exact kQ v F' H' S2 Sv c cs' (p.weak (fun _ z => z) fun a z => .inl (z.elim (fun ⟨i, z⟩ => .inl ⟨i, t2 i a z⟩) .inr)) s2 hv (fun i a z => dj i a (t2 i a z)) q
    · obtain ⟨S2, s2, t2⟩ := sit_back (S0 := fun _ => False) si p.f s' b
      refine kE cls od F' H' S2 x cs' (p.weak (fun _ z => z) fun a z => .inl (by obtain ⟨i, z⟩ := z; exact ⟨i, t2 i a z⟩)) s2 ?_ q
      obtain ⟨e1, e2⟩ := xh
      refine ⟨e1, ?_⟩
      cases hf : x.fld with
      | none => rw [hf] at e2; exact e2
      | some fd =>
        rw [hf] at e2
        exact e2
end G


set_option maxRecDepth 100000
set_option maxHeartbeats 4000000
namespace G
open PySem PySem.Spec PyProof.Rows L2

/-! ### operators over data -/
section
variable {K : PySem.W.Frag} {i j : Int} {x y : Str} {d e : PyData} {ds es : List PyData}
theorem od_val {r : R2} {d1 d2 : PyData} {v : V} {d : PyData} (h : ∀ (F H : Hp) (v1 v2 : V), Dp K F v1 d1 → Dp K F v2 d2 → Same F H → ∀ Q : VK, Q v H → r v1 v2 H Q) (hv : ∀ F, Dp K F v d) : OpD K r d1 d2 d := fun F H v1 v2 s h1 h2 Q k =>
  h F H v1 v2 h1 h2 s Q (k v F H (Grow.refl s) (hv F))
theorem od_I0 {g : Int → Int → V} {d : PyData} (hv : ∀ F, Dp K F (g i j) d) : OpD K (rI0 g) (.int i) (.int j) d :=
  od_val (fun F H v1 v2 h1 h2 s Q q => by cases h1; cases h2; exact ⟨i, j, rfl, rfl, q⟩) hv
theorem od_I {C : Int → Int → Prop} {g : Int → Int → V} {d : PyData} (hc : C i j) (hv : ∀ F, Dp K F (g i j) d) : OpD K (rI C g) (.int i) (.int j) d :=
  od_val (fun F H v1 v2 h1 h2 s Q q => by cases h1; cases h2; exact ⟨i, j, rfl, rfl, hc, q⟩) hv
theorem od_add : OpD K (rI0 fun i j => .int (i + j)) (.int i) (.int j) (.int (i + j)) := od_I0 fun _ => .int _
theorem od_sub : OpD K (rI0 fun i j => .int (i - j)) (.int i) (.int j) (.int (i - j)) := od_I0 fun _ => .int _
theorem od_mul (h : CMul i j) : OpD K (rI CMul fun i j => .int (i * j)) (.int i) (.int j) (.int (i * j)) := od_I h fun _ => .int _
theorem od_mod (h : 0 < j) : OpD K (rI (fun _ j => 0 < j) fun i j => .int (i % j)) (.int i) (.int j) (.int (i % j)) := od_I h fun _ => .int _
theorem od_fdiv (h : CDiv i j) : OpD K (rI CDiv fun i j => .int (i / j)) (.int i) (.int j) (.int (i / j)) := od_I h fun _ => .int _
theorem od_pow (h : CPow i j) : OpD K (rI CPow fun i j => .int (i ^ j.toNat)) (.int i) (.int j) (.int (i ^ j.toNat)) := od_I h fun _ => .int _
theorem od_lt : OpD K (rI0 fun i j => .bl (decide (i < j))) (.int i) (.int j) (.bool (decide (i < j))) := od_I0 fun _ => .bl _
theorem od_le : OpD K (rI0 fun i j => .bl (decide (i ≤ j))) (.int i) (.int j) (.bool (decide (i ≤ j))) := od_I0 fun _ => .bl _
theorem od_gt : OpD K (rI0 fun i j => .bl (decide (j < i))) (.int i) (.int j) (.bool (decide (j < i))) := od_I0 fun _ => .bl _
theorem od_ge : OpD K (rI0 fun i j => .bl (decide (j ≤ i))) (.int i) (.int j) (.bool (decide (j ≤ i))) := od_I0 fun _ => .bl _
theorem dp_ext {F H : Hp} (s : Same F H) {v : V} {d : PyData} (h : Dp K F v d) : Dp K H v d := dp_mono s h
theorem od_eqD (h1 : SeqAt.shaped d = true) (h2 : SeqAt.shaped e = true) : OpD K (rEqD K) d e (.bool (PyData.eqv d e)) :=
  od_val (fun F H v1 v2 a b s Q q => ⟨d, e, dp_mono s a, dp_mono s b, h1, h2, q⟩) fun _ => .bl _
theorem od_neD (h1 : SeqAt.shaped d = true) (h2 : SeqAt.shaped e = true) : OpD K (rNeD K) d e (.bool (!PyData.eqv d e)) :=
  od_val (fun F H v1 v2 a b s Q q => ⟨d, e, dp_mono s a, dp_mono s b, h1, h2, q⟩) fun _ => .bl _
theorem od_isN : OpD K (fun x y H Q => y = .non ∧ Q (.bl (decide (x = .non))) H) d .none (.bool (match d with | .none => true | _ => false)) := fun F H v1 v2 s h1 h2 Q k => by
  cases h2
  refine ⟨rfl, k _ F H (Grow.refl s) ?_⟩
  cases h1 <;> exact .bl _
theorem od_notN : OpD K (fun x y H Q => y = .non ∧ Q (.bl (!decide (x = .non))) H) d .none (.bool (match d with | .none => false | _ => true)) := fun F H v1 v2 s h1 h2 Q k => by
  cases h2
  refine ⟨rfl, k _ F H (Grow.refl s) ?_⟩
  cases h1 <;> exact .bl _
theorem od_inD (h1 : SeqAt.shaped d = true) (h2 : SeqAt.shaped (.list ds) = true) : OpD K (rInD K) d (.list ds) (.bool (ds.any fun z => PyData.eqv z d)) :=
  od_val (fun F H v1 v2 a b s Q q => ⟨d, ds, dp_mono s a, dp_mono s b, h1, h2, q⟩) fun _ => .bl _
theorem od_notInD (h1 : SeqAt.shaped d = true) (h2 : SeqAt.shaped (.list ds) = true) : OpD K (rNotInD K) d (.list ds) (.bool (!ds.any fun z => PyData.eqv z d)) :=
  od_val (fun F H v1 v2 a b s Q q => ⟨d, ds, dp_mono s a, dp_mono s b, h1, h2, q⟩) fun _ => .bl _
def flatD : PyData → Bool
  | .none => true
  | .bool _ => true
  | .int _ => true
  | .str _ => true
  | _ => false
theorem flat_dp {F : Hp} {v : V} {d : PyData} (h : Dp K F v d) (hf : flatD d = true) : flatV v = true := by
  cases h <;> first | rfl | cases hf
theorem eqV_dp {F F' : Hp} {v w : V} {d e : PyData} (h : Dp K F v d) (h' : Dp K F' w e) (hf : flatD d = true) (hf' : flatD e = true) : eqV v w = PyData.eqv d e := by
  cases h <;> cases h' <;> first | rfl | cases hf | cases hf'
theorem flats_dp {F : Hp} : ∀ {vs : List V} {ds : List PyData}, DpAll K F vs ds → ds.all flatD = true → vs.all flatV = true
  | _, _, .nil, _ => rfl
  | _, _, .cons h hs, e => by
    rw [List.all_cons, Bool.and_eq_true] at e
    rw [List.all_cons, flat_dp h e.1, flats_dp hs e.2]
    rfl
theorem inV_dp {F F' : Hp} {v : V} {d : PyData} (h : Dp K F' v d) (hf : flatD d = true) : ∀ {vs : List V} {ds : List PyData}, DpAll K F vs ds → ds.all flatD = true → inV v vs = ds.any fun z => PyData.eqv z d
  | _, _, .nil, _ => rfl
  | _, _, .cons (v := w) (vs := ws) h' hs, e => by
    rw [List.all_cons, Bool.and_eq_true] at e
    show (eqV w v || inV v ws) = _
    rw [List.any_cons, eqV_dp h' h e.1 hf, inV_dp h hf hs e.2]
theorem od_in {neg : Bool} {s : PyData} (hs : s = .list ds ∨ s = .tuple ds := by first | exact Or.inl rfl | exact Or.inr rfl) (h1 : flatD d = true := by rfl) (h2 : ds.all flatD = true := by rfl) : OpD K (rIn K neg) d s (.bool (if neg then !(ds.any fun z => PyData.eqv z d) else ds.any fun z => PyData.eqv z d)) := fun F H v1 v2 s' a b Q k => by
  obtain ⟨r, xs, rfl, hq, hd⟩ := Src.of_dp s' b hs
  refine ⟨r.ad, xs, rfl, ?_, flat_dp a h1, flats_dp hd h2, k _ F H (Grow.refl s') ?_⟩
  · have := hq H s'
    cases r with
    | L a => exact .inl this
    | T a => exact .inr this
  · rw [inV_dp a h1 hd h2]
    exact .bl _
theorem od_addS (h : x.length + y.length ≤ 16777216) : OpD K (fun x y H Q => ∃ i j, x = .str i ∧ y = .str j ∧ i.length + j.length ≤ sizeLine ∧ Q (.str (i ++ j)) H) (.str x) (.str y) (.str (x ++ y)) :=
  od_val (fun F H v1 v2 a b s Q q => by cases a; cases b; exact ⟨x, y, rfl, rfl, by rw [sizeLine_eq]; exact h, q⟩) fun _ => .str _
theorem od_inSign {c : Nat} : OpD K (fun x y H Q => ∃ (c : Nat) (z : Str), x = .str ⟨#[c]⟩ ∧ y = .str z ∧ Q (.bl (decide (c ∈ z.cps.toList))) H) (.str ⟨#[c]⟩) (.str y) (.bool (decide (c ∈ y.cps.toList))) :=
  od_val (fun F H v1 v2 a b s Q q => by cases a; cases b; exact ⟨c, y, rfl, rfl, q⟩) fun _ => .bl _
/-- tuples -/
theorem od_catT (h : ds.length + es.length ≤ 16777216) : OpD K (rCatA K) (.tuple ds) (.tuple es) (.tuple (ds ++ es)) := fun F H v1 v2 s a b Q k => by
  cases a with
  | tup a1 a2 =>
    cases b with
    | tup b1 b2 =>
      have l1 := dps_length a2
      have l2 := dps_length b2
      refine ⟨_, _, _, _, rfl, rfl, same_sqT s a1, same_sqT s b1, by rw [sizeLine_eq]; omega, fun e => ?_, fun _ e => ?_, fun _ _ p hp => ?_⟩
      · subst e
        have e' : ds = [] := by cases ds with | nil => rfl | cons _ _ => simp at l1
        subst e'
        exact k _ F H (Grow.refl s) (.tup b1 b2)
      · subst e
        have e' : es = [] := by cases es with | nil => rfl | cons _ _ => simp at l2
        subst e'
        rw [List.append_nil] at k
        exact k _ F H (Grow.refl s) (.tup a1 a2)
      · rename_i xs1 _ xs2 _ _
        have g := Grow.laid (o := .tup (xs1 ++ xs2)) s hp
        exact k _ _ _ g (.tup (SqT.of upd_same) (dps_mono g.f (dps_append a2 b2)))
/-! ### places -/
theorem atI_dps {F : Hp} {vs : List V} {ds : List PyData} (h : DpAll K F vs ds) {i : Int} {d : PyData} (e : atI ds i = some d) : ∃ v, atI vs i = some v ∧ Dp K F v d := by
  unfold atI at e ⊢
  rw [dps_length h]
  cases q : ixN ds.length i with
  | none => rw [q] at e; cases e
  | some j =>
    rw [q] at e
    obtain ⟨v, h1, h2⟩ := dps_get h (show ds[j]? = some d from e)
    exact ⟨v, h1, h2⟩
theorem od_ixL (h : atI ds i = some d) : OpD K (rIxL K) (.list ds) (.int i) d := fun F H v1 v2 s a b Q k => by
  cases a with
  | lst a1 a2 =>
    cases b
    obtain ⟨v, h1, h2⟩ := atI_dps a2 h
    exact ⟨_, _, i, v, rfl, rfl, s.seq a1, h1, k v F H (Grow.refl s) h2⟩
theorem od_ixT (h : atI ds i = some d) : OpD K (rIxT K) (.tuple ds) (.int i) d := fun F H v1 v2 s a b Q k => by
  cases a with
  | tup a1 a2 =>
    cases b
    obtain ⟨v, h1, h2⟩ := atI_dps a2 h
    exact ⟨_, _, i, v, rfl, rfl, same_sqT s a1, h1, k v F H (Grow.refl s) h2⟩
end
section
variable {X : Cx} {W : WX} {env : En} {c : Ct} {d d1 d2 : PyData} {ds es' : List PyData} {e a b : Expr} {es : List Expr} {pos p apos : Pos} {i : Int}
theorem vc_ix {r : R2} (hr : IxR X r) (od : OpD X.K r d1 d2 d) (ha : VC X a env (.dat d1)) (hb : VC X b env (.dat d2)) (hs : PlainIx b := by exact fun _ _ => rfl) : VC X (.Subscript a b pos) env (.dat d) := fun F H σ S s Q k =>
  ⟨_, pe_ix hr pwE pwE hs, two ha hb s fun v1 v2 F1 H1 g h1 h2 => od F1 H1 v1 v2 g.sub h1 h2 Q fun v F' H' g' hv => k v F' H' (fun _ => False) (g.trans g') ⟨hv, fun _ z => z⟩ fun _ z => z.elim⟩
theorem vc_ixL (ha : VC X a env (.dat (.list ds))) (hb : VC X b env (.dat (.int i))) (h : atI ds i = some d) (hs : PlainIx b := by exact fun _ _ => rfl) : VC X (.Subscript a b pos) env (.dat d) := vc_ix ix_list (od_ixL h) ha hb hs
theorem vc_ixT (ha : VC X a env (.dat (.tuple ds))) (hb : VC X b env (.dat (.int i))) (h : atI ds i = some d) (hs : PlainIx b := by exact fun _ _ => rfl) : VC X (.Subscript a b pos) env (.dat d) := vc_ix ix_tup (od_ixT h) ha hb hs
/-! ### slices -/
def cut {α : Type} (xs : List α) (lo hi : Option Int) : List α := (xs.drop (HT.sIx xs.length 0 lo)).take (HT.sIx xs.length xs.length hi - HT.sIx xs.length 0 lo)
theorem cut_dps {K : PySem.W.Frag} {F : Hp} {vs : List V} {ds : List PyData} (h : DpAll K F vs ds) (lo hi : Option Int) : DpAll K F (cutV vs lo hi) (cut ds lo hi) := by
  unfold cutV cut
  rw [dps_length h]
  exact dps_take _ (dps_drop _ h)
def OC (X : Cx) (e : Option Expr) (env : En) (o : Option Int) : Prop := ∀ (F H : Hp) (σ : St) (S : Foot), Sit X.K F H σ S env → ∀ Q : Option Int → Hp → Prop, (∀ F' H', Grow F H F' H' → Q o H') → ∃ t, PO X e t ∧ t σ H Q
theorem oc_none : OC X none env none := fun F H σ S s Q k => ⟨_, po_none, k F H (Grow.refl s.sub)⟩
theorem oc_some (h : VC X e env (.dat (.int i))) : OC X (some e) env (some i) := fun F H σ S s Q k => ⟨_, po_some pwE, h F H σ S s _ fun v F' H' _ g hv _ => by
  cases hv.1
  exact ⟨i, rfl, k F' H' g⟩⟩
def wO (X : Cx) (e : Option Expr) : TO := fun σ H Q => ∃ t, PO X e t ∧ t σ H Q
theorem pwO {e : Option Expr} : PO X e (wO X e) := ⟨fun pins s σ H Q I ⟨t, h, q⟩ => h.run pins s σ H Q I q⟩
theorem vo_sliceL {lo hi : Option Expr} {l u : Option Int} {p2 : Pos} (h : VC X e env (.dat (.list ds))) (hl : OC X lo env l) (hu : OC X hi env u) : VO X (.Subscript e (.Slice lo hi none p2) pos) env (olst X.K (cut ds l u)) := fun F H σ S s Q k =>
  ⟨_, pe_slice sl_list pwE pwO pwO, h F H σ S s _ fun v F1 H1 _ g1 hv _ => hl F1 H1 σ S (s.grow g1) _ fun F2 H2 g2 => hu F2 H2 σ S (s.grow (g1.trans g2)) _ fun F3 H3 g3 => by
    have g := (g1.trans g2).trans g3
    cases hv.1 with
    | lst a1 a2 =>
      refine ⟨_, _, rfl, g3.sub.seq (g3.f.seq (g2.f.seq a1)), fun q hq => ?_⟩
      exact k _ F3 _ _ (g.trans (Grow.made g.sub hq)) (olst_new g.sub hq (cut_dps (dps_mono (g2.f.trans g3.f) a2) l u)) fun z hz => by subst hz; exact g.h.free hq⟩
theorem vc_sliceT {lo hi : Option Expr} {l u : Option Int} {p2 : Pos} (h : VC X e env (.dat (.tuple ds))) (hl : OC X lo env l) (hu : OC X hi env u) : VC X (.Subscript e (.Slice lo hi none p2) pos) env (.dat (.tuple (cut ds l u))) := fun F H σ S s Q k =>
  ⟨_, pe_slice sl_tupA pwE pwO pwO, h F H σ S s _ fun v F1 H1 _ g1 hv _ => hl F1 H1 σ S (s.grow g1) _ fun F2 H2 g2 => hu F2 H2 σ S (s.grow (g1.trans g2)) _ fun F3 H3 g3 => by
    have g := (g1.trans g2).trans g3
    cases hv.1 with
    | tup a1 a2 =>
      rename_i aa xs
      have a1' := same_sqT (g2.f.trans g3.f) a1
      have a2' := dps_mono (g2.f.trans g3.f) a2
      refine ⟨_, _, rfl, same_sqT g3.sub a1', fun hw => ?_, fun _ q hq => ?_⟩
      · have ln := dps_length a2
        have e : cut ds l u = ds := by
          unfold cut
          rw [← ln, hw.1, hw.2, List.drop_zero, ln]
          exact List.take_length
        rw [e] at k
        exact k _ F3 H3 (fun _ => False) g ⟨.tup a1' a2', fun _ z => z⟩ fun _ z => z.elim
      · have g4 := Grow.laid (o := .tup (cutV xs l u)) g.sub hq
        exact k _ _ _ (fun _ => False) (g.trans g4) ⟨.tup (SqT.of upd_same) (dps_mono g4.f (cut_dps a2' l u)), fun _ z => z⟩ fun _ z => z.elim⟩
/-! ### list + list -/
def rCatS (K : PySem.W.Frag) : R2 := fun x y H Q => ∃ l b xs zs, x = .ref l ∧ y = .ref b ∧ SqL K H l xs ∧ SqL K H b zs ∧ xs.length + zs.length ≤ sizeLine ∧ ∀ p, H p = none → Q (.ref p) (upd H p (.lst (xs ++ zs)))
theorem op_catS : OpR X (binaryOp .Add) (rCatS X.K) := by
  intro pins s σ H x y v u Q I rx ry h
  obtain ⟨l, b, xs, zs, rfl, rfl, hH, hB, hz, q⟩ := h
  cases rx
  cases ry
  obtain ⟨its, r, pl, _⟩ := I.list hH
  obtain ⟨its2, r2, pl2, _⟩ := I.list hB
  have l1 := r.length
  have l2 := r2.length
  obtain ⟨⟨cls, dd, data, sl⟩, ho, hc, n, hd⟩ := id pl.isList
  obtain ⟨⟨cls2, dd2, data2, sl2⟩, ho2, hc2, n2, hd2⟩ := id pl2.isList
  simp only at hc hd hc2 hd2
  subst hc hd hc2 hd2
  have e : its.toArray ++ its2.toArray = (its ++ its2).toArray := by simp
  refine concat_meets ⟨_, ho, rfl⟩ ⟨_, ho2, rfl⟩ noFill_list_add seq_list_add PySem.F.slot_list_add PySem.F.entry_list_add (PySem.F.args_list_add_2 _ _) (list_addW l b its.toArray its2.toArray n n2 dd dd2 sl sl2 (by simp; omega)) ⟨ho, ho2, ?_⟩
  rw [e]
  exact ⟨.ref _, _, I.lnew (t' := s.toks) (r.append r2) (by rw [List.length_append]; omega), rfl, q _ I.fresh⟩
theorem vo_cat {es1 es2 : List PyData} (ha : VC X a env (.dat (.list es1))) (hb : VC X b env (.dat (.list es2))) (hz : es1.length + es2.length ≤ 16777216) : VO X (.BinOp a .Add b pos) env (olst X.K (es1 ++ es2)) := fun F H σ S s Q k =>
  ⟨_, pe_op op_catS pwE pwE, two ha hb s fun v1 v2 F1 H1 g h1 h2 => by
    cases h1 with
    | lst a1 a2 =>
      cases h2 with
      | lst b1 b2 =>
        have l1 := dps_length a2
        have l2 := dps_length b2
        refine ⟨_, _, _, _, rfl, rfl, g.sub.seq a1, g.sub.seq b1, by rw [sizeLine_eq]; omega, fun q hq => ?_⟩
        exact k _ F1 _ _ (g.trans (Grow.made g.sub hq)) (olst_new g.sub hq (dps_append a2 b2)) fun z hz => by subst hz; exact g.h.free hq⟩
/-! ### instances that stand -/
def insP (K : PySem.W.Frag) (C : Addr) (fs : List (Str × PyData)) : Ps where
  At F v := ∃ p dx vs, v = .ref p ∧ F p = some (.ins C dx vs) ∧ F dx = some (.own p) ∧ Paired (fun (a : Str × V) (b : Str × PyData) => a.1 = b.1 ∧ Dp K F a.2 b.2) vs fs
  mono := fun e ⟨p, dx, vs, h1, h2, h3, h4⟩ => ⟨p, dx, vs, h1, e _ _ h2, e _ _ h3, Paired.mapP h4 fun a b z => ⟨z.1, dp_mono e z.2⟩⟩
theorem paired_look {K : PySem.W.Frag} {F : Hp} {f : Str} {d : PyData} : ∀ {vs : List (Str × V)} {fs : List (Str × PyData)}, Paired (fun (a : Str × V) (b : Str × PyData) => a.1 = b.1 ∧ Dp K F a.2 b.2) vs fs → fs.lookup f = some d → ∃ v, vs.lookup f = some v ∧ Dp K F v d
  | _, _, .nil, h => by simp at h
  | (x, v) :: vs, (y, d') :: fs, .cons h hs, e => by
    obtain ⟨e1, e2⟩ := h
    have e1 : x = y := e1
    subst e1
    rw [List.lookup_cons] at e ⊢
    cases q : f == x with
    | true =>
      rw [q] at e
      cases e
      exact ⟨v, rfl, e2⟩
    | false =>
      rw [q] at e
      exact paired_look hs e
theorem vc_fld {C : Addr} {fs : List (Str × PyData)} {f : Str} (h : VC X e env (.pin (insP X.K C fs))) (c : Cls X.K C) (n : NoAttr X.K C f) (l : fs.lookup f = some d) (hb : attributeBase e f X.env (eval e X.env) = eval e X.env := by rfl) : VC X (.Attribute e f pos) env (.dat d) := fun F H σ S s Q k =>
  ⟨_, pe_fld pwE hb, h F H σ S s _ fun v F1 H1 _ g hv _ => by
    obtain ⟨⟨p, dx, vs, rfl, h2, h3, h4⟩, _⟩ := hv
    obtain ⟨w, l1, l2⟩ := paired_look h4 l
    exact ⟨p, C, dx, vs, w, rfl, g.sub _ _ h2, c, n, l1, k w F1 H1 (fun _ => False) g ⟨l2, fun _ z => z⟩ fun _ z => z.elim⟩⟩
/-! ### built-ins by name -/
def CallD (K : PySem.W.Frag) (r : List V → Hp → VK → Prop) (ds : List PyData) (P : Ct → Prop) : Prop := ∀ (F H : Hp) (vs : List V), Same F H → DpAll K F vs ds → ∀ Q : VK, (∀ v F' H' Sv c, Grow F H F' H' → Hold K F' H' v Sv c → (∀ a, Sv a → H a = none) → P c → Q v H') → r vs H Q
theorem vc_callB {id : String} {x : Str} {r : List V → Hp → VK → Prop} (hc : CallR X (.builtin id) r) (hd : CallD X.K r ds (fun c' => c' = c)) (hm : X.mg x = none) (ha : DC X (e :: es) env ds) (hv : bootBuiltins x = some (.builtin id) := by decide +kernel) (hg : Gl X x := by rfl) (hn : x ≠ "__name__" := by decide) (hdb : (x == ("__debug__" : Str)) = false := by decide)
    (he : starEach (e :: es) X.env = (false, eval e X.env) :: starEach es X.env := by rfl) (hpl : (backTo pos (starEach es X.env)).any (·.1) = false := by rfl) : VC X (.Call (.Name x p) (e :: es) [] pos) env c := fun F H σ S s Q k =>
  ⟨_, pe_callB hc hg hm hv pwA hn hdb he hpl, ha F H σ S s _ fun vs F1 H1 g hvs => hd F1 H1 vs g.sub hvs.dps Q fun v F' H' Sv c' g' hv fr e => by
    subst e
    exact k v F' H' Sv (g.trans g') hv fun a z => g.h.free (fr a z)⟩
theorem vc_callT {T : String} {x : Str} {r : List V → Hp → VK → Prop} (hc : CallR X (.type T) r) (hd : CallD X.K r ds (fun c' => c' = c)) (hm : X.mg x = none) (ha : DC X (e :: es) env ds) (hv : bootBuiltins x = some (.type T) := by decide +kernel) (hg : Gl X x := by rfl) (hn : x ≠ "__name__" := by decide) (hdb : (x == ("__debug__" : Str)) = false := by decide)
    (he : starEach (e :: es) X.env = (false, eval e X.env) :: starEach es X.env := by rfl) (hpl : (backTo pos (starEach es X.env)).any (·.1) = false := by rfl) : VC X (.Call (.Name x p) (e :: es) [] pos) env c := fun F H σ S s Q k =>
  ⟨_, pe_callTy hc hg hm hv pwA hn hdb he hpl, ha F H σ S s _ fun vs F1 H1 g hvs => hd F1 H1 vs g.sub hvs.dps Q fun v F' H' Sv c' g' hv fr e => by
    subst e
    exact k v F' H' Sv (g.trans g') hv fun a z => g.h.free (fr a z)⟩
theorem vo_callT {T : String} {x : Str} {R : Rs} {r : List V → Hp → VK → Prop} (hc : CallR X (.type T) r) (hd : CallD X.K r ds (fun c' => ∃ v, c' = .own v R)) (hm : X.mg x = none) (ha : DC X (e :: es) env ds) (hv : bootBuiltins x = some (.type T) := by decide +kernel) (hg : Gl X x := by rfl) (hn : x ≠ "__name__" := by decide) (hdb : (x == ("__debug__" : Str)) = false := by decide)
    (he : starEach (e :: es) X.env = (false, eval e X.env) :: starEach es X.env := by rfl) (hpl : (backTo pos (starEach es X.env)).any (·.1) = false := by rfl) : VO X (.Call (.Name x p) (e :: es) [] pos) env R := fun F H σ S s Q k =>
  ⟨_, pe_callTy hc hg hm hv pwA hn hdb he hpl, ha F H σ S s _ fun vs F1 H1 g hvs => hd F1 H1 vs g.sub hvs.dps Q fun v F' H' Sv c' g' hv fr e => by
    obtain ⟨v', e⟩ := e
    subst e
    have ev : v = v' := hv.1
    subst ev
    exact k v F' H' Sv (g.trans g') hv fun a z => g.h.free (fr a z)⟩
theorem cd_val {K : PySem.W.Frag} {r : List V → Hp → VK → Prop} {d : PyData} (h : ∀ (F H : Hp) (vs : List V), Same F H → DpAll K F vs ds → ∀ Q : VK, (∀ v, Dp K F v d → Q v H) → r vs H Q) : CallD K r ds (fun c => c = .dat d) := fun F H vs s hv Q k =>
  h F H vs s hv Q fun v hd => k v F H (fun _ => False) (.dat d) (Grow.refl s) ⟨hd, fun _ z => z⟩ (fun _ z => z.elim) rfl
theorem vc_len {s : PyData} (hm : X.mg "len" = none) (h : VC X e env (.dat s)) (hs : s = .list ds ∨ s = .tuple ds := by first | exact Or.inl rfl | exact Or.inr rfl) (hg : Gl X "len" := by rfl) (he : starEach [e] X.env = (false, eval e X.env) :: starEach [] X.env := by rfl) (hpl : (backTo pos (starEach [] X.env)).any (·.1) = false := by rfl) : VC X (.Call (.Name "len" p) [e] [] pos) env (.dat (.int (ds.length : Int))) :=
  vc_callB (ds := [s]) call_len_seq (cd_val fun F H vs sm hv Q q => by
    cases hv with
    | cons h1 h2 =>
      cases h2
      obtain ⟨r, xs, rfl, hq, hd⟩ := Src.of_dp sm h1 hs
      have hl := dps_length hd
      refine ⟨r.ad, xs, rfl, ?_, q _ (by rw [hl]; exact .int _)⟩
      have := hq H sm
      cases r with
      | L a => exact .inl this
      | T a => exact .inr this) hm (dc_cons h dc_nil he) PySem.boot_len hg (by decide) (by decide) he hpl
theorem vc_lenS {x : Str} (hm : X.mg "len" = none) (h : VC X e env (.dat (.str x))) (hx : x.length ≤ 16777216) (hg : Gl X "len" := by rfl) (he : starEach [e] X.env = (false, eval e X.env) :: starEach [] X.env := by rfl) (hpl : (backTo pos (starEach [] X.env)).any (·.1) = false := by rfl) : VC X (.Call (.Name "len" p) [e] [] pos) env (.dat (.int (x.length : Int))) :=
  vc_callB (ds := [.str x]) call_len_str (cd_val fun F H vs sm hv Q q => by
    cases hv with
    | cons h1 h2 =>
      cases h2
      cases h1
      exact ⟨x, rfl, by rw [sizeLine_eq]; exact hx, q _ (.int _)⟩) hm (dc_cons h dc_nil he) PySem.boot_len hg (by decide) (by decide) he hpl
theorem vo_list {s : PyData} (hm : X.mg "list" = none) (h : VC X e env (.dat s)) (hs : s = .list ds ∨ s = .tuple ds := by first | exact Or.inl rfl | exact Or.inr rfl) (hg : Gl X "list" := by rfl) (he : starEach [e] X.env = (false, eval e X.env) :: starEach [] X.env := by rfl) (hpl : (backTo pos (starEach [] X.env)).any (·.1) = false := by rfl) : VO X (.Call (.Name "list" p) [e] [] pos) env (olst X.K ds) :=
  vo_callT (ds := [s]) call_list_of (fun F H vs sm hv Q q => by
    cases hv with
    | cons h1 h2 =>
      cases h2
      obtain ⟨r, xs, rfl, hq, hd⟩ := Src.of_dp sm h1 hs
      refine ⟨r.ad, xs, rfl, ?_, fun l hl => q _ F _ _ _ (Grow.made sm hl) (olst_new sm hl hd) (fun z hz => by subst hz; exact hl) ⟨_, rfl⟩⟩
      have := hq H sm
      cases r with
      | L a => exact .inl this
      | T a => exact .inr this) hm (dc_cons h dc_nil he) (by decide +kernel) hg (by decide) (by decide) he hpl
theorem vc_tuple {s : PyData} (hm : X.mg "tuple" = none) (h : VC X e env (.dat s)) (hs : s = .list ds ∨ s = .tuple ds := by first | exact Or.inl rfl | exact Or.inr rfl) (hg : Gl X "tuple" := by rfl) (he : starEach [e] X.env = (false, eval e X.env) :: starEach [] X.env := by rfl) (hpl : (backTo pos (starEach [] X.env)).any (·.1) = false := by rfl) : VC X (.Call (.Name "tuple" p) [e] [] pos) env (.dat (.tuple ds)) :=
  vc_callT (ds := [s]) call_tuple_of (fun F H vs sm hv Q q => by
    cases hv with
    | cons h1 h2 =>
      cases h2
      obtain ⟨r, xs, rfl, hq, hd⟩ := Src.of_dp sm h1 hs
      refine ⟨r.ad, xs, rfl, ?_⟩
      have := hq H sm
      cases r with
      | L a =>
        refine .inl ⟨this, fun l hl => ?_⟩
        have g := Grow.laid (o := .tup xs) sm hl
        exact q _ _ _ (fun _ => False) (.dat (.tuple ds)) g ⟨.tup (SqT.of upd_same) (dps_mono g.f hd), fun _ z => z⟩ (fun _ z => z.elim) rfl
      | T a => exact .inr ⟨this, q _ F H (fun _ => False) (.dat (.tuple ds)) (Grow.refl sm) ⟨.tup (hq F (Same.refl F)) hd, fun _ z => z⟩ (fun _ z => z.elim) rfl⟩) hm (dc_cons h dc_nil he) (by decide +kernel) hg (by decide) (by decide) he hpl
theorem dps_bools {K : PySem.W.Frag} {F : Hp} : ∀ {bs : List Bool} {vs : List V}, DpAll K F vs (bs.map .bool) → vs = bs.map V.bl
  | [], _, .nil => rfl
  | b :: bs, _, .cons h hs => by
    cases h
    rw [dps_bools hs]
    rfl
theorem dps_ints {K : PySem.W.Frag} {F : Hp} : ∀ {bs : List Int} {vs : List V}, DpAll K F vs (bs.map .int) → vs = bs.map V.int
  | [], _, .nil => rfl
  | b :: bs, _, .cons h hs => by
    cases h
    rw [dps_ints hs]
    rfl
theorem dps_strs {K : PySem.W.Frag} {F : Hp} : ∀ {bs : List Str} {vs : List V}, DpAll K F vs (bs.map .str) → vs = bs.map V.str
  | [], _, .nil => rfl
  | b :: bs, _, .cons h hs => by
    cases h
    rw [dps_strs hs]
    rfl
theorem vc_any {bs : List Bool} (hc : X.calm = true) (hm : X.mg "any" = none) (h : VC X e env (.dat (.list (bs.map .bool)))) (hg : Gl X "any" := by rfl) (he : starEach [e] X.env = (false, eval e X.env) :: starEach [] X.env := by rfl) (hpl : (backTo pos (starEach [] X.env)).any (·.1) = false := by rfl) : VC X (.Call (.Name "any" p) [e] [] pos) env (.dat (.bool (bs.any id))) :=
  vc_callB (ds := [.list (bs.map .bool)]) (cr_any hc) (cd_val fun F H vs sm hv Q q => by
    cases hv with
    | cons h1 h2 =>
      cases h2
      cases h1 with
      | lst a1 a2 =>
        have e := dps_bools a2
        subst e
        exact ⟨_, bs, rfl, sm.seq a1, q _ (.bl _)⟩) hm (dc_cons h dc_nil he) (by decide +kernel) hg (by decide) (by decide) he hpl
theorem vc_all {bs : List Bool} (hc : X.calm = true) (hm : X.mg "all" = none) (h : VC X e env (.dat (.list (bs.map .bool)))) (hg : Gl X "all" := by rfl) (he : starEach [e] X.env = (false, eval e X.env) :: starEach [] X.env := by rfl) (hpl : (backTo pos (starEach [] X.env)).any (·.1) = false := by rfl) : VC X (.Call (.Name "all" p) [e] [] pos) env (.dat (.bool (bs.all id))) :=
  vc_callB (ds := [.list (bs.map .bool)]) (cr_all hc) (cd_val fun F H vs sm hv Q q => by
    cases hv with
    | cons h1 h2 =>
      cases h2
      cases h1 with
      | lst a1 a2 =>
        have e := dps_bools a2
        subst e
        exact ⟨_, bs, rfl, sm.seq a1, q _ (.bl _)⟩) hm (dc_cons h dc_nil he) (by decide +kernel) hg (by decide) (by decide) he hpl
def intD : PyData → Option Int
  | .int i => some i
  | .bool b => some (if b then 1 else 0)
  | _ => none
theorem vc_toInt {i : Int} (hm : X.mg "int" = none) (h : VC X e env (.dat d)) (hi : intD d = some i := by rfl) (hg : Gl X "int" := by rfl) (he : starEach [e] X.env = (false, eval e X.env) :: starEach [] X.env := by rfl) (hpl : (backTo pos (starEach [] X.env)).any (·.1) = false := by rfl) : VC X (.Call (.Name "int" p) [e] [] pos) env (.dat (.int i)) :=
  vc_callT (ds := [d]) call_int1 (cd_val fun F H vs sm hv Q q => by
    cases hv with
    | cons h1 h2 =>
      cases h2
      cases h1 with
      | int j => cases hi; exact .inl ⟨_, rfl, q _ (.int _)⟩
      | bl b => cases hi; exact .inr ⟨_, rfl, q _ (.int _)⟩
      | non => cases hi
      | str _ => cases hi
      | lst _ _ => cases hi
      | tup _ _ => cases hi) hm (dc_cons h dc_nil he) (by decide +kernel) hg (by decide) (by decide) he hpl
end

/-! ### calls of defs -/
structure Fn (P : Program) (w : World) (K : PySem.W.Frag) (mg : Str → Option Value) (base : Heap) (x : Str) (k : Nat) (spec : Spec) : Prop where
  ex : ∃ f fd ps, FnOk P w K mg base (L2.CX P w) k f fd ps (spG K spec) ∧ mg x = some (.ref f) ∧ PySem.W.keepIn K (.ref f) = true ∧ Binds K fd ps []
section
variable {X : Cx} {W : WX} {env : En} {c : Ct} {d d1 d2 : PyData} {e a b : Expr} {es : List Expr} {pos p apos : Pos} {x : Str} {k : Nat} {spec : Spec} {cs : List Ct}
theorem Holds.sit {K : PySem.W.Frag} {F H : Hp} (s : Same F H) {vs : List V} {cs : List Ct} (h : Holds K F vs cs) : Sit K F H (vs.map some) (fun _ _ => False) (cs.map some) := by
  refine ⟨s, fun i c e => ?_, fun _ _ _ z => z.elim, by simp [h.length], fun _ _ _ z => z⟩
  induction h generalizing i with
  | nil => simp at e
  | dat h hs ih =>
    cases i with
    | zero => simp at e; subst e; exact ⟨_, rfl, h, fun _ z => z⟩
    | succ i =>
      obtain ⟨v, h1, h2⟩ := ih i (by simpa using e)
      exact ⟨v, by simpa using h1, by cases c with | dat d => exact h2 | pin P => exact h2 | own v R => exact h2⟩
  | pin h hs ih =>
    cases i with
    | zero => simp at e; subst e; exact ⟨_, rfl, h, fun _ z => z⟩
    | succ i =>
      obtain ⟨v, h1, h2⟩ := ih i (by simpa using e)
      exact ⟨v, by simpa using h1, by cases c with | dat d => exact h2 | pin P => exact h2 | own v R => exact h2⟩
theorem call_pure {Q : VK} {F H : Hp} {vs : List V} {E : XK} (s : Same F H) (h : Holds X.K F vs cs) {P : Ct → Prop} (hs : spec cs (fun c' _ => P c') (fun _ _ => False))
    (k : ∀ v F' H' Sv c', Grow F H F' H' → Hold X.K F' H' v Sv c' → (∀ a, Sv a → H a = none) → P c' → Q v H') : spG X.K spec vs H Q E := by
  refine ⟨F, fun _ _ => False, cs, _, _, h.sit s, hs, fun v F' H' S' Sv c cs' p s' hv dj q => ?_, fun _ _ _ _ _ _ _ _ _ _ z => z.elim⟩
  have nt : ∀ a, ¬ tot (fun _ _ => False : Foot) a := fun a ⟨_, z⟩ => z
  exact k v F' H' Sv c ⟨p.f, fun a o e => p.keep a o e (nt a), s'.sub, fun a o e => (p.new a o e).elim .inl fun z => .inr (z.elim id fun z => (nt a z).elim)⟩ hv (fun a z => (p.s a (.inr z)).elim (fun z => (nt a z).elim) id) q
/-- f(..), pure -/
theorem vc_call (hF : Fn X.prog X.w X.K X.mg X.base x k spec) (hr : Room k X.A) (ha : AC X (e :: es) env cs) (hs : spec cs (fun c' _ => c' = c) (fun _ _ => False)) (hg : Gl X x := by rfl) (hdb : (x == ("__debug__" : Str)) = false := by decide)
    (he : starEach (e :: es) X.env = (false, eval e X.env) :: starEach es X.env := by rfl) (hpl : (backTo pos (starEach es X.env)).any (·.1) = false := by rfl) : VC X (.Call (.Name x p) (e :: es) [] pos) env c := fun F H σ S s Q kq => by
  obtain ⟨f, fd, ps, ok, hm, hk, hb⟩ := hF.ex
  exact ⟨_, pe_callS (E := WE fun _ _ _ _ => False) ok hr hg hm hk hb (fun σ => passAt takes0 σ) pwA hdb he hpl, ha F H σ S s _ fun vs F1 H1 g hvs => call_pure g.sub hvs hs fun v F' H' Sv c' g' hv fr e => by
    subst e
    exact kq v F' H' Sv (g.trans g') hv fun a z => g.h.free (fr a z)⟩
theorem vo_call {R : Rs} (hF : Fn X.prog X.w X.K X.mg X.base x k spec) (hr : Room k X.A) (ha : AC X (e :: es) env cs) (hs : spec cs (fun c' _ => ∃ v, c' = .own v R) (fun _ _ => False)) (hg : Gl X x := by rfl) (hdb : (x == ("__debug__" : Str)) = false := by decide)
    (he : starEach (e :: es) X.env = (false, eval e X.env) :: starEach es X.env := by rfl) (hpl : (backTo pos (starEach es X.env)).any (·.1) = false := by rfl) : VO X (.Call (.Name x p) (e :: es) [] pos) env R := fun F H σ S s Q kq => by
  obtain ⟨f, fd, ps, ok, hm, hk, hb⟩ := hF.ex
  exact ⟨_, pe_callS (E := WE fun _ _ _ _ => False) ok hr hg hm hk hb (fun σ => passAt takes0 σ) pwA hdb he hpl, ha F H σ S s _ fun vs F1 H1 g hvs => call_pure g.sub hvs hs fun v F' H' Sv c' g' hv fr e => by
    obtain ⟨v', e⟩ := e
    subst e
    have ev : v = v' := hv.1
    subst ev
    exact kq v F' H' Sv (g.trans g') hv fun a z => g.h.free (fr a z)⟩
theorem vo_call0 {R : Rs} (hF : Fn X.prog X.w X.K X.mg X.base x k spec) (hr : Room k X.A) (hs : spec [] (fun c' _ => ∃ v, c' = .own v R) (fun _ _ => False)) (hg : Gl X x := by rfl) (hdb : (x == ("__debug__" : Str)) = false := by decide) : VO X (.Call (.Name x p) [] [] pos) env R := fun F H σ S s Q kq => by
  obtain ⟨f, fd, ps, ok, hm, hk, hb⟩ := hF.ex
  exact ⟨_, pe_call0 ok hr hg hm hk hb .nil passL hdb, call_pure s.sub .nil hs fun v F' H' Sv c' g' hv fr e => by
    obtain ⟨v', e⟩ := e
    subst e
    have ev : v = v' := hv.1
    subst ev
    exact kq v F' H' Sv g' hv fr⟩
end
end G


set_option maxRecDepth 100000
set_option maxHeartbeats 4000000
namespace G
open PySem PySem.Spec PyProof.Rows L2
/-- a def of the module -/
structure Df (K : PySem.W.Frag) (mg : Str → Option Value) (x : Str) (st : Stmt) (ps : List Str) : Prop where
  ex : ∃ f fd, Fun K x x st f fd ∧ mg x = some (.ref f) ∧ Binds K fd ps []
/-- the built-ins' names are nobody else's -/
structure Bi (mg : Str → Option Value) : Prop where
  len : mg "len" = none
  any : mg "any" = none
  all : mg "all" = none
  list : mg "list" = none
  tuple : mg "tuple" = none
  range : mg "range" = none
  enumerate : mg "enumerate" = none
  zip : mg "zip" = none
  int : mg "int" = none
  str : mg "str" = none
  bool : mg "bool" = none
  isinstance : mg "isinstance" = none
  set : mg "set" = none
  dict : mg "dict" = none
  max : mg "max" = none
  min : mg "min" = none
  sorted : mg "sorted" = none
/-- THE RULE for a def of the module -/
theorem fnG {P : Program} {w : World} {K : PySem.W.Frag} {mg : Str → Option Value} {base : Heap} {x : Str} {st : Stmt} {N ps : List Str} {k : Nat} {spec : Spec} (D : Df K mg x st ps) (Sc : FnScope N ps (defScope st))
    (len : ∀ cs R RX, spec cs R RX → cs.length = ps.length)
    (hbody : ∀ (f : Addr) (cdv : Value) (A : Around) (outer : List Env) (s : Shared) (H : Hp) (E : XK) (X : Cx), X = cxOf (L2.CX P w) P w K mg base N x (defScope st) f cdv A outer s H E → Room k X.A → Takes X (fun cls d _ H => E cls d H) → PassesOwn (model X.prog X.w) X.A X.env X.xe →
      ∀ (cs : List Ct) (R : Ct → List Ct → Prop) (RX : Xc → List Ct → Prop), spec cs R RX →
        WB X (fun cls d _ H => E cls d H) (defBody st) { nx := fun env' => ∃ cs', Back cs env' cs' ∧ R (.dat .none) cs', rt := fun c env' => ∃ cs', Back cs env' cs' ∧ R c cs', ex := fun x env' => ∃ cs', Back cs env' cs' ∧ RX x cs' } (cs.map some ++ List.replicate (N.length - ps.length) none)) :
    Fn P w K mg base x (k + 1) spec := by
  obtain ⟨f, fd, F, hm, hb⟩ := D.ex
  exact ⟨f, fd, ps, okG F Sc len fun cdv A outer s H E X e hr tk hp cs R RX sp => hbody f cdv A outer s H E X e hr tk hp cs R RX sp, hm, F.kp, hb⟩
/-- data under one name -/
theorem shaped_tup {ds : List PyData} {n : Nat} (hn : n < 64) (h : ∀ d ∈ ds, SeqAt.shaped d = true ∧ d.depth ≤ n) : SeqAt.shaped (.tuple ds) = true ∧ (PyData.tuple ds).depth ≤ n + 1 := by
  have key : PyData.canLayAll0 ds = true ∧ PyData.depthAll ds ≤ n := by
    induction ds with
    | nil => exact ⟨rfl, Nat.zero_le _⟩
    | cons d ds ih =>
      obtain ⟨h1, h2⟩ := h d List.mem_cons_self
      obtain ⟨i1, i2⟩ := ih fun d' hd => h d' (List.mem_cons_of_mem _ hd)
      refine ⟨?_, ?_⟩
      · rw [PyData.canLayAll0, SeqAt.canLay_of_shaped h1, i1]
        rfl
      · rw [PyData.depthAll]
        exact Nat.max_le.mpr ⟨h2, i2⟩
  refine ⟨?_, ?_⟩
  · unfold SeqAt.shaped
    rw [PyData.canLay0, key.1, PyData.depth]
    simp
    omega
  · rw [PyData.depth]
    omega
theorem shaped_lst {ds : List PyData} {n : Nat} (hn : n < 64) (h : ∀ d ∈ ds, SeqAt.shaped d = true ∧ d.depth ≤ n) : SeqAt.shaped (.list ds) = true ∧ (PyData.list ds).depth ≤ n + 1 := by
  have key : PyData.canLayAll0 ds = true ∧ PyData.depthAll ds ≤ n := by
    induction ds with
    | nil => exact ⟨rfl, Nat.zero_le _⟩
    | cons d ds ih =>
      obtain ⟨h1, h2⟩ := h d List.mem_cons_self
      obtain ⟨i1, i2⟩ := ih fun d' hd => h d' (List.mem_cons_of_mem _ hd)
      refine ⟨?_, ?_⟩
      · rw [PyData.canLayAll0, SeqAt.canLay_of_shaped h1, i1]
        rfl
      · rw [PyData.depthAll]
        exact Nat.max_le.mpr ⟨h2, i2⟩
  refine ⟨?_, ?_⟩
  · unfold SeqAt.shaped
    rw [PyData.canLay0, key.1, PyData.depth]
    simp
    omega
  · rw [PyData.depth]
    omega
theorem shaped_str {x : Str} (h : PyData.strOk x = true) : SeqAt.shaped (.str x) = true ∧ (PyData.str x).depth ≤ 0 := by
  refine ⟨?_, by simp [PyData.depth]⟩
  unfold SeqAt.shaped
  rw [PyData.canLay0, h, PyData.depth]
  rfl
theorem shaped_int {i : Int} : SeqAt.shaped (.int i) = true ∧ (PyData.int i).depth ≤ 0 := ⟨rfl, by simp [PyData.depth]⟩
theorem shaped_bool {i : Bool} : SeqAt.shaped (.bool i) = true ∧ (PyData.bool i).depth ≤ 0 := ⟨rfl, by simp [PyData.depth]⟩
theorem shaped_none : SeqAt.shaped .none = true ∧ (PyData.none).depth ≤ 0 := ⟨rfl, by simp [PyData.depth]⟩
theorem eqv_str (x y : Str) : PyData.eqv (.str x) (.str y) = decide (x = y) := by
  rw [PyData.eqv]
  exact (Bool.beq_eq_decide_eq x y)
theorem eqv_int (x y : Int) : PyData.eqv (.int x) (.int y) = decide (x = y) := by
  rw [PyData.eqv]
  exact (Bool.beq_eq_decide_eq x y)
end G
namespace G
open PySem PySem.Spec PyProof.Rows L2
section
variable {X : Cx} {W : WX} {env : En} {d d1 : PyData} {e : Expr} {b b1 : Bool}
theorem vis (q : d = d1) (h : VC X e env (.dat d)) : VC X e env (.dat d1) := q ▸ h
theorem tis (q : b = b1) (h : TC X e env b) : TC X e env b1 := q ▸ h
theorem bool_d {b b' : Bool} (q : b = b') : PyData.bool b = .bool b' := by rw [q]
end
end G


set_option maxRecDepth 100000
set_option maxHeartbeats 4000000
/-! shorter forms -/
namespace G
open PySem PySem.Spec PyProof.Rows L2
section
variable {X : Cx} {env : En} {tg iter elt cnd : Expr} {scope : Scope} {own : List (Str × Nat)} {pos : Pos} {α : Type}
/-- [elt for tg in iter] -/
theorem vo_map (xs : List α) (f : α → PyData) (g : α → PyData) {js : List Nat} {bnd : α → En} (hN : X.N.Nodup) (hi : VI X tg iter env (xs.map f))
    (hb : ∀ x, x ∈ xs → Blk X scope fun X' => GC X' tg (f x) (wipE env (own.map (·.2))) js (bnd x)) (he : ∀ x, x ∈ xs → Blk X scope fun X' => VC X' elt (bnd x) (.dat (g x))) (hz : xs.length < 16777216)
    (ok : BlkOk X.N X.env.scope scope own := by exact blkOk_by (by rfl)) (hj : ∀ j ∈ js, j ∈ own.map (·.2) := by decide) (hc : X.calm = true := by rfl)
    (hs : ∀ x, foldedSetIterable iter X.env x = pure x := by intro _; rfl) : VO X (.ListComp elt [⟨tg, iter, [], 0⟩] scope pos) env (olst X.K (xs.map g)) := by
  have h := vo_lc (own := own) (ifs := []) (pos := pos) xs f (fun _ => true) g js bnd hc hN ok hi hj hb (fun _ _ _ _ _ _ _ => ts_nil) (fun x hx _ => he x hx) hz hs
  rwa [show xs.filter (fun _ => true) = xs from List.filter_eq_self.mpr fun _ _ => rfl] at h
/-- [elt for tg in iter if cnd] -/
theorem vo_filt (xs : List α) (f : α → PyData) (p : α → Bool) (g : α → PyData) {js : List Nat} {bnd : α → En} (hN : X.N.Nodup) (hi : VI X tg iter env (xs.map f))
    (hb : ∀ x, x ∈ xs → Blk X scope fun X' => GC X' tg (f x) (wipE env (own.map (·.2))) js (bnd x)) (ht : ∀ x, x ∈ xs → Blk X scope fun X' => TC X' cnd (bnd x) (p x)) (he : ∀ x, x ∈ xs → p x = true → Blk X scope fun X' => VC X' elt (bnd x) (.dat (g x))) (hz : xs.length < 16777216)
    (ok : BlkOk X.N X.env.scope scope own := by exact blkOk_by (by rfl)) (hj : ∀ j ∈ js, j ∈ own.map (·.2) := by decide) (hc : X.calm = true := by rfl)
    (hs : ∀ x, foldedSetIterable iter X.env x = pure x := by intro _; rfl) : VO X (.ListComp elt [⟨tg, iter, [cnd], 0⟩] scope pos) env (olst X.K ((xs.filter p).map g)) :=
  vo_lc (own := own) xs f p g js bnd hc hN ok hi hj hb (fun x hx s H C cl fp => ts_one (ht x hx s H C cl fp)) he hz hs
section
variable {W : WX} {D : DE} {p' lpos : Pos}
theorem ws_map (i : Nat) (xs : List α) (f : α → PyData) (g : α → PyData) {js : List Nat} {bnd : α → En} {x : Str} (hN : X.N.Nodup) (hi : VI X tg iter env (xs.map f))
    (hb : ∀ x, x ∈ xs → Blk X scope fun X' => GC X' tg (f x) (wipE env (own.map (·.2))) js (bnd x)) (he : ∀ x, x ∈ xs → Blk X scope fun X' => VC X' elt (bnd x) (.dat (g x))) (hz : xs.length < 16777216)
    (h : ∀ v, D.nx (env.set i (some (.own v (olst X.K (xs.map g))))))
    (ok : BlkOk X.N X.env.scope scope own := by exact blkOk_by (by rfl)) (hj : ∀ j ∈ js, j ∈ own.map (·.2) := by decide) (hc : X.calm = true := by rfl)
    (hy : X.N[i]? = some x := by rfl) (hyl : X.env.scope.names.lookup x = some .local := by rfl)
    (hsw : swapsWith (.ListComp elt [⟨tg, iter, [], 0⟩] scope lpos) (some (.Name x p')) pos.line X.env = pure true := by exact sw_true rfl rfl rfl (by decide +kernel))
    (hs : ∀ x, foldedSetIterable iter X.env x = pure x := by intro _; rfl) : WS X W (.Assign [.Name x p'] (.ListComp elt [⟨tg, iter, [], 0⟩] scope lpos) pos) D env := by
  have e : xs.filter (fun _ => true) = xs := List.filter_eq_self.mpr fun _ _ => rfl
  exact ws_setLc (own := own) (ifs := []) i xs f (fun _ => true) g js bnd hc hN ok hi hj hb (fun _ _ _ _ _ _ _ => ts_nil) (fun x hx _ => he x hx) hz (by rw [e]; exact h) hy hyl hsw hs
theorem ws_filt (i : Nat) (xs : List α) (f : α → PyData) (p : α → Bool) (g : α → PyData) {js : List Nat} {bnd : α → En} {x : Str} (hN : X.N.Nodup) (hi : VI X tg iter env (xs.map f))
    (hb : ∀ x, x ∈ xs → Blk X scope fun X' => GC X' tg (f x) (wipE env (own.map (·.2))) js (bnd x)) (ht : ∀ x, x ∈ xs → Blk X scope fun X' => TC X' cnd (bnd x) (p x)) (he : ∀ x, x ∈ xs → p x = true → Blk X scope fun X' => VC X' elt (bnd x) (.dat (g x))) (hz : xs.length < 16777216)
    (h : ∀ v, D.nx (env.set i (some (.own v (olst X.K ((xs.filter p).map g))))))
    (ok : BlkOk X.N X.env.scope scope own := by exact blkOk_by (by rfl)) (hj : ∀ j ∈ js, j ∈ own.map (·.2) := by decide) (hc : X.calm = true := by rfl)
    (hy : X.N[i]? = some x := by rfl) (hyl : X.env.scope.names.lookup x = some .local := by rfl)
    (hsw : swapsWith (.ListComp elt [⟨tg, iter, [cnd], 0⟩] scope lpos) (some (.Name x p')) pos.line X.env = pure true := by exact sw_true rfl rfl rfl (by decide +kernel))
    (hs : ∀ x, foldedSetIterable iter X.env x = pure x := by intro _; rfl) : WS X W (.Assign [.Name x p'] (.ListComp elt [⟨tg, iter, [cnd], 0⟩] scope lpos) pos) D env :=
  ws_setLc (own := own) i xs f p g js bnd hc hN ok hi hj hb (fun x hx s H C cl fp => ts_one (ht x hx s H C cl fp)) he hz h hy hyl hsw hs
end
end
theorem shs (x : String) (h : PyData.strOk (Str.ofString x) = true := by decide +kernel) : SeqAt.shaped (.str (Str.ofString x)) = true := (shaped_str h).1
theorem sh2 {a b : PyData} (h1 : SeqAt.shaped a = true ∧ a.depth ≤ 0) (h2 : SeqAt.shaped b = true ∧ b.depth ≤ 0) : SeqAt.shaped (.tuple [a, b]) = true :=
  (shaped_tup (n := 0) (by decide) fun d hd => by
    rcases List.mem_cons.mp hd with rfl | hd
    · exact h1
    · rw [List.mem_singleton.mp hd]; exact h2).1
theorem sh3 {a b c : PyData} (h1 : SeqAt.shaped a = true ∧ a.depth ≤ 0) (h2 : SeqAt.shaped b = true ∧ b.depth ≤ 0) (h3 : SeqAt.shaped c = true ∧ c.depth ≤ 0) : SeqAt.shaped (.tuple [a, b, c]) = true :=
  (shaped_tup (n := 0) (by decide) fun d hd => by
    rcases List.mem_cons.mp hd with rfl | hd
    · exact h1
    rcases List.mem_cons.mp hd with rfl | hd
    · exact h2
    · rw [List.mem_singleton.mp hd]; exact h3).1
theorem eqv_tup2 (a b c d : PyData) : PyData.eqv (.tuple [a, b]) (.tuple [c, d]) = (PyData.eqv a c && PyData.eqv b d) := by
  simp [PyData.eqv, PyData.eqvAll]
theorem eqv_tup3 (a b c d e f : PyData) : PyData.eqv (.tuple [a, b, c]) (.tuple [d, e, f]) = (PyData.eqv a d && (PyData.eqv b e && PyData.eqv c f)) := by
  simp [PyData.eqv, PyData.eqvAll]
end G


set_option maxRecDepth 100000
set_option maxHeartbeats 4000000
/-! what is one's own: known from now on, lent, changed -/
namespace G
open PySem PySem.Spec PyProof.Rows L2
open Classical in
noncomputable def cutF (F : Hp) (S : Addr → Prop) : Hp := fun a => if S a then none else F a
theorem cutF_yes {F : Hp} {S : Addr → Prop} {a : Addr} (h : S a) : cutF F S a = none := if_pos h
theorem cutF_no {F : Hp} {S : Addr → Prop} {a : Addr} (h : ¬ S a) : cutF F S a = F a := if_neg h
/-- what a resource is, as data; its cells are lists -/
structure Frz (K : PySem.W.Frag) (R : Rs) (d : PyData) : Prop where
  frz : ∀ {F H : Hp} {v : V} {S : Addr → Prop}, Same F H → R.At F H v S → (∀ a, S a → F a = none) → ∃ F', Same F F' ∧ Same F' H ∧ (∀ a o, F' a = some o → F a = some o ∨ S a) ∧ Dp K F' v d
  lists : ∀ {F H : Hp} {v : V} {S : Addr → Prop}, R.At F H v S → ∀ a, S a → ∃ xs, H a = some (.lst xs)
theorem frz_olst {K : PySem.W.Frag} {ds : List PyData} : Frz K (olst K ds) (.list ds) where
  frz := fun {F H v S} s ⟨a, xs, e, h1, h2, h3⟩ hn => by
    subst e
    have nF : F a = none := hn a ((h3 a).mpr rfl)
    have sf : Same F (upd F a (.lst xs)) := fun b o e => by rw [upd_ne (ne_of_none e nF)]; exact e
    refine ⟨upd F a (.lst xs), sf, fun b o e => ?_, fun b o e => ?_, .lst (SqL.of upd_same) (dps_mono sf h2)⟩
    · by_cases hb : b = a
      · subst hb
        rw [upd_same] at e
        rw [h1]
        exact e
      · rw [upd_ne hb] at e
        exact s b o e
    · by_cases hb : b = a
      · exact .inr ((h3 b).mpr hb)
      · rw [upd_ne hb] at e
        exact .inl e
  lists := fun {F H v S} ⟨a, xs, e, h1, h2, h3⟩ b hb => by
    rw [(h3 b).mp hb]
    exact ⟨xs, h1⟩
mutual
def thin : PyData → Bool
  | .none => true
  | .bool _ => true
  | .int _ => true
  | .str _ => true
  | .tuple xs => thins xs
  | .list _ => false
  | .dict _ => false
def thins : List PyData → Bool
  | [] => true
  | x :: xs => thin x && thins xs
end
section
variable {K : PySem.W.Frag} {F F' : Hp}
theorem rd_cut {S : Addr → Prop} (hS : ∀ a, S a → ∃ xs, F a = some (.lst xs)) {a : Addr} {xs : List V} (h : SqT K F a xs) : SqT K (cutF F S) a xs := by
  rcases h with (h | ⟨o, h⟩) | h
  · refine .inl (.inl ?_)
    rw [cutF_no (fun z => by obtain ⟨ys, e⟩ := hS a z; rw [e] at h; cases h)]
    exact h
  · refine .inl (.inr ⟨o, ?_⟩)
    rw [cutF_no (fun z => by obtain ⟨ys, e⟩ := hS a z; rw [e] at h; cases h)]
    exact h
  · exact .inr h
mutual
theorem dp_cut {S : Addr → Prop} (hS : ∀ a, S a → ∃ xs, F a = some (.lst xs)) : ∀ {v : V} {d : PyData}, Dp K F v d → thin d = true → Dp K (cutF F S) v d
  | _, _, .non, _ => .non
  | _, _, .bl b, _ => .bl b
  | _, _, .int i, _ => .int i
  | _, _, .str x, _ => .str x
  | _, _, .lst h hs, e => by simp [thin] at e
  | _, _, .tup h hs, e => .tup (rd_cut hS h) (dps_cut hS hs (by simpa [thin] using e))
theorem dps_cut {S : Addr → Prop} (hS : ∀ a, S a → ∃ xs, F a = some (.lst xs)) : ∀ {vs : List V} {ds : List PyData}, DpAll K F vs ds → thins ds = true → DpAll K (cutF F S) vs ds
  | _, _, .nil, _ => .nil
  | _, _, .cons h hs, e => by
    rw [thins, Bool.and_eq_true] at e
    exact .cons (dp_cut hS h e.1) (dps_cut hS hs e.2)
end
end
def Thin (K : PySem.W.Frag) : Ct → Prop
  | .dat d => thin d = true
  | .pin _ => False
  | .own _ R => ∃ ds, R = olst K ds ∧ thins ds = true
section
variable {X : Cx} {W : WX} {env : En} {c : Ct} {d d1 : PyData} {e : Expr} {v : V} {R : Rs} {i : Nat} {D : DE} {sts : List Stmt} {b : Bool}
theorem Sit.frz {K : PySem.W.Frag} {F H : Hp} {σ : St} {S : Foot} (s : Sit K F H σ S env) (h : env[i]? = some (some (.own v R))) (f : Frz K R d) :
    ∃ F' S', Sit K F' H σ S' (env.set i (some (.dat d))) ∧ Same F F' ∧ (∀ a o, F' a = some o → F a = some o ∨ S i a) ∧ (∀ a, tot S' a → tot S a) ∧ (∀ a, S i a → ∃ xs, H a = some (.lst xs)) := by
  obtain ⟨v', e1, h1⟩ := s.slot i _ h
  obtain ⟨ev, hR, hn⟩ := h1
  have ev : v' = v := ev
  subst ev
  have hi : i < env.length := (List.getElem?_eq_some_iff.mp h).1
  obtain ⟨F', a1, a2, a3, a4⟩ := f.frz s.sub hR (fun a z => (hn a z).1)
  refine ⟨F', fun j => if j = i then fun _ => False else S j, ⟨a2, fun j c' e => ?_, fun j k a hj hk => ?_, by simp [s.len], fun j hj a z => ?_⟩, a1, a3, fun a z => ?_, fun a z => f.lists hR a z⟩
  · by_cases hji : j = i
    · subst hji
      rw [List.getElem?_set_self hi] at e
      cases e
      exact ⟨v', e1, a4, by simp⟩
    · rw [List.getElem?_set_ne (Ne.symm hji)] at e
      obtain ⟨w, w1, w2⟩ := s.slot j c' e
      refine ⟨w, w1, ?_⟩
      simp only [hji, if_false]
      refine w2.keep a1 (fun _ _ => rfl) fun a z => ?_
      cases q : F' a with
      | none => rfl
      | some u =>
        rcases a3 a u q with y | y
        · rw [(w2.no z).1] at y; cases y
        · exact absurd (s.dis j i a z y) hji
  · by_cases hji : j = i
    · simp only [hji, if_true] at hj
    · by_cases hki : k = i
      · simp only [hki, if_true] at hk
      · simp only [hji, hki, if_false] at hj hk
        exact s.dis j k a hj hk
  · by_cases hji : j = i
    · simp only [hji, if_true] at z
    · simp only [hji, if_false] at z
      exact s.emp j (fun c' e => hj c' (by rw [List.getElem?_set_ne (Ne.symm hji)]; exact e)) a z
  · obtain ⟨j, z⟩ := z
    by_cases hji : j = i
    · simp only [hji, if_true] at z
    · simp only [hji, if_false] at z
      exact ⟨j, z⟩
/-- from here on slot i is known data -/
theorem wb_frz (i : Nat) {v : V} {R : Rs} {d : PyData} (f : Frz X.K R d) (h : env[i]? = some (some (.own v R)) := by rfl) (k : WB X W sts D (env.set i (some (.dat d)))) : WB X W sts D env := fun F H σ S s E m => by
  obtain ⟨F', S', s', a1, a3, t, _⟩ := s.frz h f
  exact k F' H σ S' s' E (m.from ⟨a1, fun _ _ e _ => e, fun a o e => (a3 a o e).elim .inl fun z => .inr (.inr ⟨i, z⟩), fun a z => .inl (t a z)⟩)
/-- slot i is lent to a pure expression -/
theorem lend {F H F1 F2 H2 : Hp} {σ : St} {S S1 : Foot} (s : Sit X.K F H σ S env) (a1 : Same F F1) (a3 : ∀ a o, F1 a = some o → F a = some o ∨ S i a) (g : Grow F1 H F2 H2) : Grow F H (cutF F2 (S i)) H2 :=
  ⟨fun a o e => by rw [cutF_no (fun z => by rw [(s.no z).1] at e; cases e)]; exact g.f a o (a1 a o e), g.h, fun a o e => by
    by_cases z : S i a
    · rw [cutF_yes z] at e; cases e
    · rw [cutF_no z] at e; exact g.sub a o e, fun a o e => by
    by_cases z : S i a
    · rw [cutF_yes z] at e; cases e
    · rw [cutF_no z] at e
      rcases g.new a o e with y | y
      · exact (a3 a o y).elim .inl fun q => absurd q z
      · exact .inr y⟩
theorem vc_lend (i : Nat) {v : V} {R : Rs} {d : PyData} (f : Frz X.K R d) (th : Thin X.K c) (k : VC X e (env.set i (some (.dat d))) c) (h : env[i]? = some (some (.own v R)) := by rfl) : VC X e env c := fun F H σ S s Q kq => by
  obtain ⟨F1, S1, s1, a1, a3, t, ls⟩ := s.frz h f
  refine k F1 H σ S1 s1 Q fun v' F2 H2 Sv g hv fr => ?_
  refine kq v' (cutF F2 (S i)) H2 Sv (lend (S1 := S1) s a1 a3 g) ?_ fr
  -- the cells lent may be unknown to F2: dp_cut asks of those known alone
  have hS : ∀ (d : PyData) (w : V), Dp X.K F2 w d → thin d = true → Dp X.K (cutF F2 (S i)) w d := fun d w hd ht => by
    have e : cutF F2 (S i) = cutF F2 (fun a => S i a ∧ ∃ o, F2 a = some o) := by
      funext a
      by_cases z : S i a
      · rw [cutF_yes z]
        by_cases y : ∃ o, F2 a = some o
        · rw [cutF_yes ⟨z, y⟩]
        · rw [cutF_no (fun q => y q.2)]
          cases q : F2 a with
          | none => rfl
          | some o => exact absurd ⟨o, q⟩ y
      · rw [cutF_no z, cutF_no (fun q => z q.1)]
    rw [e]
    refine dp_cut (fun a z => ?_) hd ht
    obtain ⟨xs, q⟩ := ls a z.1
    obtain ⟨o, y⟩ := z.2
    have := g.sub a o y
    rw [g.h a _ q] at this
    cases this
    exact ⟨xs, y⟩
  cases c with
  | dat d' => exact ⟨hS d' v' hv.1 th, hv.2⟩
  | pin P => exact th.elim
  | own w R' =>
    obtain ⟨ds, rfl, hth⟩ := th
    obtain ⟨e1, ⟨a, xs, e2, h2, h3, h4⟩, h5⟩ := hv
    refine ⟨e1, ⟨a, xs, e2, h2, ?_, h4⟩, fun b z => ⟨?_, (h5 b z).2⟩⟩
    · have : ∀ {xs : List V} {ds : List PyData}, DpAll X.K F2 xs ds → thins ds = true → DpAll X.K (cutF F2 (S i)) xs ds := by
        intro xs ds hd
        induction ds generalizing xs with
        | nil => intro _; cases hd; exact .nil
        | cons d0 ds0 ih =>
          intro ht
          rw [thins, Bool.and_eq_true] at ht
          cases hd with
          | cons q1 q2 => exact .cons (hS _ _ q1 ht.1) (ih q2 ht.2)
      exact this h3 hth
    · by_cases z' : S i b
      · exact cutF_yes z'
      · rw [cutF_no z']; exact (h5 b z).1
theorem vo_lend (i : Nat) {v : V} {R : Rs} {d : PyData} {ds : List PyData} (f : Frz X.K R d) (th : thins ds = true) (k : VO X e (env.set i (some (.dat d))) (olst X.K ds)) (h : env[i]? = some (some (.own v R)) := by rfl) : VO X e env (olst X.K ds) := fun F H σ S s Q kq => by
  obtain ⟨F1, S1, s1, a1, a3, t, ls⟩ := s.frz h f
  refine k F1 H σ S1 s1 Q fun v' F2 H2 Sv g hv fr => ?_
  refine kq v' (cutF F2 (S i)) H2 Sv (lend (S1 := S1) s a1 a3 g) ?_ fr
  have hS : ∀ (d : PyData) (w : V), Dp X.K F2 w d → thin d = true → Dp X.K (cutF F2 (S i)) w d := fun d w hd ht => by
    have e : cutF F2 (S i) = cutF F2 (fun a => S i a ∧ ∃ o, F2 a = some o) := by
      funext a
      by_cases z : S i a
      · rw [cutF_yes z]
        by_cases y : ∃ o, F2 a = some o
        · rw [cutF_yes ⟨z, y⟩]
        · rw [cutF_no (fun q => y q.2)]
          cases q : F2 a with
          | none => rfl
          | some o => exact absurd ⟨o, q⟩ y
      · rw [cutF_no z, cutF_no (fun q => z q.1)]
    rw [e]
    refine dp_cut (fun a z => ?_) hd ht
    obtain ⟨xs, q⟩ := ls a z.1
    obtain ⟨o, y⟩ := z.2
    have := g.sub a o y
    rw [g.h a _ q] at this
    cases this
    exact ⟨xs, y⟩
  obtain ⟨e1, ⟨a, xs, e2, h2, h3, h4⟩, h5⟩ := hv
  refine ⟨e1, ⟨a, xs, e2, h2, ?_, h4⟩, fun b z => ⟨?_, (h5 b z).2⟩⟩
  · have : ∀ {xs : List V} {ds : List PyData}, DpAll X.K F2 xs ds → thins ds = true → DpAll X.K (cutF F2 (S i)) xs ds := by
      intro xs ds hd
      induction ds generalizing xs with
      | nil => intro _; cases hd; exact .nil
      | cons d0 ds0 ih =>
        intro ht
        rw [thins, Bool.and_eq_true] at ht
        cases hd with
        | cons q1 q2 => exact .cons (hS _ _ q1 ht.1) (ih q2 ht.2)
    exact this h3 th
  · by_cases z' : S i b
    · exact cutF_yes z'
    · rw [cutF_no z']; exact (h5 b z).1
theorem tc_lend (i : Nat) {v : V} {R : Rs} {d : PyData} (f : Frz X.K R d) (k : TC X e (env.set i (some (.dat d))) b) (h : env[i]? = some (some (.own v R)) := by rfl) : TC X e env b := fun F H σ S s Q kq => by
  obtain ⟨F1, S1, s1, a1, a3, t, ls⟩ := s.frz h f
  exact k F1 H σ S1 s1 Q fun F2 H2 g => kq _ H2 (lend (S1 := S1) s a1 a3 g)
/-! ### one's own lists change -/
theorem set_same {σ : St} {i : Nat} {v : V} (h : σ[i]? = some (some v)) : σ.set i (some v) = σ := by
  apply List.ext_getElem?
  intro j
  by_cases hj : i = j
  · subst hj
    rw [List.getElem?_set, if_pos rfl, h]
    simp [(List.getElem?_eq_some_iff.mp h).1]
  · rw [List.getElem?_set_ne hj]
/-- the own list at a becomes zs -/
theorem Sit.change {K : PySem.W.Frag} {F H : Hp} {σ : St} {S : Foot} {a : Addr} {xs zs : List V} {ds es : List PyData} (s : Sit K F H σ S env) (h : env[i]? = some (some (.own (.ref a) (olst K ds)))) (hz : DpAll K F zs es) :
    Sit K F (upd H a (.lst zs)) σ S (env.set i (some (.own (.ref a) (olst K es)))) ∧ Prog F H (tot S) F (upd H a (.lst zs)) (tot S) := by
  obtain ⟨v', e1, ev, ⟨a', xs', e2, h2, h3, h4⟩, hn⟩ := s.slot i _ h
  have ev : v' = .ref a := ev
  subst ev
  cases e2
  have hi : i < env.length := (List.getElem?_eq_some_iff.mp h).1
  have ia : S i a := (h4 a).mpr rfl
  refine ⟨⟨fun b o e => ?_, fun j c' e => ?_, s.dis, by simp [s.len], fun j hj b => ?_⟩, ⟨Same.refl F, fun b o e nb => ?_, fun b o e => .inl e, fun b z => .inl z⟩⟩
  · rw [upd_ne (fun z => by subst z; rw [(s.no ia).1] at e; cases e)]
    exact s.sub b o e
  · by_cases hji : j = i
    · subst hji
      rw [List.getElem?_set_self hi] at e
      cases e
      exact ⟨_, e1, rfl, ⟨a, zs, rfl, upd_same, hz, h4⟩, fun b z => by
        have := (h4 b).mp z
        subst this
        exact ⟨(hn _ z).1, _, upd_same⟩⟩
    · rw [List.getElem?_set_ne (Ne.symm hji)] at e
      obtain ⟨w, w1, w2⟩ := s.slot j c' e
      exact ⟨w, w1, w2.keep (Same.refl F) (fun b z => upd_ne (fun y => by subst y; exact hji (s.dis j i b z ia))) fun b z => (w2.no z).1⟩
  · by_cases hji : j = i
    · subst hji
      exact absurd (List.getElem?_set_self hi) (hj _)
    · exact s.emp j (fun c' e => hj c' (by rw [List.getElem?_set_ne (Ne.symm hji)]; exact e)) b
  · rw [upd_ne (fun z => by subst z; exact nb ⟨i, ia⟩)]
    exact e
/-- xs.append(e) -/
theorem ws_app (i : Nat) {v : V} {ds : List PyData} {el : Expr} {p1 p2 pos pos2 : Pos} (hel : VC X el env (.dat d)) (hz : ds.length < 16777216) (k : D.nx (env.set i (some (.own v (olst X.K (ds ++ [d])))))) (h : env[i]? = some (some (.own v (olst X.K ds))) := by rfl) {x : Str} (hN : X.N[i]? = some x := by rfl)
    (hv : Vis X.env.scope x := by first | exact Or.inl rfl | exact Or.inr (Or.inl rfl) | exact Or.inr (Or.inr rfl)) (hd : (x == ("__debug__" : Str)) = false := by decide) (hcd : (x == ("__classdict__" : Str)) = false := by decide)
    (hbm : PE X (.Call (.Attribute (.Name x p1) (Str.ofString "append") p2) [el] [] pos) (tBM X.K "list" rAppend (tVar i) (tCons (wE X el) tNil)) := by exact pe_bm PySem.F.plainAttrs_list PySem.F.slot_list_append PySem.F.type_list_append mt_append (pv _) (pa_cons pwE pa_nil))
    (hs : swapsWith (.Call (.Attribute (.Name x p1) (Str.ofString "append") p2) [el] [] pos) none pos2.line X.env = pure false := by rfl) :
    WS X W (.Expr (.Call (.Attribute (.Name x p1) (Str.ofString "append") p2) [el] [] pos) pos2) D env := fun F H σ S s E m => by
  obtain ⟨v', e1, ev, ⟨a, xs, e2, h2, h3, h4⟩, hn⟩ := s.slot i _ h
  have ev : v' = v := ev
  subst ev
  subst e2
  refine ⟨_, ps_expr hbm hs, .ref a, e1, .inl ⟨rfl, xs, SqL.of h2⟩, hel F H σ S s _ fun w F1 H1 _ g hw _ => ?_⟩
  have s1 := s.grow g
  refine ⟨a, xs, w, rfl, rfl, g.h _ _ h2, by rw [sizeLine_eq, dps_length h3]; exact hz, ?_⟩
  obtain ⟨s2, p2⟩ := s1.change (xs := xs) (zs := xs ++ [w]) h (dps_append (dps_mono g.f h3) (.cons hw.1 .nil))
  exact m.nx F1 _ σ S _ (g.prog.trans p2) s2 k
/-- xs[j] = e -/
theorem ws_setIx (i : Nat) {v : V} {ix val : Expr} {j : Nat} {p1 p2 pos : Pos} (hval : EC X W val (fun c env' => ∃ d ds', c = .dat d ∧ env'[i]? = some (some (.own v (olst X.K ds'))) ∧ VC X ix env' (.dat (.int (j : Int))) ∧ j < ds'.length ∧ D.nx (env'.set i (some (.own v (olst X.K (ds'.set j d)))))) D.ex env) {x : Str} (hN : X.N[i]? = some x := by rfl)
    (hv : Vis X.env.scope x := by first | exact Or.inl rfl | exact Or.inr (Or.inl rfl) | exact Or.inr (Or.inr rfl)) (hd : (x == ("__debug__" : Str)) = false := by decide) (hcd : (x == ("__classdict__" : Str)) = false := by decide)
    (hps : ∀ tv ti, PE X val tv → PE X ix ti → PS X (.Assign [.Subscript (.Name x p1) ix p2] val pos) (tAsg tv (gSub (tVar i) ti rSetL)) := by exact fun _ _ h1 h2 => ps_asg h1 (pg_sub (pv _) h2 set_list)) :
    WS X W (.Assign [.Subscript (.Name x p1) ix p2] val pos) D env := fun F H σ S s E m => by
  refine ⟨_, hps _ _ pwE pwE, hval F H σ S s _ (fun w F1 H1 S1 Sv c env' p s1 hw dj ⟨d, ds', ec, h, hix, hj, k⟩ => ?_) fun cls od F' H' S' x env' p s' xh q => m.ex cls od F' H' σ S' x env' p s' xh q⟩
  subst ec
  obtain ⟨v', e1, ev, ⟨a, xs, e2, h2, h3, h4⟩, hn⟩ := s1.slot i _ h
  have ev : v' = v := ev
  subst ev
  subst e2
  refine ⟨.ref a, e1, hix F1 H1 σ S1 s1 _ fun u F2 H2 _ g2 hu _ => ?_⟩
  cases hu.1
  have s2 := s1.grow g2
  have ln := dps_length h3
  refine ⟨a, xs, (j : Int), j, rfl, rfl, g2.h _ _ h2, ?_, ?_⟩
  · unfold ixN
    rw [if_pos (by omega), if_pos (by omega)]
    simp
  · obtain ⟨s3, p3⟩ := s2.change (xs := xs) (zs := xs.set j w) h (dps_set (dp_mono g2.f hw.1) j (dps_mono g2.f h3))
    exact m.nx F2 _ σ S1 _ (((p.weak (fun _ z => z) fun a z => .inl (.inl z)).trans g2.prog).trans p3) s3 k
end
end G
namespace G
open PySem PySem.Spec PyProof.Rows L2
/-- a block by what holds behind its first statement -/
theorem wb_mid {X : Cx} {W : WX} {st : Stmt} {rest : List Stmt} {D : DE} {env : En} (Q : En → Prop) (h1 : WS X W st { D with nx := Q } env) (h2 : ∀ env', Q env' → WB X W rest D env') : WB X W (st :: rest) D env :=
  wb_cons fun F H σ S s E m => h1 F H σ S s E ⟨fun F' H' σ' S' env' p s' q => m.nx F' H' σ' S' env' p s' (h2 env' q), m.rt, m.bk, m.ct, m.ex⟩
end G


set_option maxRecDepth 100000
set_option maxHeartbeats 4000000
/-! how many unlike texts: len({x: .. for x in ..}) -/
namespace G
open PySem PySem.Spec PyProof.Rows L2
def dset (xs : List Str) : List Str := xs.foldl (fun acc x => if x ∈ acc then acc else acc ++ [x]) []
theorem dset_succ (xs : List Str) (x : Str) : dset (xs ++ [x]) = if x ∈ dset xs then dset xs else dset xs ++ [x] := by
  unfold dset
  rw [List.foldl_append]
  rfl
theorem dset_len (xs : List Str) : (dset xs).length ≤ xs.length := by
  have key : ∀ (ys acc : List Str), (ys.foldl (fun acc x => if x ∈ acc then acc else acc ++ [x]) acc).length ≤ acc.length + ys.length := by
    intro ys
    induction ys with
    | nil => intro acc; simp
    | cons y ys ih =>
      intro acc
      rw [List.foldl_cons]
      refine Nat.le_trans (ih _) ?_
      by_cases h : y ∈ acc
      · rw [if_pos h, List.length_cons]; omega
      · rw [if_neg h, List.length_append, List.length_cons, List.length_cons, List.length_nil]; omega
  simpa [dset] using key xs []
open Classical in
theorem putK_keys (kvs : List (Key × V)) (k : Key) (v : V) : (putK kvs k v).map (·.1) = if k ∈ kvs.map (·.1) then kvs.map (·.1) else kvs.map (·.1) ++ [k] := by
  unfold putK
  by_cases h : k ∈ kvs.map (·.1)
  · have h' : (kvs.any fun kv => decide (kv.1 = k)) = true := by
      obtain ⟨p, hp, e⟩ := List.mem_map.mp h
      exact List.any_eq_true.mpr ⟨p, hp, by simp [e]⟩
    rw [if_pos h', if_pos h, List.map_map]
    apply List.map_congr_left
    intro p _
    show (if p.1 = k then (p.1, v) else p).1 = p.1
    split <;> rfl
  · have h' : ¬ (kvs.any fun kv => decide (kv.1 = k)) = true := fun z => by
      obtain ⟨p, hp, e⟩ := List.any_eq_true.mp z
      exact h (List.mem_map.mpr ⟨p, hp, of_decide_eq_true e⟩)
    rw [if_neg h', if_neg h, List.map_append]
    rfl
section
variable {X : Cx} {env : En} {tg iter kx vx : Expr} {scope : Scope} {own : List (Str × Nat)} {pos p2 p : Pos} {vd : PyData}
theorem vc_lenDc (xs : List Str) {js : List Nat} {bnd : Str → En} (hN : X.N.Nodup) (hm : X.mg "len" = none) (hi : VI X tg iter env (xs.map .str))
    (hb : ∀ x, x ∈ xs → Blk X scope fun X' => GC X' tg (.str x) (wipE env (own.map (·.2))) js (bnd x)) (hk : ∀ x, x ∈ xs → Blk X scope fun X' => VC X' kx (bnd x) (.dat (.str x))) (hv : ∀ x, x ∈ xs → Blk X scope fun X' => VC X' vx (bnd x) (.dat vd)) (hz : xs.length ≤ 1000)
    (ok : BlkOk X.N X.env.scope scope own := by exact blkOk_by (by rfl)) (hj : ∀ j ∈ js, j ∈ own.map (·.2) := by decide) (hc : X.calm = true := by rfl) (hg : Gl X "len" := by rfl)
    (hs : ∀ x, foldedSetIterable iter X.env x = pure x := by intro _; rfl) (he : starEach [.DictComp kx vx [⟨tg, iter, [], 0⟩] scope pos] X.env = (false, eval (.DictComp kx vx [⟨tg, iter, [], 0⟩] scope pos) X.env) :: starEach [] X.env := by rfl) (hpl : (backTo p2 (starEach [] X.env)).any (·.1) = false := by rfl) :
    VC X (.Call (.Name "len" p) [.DictComp kx vx [⟨tg, iter, [], 0⟩] scope pos] [] p2) env (.dat (.int ((dset xs).length : Int))) := fun F H σ S s Q k => by
  refine ⟨_, pe_callB call_lenD hg hm PySem.boot_len (pa_cons (pe_dc (own := own) hc hN (⟨fun pins s σ H R I ⟨t, h, q⟩ => h.run pins s σ H R I q⟩ : PI X tg iter (wI X tg iter)) ok pbG (fun _ _ _ _ _ => pts_nil) pbE pbE hs) pa_nil he) (by decide) (by decide) he hpl, ?_⟩
  refine hi F H σ S s _ fun J F1 H1 g1 y D hD => ?_
  have s1 := s.grow g1
  obtain ⟨Sw, sw, tw⟩ := s1.wipe (own.map (·.2))
  have hl : (xs.map PyData.str).length = xs.length := List.length_map ..
  let Pv : Nat → Hp → Prop := fun i H' => ∃ F' kvs, H' D = some (.dK kvs) ∧ kvs.map (·.1) = (dset (xs.take i)).map Sum.inr ∧ F' D = none ∧ Grow F1 H1 F' H'
  refine ⟨fun i m H' => m = xs.length - i ∧ i ≤ xs.length ∧ Pv i H', ⟨xs.length, rfl, Nat.zero_le _, F1, [], upd_same, rfl, g1.sub.free hD, Grow.made g1.sub hD⟩, ?_⟩
  rintro i m H' ⟨rfl, hi', F', kvs, hkv, hks, nF, g2⟩
  by_cases hlt : i < xs.length
  · refine .inr ⟨y.go i F' H' (by omega) g2.f g2.sub, Pv (i + 1), fun H'' p' => ⟨xs.length - (i + 1), by omega, rfl, hlt, p'⟩, fun x H'' hy => ?_⟩
    obtain ⟨d, F2, hd, g3, hx⟩ := y.yld i F' H' x H'' (by omega) g2.f g2.sub hy
    have hxi : xs[i]? = some xs[i] := List.getElem?_eq_getElem hlt
    have hmem : xs[i] ∈ xs := List.getElem_mem hlt
    have htk : xs.take (i + 1) = xs.take i ++ [xs[i]] := by rw [List.take_succ, hxi] <;> rfl
    have hd' : d = .str xs[i] := by
      rw [List.getElem?_map, hxi] at hd
      exact (Option.some.inj hd).symm
    subst hd'
    have s2 : Sit X.K F2 H'' (L2.wipe σ (own.map (·.2))) Sw (wipE env (own.map (·.2))) := sw.grow (g2.trans g3)
    intro sS sH sC scl sfp
    refine hb _ hmem sS sH sC scl sfp F2 H'' _ Sw x s2 hx _ fun σ2 S2 s3 t2 o2 => ⟨wipe_of o2 hj, ?_⟩
    show (if true = true then bE X scope kx σ2 H'' _ else Pv (i + 1) H'')
    rw [if_pos rfl]
    intro sS sH sC scl sfp
    refine hk _ hmem sS sH sC scl sfp F2 H'' σ2 S2 s3 _ fun kv F3 H3 _ g4 hkv' _ => ?_
    intro sS sH sC scl sfp
    refine hv _ hmem sS sH sC scl sfp F3 H3 σ2 S2 (s3.grow g4) _ fun vv F4 H4 _ g5 hvv _ => ?_
    cases hkv'.1
    have nD : ∀ {Fa Ha Fb Hb : Hp}, Fa D = none → Ha D = some (.dK kvs) → Grow Fa Ha Fb Hb → Fb D = none := fun {Fa Ha Fb Hb} h1 h2 g => by
      cases q : Fb D with
      | none => rfl
      | some o =>
        rcases g.new D o q with z | z
        · rw [h1] at z; cases z
        · rw [h2] at z; cases z
    have q2 := g3.h _ _ hkv
    have q3 := g4.h _ _ q2
    have q4 := g5.h _ _ q3
    have n4 : F4 D = none := nD (nD (nD nF hkv g3) q2 g4) q3 g5
    have hlen : kvs.length ≤ i := by
      have := congrArg List.length hks
      rw [List.length_map, List.length_map] at this
      rw [this]
      refine Nat.le_trans (dset_len _) ?_
      rw [List.length_take]
      omega
    refine ⟨kvs, Sum.inr xs[i], rfl, q4, by rw [sizeLine_eq]; omega, F4, _, upd_same, ?_, n4, ?_⟩
    · rw [putK_keys, hks, htk, dset_succ]
      by_cases hm : xs[i] ∈ dset (xs.take i)
      · rw [if_pos (c := xs[i] ∈ dset (xs.take i)) hm, if_pos (List.mem_map.mpr ⟨_, hm, rfl⟩)]
      · rw [if_neg hm, if_neg (fun z => by obtain ⟨w, h1, h2⟩ := List.mem_map.mp z; cases h2; exact hm h1), List.map_append]
        rfl
    · have g6 := ((g2.trans g3).trans g4).trans g5
      exact ⟨g6.f, fun b o e => by rw [upd_ne (ne_of_none e hD)]; exact g6.h b o e, fun b o e => by rw [upd_ne (ne_of_none e n4)]; exact g6.sub b o e, g6.new⟩
  · have e : i = xs.length := by omega
    subst e
    refine .inl ⟨by have z := y.stop F' H' g2.f g2.sub; rw [hl] at z; exact z, ?_⟩
    rw [List.take_length] at hks
    refine ⟨D, kvs, rfl, hkv, ?_⟩
    have e2 : kvs.length = (dset xs).length := by
      have := congrArg List.length hks
      rwa [List.length_map, List.length_map] at this
    rw [e2]
    exact k _ F' H' (fun _ => False) (g1.trans g2) ⟨.int _, fun _ z => z⟩ fun _ z => z.elim
end
end G


set_option maxRecDepth 100000
set_option maxHeartbeats 4000000
/-! expressions with effects: calls that change what is one's own -/
namespace G
open PySem PySem.Spec PyProof.Rows L2
inductive Ar where
  | c (x : Ct)
  | slot (i : Nat) (v : V)
inductive HoldA (K : PySem.W.Frag) (F : Hp) : List V → List Ar → Prop
  | nil : HoldA K F [] []
  | dat {v d vs as} : Dp K F v d → HoldA K F vs as → HoldA K F (v :: vs) (.c (.dat d) :: as)
  | pin {v as vs} {P : Ps} : P.At F v → HoldA K F vs as → HoldA K F (v :: vs) (.c (.pin P) :: as)
  | slot {i v vs as} : HoldA K F vs as → HoldA K F (v :: vs) (.slot i v :: as)
def okA (env : En) : List Ar → Prop
  | [] => True
  | .c _ :: t => okA env t
  | .slot i v :: t => (∃ R, env[i]? = some (some (.own v R))) ∧ okA env t
def csA (env : En) : List Ar → List Ct
  | [] => []
  | .c x :: t => x :: csA env t
  | .slot i _ :: t => (match env[i]? with | some (some c) => c | _ => .dat .none) :: csA env t
def putA (env : En) : List Ar → List Ct → En
  | .c _ :: as, _ :: cs => putA env as cs
  | .slot i _ :: as, c :: cs => (putA env as cs).set i (some c)
  | _, _ => env
def slotsA : List Ar → List Nat
  | [] => []
  | .c _ :: t => slotsA t
  | .slot i _ :: t => i :: slotsA t
theorem csA_length (env : En) : ∀ as, (csA env as).length = as.length
  | [] => rfl
  | .c x :: t => by simp [csA, csA_length env t]
  | .slot i _ :: t => by simp [csA, csA_length env t]
theorem putA_length (env : En) : ∀ as cs, (putA env as cs).length = env.length
  | [], cs => by cases cs <;> rfl
  | .c x :: t, [] => rfl
  | .slot i _ :: t, [] => rfl
  | .c x :: t, c :: cs => putA_length env t cs
  | .slot i _ :: t, c :: cs => by simp [putA, putA_length env t cs]
theorem slotsA_mem : ∀ {as : List Ar} {j i : Nat} {v : V}, as[j]? = some (.slot i v) → i ∈ slotsA as
  | [], j, i, v, h => by simp at h
  | .c x :: t, 0, i, v, h => by simp at h
  | .c x :: t, j + 1, i, v, h => slotsA_mem (as := t) (j := j) (by simpa using h)
  | .slot i' v' :: t, 0, i, v, h => by simp at h; obtain ⟨rfl, rfl⟩ := h; simp [slotsA]
  | .slot i' v' :: t, j + 1, i, v, h => List.mem_cons_of_mem _ (slotsA_mem (as := t) (j := j) (by simpa using h))
theorem slotsA_inj : ∀ {as : List Ar} {j k i : Nat} {v w : V}, (slotsA as).Nodup → as[j]? = some (.slot i v) → as[k]? = some (.slot i w) → j = k
  | [], j, k, i, v, w, _, h, _ => by simp at h
  | .c x :: t, 0, k, i, v, w, _, h, _ => by simp at h
  | .c x :: t, j + 1, 0, i, v, w, _, _, h => by simp at h
  | .c x :: t, j + 1, k + 1, i, v, w, n, h, h' => congrArg (· + 1) (slotsA_inj (as := t) n (by simpa using h) (by simpa using h'))
  | .slot i' v' :: t, 0, 0, i, v, w, _, _, _ => rfl
  | .slot i' v' :: t, 0, k + 1, i, v, w, n, h, h' => by
    simp at h
    obtain ⟨rfl, rfl⟩ := h
    exact absurd (slotsA_mem (as := t) (j := k) (by simpa using h')) (List.nodup_cons.mp n).1
  | .slot i' v' :: t, j + 1, 0, i, v, w, n, h, h' => by
    simp at h'
    obtain ⟨rfl, rfl⟩ := h'
    exact absurd (slotsA_mem (as := t) (j := j) (by simpa using h)) (List.nodup_cons.mp n).1
  | .slot i' v' :: t, j + 1, k + 1, i, v, w, n, h, h' => congrArg (· + 1) (slotsA_inj (as := t) (List.nodup_cons.mp n).2 (by simpa using h) (by simpa using h'))
theorem putA_hit (env : En) : ∀ {as : List Ar} {cs : List Ct} {j i : Nat} {v : V}, (slotsA as).Nodup → as[j]? = some (.slot i v) → i < env.length → cs.length = as.length → (putA env as cs)[i]? = cs[j]?.map some
  | [], cs, j, i, v, _, h, _, _ => by simp at h
  | _ :: t, [], j, i, v, _, _, _, h => by simp at h
  | .c x :: t, c :: cs, 0, i, v, _, h, _, _ => by simp at h
  | .c x :: t, c :: cs, j + 1, i, v, n, h, hi, hl => putA_hit env (as := t) (cs := cs) n (by simpa using h) hi (by simpa using hl)
  | .slot i' v' :: t, c :: cs, 0, i, v, n, h, hi, hl => by
    simp at h
    obtain ⟨rfl, rfl⟩ := h
    simp [putA, List.getElem?_set, putA_length, hi]
  | .slot i' v' :: t, c :: cs, j + 1, i, v, n, h, hi, hl => by
    have hm : i ∈ slotsA t := slotsA_mem (as := t) (j := j) (by simpa using h)
    have hne : i' ≠ i := fun z => by subst z; exact (List.nodup_cons.mp n).1 hm
    simp only [putA]
    rw [List.getElem?_set_ne hne]
    exact putA_hit env (as := t) (cs := cs) (List.nodup_cons.mp n).2 (by simpa using h) hi (by simpa using hl)
theorem putA_miss (env : En) : ∀ {as : List Ar} {cs : List Ct} {i : Nat}, (∀ (j : Nat) (v : V), as[j]? ≠ some (.slot i v)) → (putA env as cs)[i]? = env[i]?
  | [], cs, i, _ => by cases cs <;> rfl
  | .c x :: t, [], i, _ => rfl
  | .slot _ _ :: t, [], i, _ => rfl
  | .c x :: t, c :: cs, i, h => putA_miss env (as := t) (cs := cs) fun j v z => h (j + 1) v (by simpa using z)
  | .slot i' v' :: t, c :: cs, i, h => by
    have hne : i' ≠ i := fun z => h 0 v' (by simp [z])
    simp only [putA]
    rw [List.getElem?_set_ne hne]
    exact putA_miss env (as := t) (cs := cs) fun j v z => h (j + 1) v (by simpa using z)
theorem HoldA.mono {K : PySem.W.Frag} {F F' : Hp} (e : Same F F') : ∀ {vs : List V} {as : List Ar}, HoldA K F vs as → HoldA K F' vs as
  | _, _, .nil => .nil
  | _, _, .dat h hs => .dat (dp_mono e h) (HoldA.mono e hs)
  | _, _, .pin h hs => .pin (Ps.mono _ e h) (HoldA.mono e hs)
  | _, _, .slot hs => .slot (HoldA.mono e hs)
theorem HoldA.length {K : PySem.W.Frag} {F : Hp} : ∀ {vs : List V} {as : List Ar}, HoldA K F vs as → vs.length = as.length
  | _, _, .nil => rfl
  | _, _, .dat _ hs => by rw [List.length_cons, List.length_cons, hs.length]
  | _, _, .pin _ hs => by rw [List.length_cons, List.length_cons, hs.length]
  | _, _, .slot hs => by rw [List.length_cons, List.length_cons, hs.length]
theorem HoldA.get {K : PySem.W.Frag} {F H : Hp} {env : En} : ∀ {vs : List V} {as : List Ar}, HoldA K F vs as → okA env as → ∀ {j : Nat} {c : Ct}, (csA env as)[j]? = some c →
    ∃ v, vs[j]? = some v ∧ ((as[j]? = some (.c c) ∧ Hold K F H v (fun _ => False) c) ∨ ∃ i R, as[j]? = some (.slot i v) ∧ c = .own v R ∧ env[i]? = some (some (.own v R)))
  | _, _, .nil, _, j, c, h => by simp [csA] at h
  | _, _, .dat (v := v) a b, ok, 0, c, h => by simp [csA] at h; subst h; exact ⟨v, rfl, .inl ⟨rfl, a, fun _ z => z⟩⟩
  | _, _, .dat a b, ok, j + 1, c, h => by
    obtain ⟨v, h1, h2⟩ := HoldA.get (H := H) b ok (j := j) (c := c) (by simpa [csA] using h)
    exact ⟨v, by simpa using h1, by simpa using h2⟩
  | _, _, .pin (v := v) a b, ok, 0, c, h => by simp [csA] at h; subst h; exact ⟨v, rfl, .inl ⟨rfl, a, fun _ z => z⟩⟩
  | _, _, .pin a b, ok, j + 1, c, h => by
    obtain ⟨v, h1, h2⟩ := HoldA.get (H := H) b ok (j := j) (c := c) (by simpa [csA] using h)
    exact ⟨v, by simpa using h1, by simpa using h2⟩
  | _, _, .slot (i := i) (v := v) b, ok, 0, c, h => by
    obtain ⟨⟨R, e⟩, _⟩ := ok
    simp [csA, e] at h
    subst h
    exact ⟨v, rfl, .inr ⟨i, R, rfl, rfl, e⟩⟩
  | _, _, .slot b, ok, j + 1, c, h => by
    obtain ⟨v, h1, h2⟩ := HoldA.get (H := H) b ok.2 (j := j) (c := c) (by simpa [csA] using h)
    exact ⟨v, by simpa using h1, by simpa using h2⟩
theorem HoldA.slotv {K : PySem.W.Frag} {F : Hp} : ∀ {vs : List V} {as : List Ar}, HoldA K F vs as → ∀ {j i : Nat} {v : V}, as[j]? = some (.slot i v) → vs[j]? = some v
  | _, _, .nil, j, i, v, h => by simp at h
  | _, _, .dat a b, 0, i, v, h => by simp at h
  | _, _, .dat a b, j + 1, i, v, h => by simpa using HoldA.slotv b (j := j) (by simpa using h)
  | _, _, .pin a b, 0, i, v, h => by simp at h
  | _, _, .pin a b, j + 1, i, v, h => by simpa using HoldA.slotv b (j := j) (by simpa using h)
  | _, _, .slot b, 0, i, v, h => by simp at h; simp [h.2]
  | _, _, .slot b, j + 1, i, v, h => by simpa using HoldA.slotv b (j := j) (by simpa using h)
theorem okA_get {env : En} : ∀ {as : List Ar}, okA env as → ∀ {j i : Nat} {v : V}, as[j]? = some (.slot i v) → ∃ R, env[i]? = some (some (.own v R))
  | [], _, j, i, v, h => by simp at h
  | .c _ :: t, ok, 0, i, v, h => by simp at h
  | .c _ :: t, ok, j + 1, i, v, h => okA_get (as := t) ok (j := j) (by simpa using h)
  | .slot _ _ :: t, ok, 0, i, v, h => by simp at h; obtain ⟨rfl, rfl⟩ := h; exact ok.1
  | .slot _ _ :: t, ok, j + 1, i, v, h => okA_get (as := t) ok.2 (j := j) (by simpa using h)
def S0A (S : Foot) (as : List Ar) : Foot := fun j a => ∃ i v, as[j]? = some (.slot i v) ∧ S i a
def S2A (S S' : Foot) (as : List Ar) : Foot := fun i a => (∃ j v, as[j]? = some (.slot i v) ∧ S' j a) ∨ ((∀ (j : Nat) (v : V), as[j]? ≠ some (.slot i v)) ∧ S i a)
section
variable {K : PySem.W.Frag} {F H F' H' : Hp} {σ : St} {S S' : Foot} {env : En} {vs : List V} {as : List Ar} {cs' : List Ct} {Sv : Addr → Prop}
theorem sitA (s : Sit K F H σ S env) (h : HoldA K F vs as) (ok : okA env as) (nd : (slotsA as).Nodup) : Sit K F H (vs.map some) (S0A S as) ((csA env as).map some) := by
  refine ⟨s.sub, fun j c e => ?_, fun j k a ⟨i, v, h1, h2⟩ ⟨i', v', h3, h4⟩ => ?_, by simp [h.length, csA_length], fun j hj a ⟨i, v, h1, h2⟩ => ?_⟩
  · rw [List.getElem?_map] at e
    cases e0 : (csA env as)[j]? with
    | none => rw [e0] at e; cases e
    | some c0 =>
      rw [e0] at e
      have ec : c0 = c := Option.some.inj (Option.some.inj e)
      subst ec
      obtain ⟨v, h1, h2⟩ := h.get (H := H) ok e0
      refine ⟨v, by rw [List.getElem?_map, h1]; rfl, ?_⟩
      rcases h2 with ⟨h2, h3⟩ | ⟨i, R, h2, h3, h4⟩
      · have : S0A S as j = fun _ => False := funext fun a => propext (Iff.intro (fun z => by obtain ⟨i, v', z, _⟩ := z; rw [h2] at z; cases z) False.elim)
        rw [this]
        exact h3
      · have : S0A S as j = S i := funext fun a => propext (Iff.intro (fun z => by obtain ⟨i', v', z, q⟩ := z; rw [h2] at z; cases z; exact q) fun z => ⟨i, v, h2, z⟩)
        rw [this]
        obtain ⟨v', e1, e2⟩ := s.slot i _ h4
        have : v' = v := e2.1
        subst this
        rw [h3]
        exact e2
  · have := s.dis i i' a h2 h4
    subst this
    exact slotsA_inj nd h1 h3
  · have hl : j < (csA env as).length := by rw [csA_length]; exact (List.getElem?_eq_some_iff.mp h1).1
    exact hj _ (by rw [List.getElem?_map, List.getElem?_eq_getElem hl]; rfl)
theorem sitB (s : Sit K F H σ S env) (h : HoldA K F vs as) (ok : okA env as) (nd : (slotsA as).Nodup) (p : Prog F H (tot (S0A S as)) F' H' (fun a => tot S' a ∨ Sv a)) (s' : Sit K F' H' (vs.map some) S' (cs'.map some)) (dj : ∀ i a, S' i a → ¬ Sv a) :
    Sit K F' H' σ (S2A S S' as) (putA env as cs') ∧ Prog F H (tot S) F' H' (fun a => tot (S2A S S' as) a ∨ Sv a) ∧ (∀ i a, S2A S S' as i a → ¬ Sv a) := by
  have hl : cs'.length = as.length := by have := s'.len; simp at this; rw [← this, h.length]
  have out : ∀ {i a}, S i a → (∀ (j : Nat) (v : V), as[j]? ≠ some (Ar.slot i v)) → ¬ tot (S0A S as) a := fun {i a} z m ⟨j, i', v, h1, h2⟩ => by
    have := s.dis i i' a z h2
    subst this
    exact m j v h1
  have far : ∀ {i a}, S i a → (∀ (j : Nat) (v : V), as[j]? ≠ some (Ar.slot i v)) → ¬ (tot S' a ∨ Sv a) := fun {i a} z m q => by
    rcases p.s a q with y | y
    · exact out z m y
    · obtain ⟨_, o, ho⟩ := s.no z
      rw [ho] at y
      cases y
  refine ⟨⟨s'.sub, fun i c e => ?_, fun i k a h1 h2 => ?_, by rw [putA_length]; exact s.len, fun i hi a z => ?_⟩, ?_, fun i a z q => ?_⟩
  · by_cases hit : ∃ (j : Nat) (v : V), as[j]? = some (Ar.slot i v)
    · obtain ⟨j, v, hj⟩ := hit
      obtain ⟨R, eR⟩ := okA_get ok hj
      rw [putA_hit env nd hj (List.getElem?_eq_some_iff.mp eR).1 hl] at e
      obtain ⟨v1, q1, q2⟩ := s'.slot j c (by rw [List.getElem?_map]; exact e)
      have hv := h.slotv hj
      rw [List.getElem?_map, hv] at q1
      have : v = v1 := Option.some.inj (Option.some.inj q1)
      subst this
      obtain ⟨v2, q3, q4⟩ := s.slot i _ eR
      have : v2 = v := q4.1
      subst this
      have es : S2A S S' as i = S' j := funext fun a => propext ⟨fun z => by
        rcases z with ⟨j', v', z1, z2⟩ | ⟨z1, _⟩
        · have := slotsA_inj nd hj z1
          subst this
          exact z2
        · exact absurd hj (z1 j v2), fun z => .inl ⟨j, v2, hj, z⟩⟩
      rw [es]
      exact ⟨v2, q3, q2⟩
    · have miss : ∀ (j : Nat) (v : V), as[j]? ≠ some (Ar.slot i v) := fun j v z => hit ⟨j, v, z⟩
      rw [putA_miss env miss] at e
      obtain ⟨v, q1, q2⟩ := s.slot i c e
      have es : S2A S S' as i = S i := funext fun a => propext ⟨fun z => by
        rcases z with ⟨j', v', z1, z2⟩ | ⟨_, z⟩
        · exact absurd z1 (miss j' v')
        · exact z, fun z => .inr ⟨miss, z⟩⟩
      rw [es]
      refine ⟨v, q1, q2.keep p.f (fun a z => ?_) fun a z => ?_⟩
      · obtain ⟨_, o, ho⟩ := s.no z
        rw [ho]
        exact p.keep a o ho (out z miss)
      · obtain ⟨nF, o, ho⟩ := s.no z
        cases q : F' a with
        | none => rfl
        | some u =>
          rcases p.new a u q with y | y | y
          · rw [nF] at y; cases y
          · rw [ho] at y; cases y
          · exact absurd y (out z miss)
  · rcases h1 with ⟨j, v, z1, z2⟩ | ⟨z1, z2⟩
    · rcases h2 with ⟨j', v', y1, y2⟩ | ⟨y1, y2⟩
      · have := s'.dis j j' a z2 y2
        subst this
        rw [z1] at y1
        cases y1
        rfl
      · exact absurd (.inl ⟨j, z2⟩) (far y2 y1)
    · rcases h2 with ⟨j', v', y1, y2⟩ | ⟨y1, y2⟩
      · exact absurd (.inl ⟨j', y2⟩) (far z2 z1)
      · exact s.dis i k a z2 y2
  · rcases z with ⟨j, v, z1, z2⟩ | ⟨z1, z2⟩
    · obtain ⟨R, eR⟩ := okA_get ok z1
      have hj : j < cs'.length := by rw [hl]; exact (List.getElem?_eq_some_iff.mp z1).1
      refine hi cs'[j] ?_
      rw [putA_hit env nd z1 (List.getElem?_eq_some_iff.mp eR).1 hl, List.getElem?_eq_getElem hj]
      rfl
    · exact s.emp i (fun c e => hi c (by rw [putA_miss env z1]; exact e)) a z2
  · refine p.weak (fun a ⟨j, i, v, _, z⟩ => ⟨i, z⟩) fun a z => ?_
    rcases z with ⟨i, z⟩ | z
    · rcases z with ⟨j, v, z1, z2⟩ | ⟨z1, z2⟩
      · exact .inl (.inl ⟨j, z2⟩)
      · exact .inr ⟨i, z2⟩
    · exact .inl (.inr z)
  · rcases z with ⟨j, v, z1, z2⟩ | ⟨z1, z2⟩
    · exact dj j a z2 q
    · exact far z2 z1 (.inr q)
end
/-- arguments from left to right, with effects -/
def EA (X : Cx) (W : WX) (es : List Expr) (Q : List Ar → En → Prop) (RX : Xc → En → Prop) (env : En) : Prop := ∀ (F H : Hp) (σ : St) (S : Foot), Sit X.K F H σ S env → ∀ QV : List V → Hp → Prop,
  (∀ vs F' H' S' as env', Prog F H (tot S) F' H' (tot S') → Sit X.K F' H' σ S' env' → HoldA X.K F' vs as → Q as env' → QV vs H') →
  (∀ cls od F' H' S' x env', Prog F H (tot S) F' H' (tot S') → Sit X.K F' H' σ S' env' → XHold X.K F' H' (tot S') cls od x → RX x env' → W cls od σ H') → wA X es σ H QV
section
variable {X : Cx} {W : WX} {env : En} {c : Ct} {d d1 d2 : PyData} {e a b : Expr} {es : List Expr} {pos p apos : Pos} {x : Str} {k : Nat} {spec : Spec} {Q : Ct → En → Prop} {RX : Xc → En → Prop} {QA : List Ar → En → Prop}
theorem ea_nil (q : QA [] env) : EA X W [] QA RX env := fun F H σ S s QV k _ => ⟨_, pa_nil, k [] F H S [] env Prog.refl s .nil q⟩
theorem ea_val (h : EC X W e (fun c env1 => ∃ d, c = .dat d ∧ EA X W es (fun as env2 => QA (.c (.dat d) :: as) env2) RX env1) RX env) (hs : starEach (e :: es) X.env = (false, eval e X.env) :: starEach es X.env := by rfl) : EA X W (e :: es) QA RX env := fun F H σ S s QV k kx =>
  ⟨_, pa_cons pwE pwA hs, h F H σ S s _ (fun v F1 H1 S1 Sv c env1 p1 s1 hv dj ⟨d, ec, q⟩ => by
    subst ec
    have p1' : Prog F H (tot S) F1 H1 (tot S1) := p1.weak (fun _ z => z) fun a z => .inl (.inl z)
    exact q F1 H1 σ S1 s1 _ (fun vs F2 H2 S2 as env2 p2 s2 hA q2 => k _ F2 H2 S2 _ env2 (p1'.trans p2) s2 (.dat (dp_mono p2.f hv.1) hA) q2) fun cls od F' H' S' x env' p s' xh r => kx cls od F' H' S' x env' (p1'.trans p) s' xh r) kx⟩
theorem ea_dat (h : VC X e env (.dat d)) (hr : EA X W es (fun as env2 => QA (.c (.dat d) :: as) env2) RX env) (hs : starEach (e :: es) X.env = (false, eval e X.env) :: starEach es X.env := by rfl) : EA X W (e :: es) QA RX env := ea_val (EC.pure h ⟨d, rfl, hr⟩) hs
theorem ea_pin {P : Ps} (h : VC X e env (.pin P)) (hr : EA X W es (fun as env2 => QA (.c (.pin P) :: as) env2) RX env) (hs : starEach (e :: es) X.env = (false, eval e X.env) :: starEach es X.env := by rfl) : EA X W (e :: es) QA RX env := fun F H σ S s QV k kx =>
  ⟨_, pa_cons pwE pwA hs, h F H σ S s _ fun v F1 H1 Sv g1 hv _ =>
    hr F1 H1 σ S (s.grow g1) _ (fun vs F2 H2 S2 as env2 p2 s2 hA q2 => k _ F2 H2 S2 _ env2 (g1.prog.trans p2) s2 (.pin (P.mono p2.f hv.1) hA) q2) fun cls od F' H' S' x env' p s' xh r => kx cls od F' H' S' x env' (g1.prog.trans p) s' xh r⟩
theorem ea_own (i : Nat) {v : V} {R : Rs} (hr : EA X W es (fun as env2 => QA (.slot i v :: as) env2) RX env) (h : env[i]? = some (some (.own v R)) := by rfl) {x : Str} (hN : X.N[i]? = some x := by rfl)
    (hv : Vis X.env.scope x := by first | exact Or.inl rfl | exact Or.inr (Or.inl rfl) | exact Or.inr (Or.inr rfl)) (hd : (x == ("__debug__" : Str)) = false := by decide) (hcd : (x == ("__classdict__" : Str)) = false := by decide)
    (hs : starEach (.Name x p :: es) X.env = (false, eval (.Name x p) X.env) :: starEach es X.env := by rfl) : EA X W (.Name x p :: es) QA RX env := fun F H σ S s QV k kx => by
  obtain ⟨v', e1, h1⟩ := s.slot i _ h
  have : v' = v := h1.1
  subst this
  exact ⟨_, pa_cons (pe_var hN hv hd hcd) pwA hs, v', e1, hr F H σ S s _ (fun vs F2 H2 S2 as env2 p2 s2 hA q2 => k _ F2 H2 S2 _ env2 p2 s2 (.slot hA) q2) kx⟩
/-- f(..) with effects -/
theorem ec_call (hF : Fn X.prog X.w X.K X.mg X.base x k spec) (hr : Room k X.A) (tk : Takes X W) (ha : EA X W (e :: es) (fun as env' => okA env' as ∧ (slotsA as).Nodup ∧ spec (csA env' as) (fun c cs' => Q c (putA env' as cs')) (fun y cs' => RX y (putA env' as cs'))) RX env)
    (hg : Gl X x := by rfl) (hdb : (x == ("__debug__" : Str)) = false := by decide)
    (he : starEach (e :: es) X.env = (false, eval e X.env) :: starEach es X.env := by rfl) (hpl : (backTo pos (starEach es X.env)).any (·.1) = false := by rfl) : EC X W (.Call (.Name x p) (e :: es) [] pos) Q RX env := fun F H σ S s QV kq kx => by
  obtain ⟨f, fd, ps, ok, hm, hk, hb⟩ := hF.ex
  refine ⟨_, pe_callS (E := WE W) ok hr hg hm hk hb (fun σ => passAt tk σ) pwA hdb he hpl, ha F H σ S s _ (fun vs F1 H1 S1 as env1 p1 s1 hA ⟨oA, nd, sp⟩ => ?_) kx⟩
  refine ⟨F1, S0A S1 as, csA env1 as, _, _, sitA s1 hA oA nd, sp, fun v F' H' S' Sv c cs' pr s' hv dj q => ?_, fun cls od F' H' S' y cs' pr s' xh q => ?_⟩
  · obtain ⟨s2, p2, d2⟩ := sitB s1 hA oA nd pr s' dj
    exact kq v F' H' _ Sv c _ (p1.trans p2) s2 hv d2 q
  · obtain ⟨s2, p2, d2⟩ := sitB (Sv := fun _ => False) s1 hA oA nd (pr.weak (fun _ z => z) fun a z => .inl (z.elim id False.elim)) s' (fun _ _ _ z => z)
    exact kx cls od F' H' _ y _ ((p1.trans p2).weak (fun _ z => z) fun a z => .inl (.inl z)) s2 xh q
/-- all of them data -/
theorem ec_tup {x1} (h : EA X W es (fun as env' => ∃ ds, as = ds.map (fun d => .c (.dat d)) ∧ ds.length ≤ 1000 ∧ Q (.dat (.tuple ds)) env') RX env) : EC X W (.Tuple es x1 pos) Q RX env := fun F H σ S s QV kq kx => by
  have key : ∀ {F : Hp} {ds : List PyData} {vs : List V}, HoldA X.K F vs (ds.map fun d => .c (.dat d)) → DpAll X.K F vs ds := by
    intro F ds
    induction ds with
    | nil => intro vs h; cases h; exact .nil
    | cons d ds ih => intro vs h; cases h with | dat h1 h2 => exact .cons h1 (ih h2)
  refine ⟨_, pe_tup pwA, h F H σ S s _ (fun vs F1 H1 S1 as env1 p1 s1 hA ⟨ds, ea, hl, q⟩ => ?_) kx⟩
  subst ea
  have hd := key hA
  have ln := dps_length hd
  refine ⟨by rw [ln]; exact Nat.le_of_lt (small1000 hl), fun pp hp => ?_⟩
  have g2 := Grow.laid (o := .tup vs) s1.sub hp
  exact kq (.ref pp) _ _ S1 (fun _ => False) (.dat (.tuple ds)) env1 ((p1.trans g2.prog).weak (fun _ z => z) fun a z => .inl (z.elim id False.elim)) (s1.grow g2) ⟨.tup (SqT.of upd_same) (dps_mono g2.f hd), fun _ z => z⟩ (fun _ _ _ z => z) q
/-- a op b, both with effects -/
theorem ec_two {r : R2} {t : TE} (ht : ∀ {σ H} {QV : VK}, wE X a σ H (fun x H1 => wE X b σ H1 fun y H2 => r x y H2 QV) → wE X e σ H QV)
    (h : EC X W a (fun c1 env1 => ∃ d1, c1 = .dat d1 ∧ EC X W b (fun c2 env2 => ∃ d2 d, c2 = .dat d2 ∧ OpD X.K r d1 d2 d ∧ Q (.dat d) env2) RX env1) RX env) : EC X W e Q RX env := fun F H σ S s QV kq kx =>
  ht (h F H σ S s _ (fun v1 F1 H1 S1 Sv1 c1 env1 p1 s1 hv1 dj1 ⟨d1, e1, q1⟩ => by
    subst e1
    have p1' : Prog F H (tot S) F1 H1 (tot S1) := p1.weak (fun _ z => z) fun a z => .inl (.inl z)
    exact q1 F1 H1 σ S1 s1 _ (fun v2 F2 H2 S2 Sv2 c2 env2 p2 s2 hv2 dj2 ⟨d2, d, e2, od, q⟩ => by
      subst e2
      have p2' : Prog F1 H1 (tot S1) F2 H2 (tot S2) := p2.weak (fun _ z => z) fun a z => .inl (.inl z)
      refine od F2 H2 v1 v2 s2.sub (dp_mono p2.f hv1.1) hv2.1 QV fun v F' H' g hv => ?_
      exact kq v F' H' S2 (fun _ => False) (.dat d) env2 (((p1'.trans p2').trans g.prog).weak (fun _ z => z) fun a z => .inl (z.elim id False.elim)) (s2.grow g) ⟨hv, fun _ z => z⟩ (fun _ _ _ z => z) q)
      fun cls od F' H' S' x env' p s' xh r => kx cls od F' H' S' x env' (p1'.trans p) s' xh r) kx)
theorem ec_op {op : Operator} {r : R2} (ho : OpR X (binaryOp op) r) (h : EC X W a (fun c1 env1 => ∃ d1, c1 = .dat d1 ∧ EC X W b (fun c2 env2 => ∃ d2 d, c2 = .dat d2 ∧ OpD X.K r d1 d2 d ∧ Q (.dat d) env2) RX env1) RX env) : EC X W (.BinOp a op b pos) Q RX env :=
  ec_two (t := wE X (.BinOp a op b pos)) (fun z => ⟨_, pe_op ho pwE pwE, z⟩) h
theorem ec_cmp {op : CmpOp} {r : R2} (ho : OpR X (compareOp op) r) (h : EC X W a (fun c1 env1 => ∃ d1, c1 = .dat d1 ∧ EC X W b (fun c2 env2 => ∃ d2 d, c2 = .dat d2 ∧ OpD X.K r d1 d2 d ∧ Q (.dat d) env2) RX env1) RX env) (hm : behindInMarks op b = false := by first | exact nomark _ | rfl) : EC X W (.Compare a [op] [b] pos) Q RX env :=
  ec_two (t := wE X (.Compare a [op] [b] pos)) (fun z => ⟨_, pe_cmpR ho pwE pwE hm, z⟩) h
/-- a test's value is told -/
theorem tec_val {QB : Bool → En → Prop} (h : EC X W e (fun c env' => ∃ b', c = .dat (.bool b') ∧ QB b' env') RX env) (he : ∀ whole, isTrue e X.env whole = (do let v ← whole; standAt e.pos; holding [v] (truthy v)) := by intro _; rfl) : TEC X W e QB RX env := fun F H σ S s QV kq kx =>
  ⟨_, pt_val pwE he, h F H σ S s _ (fun v F1 H1 S1 Sv c env1 p1 s1 hv dj ⟨b', ec, q⟩ => by
    subst ec
    have e1 := hv.1
    cases e1
    exact ⟨b', rfl, kq b' F1 H1 S1 env1 (p1.weak (fun _ z => z) fun a z => .inl (.inl z)) s1 q⟩) kx⟩
theorem tec_cmp {op : CmpOp} {r : R2} {QB : Bool → En → Prop} (ho : OpR X (compareOp op) r) (h : EC X W a (fun c1 env1 => ∃ d1, c1 = .dat d1 ∧ EC X W b (fun c2 env2 => ∃ d2 b', c2 = .dat d2 ∧ OpD X.K r d1 d2 (.bool b') ∧ QB b' env2) RX env1) RX env) (hm : behindInMarks op b = false := by first | exact nomark _ | rfl) : TEC X W (.Compare a [op] [b] pos) QB RX env := fun F H σ S s QV kq kx =>
  ⟨_, pt_cmpR ho pwE pwE hm, h F H σ S s _ (fun v1 F1 H1 S1 Sv1 c1 env1 p1 s1 hv1 dj1 ⟨d1, e1, q1⟩ => by
    subst e1
    have p1' : Prog F H (tot S) F1 H1 (tot S1) := p1.weak (fun _ z => z) fun a z => .inl (.inl z)
    exact q1 F1 H1 σ S1 s1 _ (fun v2 F2 H2 S2 Sv2 c2 env2 p2 s2 hv2 dj2 ⟨d2, b', e2, od, q⟩ => by
      subst e2
      have p2' : Prog F1 H1 (tot S1) F2 H2 (tot S2) := p2.weak (fun _ z => z) fun a z => .inl (.inl z)
      refine od F2 H2 v1 v2 s2.sub (dp_mono p2.f hv1.1) hv2.1 _ fun v F' H' g hv => ?_
      cases hv
      exact ⟨b', rfl, kq b' F' H' S2 env2 ((p1'.trans p2').trans g.prog) (s2.grow g) q⟩)
      fun cls od F' H' S' x env' p s' xh r => kx cls od F' H' S' x env' (p1'.trans p) s' xh r) kx⟩
/-- xs[i], i with effects -/
theorem ec_ixL {ds : List PyData} (ha : VC X a env (.dat (.list ds))) (h : EC X W b (fun c2 env2 => ∃ (i : Int) (d : PyData), c2 = .dat (.int i) ∧ atI ds i = some d ∧ Q (.dat d) env2) RX env) (hs : PlainIx b := by exact fun _ _ => rfl) : EC X W (.Subscript a b pos) Q RX env :=
  ec_two (a := a) (b := b) (t := wE X (.Subscript a b pos)) (fun z => ⟨_, pe_ix ix_list pwE pwE hs, z⟩) (EC.pure ha ⟨_, rfl, fun F H σ S s QV kq kx => h F H σ S s QV (fun v F' H' S' Sv c env' p s' hv dj ⟨i, d, ec, hd, q⟩ => kq v F' H' S' Sv c env' p s' hv dj ⟨_, d, ec, od_ixL hd, q⟩) kx⟩)
theorem ec_ixT {ds : List PyData} (ha : VC X a env (.dat (.tuple ds))) (h : EC X W b (fun c2 env2 => ∃ (i : Int) (d : PyData), c2 = .dat (.int i) ∧ atI ds i = some d ∧ Q (.dat d) env2) RX env) (hs : PlainIx b := by exact fun _ _ => rfl) : EC X W (.Subscript a b pos) Q RX env :=
  ec_two (a := a) (b := b) (t := wE X (.Subscript a b pos)) (fun z => ⟨_, pe_ix ix_tup pwE pwE hs, z⟩) (EC.pure ha ⟨_, rfl, fun F H σ S s QV kq kx => h F H σ S s QV (fun v F' H' S' Sv c env' p s' hv dj ⟨i, d, ec, hd, q⟩ => kq v F' H' S' Sv c env' p s' hv dj ⟨_, d, ec, od_ixT hd, q⟩) kx⟩)
theorem ec_if {t : Expr} (h : TEC X W t (fun b' env' => if b' = true then EC X W a Q RX env' else EC X W b Q RX env') RX env) : EC X W (.IfExp t a b pos) Q RX env := fun F H σ S s QV kq kx =>
  ⟨_, pe_ifExp pwT pwE pwE, h F H σ S s _ (fun b' F1 H1 S1 env1 p1 s1 q => by
    cases b' with
    | true => exact q F1 H1 σ S1 s1 QV (fun v F' H' S' Sv c env' p s' hv dj q => kq v F' H' S' Sv c env' (p1.trans p) s' hv dj q) fun cls od F' H' S' x env' p s' xh r => kx cls od F' H' S' x env' (p1.trans p) s' xh r
    | false => exact q F1 H1 σ S1 s1 QV (fun v F' H' S' Sv c env' p s' hv dj q => kq v F' H' S' Sv c env' (p1.trans p) s' hv dj q) fun cls od F' H' S' x env' p s' xh r => kx cls od F' H' S' x env' (p1.trans p) s' xh r) kx⟩
/-- a and b as a test, with effects -/
def WEC (X : Cx) (W : WX) (e : Expr) (Q : Bool → En → Prop) (RX : Xc → En → Prop) (env : En) : Prop := ∀ (F H : Hp) (σ : St) (S : Foot), Sit X.K F H σ S env → ∀ QV : Bool → Hp → Prop,
  (∀ b F' H' S' env', Prog F H (tot S) F' H' (tot S') → Sit X.K F' H' σ S' env' → Q b env' → QV b H') →
  (∀ cls od F' H' S' x env', Prog F H (tot S) F' H' (tot S') → Sit X.K F' H' σ S' env' → XHold X.K F' H' (tot S') cls od x → RX x env' → W cls od σ H') → wW X e σ H QV
theorem WEC.tc {Q : Bool → En → Prop} (h : WEC X W e Q RX env) : TEC X W e Q RX env := fun F H σ S s QV k kx => by
  obtain ⟨t, ht, q⟩ := h F H σ S s QV k kx
  exact ⟨t, ht.pt, q⟩
theorem wec_and {Q : Bool → En → Prop} (h : TEC X W a (fun b1 env1 => if b1 = true then WEC X W (.BoolOp .And (b :: es) pos) Q RX env1 else Q false env1) RX env) : WEC X W (.BoolOp .And (a :: b :: es) pos) Q RX env := fun F H σ S s QV k kx =>
  ⟨_, pw_and pwT pwW, h F H σ S s _ (fun b1 F1 H1 S1 env1 p1 s1 q => by
    cases b1 with
    | true => exact q F1 H1 σ S1 s1 QV (fun b' F' H' S' env' p' s' q => k b' F' H' S' env' (p1.trans p') s' q) fun cls od F' H' S' x env' p s' xh r => kx cls od F' H' S' x env' (p1.trans p) s' xh r
    | false => exact k false F1 H1 S1 env1 p1 s1 q) kx⟩
theorem wec_and1 {Q : Bool → En → Prop} (h : TEC X W a Q RX env) : WEC X W (.BoolOp .And [a] pos) Q RX env := fun F H σ S s QV k kx => ⟨_, pw_and1 pwT, h F H σ S s _ k kx⟩
end
end G


set_option maxRecDepth 100000
set_option maxHeartbeats 4000000
/-! more with effects; isinstance -/
namespace G
open PySem PySem.Spec PyProof.Rows L2
def EI (X : Cx) (W : WX) (tg iter : Expr) (Q : List PyData → En → Prop) (RX : Xc → En → Prop) (env : En) : Prop := ∀ (F H : Hp) (σ : St) (S : Foot), Sit X.K F H σ S env → ∀ R : It → Hp → Prop,
  (∀ J F' H' S' items env', Prog F H (tot S) F' H' (tot S') → Sit X.K F' H' σ S' env' → Yields X.K J F' items → Q items env' → R J H') →
  (∀ cls od F' H' S' x env', Prog F H (tot S) F' H' (tot S') → Sit X.K F' H' σ S' env' → XHold X.K F' H' (tot S') cls od x → RX x env' → W cls od σ H') → wI X tg iter σ H R
section
variable {X : Cx} {W : WX} {env : En} {D : DE} {c : Ct} {d d1 d2 : PyData} {e a b tg iter : Expr} {es : List Expr} {body : List Stmt} {pos p apos : Pos} {x : Str} {k : Nat} {Q : Ct → En → Prop} {RX : Xc → En → Prop} {QI : List PyData → En → Prop}
theorem EI.pure {items : List PyData} (h : VI X tg iter env items) (q : QI items env) : EI X W tg iter QI RX env := fun F H σ S s R k _ =>
  h F H σ S s R fun J F' H' g y => k J F' H' S items env g.prog (s.grow g) y q
theorem ei_range1 (hm : X.mg "range" = none) (h : EC X W e (fun c env1 => ∃ n : Nat, c = .dat (.int (n : Int)) ∧ n ≤ 1000000000000 ∧ QI ((List.range n).map fun (i : Nat) => .int (i : Int)) env1) RX env) (hg : Gl X "range" := by rfl) (hs : starEach [e] X.env = [(false, eval e X.env)] := by rfl) :
    EI X W tg (.Call (.Name "range" p) [e] [] pos) QI RX env := fun F H σ S s R k kx =>
  ⟨_, pi_range1 hg hm (pa_cons pwE pa_nil hs) hs, h F H σ S s _ (fun v F1 H1 S1 Sv c env1 p1 s1 hv dj ⟨n, ec, hn, q⟩ => by
    subst ec
    have e1 := hv.1
    cases e1
    refine ⟨(n : Int), rfl, by omega, by omega, k _ F1 H1 S1 _ env1 (p1.weak (fun _ z => z) fun a z => .inl (.inl z)) s1 ?_ q⟩
    have y : Yields X.K (Itr 0 n) F1 ((List.range n).map fun (i : Nat) => .int ((0 : Int) + (i : Int))) := yields_range
    simpa using y) kx⟩
/-- over what an expression with effects gives -/
theorem ws_forE (hp : PassesOwn (model X.prog X.w) X.A X.env X.xe) (hc : X.calm = true) (hi : EI X W tg iter (fun items env0 => ∃ P : Nat → En → Prop, P 0 env0 ∧
      (∀ i d, items[i]? = some d → ∀ env1, P i env1 → ∃ js env2, GC X tg d env1 js env2 ∧ WB X W body { D with nx := P (i + 1), ct := P (i + 1), bk := D.nx } env2) ∧ ∀ env1, P items.length env1 → D.nx env1) D.ex env)
    (hf : ∀ x, foldedSetIterable iter X.env x = pure x := by intro _; rfl) : WS X W (.For tg iter body [] pos) D env := fun F H σ S s E m =>
  ⟨_, ps_for hp hc (⟨fun pins s σ H R I ⟨t, h, q⟩ => h.run pins s σ H R I q⟩ : PI X tg iter (wI X tg iter)) pwG pwB hf, hi F H σ S s _ (fun J F1 H1 S1 items env0 p1 s1 y ⟨P, h0, hs, hd⟩ => by
    let Pv : Nat → St → Hp → Prop := fun i σ' H' => ∃ F' S' env', Prog F1 H1 (tot S1) F' H' (tot S') ∧ Sit X.K F' H' σ' S' env' ∧ P i env'
    refine ⟨fun i n σ' H' => n = items.length - i ∧ i ≤ items.length ∧ Pv i σ' H', ⟨items.length, rfl, Nat.zero_le _, F1, S1, env0, Prog.refl, s1, h0⟩, ?_⟩
    rintro i n σ' H' ⟨rfl, hi', F', S', env', p', s', q'⟩
    by_cases hlt : i < items.length
    · refine .inr ⟨y.go i F' H' hlt p'.f s'.sub, Pv (i + 1), fun σ2 H2 z => ⟨items.length - (i + 1), by omega, rfl, hlt, z⟩, fun x H2 hy => ?_⟩
      obtain ⟨d, F2, hd', g2, hx⟩ := y.yld i F' H' x H2 hlt p'.f s'.sub hy
      obtain ⟨js, env2, hg, hb⟩ := hs i d hd' env' q'
      refine hg F2 H2 σ' S' x (s'.grow g2) hx _ fun σ3 S3 s3 t3 o3 => ?_
      have p3 : Prog F1 H1 (tot S1) F2 H2 (tot S3) := (p'.trans g2.prog).trans ((s'.grow g2).sub_tot t3)
      have m3 := m.from (p1.trans p3)
      exact hb F2 H2 σ3 S3 s3 _ ⟨fun F4 H4 σ4 S4 env4 p4 s4 q4 => ⟨F4, S4, env4, p3.trans p4, s4, q4⟩, m3.rt, m3.nx, fun F4 H4 σ4 S4 env4 p4 s4 q4 => ⟨F4, S4, env4, p3.trans p4, s4, q4⟩, m3.ex⟩
    · have e : i = items.length := by omega
      subst e
      exact .inl ⟨y.stop F' H' p'.f s'.sub, m.nx F' H' σ' S' env' (p1.trans p') s' (hd env' q')⟩) fun cls od F' H' S' x env' p s' xh r => m.ex cls od F' H' σ S' x env' p s' xh r⟩
/-- xs[j] = e, both with effects -/
theorem ws_setIxE (i : Nat) {v : V} {ix val : Expr} {p1 p2 pos : Pos} (hval : EC X W val (fun c env1 => ∃ d, c = .dat d ∧ EC X W ix (fun c2 env2 => ∃ (j : Nat) (ds' : List PyData), c2 = .dat (.int (j : Int)) ∧ env2[i]? = some (some (.own v (olst X.K ds'))) ∧ j < ds'.length ∧ D.nx (env2.set i (some (.own v (olst X.K (ds'.set j d)))))) D.ex env1 ∧ ∃ R, env1[i]? = some (some (.own v R))) D.ex env) {x : Str} (hN : X.N[i]? = some x := by rfl)
    (hv : Vis X.env.scope x := by first | exact Or.inl rfl | exact Or.inr (Or.inl rfl) | exact Or.inr (Or.inr rfl)) (hd : (x == ("__debug__" : Str)) = false := by decide) (hcd : (x == ("__classdict__" : Str)) = false := by decide)
    (hps : ∀ tv ti, PE X val tv → PE X ix ti → PS X (.Assign [.Subscript (.Name x p1) ix p2] val pos) (tAsg tv (gSub (tVar i) ti rSetL)) := by exact fun _ _ h1 h2 => ps_asg h1 (pg_sub (pv _) h2 set_list)) :
    WS X W (.Assign [.Subscript (.Name x p1) ix p2] val pos) D env := fun F H σ S s E m => by
  refine ⟨_, hps _ _ pwE pwE, hval F H σ S s _ (fun w F1 H1 S1 Sv c env' p s1 hw dj ⟨d, ec, hix, R, h⟩ => ?_) fun cls od F' H' S' x env' p s' xh q => m.ex cls od F' H' σ S' x env' p s' xh q⟩
  subst ec
  have pw : Prog F H (tot S) F1 H1 (tot S1) := p.weak (fun _ z => z) fun a z => .inl (.inl z)
  obtain ⟨v', e1, ev, _⟩ := s1.slot i _ h
  have ev : v' = v := ev
  subst ev
  refine ⟨v', e1, hix F1 H1 σ S1 s1 _ (fun u F2 H2 S2 Sv2 c2 env2 p2 s2 hu dj2 ⟨j, ds', ec2, h2, hj, k⟩ => ?_) fun cls od F' H' S' x env' p' s' xh q => m.ex cls od F' H' σ S' x env' (pw.trans p') s' xh q⟩
  subst ec2
  have q1 := hu.1
  cases q1
  obtain ⟨v'', e1', ev', ⟨a, xs, ea, h3, h4, h5⟩, hn⟩ := s2.slot i _ h2
  have ev' : v'' = v' := ev'
  subst ev'
  subst ea
  have ln := dps_length h4
  refine ⟨a, xs, (j : Int), j, rfl, rfl, h3, ?_, ?_⟩
  · unfold ixN
    rw [if_pos (by omega), if_pos (by omega)]
    simp
  · obtain ⟨s3, p3⟩ := s2.change (xs := xs) (zs := xs.set j w) h2 (dps_set (dp_mono p2.f hw.1) j h4)
    exact m.nx F2 _ σ S2 _ ((pw.trans (p2.weak (fun _ z => z) fun a z => .inl (.inl z))).trans p3) s3 k
/-! ### comprehensions with effects -/
variable {elt : Expr} {scope : Scope} {own : List (Str × Nat)} {α : Type}
theorem Sit.unwipe {K : PySem.W.Frag} {F H : Hp} {σ : St} {S : Foot} {ws : List Nat} (s : Sit K F H (L2.wipe σ ws) S env) (h : ∀ i ∈ ws, ∀ c, env[i]? ≠ some (some c)) : Sit K F H σ S env :=
  ⟨s.sub, fun i c e => by
    obtain ⟨v, e1, h1⟩ := s.slot i c e
    rw [wipe_get, if_neg (fun z => h i z c e)] at e1
    exact ⟨v, e1, h1⟩, s.dis, by rw [← s.len, L2.wipe_length], s.emp⟩
theorem wipE_get (j : Nat) : ∀ (env : En) (ws : List Nat) (c : Ct), (wipE env ws)[j]? = some (some c) → j ∉ ws
  | env, [], c, _ => by simp
  | env, w :: ws, c, h => by
    intro z
    rw [wipE] at h
    by_cases e : w = j
    · subst e
      rw [List.getElem?_set] at h
      simp at h
    · rw [List.getElem?_set_ne e] at h
      exact wipE_get j env ws c h ((List.mem_cons.mp z).resolve_left (fun q => e q.symm))
/-- [elt for tg in iter], elt with effects -/
theorem ec_lc (xs : List α) (f : α → PyData) (js : List Nat) (P : Nat → List PyData → En → Prop) (hN : X.N.Nodup) (hi : VI X tg iter env (xs.map f)) (h0 : P 0 [] (wipE env (own.map (·.2))))
    (hs : ∀ i x, xs[i]? = some x → ∀ ds env1, ds.length = i → P i ds env1 → Blk X scope fun X' => ∃ bnd, GC X' tg (f x) env1 js bnd ∧ Blk X scope fun X' => EC X' (fun _ _ _ _ => False) elt (fun c env2 => ∃ d, c = .dat d ∧ P (i + 1) (ds ++ [d]) (wipE env2 (own.map (·.2)))) (fun _ _ => False) bnd)
    (hq : ∀ v ds env1, ds.length = xs.length → P xs.length ds env1 → (∀ i ∈ own.map (·.2), ∀ c, env1[i]? ≠ some (some c)) ∧ Q (.own v (olst X.K ds)) env1) (hz : xs.length < 16777216)
    (ok : BlkOk X.N X.env.scope scope own := by exact blkOk_by (by rfl)) (hj : ∀ j ∈ js, j ∈ own.map (·.2) := by decide) (hc : X.calm = true := by rfl)
    (hf : ∀ x, foldedSetIterable iter X.env x = pure x := by intro _; rfl) : EC X W (.ListComp elt [⟨tg, iter, [], 0⟩] scope pos) Q RX env := fun F H σ S s QV kq kx => by
  refine ⟨_, pe_lc (own := own) (tt := tYes) hc hN (⟨fun pins s σ H R I ⟨t, h, q⟩ => h.run pins s σ H R I q⟩ : PI X tg iter (wI X tg iter)) ok pbG (fun _ _ _ _ _ => pts_nil) pbE hf, ?_⟩
  refine hi F H σ S s _ fun J F1 H1 g1 y D hD => ?_
  have s1 := s.grow g1
  obtain ⟨Sw, sw, tw⟩ := s1.wipe (own.map (·.2))
  have hl : (xs.map f).length = xs.length := List.length_map ..
  let Pv : Nat → Hp → Prop := fun i H' => ∃ F' S' env' acc ds, H' D = some (.lst acc) ∧ DpAll X.K F' acc ds ∧ ds.length = i ∧ F' D = none ∧ (¬ tot S' D) ∧ Prog F1 H1 (tot S) F' H' (tot S') ∧ Sit X.K F' H' (L2.wipe σ (own.map (·.2))) S' env' ∧ P i ds env'
  have nSw : ¬ tot Sw D := fun ⟨i, z⟩ => by obtain ⟨_, o, ho⟩ := sw.no z; rw [hD] at ho; cases ho
  have gD : Grow F1 H1 F1 (upd H1 D (.lst [])) := Grow.made sw.sub hD
  have hP0 : Pv 0 (upd H1 D (.lst [])) := ⟨F1, Sw, _, [], [], upd_same, .nil, rfl, sw.sub.free hD, nSw, gD.prog.trans ((s1.grow gD).sub_tot tw), sw.grow gD, h0⟩
  refine ⟨fun i m H' => m = xs.length - i ∧ i ≤ xs.length ∧ Pv i H', ⟨xs.length, rfl, Nat.zero_le _, hP0⟩, ?_⟩
  rintro i m H' ⟨rfl, hi', F', S', env', acc, ds, hacc, hds, hdl, nF, nS, p', s', q'⟩
  by_cases hlt : i < xs.length
  · refine .inr ⟨y.go i F' H' (by omega) p'.f s'.sub, Pv (i + 1), fun H'' p' => ⟨xs.length - (i + 1), by omega, rfl, hlt, p'⟩, fun x H'' hy => ?_⟩
    obtain ⟨d, F2, hd, g3, hx⟩ := y.yld i F' H' x H'' (by omega) p'.f s'.sub hy
    have hxi : xs[i]? = some xs[i] := List.getElem?_eq_getElem hlt
    have hd' : d = f xs[i] := by
      rw [List.getElem?_map, hxi] at hd
      exact (Option.some.inj hd).symm
    subst hd'
    have s2 := s'.grow g3
    intro sS sH sC scl sfp
    obtain ⟨bnd, hgc, hel⟩ := hs i _ hxi ds env' hdl q' sS sH sC scl sfp
    refine hgc F2 H'' _ S' x s2 hx _ fun σ2 S2 s3 t2 o2 => ⟨wipe_of o2 hj, ?_⟩
    simp only [tYes, if_true]
    intro sS sH sC scl sfp
    have hD2 : H'' D = some (.lst acc) := g3.h _ _ hacc
    have nS2 : ¬ tot S2 D := fun z => nS (t2 D z)
    have nF2 : F2 D = none := by
      cases q : F2 D with
      | none => rfl
      | some o =>
        rcases g3.new D o q with z | z
        · rw [nF] at z; cases z
        · rw [hacc] at z; cases z
    refine hel sS sH sC scl sfp F2 H'' σ2 S2 s3 _ (fun v F4 H4 S4 Sv c env4 p4 s4 hv dj ⟨d, ec, q4⟩ => ?_) fun cls od F' H' S' x env' p s' xh r => r.elim
    subst ec
    have p4' : Prog F2 H'' (tot S2) F4 H4 (tot S4) := p4.weak (fun _ z => z) fun a z => .inl (.inl z)
    have hD4 : H4 D = some (.lst acc) := p4.keep D _ hD2 nS2
    have nF4 : F4 D = none := by
      cases q : F4 D with
      | none => rfl
      | some o =>
        rcases p4.new D o q with z | z | z
        · rw [nF2] at z; cases z
        · rw [hD2] at z; cases z
        · exact absurd z nS2
    have nS4 : ¬ tot S4 D := fun z => (p4'.s D z).elim nS2 fun z => by rw [hD2] at z; cases z
    have hac : acc.length ≤ i := by rw [dps_length hds, hdl]; exact Nat.le_refl _
    obtain ⟨Sw4, sw4, tw4⟩ := s4.wipe (own.map (·.2))
    have ew : L2.wipe σ2 (own.map (·.2)) = L2.wipe σ (own.map (·.2)) := wipe_of o2 hj
    rw [ew] at sw4
    have nSw4 : ¬ tot Sw4 D := fun z => nS4 (tw4 D z)
    refine ⟨acc, hD4, by rw [sizeLine_eq]; omega, F4, Sw4, _, acc ++ [v], ds ++ [d], upd_same, dps_append (dps_mono (g3.f.trans p4.f) hds) (.cons hv.1 .nil), by simp [hdl], nF4, nSw4, ?_, ?_, q4⟩
    · have pA : Prog F1 H1 (tot S) F4 H4 (tot Sw4) := (((p'.trans g3.prog).trans (s2.sub_tot t2)).trans p4').trans (s4.sub_tot tw4)
      refine ⟨pA.f, fun b o e nb => ?_, pA.new, pA.s⟩
      rw [upd_ne (ne_of_none e hD)]
      exact pA.keep b o e nb
    · refine ⟨fun b o e => by rw [upd_ne (ne_of_none e nF4)]; exact sw4.sub b o e, fun j c e => ?_, sw4.dis, sw4.len, sw4.emp⟩
      obtain ⟨v', e1, h1⟩ := sw4.slot j c e
      exact ⟨v', e1, h1.keep (Same.refl F4) (fun b z => upd_ne fun w => nSw4 ⟨j, by subst w; exact z⟩) fun b z => (h1.no z).1⟩
  · have e : i = xs.length := by omega
    subst e
    refine .inl ⟨by have z := y.stop F' H' p'.f s'.sub; rw [hl] at z; exact z, ?_⟩
    obtain ⟨hw, hQ⟩ := hq (.ref D) ds env' hdl q'
    have s5 := s'.unwipe hw
    refine kq (.ref D) F' H' S' (fun b => b = D) (.own (.ref D) (olst X.K ds)) env' ⟨(g1.f.trans p'.f), fun b o e nb => p'.keep b o (g1.h b o e) nb, fun b o e => ?_, fun b z => ?_⟩ s5 ⟨rfl, ⟨D, acc, rfl, hacc, hds, fun _ => Iff.rfl⟩, fun b z => by subst z; exact ⟨nF, _, hacc⟩⟩ (fun j b z w => by subst w; exact nS ⟨j, z⟩) hQ
    · rcases p'.new b o e with z | z | z
      · exact (g1.new b o z).elim .inl fun z => .inr (.inl z)
      · exact .inr (.inl (g1.h.free z))
      · exact .inr (.inr z)
    · rcases z with z | z
      · exact (p'.s b z).elim .inl fun z => .inr (g1.h.free z)
      · subst z
        exact .inr (g1.h.free hD)
/-! ### isinstance -/
def tyD : PyData → String
  | .none => "NoneType"
  | .bool _ => "bool"
  | .int _ => "int"
  | .str _ => "str"
  | .list _ => "list"
  | .tuple _ => "tuple"
  | .dict _ => "dict"
theorem tyx_dp {K : PySem.W.Frag} {F H : Hp} (s : Same F H) {v : V} {d : PyData} (h : Dp K F v d) : TyX K H v (.type (tyD d)) := by
  cases h with
  | non => exact .base .non
  | bl b => exact .base (.bl b)
  | int i => exact .base (.int i)
  | str x => exact .base (.str x)
  | lst h1 h2 =>
    rcases s.seq h1 with (h | ⟨o, h⟩) | ⟨o, its, n, hk, hc, _⟩
    · exact .base (.lst h)
    · exact .base (.frz h)
    · exact .kList hk hc
  | tup h1 h2 =>
    rcases same_sqT s h1 with (h | ⟨o, h⟩) | ⟨o, its, n, hk, hc, _⟩
    · exact .base (.tup h)
    · exact .fTuple h
    · exact .kTuple hk hc
theorem vc_isi {T : String} {b : Bool} {nm : Str} {p0 p1 : Pos} (hm : X.mg "isinstance" = none) (hT : X.mg nm = none) (h : VC X e env (.dat d)) (hk : kitB (tyD d) T = some b := by decide +kernel) (hv : bootBuiltins nm = some (.type T) := by decide +kernel) (hg : Gl X "isinstance" := by rfl) (hgT : Gl X nm := by rfl) (hn : nm ≠ "__name__" := by decide) (hdb : (nm == ("__debug__" : Str)) = false := by decide)
    (hs : starEach [e, .Name nm p1] X.env = (false, eval e X.env) :: starEach [.Name nm p1] X.env := by rfl) (hs2 : starEach [.Name nm p1] X.env = (false, eval (.Name nm p1) X.env) :: starEach [] X.env := by rfl)
    (hpl : (backTo pos (starEach [.Name nm p1] X.env)).any (·.1) = false := by rfl) : VC X (.Call (.Name "isinstance" p0) [e, .Name nm p1] [] pos) env (.dat (.bool b)) := fun F H σ S s Q kq =>
  ⟨_, pe_callB call_isi hg hm (by decide +kernel) (pa_cons pwE (pa_cons (pe_bltn hgT hT hv (v := .ty T) rfl hn hdb) pa_nil hs2) hs) (by decide) (by decide) hs hpl, h F H σ S s _ fun v F1 H1 Sv g hv _ =>
    ⟨v, .ty T, .type (tyD d), .type T, b, rfl, .ty T, tyx_dp g.sub hv.1, kit_ty hk, kq _ F1 H1 (fun _ => False) g ⟨.bl _, fun _ z => z⟩ fun _ z => z.elim⟩⟩
end
end G


set_option maxRecDepth 100000
set_option maxHeartbeats 4000000
/-! instances; exceptions -/
namespace G
open PySem PySem.Spec PyProof.Rows L2
/-! ### an instance of one's own -/
def oins (K : PySem.W.Frag) (C : Addr) (fs : List (Str × PyData)) : Rs where
  At F H v S := ∃ p dx vs, v = .ref p ∧ H p = some (.ins C dx vs) ∧ H dx = some (.own p) ∧ Paired (fun (a : Str × V) (b : Str × PyData) => a.1 = b.1 ∧ Dp K F a.2 b.2) vs fs ∧ ∀ b, S b ↔ (b = p ∨ b = dx)
  mono := fun {F F' H H' v S} e eH ⟨p, dx, vs, h1, h2, h3, h4, h5⟩ => ⟨p, dx, vs, h1, by rw [eH p ((h5 p).mpr (.inl rfl))]; exact h2, by rw [eH dx ((h5 dx).mpr (.inr rfl))]; exact h3, Paired.mapP h4 fun a b z => ⟨z.1, dp_mono e z.2⟩, h5⟩
theorem paired_put {K : PySem.W.Frag} {F : Hp} {f : Str} {y : V} {d : PyData} (hy : Dp K F y d) : ∀ {vs : List (Str × V)} {fs : List (Str × PyData)}, Paired (fun (a : Str × V) (b : Str × PyData) => a.1 = b.1 ∧ Dp K F a.2 b.2) vs fs → (∀ g ∈ fs.map (·.1), g ≠ f) →
    Paired (fun (a : Str × V) (b : Str × PyData) => a.1 = b.1 ∧ Dp K F a.2 b.2) (putF f y vs) (fs ++ [(f, d)])
  | _, _, .nil, _ => .cons ⟨rfl, hy⟩ .nil
  | (g, x) :: vs, (g', d') :: fs, .cons h hs, hn => by
    obtain ⟨e1, e2⟩ := h
    have e1 : g = g' := e1
    subst e1
    have hg : g ≠ f := hn g (by simp)
    rw [putF, if_neg hg]
    exact .cons ⟨rfl, e2⟩ (paired_put hy hs fun g' hg' => hn g' (by simp only [List.map_cons]; exact List.mem_cons_of_mem _ hg'))
section
variable {X : Cx} {W : WX} {env : En} {D : DE} {c : Ct} {d d1 d2 : PyData} {e o a b tg iter : Expr} {es : List Expr} {body : List Stmt} {pos p pos' apos : Pos} {x f : Str} {k : Nat} {Q : Ct → En → Prop} {RX : Xc → En → Prop} {C : Addr} {fs : List (Str × PyData)}
/-- self.f = e, a first time -/
theorem ws_fld (i : Nat) {v : V} (h : VC X e env (.dat d)) (k : D.nx (env.set i (some (.own v (oins X.K C (fs ++ [(f, d)])))))) (cl : Cls X.K C) (na : NoAttr X.K C f) (hf : ∀ g ∈ fs.map (·.1), g ≠ f) (hl : fs.length < 1000) (hi : env[i]? = some (some (.own v (oins X.K C fs))) := by rfl) {x : Str} (hN : X.N[i]? = some x := by rfl)
    (hv : Vis X.env.scope x := by first | exact Or.inl rfl | exact Or.inr (Or.inl rfl) | exact Or.inr (Or.inr rfl)) (hd : (x == ("__debug__" : Str)) = false := by decide) (hcd : (x == ("__classdict__" : Str)) = false := by decide)
    (hs : swapsWith e (some (.Attribute (.Name x p) f pos')) pos.line X.env = pure false := by rfl) : WS X W (.Assign [.Attribute (.Name x p) f pos'] e pos) D env := fun F H σ S s E m =>
  ⟨_, ps_fld (pe_var hN hv hd hcd) pwE hs, h F H σ S s _ fun y F1 H1 Sv g hy _ => by
    have s1 := s.grow g
    obtain ⟨v', e1, ev, ⟨q, dx, vs, e2, h2, h3, h4, h5⟩, hn⟩ := s1.slot i _ hi
    have ev : v' = v := ev
    subst ev
    subst e2
    have ln : vs.length = fs.length := h4.length
    refine ⟨_, e1, q, C, dx, vs, rfl, h2, cl, na, by omega, ?_⟩
    have iq : S i q := (h5 q).mpr (.inl rfl)
    have idx : S i dx := (h5 dx).mpr (.inr rfl)
    have ne : dx ≠ q := fun z => by subst z; rw [h2] at h3; cases h3
    have hlen : i < env.length := (List.getElem?_eq_some_iff.mp hi).1
    refine m.nx F1 _ σ S _ (g.prog.trans ⟨Same.refl F1, fun b o e nb => ?_, fun b o e => .inl e, fun b z => .inl z⟩) ⟨fun b o e => ?_, fun j c' e => ?_, s1.dis, by simp [s1.len], fun j hj b => ?_⟩ k
    · rw [upd_ne (fun z => by subst z; exact nb ⟨i, iq⟩)]
      exact e
    · rw [upd_ne (fun z => by subst z; rw [(s1.no iq).1] at e; cases e)]
      exact s1.sub b o e
    · by_cases hji : j = i
      · subst hji
        rw [List.getElem?_set_self hlen] at e
        cases e
        refine ⟨_, e1, rfl, ⟨q, dx, _, rfl, upd_same, by rw [upd_ne ne]; exact h3, paired_put hy.1 h4 hf, h5⟩, fun b z => ⟨(hn b z).1, ?_⟩⟩
        rcases (h5 b).mp z with z | z
        · subst z; exact ⟨_, upd_same⟩
        · subst z; exact ⟨_, by rw [upd_ne ne]; exact h3⟩
      · rw [List.getElem?_set_ne (Ne.symm hji)] at e
        obtain ⟨w, w1, w2⟩ := s1.slot j c' e
        exact ⟨w, w1, w2.keep (Same.refl F1) (fun b z => upd_ne (fun y => by subst y; exact hji (s1.dis j i b z iq))) fun b z => (w2.no z).1⟩
    · by_cases hji : j = i
      · subst hji
        exact absurd (List.getElem?_set_self hlen) (hj _)
      · exact s1.emp j (fun c' e => hj c' (by rw [List.getElem?_set_ne (Ne.symm hji)]; exact e)) b⟩
end
/-! ### classes with an __init__ of their own -/
structure Ini (P : Program) (w : World) (K : PySem.W.Frag) (mg : Str → Option Value) (base : Heap) (x : Str) (C : Addr) (k : Nat) (spec : Spec) : Prop where
  ex : ∃ f fd ps, FnOk P w K mg base (L2.CX P w) k f fd ps (spG K spec) ∧ Mk K C f ∧ mg x = some (.ref C) ∧ Binds K fd ps []
/-- a method -/
structure Fm (P : Program) (w : World) (K : PySem.W.Frag) (mg : Str → Option Value) (base : Heap) (C : Addr) (m : Str) (k : Nat) (spec : Spec) : Prop where
  ex : ∃ f fd ps, FnOk P w K mg base (L2.CX P w) k f fd ps (spG K spec) ∧ Meth K C m f ∧ Binds K fd ps []
/-- what __init__ leaves is a lasting instance -/
theorem make_core {K : PySem.W.Frag} {F H : Hp} {vs : List V} {cs : List Ct} {spec : Spec} {C p dx : Addr} {E : XK} {QV : VK} {QC : Ct → Prop} {RX : Xc → Prop} (s : Same F H) (h : Holds K F vs cs) (np : H p = none) (ndx : H dx = none) (ne : dx ≠ p)
    (hs : ∀ v, spec (.own v (oins K C []) :: cs) (fun c cs' => c = .dat .none ∧ ∃ fs t, cs' = .own v (oins K C fs) :: t ∧ QC (.pin (insP K C fs))) (fun y _ => RX y))
    (k : ∀ v F' H' c, Grow F H F' H' → Hold K F' H' v (fun _ => False) c → QC c → QV v H') (kx : ∀ cls od F' H' y, Grow F H F' H' → XHold K F' H' (fun _ => False) cls od y → RX y → E cls od H') :
    spG K spec (.ref p :: vs) (upd (upd H dx (.own p)) p (.ins C dx [])) (fun v H2 => v = .non ∧ QV (.ref p) H2) E := by
  have nFp : F p = none := s.free np
  have nFd : F dx = none := s.free ndx
  have hst := h.sit s
  refine ⟨F, fun j b => j = 0 ∧ (b = p ∨ b = dx), .own (.ref p) (oins K C []) :: cs, _, _, ⟨fun b o e => ?_, fun j c e => ?_, fun i j b h1 h2 => by rw [h1.1, h2.1], by simp [h.length], fun j hj b z => ?_⟩, hs (.ref p), fun v F' H' S' Sv c cs' pr s' hv dj q => ?_, fun cls od F' H' S' y cs' pr s' xh q => ?_⟩
  · rw [upd_ne (ne_of_none e nFp), upd_ne (ne_of_none e nFd)]
    exact s b o e
  · cases j with
    | zero =>
      simp at e
      subst e
      have es : (fun b => (0 : Nat) = 0 ∧ (b = p ∨ b = dx)) = fun b => b = p ∨ b = dx := funext fun b => propext ⟨fun z => z.2, fun z => ⟨rfl, z⟩⟩
      refine ⟨.ref p, rfl, ?_⟩
      rw [es]
      exact ⟨rfl, ⟨p, dx, [], rfl, upd_same, by rw [upd_ne ne, upd_same], .nil, fun _ => Iff.rfl⟩, fun b z => by
        rcases z with z | z
        · subst z; exact ⟨nFp, _, upd_same⟩
        · subst z; exact ⟨nFd, _, by rw [upd_ne ne]; exact upd_same⟩⟩
    | succ j =>
      obtain ⟨v, h1, h2⟩ := hst.slot j c (by simpa using e)
      have es : (fun b => j + 1 = 0 ∧ (b = p ∨ b = dx)) = fun _ => False := funext fun b => propext ⟨fun z => by omega, False.elim⟩
      refine ⟨v, by simpa using h1, ?_⟩
      rw [es]
      exact h2.keep (Same.refl F) (fun _ z => z.elim) fun _ z => z.elim
  · exact hj (.own (.ref p) (oins K C [])) (by rw [z.1]; rfl)
  · obtain ⟨ec, fs, t, e1, qc⟩ := q
    subst ec
    have hnon := hv.1
    cases hnon
    subst e1
    obtain ⟨v0, e0, h0⟩ := s'.slot 0 _ rfl
    obtain ⟨ev, ⟨p', dx', vs', ep, h2, h3, h4, h5⟩, hn⟩ := h0
    have : V.ref p = v0 := by simpa using e0
    subst this
    cases ep
    have n1 : F' p = none := (hn p ((h5 p).mpr (.inl rfl))).1
    have n2 : F' dx' = none := (hn dx' ((h5 dx').mpr (.inr rfl))).1
    have ne' : dx' ≠ p := fun z => by subst z; rw [h2] at h3; cases h3
    have sf : Same F' (upd (upd F' p (.ins C dx' vs')) dx' (.own p)) := fun b o e => by rw [upd_ne (ne_of_none e n2), upd_ne (ne_of_none e n1)]; exact e
    have fresh : ∀ b, S' 0 b → H b = none := fun b z => by
      rcases pr.s b (.inl ⟨0, z⟩) with y | y
      · obtain ⟨j, y⟩ := y
        rcases y.2 with y | y
        · rw [y]; exact np
        · rw [y]; exact ndx
      · by_cases e1 : b = p
        · rw [e1]; exact np
        · by_cases e2 : b = dx
          · rw [e2]; exact ndx
          · rw [upd_ne e1, upd_ne e2] at y
            exact y
    have old : ∀ b o, H b = some o → H' b = some o := fun b o e => pr.keep b o (by rw [upd_ne (ne_of_none e np), upd_ne (ne_of_none e ndx)]; exact e) fun ⟨j, z⟩ => by
      rcases z.2 with z | z
      · rw [z, np] at e; cases e
      · rw [z, ndx] at e; cases e
    have nw : ∀ b o, F' b = some o → F b = some o ∨ H b = none := fun b o e => by
      rcases pr.new b o e with z | z | z
      · exact .inl z
      · by_cases e1 : b = p
        · exact .inr (by rw [e1]; exact np)
        · by_cases e2 : b = dx
          · exact .inr (by rw [e2]; exact ndx)
          · rw [upd_ne e1, upd_ne e2] at z
            exact .inr z
      · obtain ⟨j, z⟩ := z
        rcases z.2 with z | z
        · exact .inr (by rw [z]; exact np)
        · exact .inr (by rw [z]; exact ndx)
    refine ⟨rfl, k (.ref p) (upd (upd F' p (.ins C dx' vs')) dx' (.own p)) H' (.pin (insP K C fs)) ⟨pr.f.trans sf, old, fun b o e => ?_, fun b o e => ?_⟩ ⟨⟨p, dx', vs', rfl, by rw [upd_ne (Ne.symm ne')]; exact upd_same, upd_same, Paired.mapP h4 fun _ _ z => ⟨z.1, dp_mono sf z.2⟩⟩, fun _ z => z⟩ qc⟩
    · by_cases e1 : b = dx'
      · subst e1
        rw [upd_same] at e
        rw [h3]
        exact e
      · rw [upd_ne e1] at e
        by_cases e2 : b = p
        · subst e2
          rw [upd_same] at e
          rw [h2]
          exact e
        · rw [upd_ne e2] at e
          exact s'.sub b o e
    · by_cases e1 : b = dx'
      · subst e1
        exact .inr (fresh b ((h5 b).mpr (.inr rfl)))
      · rw [upd_ne e1] at e
        by_cases e2 : b = p
        · subst e2
          exact .inr np
        · rw [upd_ne e2] at e
          exact nw b o e
  · refine kx cls od F' H' y ⟨pr.f, fun b o e => ?_, s'.sub, fun b o e => ?_⟩ xh q
    · exact pr.keep b o (by rw [upd_ne (ne_of_none e np), upd_ne (ne_of_none e ndx)]; exact e) fun ⟨j, z⟩ => by
        rcases z.2 with z | z
        · rw [z, np] at e; cases e
        · rw [z, ndx] at e; cases e
    · rcases pr.new b o e with z | z | z
      · exact .inl z
      · by_cases e1 : b = p
        · exact .inr (by rw [e1]; exact np)
        · by_cases e2 : b = dx
          · exact .inr (by rw [e2]; exact ndx)
          · rw [upd_ne e1, upd_ne e2] at z
            exact .inr z
      · obtain ⟨j, z⟩ := z
        rcases z.2 with z | z
        · exact .inr (by rw [z]; exact np)
        · exact .inr (by rw [z]; exact ndx)
section
variable {X : Cx} {W : WX} {env : En} {D : DE} {c : Ct} {d d1 d2 : PyData} {e o a b tg iter : Expr} {es : List Expr} {body : List Stmt} {pos p pos' apos : Pos} {x f m : Str} {k : Nat} {Q : Ct → En → Prop} {RX : Xc → En → Prop} {C : Addr} {fs : List (Str × PyData)} {spec : Spec} {cs : List Ct} {E : XK}
/-- C(..), in a body whose exceptions leave the def -/
theorem ec_make (hI : Ini X.prog X.w X.K X.mg X.base x C k spec) (hr : Room (k + 1) X.A) (tk : Takes X (fun cls d _ H => E cls d H)) (ha : AC X (e :: es) env cs)
    (hs : ∀ v, spec (.own v (oins X.K C []) :: cs) (fun c cs' => c = .dat .none ∧ ∃ fs t, cs' = .own v (oins X.K C fs) :: t ∧ Q (.pin (insP X.K C fs)) env) (fun y _ => RX y env))
    (hg : Gl X x := by rfl) (hdb : (x == ("__debug__" : Str)) = false := by decide) (he : starEach (e :: es) X.env = (false, eval e X.env) :: starEach es X.env := by rfl) (hpl : (backTo pos (starEach es X.env)).any (·.1) = false := by rfl) :
    EC X (fun cls d _ H => E cls d H) (.Call (.Name x p) (e :: es) [] pos) Q RX env := fun F H σ S s QV kq kx => by
  obtain ⟨f, fd, ps, ok, hM, hm, hb⟩ := hI.ex
  refine ⟨_, pe_make (E := E) hM ok hr hg hm hb .nil (passes_call tk fun _ _ _ _ h => h) pwA hdb he hpl, ha F H σ S s _ fun vs F1 H1 g hvs q dx hq hdx hne => ?_⟩
  rw [List.append_nil]
  have s1 := s.grow g
  refine make_core (QC := fun c => Q c env) (RX := fun y => RX y env) g.sub hvs hq hdx hne hs (fun v F' H' c g' hv qc => ?_) fun cls od F' H' y g' xh r => ?_
  · refine kq v F' H' S (fun _ => False) c env ((g.trans g').prog.weak (fun _ z => z) fun a z => .inl (z.elim id False.elim)) (s.grow (g.trans g')) hv (fun _ _ _ z => z) qc
  · refine kx cls od F' H' S y env (g.trans g').prog (s.grow (g.trans g')) ?_ r
    obtain ⟨e1, e2⟩ := xh
    exact ⟨e1, e2⟩
/-- C(..) that raises nothing -/
theorem vc_make {c1 : Ct} (hI : Ini X.prog X.w X.K X.mg X.base x C k spec) (hr : Room (k + 1) X.A) (ha : AC X (e :: es) env cs)
    (hs : ∀ v, spec (.own v (oins X.K C []) :: cs) (fun c cs' => c = .dat .none ∧ ∃ fs t, cs' = .own v (oins X.K C fs) :: t ∧ Ct.pin (insP X.K C fs) = c1) (fun _ _ => False))
    (hg : Gl X x := by rfl) (hdb : (x == ("__debug__" : Str)) = false := by decide) (he : starEach (e :: es) X.env = (false, eval e X.env) :: starEach es X.env := by rfl) (hpl : (backTo pos (starEach es X.env)).any (·.1) = false := by rfl) :
    VC X (.Call (.Name x p) (e :: es) [] pos) env c1 := fun F H σ S s QV kq => by
  obtain ⟨f, fd, ps, ok, hM, hm, hb⟩ := hI.ex
  refine ⟨_, pe_make (E := E0) hM ok hr hg hm hb .nil passL pwA hdb he hpl, ha F H σ S s _ fun vs F1 H1 g hvs q dx hq hdx hne => ?_⟩
  rw [List.append_nil]
  refine make_core (QC := fun c => c = c1) (RX := fun _ => False) g.sub hvs hq hdx hne hs (fun v F' H' c g' hv qc => ?_) fun cls od F' H' y g' xh r => r.elim
  subst qc
  exact kq v F' H' (fun _ => False) (g.trans g') hv fun _ z => z.elim
/-- o.m(), o a lasting instance -/
theorem vc_meth0 (hF : Fm X.prog X.w X.K X.mg X.base C m k spec) (hr : Room k X.A) (cl : Cls X.K C) (ho : VC X o env (.pin (insP X.K C fs))) (hs : spec [.pin (insP X.K C fs)] (fun c' _ => c' = c) (fun _ _ => False)) (hl : fs.lookup m = none)
    {pl : Sem Bool} (ht : eval (.Call (.Attribute o m apos) [] [] pos) X.env = (do
      let ov ← eval o X.env
      standAt apos.atName
      let (f, first) ← holding [ov] (getMethod ov m pl)
      callWith pos f first (backTo pos (starEach [] X.env)) (backToKw pos (keywordEach [] X.env))) := by rfl) : VC X (.Call (.Attribute o m apos) [] [] pos) env c := fun F H σ S s Q kq => by
  obtain ⟨f, fd, ps, ok, hm, hb⟩ := hF.ex
  refine ⟨_, pe_meth0 (E := E0) pwE cl hm ok hr hb .nil passL ht, ho F H σ S s _ fun v F1 H1 Sv g hv _ => ?_⟩
  obtain ⟨⟨q, dx, vs, rfl, h2, h3, h4⟩, _⟩ := hv
  refine ⟨q, dx, vs, rfl, g.sub _ _ h2, ?_, ?_⟩
  · have : ∀ {vs : List (Str × V)} {fs : List (Str × PyData)}, Paired (fun (a : Str × V) (b : Str × PyData) => a.1 = b.1 ∧ Dp X.K F1 a.2 b.2) vs fs → fs.lookup m = none → vs.lookup m = none := by
      intro vs fs hp
      induction hp with
      | nil => intro _; rfl
      | @cons a b as bs h _ ih =>
        obtain ⟨x, y⟩ := a
        obtain ⟨x', y'⟩ := b
        have : x = x' := h.1
        subst this
        intro hh
        rw [List.lookup_cons] at hh ⊢
        cases q : m == x with
        | true => rw [q] at hh; cases hh
        | false => rw [q] at hh; exact ih hh
    exact this h4 hl
  · exact call_pure g.sub (.pin (P := insP X.K C fs) ⟨q, dx, vs, rfl, h2, h3, h4⟩ .nil) hs fun v F' H' Sv c' g' hv fr e => by
      subst e
      exact kq v F' H' Sv (g.trans g') hv fun a z => g.h.free (fr a z)
end
end G


set_option maxRecDepth 100000
set_option maxHeartbeats 4000000
/-! raise, try, == of instances -/
namespace G
open PySem PySem.Spec PyProof.Rows L2
/-- what the __init__ of an exception with one field does -/
def spExc (C : Addr) (f : Str) : Sp := fun vs H Q _ => ∃ a v, vs = [.ref a, v] ∧ H a = some (exo a C none) ∧ ∀ dx, H dx = none → dx ≠ a → Q .non (upd (upd H dx (exd dx [(f, v)])) a (exo a C (some dx)))
structure Exk (P : Program) (w : World) (K : PySem.W.Frag) (mg : Str → Option Value) (base : Heap) (x : Str) (C : Addr) (f : Str) : Prop where
  oex : OexC K C
  xf : XfC K C
  gm : mg x = some (.ref C)
  no : PySem.W.findIn K (.ref C) f = some none
  me : PySem.W.exmOne K (.ref C) (.ref C) = some true
  ini : ∃ fI fd ps, PySem.W.findIn K (.ref C) "__init__" = some (some (.ref fI)) ∧ PySem.W.typeIn K (.ref fI) = some (.type "function") ∧ Binds K fd ps [] ∧ FnOk P w K mg base (L2.CX P w) 1 fI fd ps (spExc C f)
section
variable {X : Cx} {W : WX} {env : En} {D : DE} {c : Ct} {d d1 d2 : PyData} {e o a b : Expr} {es : List Expr} {body : List Stmt} {pos p pos' pos2 apos np : Pos} {x f m n : Str} {k : Nat} {Q : Ct → En → Prop} {RX : Xc → En → Prop} {C : Addr}
/-- raise x(e) -/
theorem ws_raise (T : Exk X.prog X.w X.K X.mg X.base x C f) (hr : Room 2 X.A) (tk : Takes X W) (h : VC X e env (.dat d)) (k : D.ex ⟨C, some (f, d)⟩ env) (hc : X.calm = true := by rfl) (hg : Gl X x := by rfl) (hdb : (x == ("__debug__" : Str)) = false := by decide)
    (he : starEach [e] X.env = (false, eval e X.env) :: starEach [] X.env := by rfl) (hpl : (backTo pos (starEach [] X.env)).any (·.1) = false := by rfl) : WS X W (.Raise (some (.Call (.Name x p) [e] [] pos)) none pos2) D env := fun F H σ S s E m => by
  obtain ⟨fI, fd, ps, iC, tI, hb, ok⟩ := T.ini
  refine ⟨_, ps_raise hc tk (pmk_oex T.oex iC tI ok hr hb .nil passL hg T.gm (pa_cons pwE pa_nil he) hdb he hpl), h F H σ S s _ fun v F1 H1 Sv g hv _ => ⟨by simp, fun q hq => ⟨q, v, rfl, upd_same, fun dx hdx hne => ⟨rfl, dx, [(f, v)], upd_same, ?_, ?_, ?_⟩⟩⟩⟩
  · rw [upd_ne hne, upd_same]
  · rw [upd_ne hne] at hdx; exact hdx
  · have hdx' : H1 dx = none := by rw [upd_ne hne] at hdx; exact hdx
    have e1 : upd (del (upd (upd (upd H1 q (exo q C none)) dx (exd dx [(f, v)])) q (exo q C (some dx))) q) dx (.xd [(f, v)]) = upd H1 dx (.xd [(f, v)]) := by
      funext b
      by_cases e1 : b = dx
      · subst e1; rw [upd_same, upd_same]
      · rw [upd_ne e1, upd_ne e1]
        by_cases e2 : b = q
        · subst e2; rw [del_same, hq]
        · rw [del_ne e2, upd_ne e2, upd_ne e1, upd_ne e2]
    rw [e1]
    have g2 := Grow.laid (o := HO.xd [(f, v)]) g.sub hdx'
    have s2 := (s.grow g).grow g2
    exact m.ex (.ref C) (some dx) _ _ σ S ⟨C, some (f, d)⟩ env (g.trans g2).prog s2 ⟨rfl, dx, v, rfl, upd_same, dp_mono g2.f hv.1⟩ k
/-- the exception that a suite holds -/
def xcP (K : PySem.W.Frag) (a : Addr) (od : Option Addr) (x : Xc) : Ps where
  At F v := v = .ref a ∧ match x.fld with
    | none => od = none
    | some (f, d) => ∃ p w, od = some p ∧ F p = some (.xd [(f, w)]) ∧ Dp K F w d
  mono := fun {F F' v} e ⟨h1, h2⟩ => ⟨h1, by
    cases q : x.fld with
    | none => rw [q] at h2; exact h2
    | some fd =>
      rw [q] at h2
      obtain ⟨p, w, a1, a2, a3⟩ := h2
      exact ⟨p, w, a1, e _ _ a2, dp_mono e a3⟩⟩
/-- e.f there -/
theorem vc_xf {a C : Addr} {oe : Obj} {od : Option Addr} {pn : List (Addr × Obj)} (T : XfC X.K C) (hno : PySem.W.findIn X.K (.ref C) f = some none) (hz : Zc (.ref C) od oe) (hf : ∃ vs, oe.data = .fields vs)
    (h : VC (X.suite a ((a, oe) :: pn)) e env (.pin (xcP X.K a od ⟨C, some (f, d)⟩))) (hb : attributeBase e f X.env (eval e X.env) = eval e X.env := by rfl) : VC (X.suite a ((a, oe) :: pn)) (.Attribute e f pos) env (.dat d) := fun F H σ S s Q kq =>
  ⟨_, pe_xf T hno hz hf (pwE (X := X.suite a ((a, oe) :: pn))) hb, h F H σ S s _ fun v F1 H1 Sv g hv _ => by
    obtain ⟨⟨e1, p, w, e2, h2, h3⟩, _⟩ := hv
    exact ⟨e1, rfl, p, [(f, w)], w, e2, g.sub _ _ h2, by simp [List.lookup], kq w F1 H1 (fun _ => False) g ⟨h3, fun _ z => z⟩ fun _ z => z.elim⟩⟩
/-- try: body; except x as n: suite -/
theorem ws_try_as (i : Nat) {b₀ : Stmt} {suite : List Stmt} {hpos : Pos} {cv : Value} (hN : X.N.Nodup) (hcn : Names X x cv) (tk : Takes X W)
    (hb : ∀ (W' : WX) (pn : List (Addr × Obj)) (xe : Value → Shared → Prop), Takes (X.tr pn xe) W' → PassesOwn (model X.prog X.w) X.A X.env xe → WB (X.tr pn xe) W' body { D with ex := fun y env1 => ∃ b, PySem.W.exmOne X.K (.ref y.cls) cv = some b ∧
      (b = true → ∀ (a : Addr) (oe : Obj) (od : Option Addr) (pn : List (Addr × Obj)), Zc (.ref y.cls) od oe → (∃ vs, oe.data = .fields vs) → WB (X.suite a ((a, oe) :: pn)) (fun _ _ _ _ => False) (b₀ :: suite) { nx := fun env2 => D.nx (env2.set i none), rt := D.rt, bk := fun env2 => D.bk (env2.set i none), ct := fun env2 => D.ct (env2.set i none) } (env1.set i (some (.pin (xcP X.K a od y))))) ∧
      (b = false → D.ex y env1) } env)
    (hi : X.N[i]? = some n := by rfl) (hs : X.stack = X.env :: X.outer := by rfl) (hf : X.env.frame = some X.env.locals := by rfl) (hln : X.env.kindOf n = some .local := by rfl) :
    WS X W (.Try body [.ExceptHandler (some (.Name x np)) (some n) (b₀ :: suite) hpos] [] [] pos) D env := fun F H σ S s E m => by
  let tb : WX → TS := fun W' D' σ' H' => ∀ (pn : List (Addr × Obj)) (xe : Value → Shared → Prop), Takes (X.tr pn xe) W' → PassesOwn (model X.prog X.w) X.A X.env xe → wB (X.tr pn xe) body D' σ' H'
  let ts : Addr → Value → Option Addr → TS := fun a cls od D' σ' H' => ∀ (oe : Obj) (pn : List (Addr × Obj)), Zc cls od oe → (∃ vs, oe.data = .fields vs) → wB (X.suite a ((a, oe) :: pn)) (b₀ :: suite) D' σ' H'
  refine ⟨_, ps_try_as (tb := tb) (ts := ts) hs hf hN hi hln hcn tk (fun W' pn xe h1 h2 => ⟨fun pins s σ H Q I q => pwB.run pins s σ H Q I (q pn xe h1 h2)⟩) (fun a oe cls od pn h1 h2 => ⟨fun pins s σ H Q I q => pwB.run pins s σ H Q I (q oe pn h1 h2)⟩), ?_⟩
  intro pn xe h1 h2
  refine hb _ pn xe h1 h2 F H σ S s E ⟨m.nx, m.rt, m.bk, m.ct, fun cls od F' H' σ' S' y env' p s' xh ⟨b, hb1, hy, hn⟩ => ?_⟩
  have ec : cls = .ref y.cls := xh.1
  subst ec
  refine ⟨b, hb1, fun eb a ha => ?_, fun eb => m.ex _ _ F' H' σ' S' y env' p s' xh (hn eb)⟩
  intro oe pn' hz hfl
  obtain ⟨S2, s2, t2⟩ := s'.put (i := i) (c := .pin (xcP X.K a od y)) (v := .ref a) (Sv := fun _ => False) ⟨⟨rfl, xh.2⟩, fun _ z => z⟩ (fun _ _ _ z => z)
  have p2 : Prog F H (tot S) F' H' (tot S2) := p.trans (s'.sub_tot fun a z => (t2 a z).elim id False.elim)
  refine hy eb a oe od pn' hz hfl F' H' _ S2 s2 _ ⟨fun F3 H3 σ3 S3 env3 p3 s3 q => ?_, fun v F3 H3 σ3 S3 Sv c env3 p3 s3 hv dj q => m.rt v F3 H3 σ3 S3 Sv c env3 (p2.trans p3) s3 hv dj q, fun F3 H3 σ3 S3 env3 p3 s3 q => ?_, fun F3 H3 σ3 S3 env3 p3 s3 q => ?_, fun _ _ _ _ _ _ _ _ _ _ _ z => z.elim⟩
  · exact m.nx F3 H3 _ _ _ ((p2.trans p3).trans (s3.sub_tot (S' := fun j => if j = i then fun _ => False else S3 j) fun a ⟨j, z⟩ => by by_cases e : j = i <;> simp [e] at z; exact ⟨j, z⟩)) (s3.drop i) q
  · exact m.bk F3 H3 _ _ _ ((p2.trans p3).trans (s3.sub_tot (S' := fun j => if j = i then fun _ => False else S3 j) fun a ⟨j, z⟩ => by by_cases e : j = i <;> simp [e] at z; exact ⟨j, z⟩)) (s3.drop i) q
  · exact m.ct F3 H3 _ _ _ ((p2.trans p3).trans (s3.sub_tot (S' := fun j => if j = i then fun _ => False else S3 j) fun a ⟨j, z⟩ => by by_cases e : j = i <;> simp [e] at z; exact ⟨j, z⟩)) (s3.drop i) q
/-- try: body; except x: suite -/
theorem ws_try {b₀ : Stmt} {suite : List Stmt} {hpos : Pos} {cv : Value} (hcn : Names X x cv) (tk : Takes X W)
    (hb : ∀ (W' : WX) (pn : List (Addr × Obj)) (xe : Value → Shared → Prop), Takes (X.tr pn xe) W' → PassesOwn (model X.prog X.w) X.A X.env xe → WB (X.tr pn xe) W' body { D with ex := fun y env1 => ∃ b, PySem.W.exmOne X.K (.ref y.cls) cv = some b ∧
      (b = true → ∀ (a : Addr) (oe : Obj) (pn : List (Addr × Obj)), WB (X.suite a ((a, oe) :: pn)) (fun _ _ _ _ => False) (b₀ :: suite) { nx := D.nx, rt := D.rt, bk := D.bk, ct := D.ct } env1) ∧
      (b = false → D.ex y env1) } env)
    (hs : X.stack = X.env :: X.outer := by rfl) (hf : X.env.frame = some X.env.locals := by rfl) :
    WS X W (.Try body [.ExceptHandler (some (.Name x np)) none (b₀ :: suite) hpos] [] [] pos) D env := fun F H σ S s E m => by
  let tb : WX → TS := fun W' D' σ' H' => ∀ (pn : List (Addr × Obj)) (xe : Value → Shared → Prop), Takes (X.tr pn xe) W' → PassesOwn (model X.prog X.w) X.A X.env xe → wB (X.tr pn xe) body D' σ' H'
  let ts : Addr → Value → Option Addr → TS := fun a cls od D' σ' H' => ∀ (oe : Obj) (pn : List (Addr × Obj)), wB (X.suite a ((a, oe) :: pn)) (b₀ :: suite) D' σ' H'
  refine ⟨_, ps_try_only (tb := tb) (ts := ts) hs hf hcn tk (fun W' pn xe h1 h2 => ⟨fun pins s σ H Q I q => pwB.run pins s σ H Q I (q pn xe h1 h2)⟩) (fun a oe cls od pn h1 h2 => ⟨fun pins s σ H Q I q => pwB.run pins s σ H Q I (q oe pn)⟩), ?_⟩
  intro pn xe h1 h2
  refine hb _ pn xe h1 h2 F H σ S s E ⟨m.nx, m.rt, m.bk, m.ct, fun cls od F' H' σ' S' y env' p s' xh ⟨b, hb1, hy, hn⟩ => ?_⟩
  have ec : cls = .ref y.cls := xh.1
  subst ec
  refine ⟨b, hb1, fun eb a ha oe pn' => ?_, fun eb => m.ex _ _ F' H' σ' S' y env' p s' xh (hn eb)⟩
  have m2 := m.from p
  exact hy eb a oe pn' F' H' σ' S' s' _ ⟨m2.nx, m2.rt, m2.bk, m2.ct, fun _ _ _ _ _ _ _ _ _ _ _ z => z.elim⟩
/-! ### == of instances with an __eq__ of their own -/
theorem op_eqOwn {CX : CXT} {C f : Addr} {fd : FuncData} {ps : List Str} {sp : Sp} {E : XK} {k : Nat} (F : FnOk X.prog X.w X.K X.mg X.base CX k f fd ps sp) (hs : PySem.W.findIn X.K (.ref C) "__eq__" = some (some (.ref f))) (hf : PySem.W.isFn X.K (.ref f) = true) (hb : Binds X.K fd ps []) (hx : Passes CX X E) (hr : Room k X.A) :
    OpR X (compareOp .Eq) (fun x y H Q => ∃ a b dx dy fs gs, x = .ref a ∧ y = .ref b ∧ H a = some (.ins C dx fs) ∧ H b = some (.ins C dy gs) ∧ sp [.ref a, .ref b] H Q E) := by
  intro pins s σ H x y v u Q I rx ry hq
  obtain ⟨a, b, dx, dy, fs, gs, rfl, rfl, ha, hb', hsp⟩ := hq
  cases rx
  cases ry
  obtain ⟨mA, J, _⟩ := ins_get I.hok ha
  obtain ⟨mB, J', _⟩ := ins_get I.hok hb'
  obtain ⟨od, J, _⟩ := J.look
  obtain ⟨od', J', _⟩ := J'.look
  obtain ⟨m, hF⟩ := I.fr
  show wpAny (model X.prog X.w) X.A (richCompare .Eq _ _) (EP X pins σ Q) X.xe s
  refine PySem.W.cmp_K (op := .Eq) (tb := .ref C) hr.units0 hF I.ok.mod.kin J J'.type (by simp [PySem.W.notFirst]) hs hf ?_
  have hl := F.len _ _ _ _ hsp
  have r2 : Vals [V.ref a, V.ref b] [Value.ref a, Value.ref b] := .cons rfl (.cons rfl .nil)
  refine wpAny_mono (run_fn (us := [.ref a, .ref b]) (vs := [.ref a, .ref b]) F hr hb .nil hx I r2 hsp) (fun r s' z => ?_) fun _ _ x => x
  obtain ⟨z, H', I', rz, q⟩ := z
  have q' : EP X pins σ Q r s' := ⟨z, H', I', rz, q⟩
  cases z with
  | non => cases (show r = Value.none from rz); exact q'
  | bl b => cases (show r = Value.bool b from rz); exact q'
  | int i => obtain ⟨t, e⟩ := (show ∃ t, r = Value.int i t from rz); cases e; exact q'
  | str i => obtain ⟨t, e⟩ := (show ∃ t, r = Value.str i t from rz); cases e; exact q'
  | byt i => obtain ⟨t, e⟩ := (show ∃ t, r = Value.bytes i t from rz); cases e; exact q'
  | flt i => obtain ⟨t, e⟩ := (show ∃ t, r = Value.float i t from rz); cases e; exact q'
  | ref i => cases (show r = Value.ref i from rz); exact q'
  | ty i => cases (show r = Value.type i from rz); exact q'
/-- a == b -/
theorem vc_eqOwn {C : Addr} {fs gs : List (Str × PyData)} {spec : Spec} (hF : Fm X.prog X.w X.K X.mg X.base C "__eq__" k spec) (hr : Room k X.A) (ha : VC X a env (.pin (insP X.K C fs))) (hb : VC X b env (.pin (insP X.K C gs))) (hs : spec [.pin (insP X.K C fs), .pin (insP X.K C gs)] (fun c' _ => c' = c) (fun _ _ => False))
    (hm : behindInMarks .Eq b = false := by first | exact nomark _ | rfl) : VC X (.Compare a [.Eq] [b] pos) env c := fun F H σ S s Q kq => by
  obtain ⟨f, fd, ps, ok, hM, hbd⟩ := hF.ex
  refine ⟨_, pe_cmpR (op_eqOwn (E := E0) ok hM.at_ hM.fn hbd passL hr) pwE pwE hm, ha F H σ S s _ fun v1 F1 H1 _ g1 h1 _ => hb F1 H1 σ S (s.grow g1) _ fun v2 F2 H2 _ g2 h2 _ => ?_⟩
  have h1' := (insP X.K C fs).mono g2.f h1.1
  obtain ⟨q, dx, vs, rfl, a2, a3, a4⟩ := id h1'
  obtain ⟨q', dx', vs', rfl, b2, b3, b4⟩ := id h2.1
  refine ⟨q, q', dx, dx', vs, vs', rfl, rfl, g2.sub _ _ a2, g2.sub _ _ b2, call_pure g2.sub (.pin h1' (.pin h2.1 .nil)) hs fun v F' H' Sv c' g' hv fr e => ?_⟩
  subst e
  exact kq v F' H' Sv ((g1.trans g2).trans g') hv fun z y => (g1.trans g2).h.free (fr z y)
/-! ### isinstance with a class of the module -/
structure IsiC (K : PySem.W.Frag) (C : Addr) : Prop where
  cl : Cls K C
  ha : PySem.W.findIn K (.ref C) "__class__" = some (some (.builtin "object.__class__"))
  hn : PySem.W.specialIn K (.builtin "object.__class__") "__get__" = some (some (.builtin "getset_descriptor.__get__"))
  htk : PySem.W.takesIn K (.builtin "object.__class__") = some true
  hm : PySem.W.mroIn K C (.type "object") = some true
  me : PySem.W.kitOne K (.ref C) (.ref C) = some true
theorem vc_isiC {C : Addr} {fs : List (Str × PyData)} {nm : Str} {p0 p1 : Pos} (T : IsiC X.K C) (hm : X.mg "isinstance" = none) (hT : X.mg nm = some (.ref C)) (h : VC X e env (.pin (insP X.K C fs))) (hg : Gl X "isinstance" := by rfl) (hgT : Gl X nm := by rfl) (hdb : (nm == ("__debug__" : Str)) = false := by decide)
    (hs : starEach [e, .Name nm p1] X.env = (false, eval e X.env) :: starEach [.Name nm p1] X.env := by rfl) (hs2 : starEach [.Name nm p1] X.env = (false, eval (.Name nm p1) X.env) :: starEach [] X.env := by rfl)
    (hpl : (backTo pos (starEach [.Name nm p1] X.env)).any (·.1) = false := by rfl) : VC X (.Call (.Name "isinstance" p0) [e, .Name nm p1] [] pos) env (.dat (.bool true)) := fun F H σ S s Q kq =>
  ⟨_, pe_callB call_isi hg hm (by decide +kernel) (pa_cons pwE (pa_cons (pe_glob hgT hT (v := .ref C) rfl hdb) pa_nil hs2) hs) (by decide) (by decide) hs hpl, h F H σ S s _ fun v F1 H1 Sv g hv _ => by
    obtain ⟨⟨q, dx, vs, rfl, h2, h3, h4⟩, _⟩ := hv
    exact ⟨.ref q, .ref C, .ref C, .ref C, true, rfl, .own C, .base (.ins (g.sub _ _ h2) T.cl T.ha T.hn T.htk T.hm), T.me, kq _ F1 H1 (fun _ => False) g ⟨.bl _, fun _ z => z⟩ fun _ z => z.elim⟩⟩
end
/-! ### the rules for methods -/
section
variable {P : Program} {w : World} {K : PySem.W.Frag} {mg : Str → Option Value} {base : Heap} {x qual : Str} {st : Stmt} {N ps : List Str} {k : Nat} {spec : Spec} {C : Addr}
structure Dm (K : PySem.W.Frag) (C : Addr) (m qual : Str) (st : Stmt) (ps : List Str) : Prop where
  ex : ∃ f fd, Fun K m qual st f fd ∧ Meth K C m f ∧ Binds K fd ps []
structure Di (K : PySem.W.Frag) (mg : Str → Option Value) (x : Str) (C : Addr) (qual : Str) (st : Stmt) (ps : List Str) : Prop where
  ex : ∃ f fd, Fun K "__init__" qual st f fd ∧ Mk K C f ∧ mg x = some (.ref C) ∧ Binds K fd ps []
theorem fnM {m : Str} (D : Dm K C m qual st ps) (Sc : FnScope N ps (defScope st)) (len : ∀ cs R RX, spec cs R RX → cs.length = ps.length)
    (hbody : ∀ (f : Addr) (cdv : Value) (A : Around) (outer : List Env) (s : Shared) (H : Hp) (E : XK) (X : Cx), X = cxOf (L2.CX P w) P w K mg base N qual (defScope st) f cdv A outer s H E → Room k X.A → Takes X (fun cls d _ H => E cls d H) → PassesOwn (model X.prog X.w) X.A X.env X.xe →
      ∀ (cs : List Ct) (R : Ct → List Ct → Prop) (RX : Xc → List Ct → Prop), spec cs R RX →
        WB X (fun cls d _ H => E cls d H) (defBody st) { nx := fun env' => ∃ cs', Back cs env' cs' ∧ R (.dat .none) cs', rt := fun c env' => ∃ cs', Back cs env' cs' ∧ R c cs', ex := fun x env' => ∃ cs', Back cs env' cs' ∧ RX x cs' } (cs.map some ++ List.replicate (N.length - ps.length) none)) :
    Fm P w K mg base C m (k + 1) spec := by
  obtain ⟨f, fd, F, hm, hb⟩ := D.ex
  exact ⟨f, fd, ps, okG F Sc len fun cdv A outer s H E X e hr tk hp cs R RX sp => hbody f cdv A outer s H E X e hr tk hp cs R RX sp, hm, hb⟩
theorem fnI (D : Di K mg x C qual st ps) (Sc : FnScope N ps (defScope st)) (len : ∀ cs R RX, spec cs R RX → cs.length = ps.length)
    (hbody : ∀ (f : Addr) (cdv : Value) (A : Around) (outer : List Env) (s : Shared) (H : Hp) (E : XK) (X : Cx), X = cxOf (L2.CX P w) P w K mg base N qual (defScope st) f cdv A outer s H E → Room k X.A → Takes X (fun cls d _ H => E cls d H) → PassesOwn (model X.prog X.w) X.A X.env X.xe →
      ∀ (cs : List Ct) (R : Ct → List Ct → Prop) (RX : Xc → List Ct → Prop), spec cs R RX →
        WB X (fun cls d _ H => E cls d H) (defBody st) { nx := fun env' => ∃ cs', Back cs env' cs' ∧ R (.dat .none) cs', rt := fun c env' => ∃ cs', Back cs env' cs' ∧ R c cs', ex := fun x env' => ∃ cs', Back cs env' cs' ∧ RX x cs' } (cs.map some ++ List.replicate (N.length - ps.length) none)) :
    Ini P w K mg base x C (k + 1) spec := by
  obtain ⟨f, fd, F, hM, hm, hb⟩ := D.ex
  exact ⟨f, fd, ps, okG F Sc len fun cdv A outer s H E X e hr tk hp cs R RX sp => hbody f cdv A outer s H E X e hr tk hp cs R RX sp, hM, hm, hb⟩
/-- the __init__ of an exception: self.f = f -/
theorem ok_exc {f : Str} {fI : Addr} {fd : FuncData} {a1 a2 a3 a4 : Pos} (F : Fun K "__init__" qual st fI fd) (Sc : FnScope [("self" : Str), f] [("self" : Str), f] (defScope st)) (T : OexC K C) (no : PySem.W.findIn K (.ref C) f = some none)
    (hbd : defBody st = [.Assign [.Attribute (.Name "self" a1) f a2] (.Name f a3) a4])
    (hps : ∀ X : Cx, X.K = K → X.N = [("self" : Str), f] → X.env.scope = defScope st → PSs X [.Assign [.Attribute (.Name "self" a1) f a2] (.Name f a3) a4] (tOst K f (tVar 0) (tVar 1))) : FnOk P w K mg base (L2.CX P w) 1 fI fd [("self" : Str), f] (spExc C f) := by
  refine F.okX Sc (fun vs H Q E h => ?_) fun cdv A outer s H vs Q E hr h => ?_
  · obtain ⟨a, v, rfl, _⟩ := h
    rfl
  · obtain ⟨a, v, rfl, ha, k⟩ := h
    rw [hbd]
    exact ⟨_, hps _ rfl rfl rfl, v, rfl, .ref a, rfl, a, C, rfl, T, no, .inl ⟨ha, fun dx hdx hne => k dx hdx hne⟩⟩
end
end G


set_option maxRecDepth 100000
set_option maxHeartbeats 4000000
/-! calls of methods; small things -/
namespace G
open PySem PySem.Spec PyProof.Rows L2
/-- a method call, what it may let out told at the slots -/
def tMethW (C : Addr) (m : Str) (sp : Sp) (E : L2.St → XK) (ta : TE) (t : TA) : TE := fun σ H Q => ta σ H fun x H1 => ∃ q dx vs, x = .ref q ∧ H1 q = some (.ins C dx vs) ∧ vs.lookup m = none ∧ t σ H1 fun us H2 => sp (x :: us) H2 Q (E σ)
theorem pe_methW {X : Cx} {CX : CXT} {k : Nat} {C g : Addr} {m : Str} {fd : FuncData} {ps : List Str} {sp : Sp} {E : L2.St → XK} {o e : Expr} {es : List Expr} {ta : TE} {t : TA} {apos pos : Pos} {pl : Sem Bool}
    (ho : PE X o ta) (cl : Cls X.K C) (hm : Meth X.K C m g) (ok : FnOk X.prog X.w X.K X.mg X.base CX k g fd ps sp) (rm : Room k X.A) (bd : Binds X.K fd ps []) (px : ∀ σ, PassesAt CX X σ (E σ)) (has : PA X (e :: es) t)
    (h1 : starEach (e :: es) X.env = (false, eval e X.env) :: starEach es X.env) (h2 : (backTo pos (starEach es X.env)).any (·.1) = false)
    (h3 : eval (.Call (.Attribute o m apos) (e :: es) [] pos) X.env = (do let ov ← eval o X.env; standAt apos.atName; let (f, first) ← holding [ov] (getMethod ov m pl); callWith pos f first (backTo pos (starEach (e :: es) X.env)) (backToKw pos (keywordEach [] X.env)))) :
    PE X (.Call (.Attribute o m apos) (e :: es) [] pos) (tMethW C m sp E ta t) :=
  ⟨fun pins s σ H Q I h => PySem.W.methodCall_KW (pl := pl) (thn (ho.run pins s σ H _ I h) fun u s1 z => by
    obtain ⟨x, H1, I1, rx, q, dx, vs, ex, eq, l, k⟩ := z
    subst ex
    have eu : u = Value.ref q := rx
    subst eu
    exact getmeth_ok I1 eq cl hm l (PySem.W.callWith_K (first := [.ref q]) (h₀ := X.base) I.ok.mod.kin hm.kp (thn (has.run pos pins s1 σ H1 _ I1 k) fun us s2 z2 => by
      obtain ⟨ws, H2, I2, r2, k2⟩ := z2
      exact ⟨I2.kIn, run_fnS (us := .ref q :: us) (vs := .ref q :: ws) ok rm bd (px σ) I2 (.cons rfl r2) k2⟩) h1 h2)) h3⟩
section
variable {X : Cx} {W : WX} {env : En} {D : DE} {c : Ct} {d d1 d2 : PyData} {e o a b : Expr} {es : List Expr} {pos p pos' apos : Pos} {x f m : Str} {k : Nat} {Q : Ct → En → Prop} {RX : Xc → En → Prop} {C : Addr} {fs : List (Str × PyData)} {spec : Spec} {cs : List Ct}
theorem call_pureX {K : PySem.W.Frag} {QV : VK} {F H : Hp} {vs : List L2.V} {E : XK} {PC : Ct → Prop} {PX : Xc → Prop} (s : Same F H) (h : Holds K F vs cs) (hs : spec cs (fun c' _ => PC c') (fun y _ => PX y))
    (kq : ∀ v F' H' Sv c', Grow F H F' H' → Hold K F' H' v Sv c' → (∀ a, Sv a → H a = none) → PC c' → QV v H') (kx : ∀ cls od F' H' y, Grow F H F' H' → XHold K F' H' (fun _ => False) cls od y → PX y → E cls od H') : spG K spec vs H QV E := by
  have nt : ∀ a, ¬ tot (fun _ _ => False : Foot) a := fun a ⟨_, z⟩ => z
  refine ⟨F, fun _ _ => False, cs, _, _, h.sit s, hs, fun v F' H' S' Sv c cs' p s' hv dj q => ?_, fun cls od F' H' S' y cs' p s' xh q => ?_⟩
  · exact kq v F' H' Sv c ⟨p.f, fun a o e => p.keep a o e (nt a), s'.sub, fun a o e => (p.new a o e).elim .inl fun z => .inr (z.elim id fun z => (nt a z).elim)⟩ hv (fun a z => (p.s a (.inr z)).elim (fun z => (nt a z).elim) id) q
  · exact kx cls od F' H' y ⟨p.f, fun a o e => p.keep a o e (nt a), s'.sub, fun a o e => (p.new a o e).elim .inl fun z => .inr (z.elim id fun z => (nt a z).elim)⟩ xh q
theorem paired_none {K : PySem.W.Frag} {F : Hp} {m : Str} : ∀ {vs : List (Str × L2.V)} {fs : List (Str × PyData)}, Paired (fun (a : Str × L2.V) (b : Str × PyData) => a.1 = b.1 ∧ Dp K F a.2 b.2) vs fs → fs.lookup m = none → vs.lookup m = none
  | _, _, .nil, _ => rfl
  | (x, y) :: vs, (x', y') :: fs, .cons h hs, e => by
    have : x = x' := h.1
    subst this
    rw [List.lookup_cons] at e ⊢
    cases q : m == x with
    | true => rw [q] at e; cases e
    | false => rw [q] at e; exact paired_none hs e
/-- o.m(e, ..), o a lasting instance, the rest known -/
theorem ec_meth (hF : Fm X.prog X.w X.K X.mg X.base C m k spec) (hr : Room k X.A) (tk : Takes X W) (cl : Cls X.K C) (ho : VC X o env (.pin (insP X.K C fs))) (hl : fs.lookup m = none) (ha : AC X (e :: es) env cs)
    (hs : spec (.pin (insP X.K C fs) :: cs) (fun c' _ => Q c' env) (fun y _ => RX y env)) {pl : Sem Bool}
    (h1 : starEach (e :: es) X.env = (false, eval e X.env) :: starEach es X.env := by rfl) (h2 : (backTo pos (starEach es X.env)).any (·.1) = false := by rfl)
    (h3 : eval (.Call (.Attribute o m apos) (e :: es) [] pos) X.env = (do let ov ← eval o X.env; standAt apos.atName; let (f, first) ← holding [ov] (getMethod ov m pl); callWith pos f first (backTo pos (starEach (e :: es) X.env)) (backToKw pos (keywordEach [] X.env))) := by rfl) :
    EC X W (.Call (.Attribute o m apos) (e :: es) [] pos) Q RX env := fun F H σ S s QV kq kx => by
  obtain ⟨g, fd, ps, ok, hm, hb⟩ := hF.ex
  refine ⟨_, pe_methW (E := WE W) (pl := pl) pwE cl hm ok hr hb (fun σ => passAt tk σ) pwA h1 h2 h3, ho F H σ S s _ fun v F1 H1 Sv g1 hv _ => ?_⟩
  obtain ⟨⟨q, dx, vs, rfl, a2, a3, a4⟩, _⟩ := hv
  refine ⟨q, dx, vs, rfl, g1.sub _ _ a2, paired_none a4 hl, ha F1 H1 σ S (s.grow g1) _ fun us F2 H2 g2 hus => ?_⟩
  have s2 := (s.grow g1).grow g2
  refine call_pureX (PC := fun c => Q c env) (PX := fun y => RX y env) g2.sub (.pin (P := insP X.K C fs) ((insP X.K C fs).mono g2.f ⟨q, dx, vs, rfl, a2, a3, a4⟩) hus) hs (fun v F' H' Sv c' g' hv fr qc => ?_) fun cls od F' H' y g' xh r => ?_
  · have gg := (g1.trans g2).trans g'
    refine kq v F' H' S Sv c' env ⟨gg.f, fun a o e _ => gg.h a o e, fun a o e => (gg.new a o e).elim .inl fun z => .inr (.inl z), fun a z => z.elim .inl fun z => .inr ((g1.trans g2).h.free (fr a z))⟩ (s.grow gg) hv (fun i a z y => ?_) qc
    obtain ⟨_, o, ho⟩ := s2.no z
    rw [fr a y] at ho
    cases ho
  · have gg := (g1.trans g2).trans g'
    exact kx cls od F' H' S y env gg.prog (s.grow gg) ⟨xh.1, xh.2⟩ r
theorem vc_meth (hF : Fm X.prog X.w X.K X.mg X.base C m k spec) (hr : Room k X.A) (cl : Cls X.K C) (ho : VC X o env (.pin (insP X.K C fs))) (hl : fs.lookup m = none) (ha : AC X (e :: es) env cs)
    (hs : spec (.pin (insP X.K C fs) :: cs) (fun c' _ => c' = c) (fun _ _ => False)) {pl : Sem Bool}
    (h1 : starEach (e :: es) X.env = (false, eval e X.env) :: starEach es X.env := by rfl) (h2 : (backTo pos (starEach es X.env)).any (·.1) = false := by rfl)
    (h3 : eval (.Call (.Attribute o m apos) (e :: es) [] pos) X.env = (do let ov ← eval o X.env; standAt apos.atName; let (f, first) ← holding [ov] (getMethod ov m pl); callWith pos f first (backTo pos (starEach (e :: es) X.env)) (backToKw pos (keywordEach [] X.env))) := by rfl) :
    VC X (.Call (.Attribute o m apos) (e :: es) [] pos) env c := fun F H σ S s QV kq => by
  obtain ⟨g, fd, ps, ok, hm, hb⟩ := hF.ex
  refine ⟨_, pe_methW (E := WE fun _ _ _ _ => False) (pl := pl) pwE cl hm ok hr hb (fun σ => passAt takes0 σ) pwA h1 h2 h3, ho F H σ S s _ fun v F1 H1 Sv g1 hv _ => ?_⟩
  obtain ⟨⟨q, dx, vs, rfl, a2, a3, a4⟩, _⟩ := hv
  refine ⟨q, dx, vs, rfl, g1.sub _ _ a2, paired_none a4 hl, ha F1 H1 σ S (s.grow g1) _ fun us F2 H2 g2 hus => ?_⟩
  exact call_pure g2.sub (.pin (P := insP X.K C fs) ((insP X.K C fs).mono g2.f ⟨q, dx, vs, rfl, a2, a3, a4⟩) hus) hs fun v F' H' Sv c' g' hv fr e => by
    subst e
    exact kq v F' H' Sv ((g1.trans g2).trans g') hv fun z y => (g1.trans g2).h.free (fr z y)
/-- f(), pure -/
theorem vc_call0 (hF : Fn X.prog X.w X.K X.mg X.base x k spec) (hr : Room k X.A) (hs : spec [] (fun c' _ => c' = c) (fun _ _ => False)) (hg : Gl X x := by rfl) (hdb : (x == ("__debug__" : Str)) = false := by decide) : VC X (.Call (.Name x p) [] [] pos) env c := fun F H σ S s Q kq => by
  obtain ⟨f, fd, ps, ok, hm, hk, hb⟩ := hF.ex
  exact ⟨_, pe_call0 ok hr hg hm hk hb .nil passL hdb, call_pure s.sub .nil hs fun v F' H' Sv c' g' hv fr e => by
    subst e
    exact kq v F' H' Sv g' hv fr⟩
/-- e is None, e an instance -/
theorem tc_isPin {j : Nat} {p2 : Pos} (h : VC X e env (.pin (insP X.K C fs))) : TC X (.Compare e [.Is] [.Constant .none j p2] pos) env false := fun F H σ S s Q k =>
  ⟨_, pt_cmpR op_isN pwE pwE (by first | exact nomark _ | rfl), h F H σ S s _ fun v F1 H1 Sv g hv _ => by
    obtain ⟨⟨q, dx, vs, rfl, _⟩, _⟩ := hv
    refine (vc_non (env := env)) F1 H1 σ S (s.grow g) _ fun w F2 H2 _ g2 hw _ => ?_
    have e := hw.1
    cases e
    exact ⟨rfl, false, rfl, k F2 H2 (g.trans g2)⟩⟩
theorem eqv_self {d : PyData} (h : SeqAt.shaped d = true) : PyData.eqv d d = true := PySem.SeqAt.eqv_refl d (SeqAt.canLay_of_shaped h)
end
end G


set_option maxRecDepth 100000
set_option maxHeartbeats 4000000
/-! list(zip(..)): each tuple stays held -/
namespace G
open PySem PySem.Spec PyProof.Rows L2
section
variable {prog : Program} {w : World} {A : Around} {E : Value → Shared → Prop} {s : Shared} {z TI TO T i1 i2 : Addr} {fp1 fp2 : List Addr} {n1 n2 i : Nat} {P1 P2 : Nat → Value → Prop} {St1 St2 : Nat → Heap → Prop} {f : Bool} {oT : Obj}
theorem zipG_held {Q : Value → Shared → Prop} (Z : ZipSep2 z TI TO i1 i2 fp1 fp2) (D1 : Draws prog w A i1 fp1 n1 P1 St1) (D2 : Draws prog w A i2 fp2 n2 P2 St2)
    (hz : IsZipHeld s.heap z TI TO T f) (hT : s.heap.get? T = some oT) (hTI : IsTupOf2 s.heap TI (.ref i1) (.ref i2)) (st1 : St1 i s.heap) (st2 : St2 i s.heap) (hlt1 : i < n1) (hlt2 : i < n2)
    (hQ : ∀ x1 x2 h' tk, P1 i x1 → P2 i x2 → IsZipHeld h' z TI TO T true → St1 (i + 1) h' → St2 (i + 1) h' → IsTupOf2 h' s.heap.objs.size x1 x2 → h'.objs.size = s.heap.objs.size + 1 →
      (∀ c o, c ≠ z → c ≠ i1 → c ≠ i2 → s.heap.get? c = some o → h'.get? c = some o) → Q (.ref s.heap.objs.size) { s with heap := h', toks := tk }) :
    wpAny (model prog w) A (Builtin.«zip.__next__» ⟨[.ref z], []⟩) (fun fin s' => ∃ v, fin = .done (.ret v) ∧ Q v s') E s := by
  obtain ⟨hp, g, d, tk0, os⟩ := s
  show wpAny (model prog w) A (field (.ref z) 2 >>= _) _ E _
  refine wpAny_bind (wpAny_field hz rfl (x := .bool false) rfl ?_); show wpAny (model prog w) A (field (.ref z) 3 >>= _) _ E _
  refine wpAny_bind (wpAny_field hz rfl (x := .ref TI) rfl (wpAny_bind (wpAny_seqItems hTI rfl ?_)))
  show wpAny (model prog w) A (Builtin.SmallTypes.ownedTupleIsFree (.ref z) >>= _) _ E _
  refine wpAny_bind (wpAny_tupleHeld_zip hz hT fun g0 hz0 hs0 => ?_); simp only [Bool.false_eq_true, if_false]
  refine wpAny_bind ?_; rw [← Array.forIn_toList]; simp only [List.forIn_cons, List.forIn_nil]
  refine wpAny_bind (wpAny_bind (wpAny_holding ?_)); show wpAny (model prog w) A (Builtin.SmallTypes.nextOf (.ref i1) >>= _) _ E ⟨g0, g, d, tk0, os⟩
  refine wpAny_bind (D1.item i _ _ _ hlt1 (D1.over st1 hs0 Z.zf1) fun x1 g1 tk1 hx1 sn1 hs1 => wpAny_pure (wpAny_pure ?_))
  refine wpAny_bind (wpAny_bind (wpAny_holding ?_)); show wpAny (model prog w) A (Builtin.SmallTypes.nextOf (.ref i2) >>= _) _ E ⟨g1, g, d, tk1, os⟩
  refine wpAny_bind (D2.item i _ _ _ hlt2 (D2.over (D2.over st2 hs0 Z.zf2) hs1 Z.sep1_2) fun x2 g2 tk2 hx2 sn2 hs2 => wpAny_pure (wpAny_pure (wpAny_pure ?_)))
  show wpAny (model prog w) A (newTuple [x1, x2] >>= _) _ E ⟨g2, g, d, tk2, os⟩
  refine wpAny_bind (wpAny_newTuple ?_)
  have e0 : Heap.SameBut z hp g0 := hs0
  have e1 : Heap.SameBut i1 g0 g1 := hs1
  have e2 : Heap.SameBut i2 g1 g2 := hs2
  have hsz : g2.objs.size = hp.objs.size := by rw [e2.1, e1.1, e0.1]
  have hzz : IsZipHeld g2 z TI TO T true := e2.extBut _ _ Z.zi2 (e1.extBut _ _ Z.zi1 hz0)
  have kk : ∀ c o, c ≠ z → c ≠ i1 → c ≠ i2 → hp.get? c = some o → g2.get? c = some o := fun c o a b c' e => e2.extBut _ _ c' (e1.extBut _ _ b (e0.extBut _ _ a e))
  have j1 : St1 (i + 1) g2 := D1.over sn1 e2 Z.sep2_1
  refine wpAny_pure ⟨_, rfl, ?_⟩
  show Q (.ref g2.objs.size) ⟨g2.push { cls := .type "tuple", data := .seq #[x1, x2] }, g, d, tk2, os⟩
  have np : IsTupOf2 (g2.push { cls := .type "tuple", data := .seq #[x1, x2] }) g2.objs.size x1 x2 := Heap.get?_push_size _ rfl
  have ns : (g2.push { cls := .type "tuple", data := .seq #[x1, x2] }).objs.size = g2.objs.size + 1 := Heap.size_push ..
  rw [hsz] at np ns ⊢
  exact hQ x1 x2 _ tk2 hx1 hx2 (Heap.get?_push_of_some _ hzz) (D1.frame _ _ _ j1 fun b _ o e => Heap.get?_push_of_some _ e) (D2.frame _ _ _ sn2 fun b _ o e => Heap.get?_push_of_some _ e) np ns fun c o a b c' e => Heap.get?_push_of_some _ (kk c o a b c' e)
theorem zipG_heldEnd {Q : Fin → Shared → Prop} (Z : ZipSep2 z TI TO i1 i2 fp1 fp2) (D1 : Draws prog w A i1 fp1 n1 P1 St1) (D2 : Draws prog w A i2 fp2 n2 P2 St2)
    (hz : IsZipHeld s.heap z TI TO T f) (hT : s.heap.get? T = some oT) (hTI : IsTupOf2 s.heap TI (.ref i1) (.ref i2)) (st1 : St1 i s.heap) (st2 : St2 i s.heap) (hle1 : i ≤ n1) (hle2 : i ≤ n2) (hend : i = n1 ∨ i = n2)
    (hE : ∀ h' tk e, (∀ c o, c ≠ z → c ≠ i1 → c ≠ i2 → s.heap.get? c = some o → h'.get? c = some o) → (∃ o, h'.get? e = some o ∧ o.cls = .type "StopIteration") → E (.ref e) { s with heap := h', toks := tk }) :
    wpAny (model prog w) A (Builtin.«zip.__next__» ⟨[.ref z], []⟩) Q E s := by
  obtain ⟨hp, g, d, tk0, os⟩ := s
  show wpAny (model prog w) A (field (.ref z) 2 >>= _) _ E _
  refine wpAny_bind (wpAny_field hz rfl (x := .bool false) rfl ?_); show wpAny (model prog w) A (field (.ref z) 3 >>= _) _ E _
  refine wpAny_bind (wpAny_field hz rfl (x := .ref TI) rfl (wpAny_bind (wpAny_seqItems hTI rfl ?_)))
  show wpAny (model prog w) A (Builtin.SmallTypes.ownedTupleIsFree (.ref z) >>= _) _ E _
  refine wpAny_bind (wpAny_tupleHeld_zip hz hT fun g0 hz0 hs0 => ?_); simp only [Bool.false_eq_true, if_false]
  refine wpAny_bind ?_; rw [← Array.forIn_toList]; simp only [List.forIn_cons, List.forIn_nil]
  refine wpAny_bind (wpAny_bind (wpAny_holding ?_)); show wpAny (model prog w) A (Builtin.SmallTypes.nextOf (.ref i1) >>= _) _ E ⟨g0, g, d, tk0, os⟩
  have e0 : Heap.SameBut z hp g0 := hs0
  by_cases hlt1 : i < n1
  · refine wpAny_bind (D1.item i _ _ _ hlt1 (D1.over st1 hs0 Z.zf1) fun x1 g1 tk1 hx1 sn1 hs1 => wpAny_pure (wpAny_pure ?_))
    have e1 : Heap.SameBut i1 g0 g1 := hs1
    have hi2 : i = n2 := by omega
    refine wpAny_bind (wpAny_bind (wpAny_holding ?_)); show wpAny (model prog w) A (Builtin.SmallTypes.nextOf (.ref i2) >>= _) _ E ⟨g1, g, d, tk1, os⟩
    refine wpAny_bind (D2.done ⟨g1, g, d, tk1, os⟩ _ _ (by rw [← hi2]; exact D2.over (D2.over st2 e0 Z.zf2) e1 Z.sep1_2) fun q e hq he => ?_)
    exact hE q tk1 e (fun c o a b c' x => hq _ _ c' (e1.extBut _ _ b (e0.extBut _ _ a x))) he
  · have hi1 : i = n1 := by omega
    refine wpAny_bind (D1.done ⟨g0, g, d, tk0, os⟩ _ _ (by rw [← hi1]; exact D1.over st1 e0 Z.zf1) fun q e hq he => ?_)
    exact hE q tk0 e (fun c o a b c' x => hq _ _ b (e0.extBut _ _ a x)) he
theorem nextG_held {Q : Option Value → Shared → Prop} (Z : ZipSep2 z TI TO i1 i2 fp1 fp2) (D1 : Draws prog w A.in1 i1 fp1 n1 P1 St1) (D2 : Draws prog w A.in1 i2 fp2 n2 P2 St2)
    (hz : IsZipHeld s.heap z TI TO T f) (hT : s.heap.get? T = some oT) (hTI : IsTupOf2 s.heap TI (.ref i1) (.ref i2)) (st1 : St1 i s.heap) (st2 : St2 i s.heap) (hlt1 : i < n1) (hlt2 : i < n2)
    (hQ : ∀ x1 x2 h' tk, P1 i x1 → P2 i x2 → IsZipHeld h' z TI TO T true → St1 (i + 1) h' → St2 (i + 1) h' → IsTupOf2 h' s.heap.objs.size x1 x2 → h'.objs.size = s.heap.objs.size + 1 →
      (∀ c o, c ≠ z → c ≠ i1 → c ≠ i2 → s.heap.get? c = some o → h'.get? c = some o) → Q (some (.ref s.heap.objs.size)) { s with heap := h', toks := tk }) : wpAny (model prog w) A (pyNext (.ref z)) Q E s := by
  have ty : s.TypeIs (.ref z) "zip" := ⟨_, hz, rfl⟩
  unfold pyNext
  exact wpAny_bind (wpAny_attempt (wpAny_callSpecial?_slot (name := Str.ofString "__next__") ty F.slot_zip_next (wpAny_call_entry F.slot_zip_next ty F.entry_zip_next (zipG_held Z D1 D2 hz hT hTI st1 st2 hlt1 hlt2 fun x1 x2 h' tk y1 y2 a b c d e k => wpAny_pure (hQ x1 x2 h' tk y1 y2 a b c d e k)) (F.args_zip_next_1 _))))
theorem nextG_heldEnd {Q : Option Value → Shared → Prop} (Z : ZipSep2 z TI TO i1 i2 fp1 fp2) (D1 : Draws prog w A.in1 i1 fp1 n1 P1 St1) (D2 : Draws prog w A.in1 i2 fp2 n2 P2 St2)
    (hz : IsZipHeld s.heap z TI TO T f) (hT : s.heap.get? T = some oT) (hTI : IsTupOf2 s.heap TI (.ref i1) (.ref i2)) (st1 : St1 i s.heap) (st2 : St2 i s.heap) (hle1 : i ≤ n1) (hle2 : i ≤ n2) (hend : i = n1 ∨ i = n2)
    (hQ : ∀ h' tk, (∀ c o, c ≠ z → c ≠ i1 → c ≠ i2 → s.heap.get? c = some o → h'.get? c = some o) → Q none { s with heap := h', toks := tk }) : wpAny (model prog w) A (pyNext (.ref z)) Q E s := by
  have ty : s.TypeIs (.ref z) "zip" := ⟨_, hz, rfl⟩
  unfold pyNext
  refine wpAny_bind (wpAny_attempt (wpAny_callSpecial?_slot (name := Str.ofString "__next__") ty F.slot_zip_next (wpAny_call_entry F.slot_zip_next ty F.entry_zip_next (zipG_heldEnd Z D1 D2 hz hT hTI st1 st2 hle1 hle2 hend fun h' tk e hk he => ?_) (F.args_zip_next_1 _))))
  obtain ⟨o, ho, hc⟩ := he
  exact wpAny_bind (wpAny_isInstance (T := "StopIteration") (b := true) ⟨o, ho, hc⟩ isSubtype_stop (wpAny_pure (hQ _ _ hk)))
end
end G


set_option maxRecDepth 100000
set_option maxHeartbeats 4000000
namespace G
open PySem PySem.Spec PyProof.Rows L2
section
variable {X : Cx} {pins : List (Addr × Obj)} {σ : L2.St} {A : Around} {z TI TO i1 i2 S : Addr} {fp1 fp2 : List Addr} {St1 St2 : Nat → Heap → Prop} {xs ys : List L2.V} {a1 a2 : List Value} {res : Value} {R : Result → Shared → Prop}
/-- the zip between two turns: its tuple its own, or held by the list -/
def ZipAt (h : Heap) (z TI TO i1 i2 : Addr) (S : Addr) (i : Nat) : Prop :=
  (i = 0 ∧ IsZip h z TI TO .none ∧ ∃ b1 b2, IsTupOf2 h TO b1 b2) ∨ ∃ T f oT, IsZipHeld h z TI TO T f ∧ h.get? T = some oT ∧ T ≠ z ∧ T ≠ i1 ∧ T ≠ i2 ∧ T ≠ S
theorem fp_upd {H : Hp} {b T : Addr} {o : HO} (f : FpOk X pins H b) (ne : b ≠ T) : FpOk X pins (upd H T o) b := ⟨by rw [upd_ne ne]; exact f.1, f.2⟩
theorem vals_getu : ∀ {vs : List L2.V} {us : List Value}, Vals vs us → ∀ {i : Nat} {u : Value}, us[i]? = some u → ∃ v, vs[i]? = some v ∧ RelV v u
  | _, _, .nil, i, u, h => by simp at h
  | _, _, .cons (a := v) h hs, 0, u, e => by
    simp at e
    subst e
    exact ⟨v, rfl, h⟩
  | _, _, .cons h hs, i + 1, u, e => by
    obtain ⟨v, h1, h2⟩ := vals_getu hs (i := i) (u := u) (by simpa using e)
    exact ⟨v, by simpa using h1, h2⟩
theorem loopZ (Z : ZipSep2 z TI TO i1 i2 fp1 fp2) (D1 : Draws X.prog X.w A.in1.in1 i1 fp1 a1.toArray.size (fun i v => a1.toArray[i]? = some v) St1) (D2 : Draws X.prog X.w A.in1.in1 i2 fp2 a2.toArray.size (fun i v => a2.toArray[i]? = some v) St2)
    (r1 : Vals xs a1) (r2 : Vals ys a2) (hn : xs.length ≤ sizeLine) (s1 : S ∉ fp1) (s2 : S ∉ fp2) (sz : S ≠ z) (sI : S ≠ TI) (sO : S ≠ TO) (H0 : Hp) :
    ∀ (k i : Nat) (s : Shared) (H : Hp) (ts : List Addr) (c : Nat), min xs.length ys.length - i = k → i ≤ min xs.length ys.length → Inv X pins σ H s → Same H0 H → (∀ b ∈ [z, TO, i1, i2, S], FpOk X pins H b) → (∀ b ∈ [z, TO, i1, i2, S], b < s.heap.objs.size) → ZipAt s.heap z TI TO i1 i2 S i → IsTupOf2 s.heap TI (.ref i1) (.ref i2) → St1 i s.heap → St2 i s.heap →
      s.heap.get? S = some { cls := .type "list", dict := none, data := .seq (ts.map Value.ref).toArray c, slots := #[] } → ts.length = i → (∀ (j : Nat) (T : Addr), ts[j]? = some T → ∃ x y, xs[j]? = some x ∧ ys[j]? = some y ∧ H T = some (.tup [x, y]) ∧ H0 T = none) →
      (∀ (s' : Shared) (H' : Hp) (ts' : List Addr) (c' : Nat), Inv X pins σ H' s' → Same H H' → (∀ b, H' b ≠ none → H b ≠ none ∨ s.heap.objs.size ≤ b) → (∀ b ∈ [z, TO, i1, i2, S], FpOk X pins H' b) → s'.heap.get? S = some { cls := .type "list", dict := none, data := .seq (ts'.map Value.ref).toArray c', slots := #[] } → ts'.length = min xs.length ys.length →
        (∀ (j : Nat) (T : Addr), ts'[j]? = some T → ∃ x y, xs[j]? = some x ∧ ys[j]? = some y ∧ H' T = some (.tup [x, y]) ∧ H0 T = none) → R (.ok (.ret res)) s') →
      codeAny (model X.prog X.w) A (.builtin "list.extend.loop" ⟨[.ref S, .ref z, res], []⟩) R s := by
  have l1 : a1.toArray.size = xs.length := by rw [r1.length]; simp
  have l2 : a2.toArray.size = ys.length := by rw [r2.length]; simp
  have nS : S ∉ [z, TO, i1, i2] := by
    simp only [List.mem_cons, List.not_mem_nil, or_false]
    rintro (e | e | e | e)
    · exact sz e
    · exact sO e
    · exact s1 (e ▸ Z.mem1)
    · exact s2 (e ▸ Z.mem2)
  have sub4 : ∀ {b}, b ∈ [z, TO, i1, i2] → b ∈ [z, TO, i1, i2, S] := fun {b} hb => by
    simp only [List.mem_cons, List.not_mem_nil, or_false] at hb ⊢
    rcases hb with e | e | e | e <;> simp [e]
  intro k
  induction k with
  | zero =>
    intro i s H ts c hk hi I h00 hf hb hz hTI st1 st2 hS hl ht hR
    refine codeAny_builtin F.entry_extend_loop ?_
    rw [Around.under_plainId F.plain_extend_loop _]
    show wpAny (model X.prog X.w) A.in1 (pyNext (.ref z) >>= _) _ _ s
    have end_ : ∀ h' tk, (∀ b o, b ∉ [z, TO, i1, i2] → s.heap.get? b = some o → h'.get? b = some o) → R (.ok (.ret res)) { s with heap := h', toks := tk } := fun h' tk kp => by
      have hS' := kp S _ nS hS
      refine hR _ H ts c (I.turnedL (t' := tk) (ch := [z, TO, i1, i2]) kp fun b hb => hf b (sub4 hb)) (Same.refl H) (fun b e => .inl e) hf hS' (by omega) ht
    refine wpAny_bind ?_
    rcases hz with ⟨_, hz, b1, b2, hTO⟩ | ⟨T, f, oT, hz, hT, _⟩
    · refine wpAny_pyNext_zipD2_end Z D1 D2 hz hTI hTO st1 st2 (by omega) (by omega) (by omega) fun h' tk kp => wpAny_pure (end_ h' tk fun b o hb e => kp b o (fun q => hb (by simp [q])) (fun q => hb (by simp [q])) (fun q => hb (by simp [q])) (fun q => hb (by simp [q])) e)
    · refine nextG_heldEnd Z D1 D2 hz hT hTI st1 st2 (by omega) (by omega) (by omega) fun h' tk kp => wpAny_pure (end_ h' tk fun b o hb e => kp b o (fun q => hb (by simp [q])) (fun q => hb (by simp [q])) (fun q => hb (by simp [q])) e)
  | succ k ih =>
    intro i s H ts c hk hi I h00 hf hb hz hTI st1 st2 hS hl ht hR
    have hlt : i < min xs.length ys.length := by omega
    refine codeAny_builtin F.entry_extend_loop ?_
    rw [Around.under_plainId F.plain_extend_loop _]
    show wpAny (model X.prog X.w) A.in1 (pyNext (.ref z) >>= _) _ _ s
    have i1lt : i < xs.length := by omega
    have i2lt : i < ys.length := by omega
    obtain ⟨T, eT⟩ : ∃ T, T = s.heap.objs.size := ⟨_, rfl⟩
    have go : ∀ (x1 x2 : Value) (h' : Heap) (tk : Nat), a1.toArray[i]? = some x1 → a2.toArray[i]? = some x2 → ZipAt h' z TI TO i1 i2 S (i + 1) → St1 (i + 1) h' → St2 (i + 1) h' → IsTupOf2 h' T x1 x2 → h'.objs.size = s.heap.objs.size + 1 → IsTupOf2 h' TI (.ref i1) (.ref i2) → (∀ b o, b ∉ [z, TO, i1, i2] → s.heap.get? b = some o → h'.get? b = some o) →
        wpAny (model X.prog X.w) A.in1 (updateSeq S (·.push (.ref T)) >>= fun _ => again (.builtin "list.extend.loop" ⟨[.ref S, .ref z, res], []⟩)) (fun fin s' => match fin with | .done f => R (.ok f) s' | .again c' => c'.quiet = true ∧ codeAny (model X.prog X.w) A c' R s') (fun e s' => R (.error e) s') { s with heap := h', toks := tk } := fun x1 x2 h' tk e1 e2 hz' t1 t2 tup hsz hTI' kp => by
      have hS' := kp S _ nS hS
      obtain ⟨v1, hv1, q1⟩ := vals_getu r1 (i := i) (u := x1) (by simpa using e1)
      obtain ⟨v2, hv2, q2⟩ := vals_getu r2 (i := i) (u := x2) (by simpa using e2)
      have new : ObjOk X.prog X.w (upd H T (.tup [v1, v2])) h' T (.tup [v1, v2]) := ⟨by simp [sizeLine_eq], [x1, x2], .cons q1 (.cons q2 .nil), ⟨_, tup, rfl, _, rfl⟩⟩
      have I1 := I.turnedNew (t' := tk) (ch := [z, TO, i1, i2]) kp (fun b hb => hf b (sub4 hb)) (Nat.le_of_eq eT.symm) new
      have live : ∀ b ∈ [z, TO, i1, i2, S], b ≠ T := fun b h => by rw [eT]; exact Nat.ne_of_lt (hb b h)
      have hf1 : ∀ b ∈ [z, TO, i1, i2, S], FpOk X pins (upd H T (.tup [v1, v2])) b := fun b h => fp_upd (hf b h) (live b h)
      have nT : H T = none := I.hok.fresh (Nat.le_of_eq eT.symm)
      have sm : Same H (upd H T (.tup [v1, v2])) := fun b o e => by rw [upd_ne (ne_of_none e nT)]; exact e
      have hz1 : (ts.map Value.ref).toArray.size ≤ sizeLine := by rw [List.size_toArray, List.length_map]; omega
      have hz2 : ((ts.map Value.ref).toArray.push (.ref T)).size ≤ sizeLine + 1 := by rw [Array.size_push]; omega
      refine wpAny_bind (wpAny_updateSeq hS' rfl (wpAny_pure ⟨plainId_quiet F.plain_extend_loop _, ?_⟩) hz1 hz2)
      have ub : Heap.SameBut S h' (h'.update S (Obj.mapSeq (·.push (.ref T)))) := Heap.SameBut.update ..
      have kp2 : ∀ b o, b ∉ [S] → h'.get? b = some o → (h'.update S (Obj.mapSeq (·.push (.ref T)))).get? b = some o := fun b o h e => ub.extBut _ _ (fun q => h (by simp [q])) e
      have I2 := I1.turnedL (t' := tk) (ch := [S]) kp2 fun b h => hf1 b (by simp at h; simp [h])
      obtain ⟨c2, hS2⟩ : ∃ c2, (h'.update S (Obj.mapSeq (·.push (.ref T)))).get? S = some { cls := .type "list", dict := none, data := .seq ((ts ++ [T]).map Value.ref).toArray c2, slots := #[] } := by
        have e : ((ts ++ [T]).map Value.ref).toArray = (ts.map Value.ref).toArray.push (.ref T) := by simp
        rw [e]
        exact ⟨_, Heap.get?_update_self _ hS' rfl⟩
      refine ih (i + 1) _ (upd H T (.tup [v1, v2])) (ts ++ [T]) c2 (by omega) (by omega) I2 (h00.trans sm) hf1 (fun b h => ?_) ?_ (ub.extBut _ _ (Ne.symm sI) hTI') (D1.over t1 ub s1) (D2.over t2 ub s2) hS2 (by simp [hl]) (fun j U hj => ?_) (fun s' H' ts' c' J sm' nw ff g1 g2 g3 => hR s' H' ts' c' J (sm.trans sm') (fun b hb' => ?_) ff g1 g2 g3)
      · show b < (h'.update S (Obj.mapSeq (·.push (.ref T)))).objs.size
        rw [ub.1, hsz]
        exact Nat.lt_succ_of_lt (hb b h)
      · rcases hz' with ⟨q, _⟩ | ⟨U, f, oT, g1, g2, g3, g4, g5, g6⟩
        · cases q
        · exact .inr ⟨U, f, oT, ub.extBut _ _ (Ne.symm sz) g1, ub.extBut _ _ g6 g2, g3, g4, g5, g6⟩
      · by_cases hji : j < i
        · rw [List.getElem?_append_left (by omega)] at hj
          obtain ⟨x, y, g1, g2, g3, g4⟩ := ht j U hj
          exact ⟨x, y, g1, g2, sm _ _ g3, g4⟩
        · have e : j = i := by
            have := (List.getElem?_eq_some_iff.mp hj).1
            simp at this
            omega
          subst e
          rw [List.getElem?_append_right (by omega), hl] at hj
          simp at hj
          subst hj
          exact ⟨v1, v2, hv1, hv2, upd_same, h00.free nT⟩
      · rcases nw b hb' with g | g
        · by_cases e : b = T
          · exact .inr (by rw [e, eT]; exact Nat.le_refl _)
          · rw [upd_ne e] at g
            exact .inl g
        · have g' : (h'.update S (Obj.mapSeq (·.push (.ref T)))).objs.size ≤ b := g
          rw [ub.1, hsz] at g'
          exact .inr (Nat.le_of_succ_le g')
    have lt : ∀ {c o}, s.heap.get? c = some o → s.heap.objs.size ≠ c := fun e => Nat.ne_of_gt (Heap.lt_size e)
    have b1 : T ≠ i1 := by rw [eT]; exact Nat.ne_of_gt (hb i1 (by simp))
    have b2 : T ≠ i2 := by rw [eT]; exact Nat.ne_of_gt (hb i2 (by simp))
    have b3 : T ≠ z := by rw [eT]; exact Nat.ne_of_gt (hb z (by simp))
    have b4 : T ≠ S := by rw [eT]; exact Nat.ne_of_gt (hb S (by simp))
    have TIn : TI ∉ [z, TO, i1, i2] := by
      simp only [List.mem_cons, List.not_mem_nil, or_false]
      rintro (e | e | e | e)
      · exact Z.TIz e
      · exact Z.TITO e
      · exact Z.TIi1 e
      · exact Z.TIi2 e
    refine wpAny_bind ?_
    rcases hz with ⟨_, hz, c1, c2, hTO⟩ | ⟨U, f, oT, hz, hU, g3, g4, g5, g6⟩
    · refine wpAny_pyNext_zipD2_item Z D1 D2 hz hTI hTO st1 st2 (by omega) (by omega) fun x1 x2 h' tk e1 e2 hz' hTO' t1 t2 tup hsz kp => ?_
      have kp' : ∀ b o, b ∉ [z, TO, i1, i2] → s.heap.get? b = some o → h'.get? b = some o := fun b o hb e => kp b o (fun q => hb (by simp [q])) (fun q => hb (by simp [q])) (fun q => hb (by simp [q])) (fun q => hb (by simp [q])) e
      rw [← eT] at tup hz' ⊢
      exact go x1 x2 h' tk e1 e2 (.inr ⟨T, false, _, hz', tup, b3, b1, b2, b4⟩) t1 t2 tup hsz (kp' TI _ TIn hTI) kp'
    · refine nextG_held Z D1 D2 hz hU hTI st1 st2 (by omega) (by omega) fun x1 x2 h' tk e1 e2 hz' t1 t2 tup hsz kp => ?_
      have kp' : ∀ b o, b ∉ [z, TO, i1, i2] → s.heap.get? b = some o → h'.get? b = some o := fun b o hb e => kp b o (fun q => hb (by simp [q])) (fun q => hb (by simp [q])) (fun q => hb (by simp [q])) e
      rw [← eT] at tup ⊢
      exact go x1 x2 h' tk e1 e2 (.inr ⟨U, true, oT, hz', kp U _ g3 g4 g5 hU, g3, g4, g5, g6⟩) t1 t2 tup hsz (kp' TI _ TIn hTI) kp'
end
end G


set_option maxRecDepth 100000
set_option maxHeartbeats 4000000
namespace G
open PySem PySem.Spec PyProof.Rows L2
theorem zip_no_len : typeLookup (.type "zip") "__len__" = pure none := am_miss_of_fast (by decide +kernel)
theorem zip_no_hint : typeLookup (.type "zip") "__length_hint__" = pure none := am_miss_of_fast (by decide +kernel)
/-- an object of ours that stood untracked is tracked from now on -/
theorem adopt {X : Cx} {pins : List (Addr × Obj)} {σ : L2.St} {H : Hp} {s : Shared} {S : Addr} {o : HO} (I : Inv X pins σ H s) (f : FpOk X pins H S) (new : ObjOk X.prog X.w (upd H S o) s.heap S o) : Inv X pins σ (upd H S o) s := by
  obtain ⟨f1, f2, f3, f4, f5, f6⟩ := f
  have up : ∀ {b u}, H b = some u → upd H S o b = some u := fun {b u} e => by rw [upd_ne (ne_of_none e f1)]; exact e
  refine ⟨I.ok, I.os, I.bare, ⟨I.base.keep, I.base.slot, fun b u e n hx => ?_, I.base.there, fun b xs e => up (I.base.tups b xs e), fun b u v e => up (I.base.frzs b u v e), fun b ps e => ?_⟩, I.loc, I.cell, by rw [upd_ne (Ne.symm f2)]; exact I.free, fun x c e => by rw [upd_ne (f5 x c e)]; exact I.freeC x c e, fun p hp => ?_, fun b u e => ?_, I.len⟩
  · have ne : b ≠ S := fun z => by
      subst z
      rcases f4 with g | g
      · exact hx g
      · exact absurd (Heap.lt_size e) (Nat.not_lt_of_le g)
    rw [upd_ne ne]
    exact I.base.free b u e n hx
  · obtain ⟨more, g⟩ := I.base.tbls b ps e
    exact ⟨more, up g⟩
  · obtain ⟨g1, g2, g3⟩ := I.pin p hp
    exact ⟨g1, by rw [upd_ne (f6 p hp)]; exact g2, g3⟩
  · by_cases hb : b = S
    · subst hb
      rw [upd_same] at e
      cases e
      exact new
    · rw [upd_ne hb] at e
      exact (I.hok b u e).stay (fun _ _ _ q => q) (fun _ q => up q) fun _ _ q => up q
section
variable {X : Cx} {pins : List (Addr × Obj)} {σ : L2.St} {A : Around} {E : Value → Shared → Prop} {z TI TO i1 i2 : Addr} {fp1 fp2 : List Addr} {St1 St2 : Nat → Heap → Prop} {xs ys : List L2.V} {a1 a2 : List Value}
/-- list(z), z a zip that has not begun -/
theorem listZ {Q : Value → Shared → Prop} {s : Shared} {H : Hp} (Z : ZipSep2 z TI TO i1 i2 fp1 fp2) (D1 : Draws X.prog X.w A.in1.in1.in1 i1 fp1 a1.toArray.size (fun i v => a1.toArray[i]? = some v) St1) (D2 : Draws X.prog X.w A.in1.in1.in1 i2 fp2 a2.toArray.size (fun i v => a2.toArray[i]? = some v) St2)
    (r1 : Vals xs a1) (r2 : Vals ys a2) (hn : xs.length ≤ sizeLine) (I : Inv X pins σ H s) (hf : ∀ b ∈ [z, TO, i1, i2], FpOk X pins H b) (hb : ∀ b ∈ [z, TI, TO, i1, i2], b < s.heap.objs.size) (hfp : ∀ b ∈ fp1 ++ fp2, b < s.heap.objs.size)
    (hz : IsZip s.heap z TI TO .none) (hTO : ∃ b1 b2, IsTupOf2 s.heap TO b1 b2) (hTI : IsTupOf2 s.heap TI (.ref i1) (.ref i2)) (st1 : St1 0 s.heap) (st2 : St2 0 s.heap)
    (hQ : ∀ (s' : Shared) (H' : Hp) (S : Addr) (ts : List Addr), Inv X pins σ (upd H' S (.lst (ts.map L2.V.ref))) s' → Same H H' → H' S = none → H S = none → (∀ b, H' b ≠ none → H b ≠ none ∨ s.heap.objs.size ≤ b) → ts.length = min xs.length ys.length → (∀ (j : Nat) (T : Addr), ts[j]? = some T → ∃ x y, xs[j]? = some x ∧ ys[j]? = some y ∧ H' T = some (.tup [x, y]) ∧ H T = none) → Q (.ref S) s') :
    wpAny (model X.prog X.w) A (call (.type "list") [.ref z]) Q E s := by
  refine callType_codes (Q₁ := fun obj s₁ => obj = .ref s.heap.objs.size ∧ s₁ = { s with heap := s.heap.push { cls := .type "list", data := .seq #[] } }) F.called_list (F.typeCall_list_1 _) F.entry_list_init (code_list_new _ ⟨rfl, rfl⟩) fun obj s₁ h₁ => ?_
  obtain ⟨rfl, rfl⟩ := h₁
  have hS0 : (s.heap.push { cls := .type "list", data := .seq #[] }).get? s.heap.objs.size = some { cls := .type "list", data := .seq #[] } := Heap.get?_push_size _ rfl
  refine ⟨⟨_, hS0, rfl⟩, F.args_list_init_2 _ _, ?_⟩
  obtain ⟨S, eS⟩ : ∃ S, S = s.heap.objs.size := ⟨_, rfl⟩
  rw [← eS] at hS0 ⊢
  have old : ∀ {b}, b < s.heap.objs.size → b ≠ S := fun h => by rw [eS]; exact Nat.ne_of_lt h
  -- the list is made empty once more
  show wpAny (model X.prog X.w) A.in1.in1 (do let old ← Builtin.List.listItems (.ref S); Builtin.List.listUpdate (.ref S) (fun _ => #[]); letGo old.toList.reverse; Builtin.List.listExtendWith (.ref S) (.ref z) .none) _ _ _
  refine wpAny_bind ?_; unfold Builtin.List.listItems
  refine wpAny_bind (wpAny_seqItems hS0 rfl (wpAny_pure ?_)); show wpAny (model X.prog X.w) A.in1.in1 (updateSeq S (fun _ => #[]) >>= fun _ => letGo (#[] : Array Value).toList.reverse >>= fun _ => Builtin.List.listExtendWith (.ref S) (.ref z) .none) _ _ _
  refine wpAny_bind (wpAny_updateSeq hS0 rfl ?_ (by simp) (by simp))
  generalize e1 : (s.heap.push { cls := .type "list", data := .seq #[] }).update S (Obj.mapSeq fun _ => #[]) = h1
  have u1 : Heap.SameBut S (s.heap.push { cls := .type "list", data := .seq #[] }) h1 := by rw [← e1]; exact Heap.SameBut.update ..
  have hS1 : ∃ c, h1.get? S = some { cls := .type "list", dict := none, data := .seq #[] c, slots := #[] } := by rw [← e1]; exact ⟨_, Heap.get?_update_self _ hS0 rfl⟩
  obtain ⟨c1, hS1⟩ := hS1
  have k1 : ∀ b o, s.heap.get? b = some o → h1.get? b = some o := fun b o e => u1.extBut _ _ (old (Heap.lt_size e)) (Heap.get?_push_of_some _ e)
  refine wpAny_bind (wpAny_letGo ?_)
  have hz1 : IsZip h1 z TI TO .none := k1 _ _ hz
  unfold Builtin.List.listExtendWith
  refine wpAny_bind (wpAny_typeOf (show Shared.TypeIs _ (.ref z) "zip" from ⟨_, hz1, rfl⟩) ?_)
  have g1 : Builtin.List.listSameRef (.ref S) (.ref z) = false := by
    have := old (hb z (by simp))
    simp [Builtin.List.listSameRef, Ne.symm this]
  have g2 : (Value.type "zip" == Value.type "list") = false := by decide
  have g3 : (Value.type "zip" == Value.type "tuple") = false := by decide
  simp only [g1, g2, g3, Bool.or_false, Bool.false_eq_true, if_false]
  refine wpAny_bind (wpAny_pyIter_zip hz1 (wpAny_bind (wpAny_holding ?_))); unfold Builtin.List.listLengthHint
  refine wpAny_bind (wpAny_specialOf (show Shared.TypeIs _ (.ref z) "zip" from ⟨_, hz1, rfl⟩) zip_no_len ?_)
  show wpAny (model X.prog X.w) A.in1.in1 (specialOf (Value.ref z) (Str.ofString "__length_hint__") >>= _) _ _ _
  refine wpAny_bind (wpAny_specialOf (show Shared.TypeIs _ (.ref z) "zip" from ⟨_, hz1, rfl⟩) zip_no_hint (wpAny_pure ?_))
  show wpAny (model X.prog X.w) A.in1.in1 (rule "list.extend.makes-room" >>= fun _ => Builtin.List.listTouch (.ref S) >>= fun _ => again (.builtin "list.extend.loop" ⟨[.ref S, .ref z, .none], []⟩)) _ _ _
  refine wpAny_bind (wpAny_rule (wpAny_bind ?_))
  show wpAny (model X.prog X.w) A.in1.in1 (updateSeq S (·.push .none) >>= fun _ => updateSeq S (·.pop)) _ _ _
  refine wpAny_bind (wpAny_updateSeq hS1 rfl ?_ (by simp) (by simp))
  generalize e2 : h1.update S (Obj.mapSeq (·.push .none)) = h2
  have u2 : Heap.SameBut S h1 h2 := by rw [← e2]; exact Heap.SameBut.update ..
  have hS2 : ∃ c, h2.get? S = some { cls := .type "list", dict := none, data := .seq #[.none] c, slots := #[] } := by rw [← e2]; exact ⟨_, Heap.get?_update_self _ hS1 rfl⟩
  obtain ⟨c2, hS2⟩ := hS2
  refine wpAny_updateSeq hS2 rfl (wpAny_pure ⟨plainId_quiet F.plain_extend_loop _, ?_⟩) (by simp [sizeLine_eq]) (by simp)
  generalize e3 : h2.update S (Obj.mapSeq (·.pop)) = h3
  have u3 : Heap.SameBut S h2 h3 := by rw [← e3]; exact Heap.SameBut.update ..
  have hS3 : ∃ c, h3.get? S = some { cls := .type "list", dict := none, data := .seq #[] c, slots := #[] } := by rw [← e3]; exact ⟨_, Heap.get?_update_self _ hS2 rfl⟩
  obtain ⟨c3, hS3⟩ := hS3
  have k3 : ∀ b o, s.heap.get? b = some o → h3.get? b = some o := fun b o e => u3.extBut _ _ (old (Heap.lt_size e)) (u2.extBut _ _ (old (Heap.lt_size e)) (k1 b o e))
  have z3 : h3.objs.size = s.heap.objs.size + 1 := by rw [u3.1, u2.1, u1.1, Heap.size_push]
  have nS : H S = none := I.hok.fresh (Nat.le_of_eq eS.symm)
  have I3 := I.kept (t' := s.toks) k3
  have fS : FpOk X pins H S := I.fpOk (Nat.le_of_eq eS.symm) nS
  have f5 : ∀ b ∈ [z, TO, i1, i2, S], FpOk X pins H b := fun b h => by
    by_cases q : b = S
    · rw [q]; exact fS
    · exact hf b (by simp only [List.mem_cons, List.not_mem_nil, or_false] at h ⊢; rcases h with h | h | h | h | h <;> simp_all)
  refine loopZ (c := c3) Z D1 D2 r1 r2 hn (fun h => old (hfp S (List.mem_append_left _ h)) rfl) (fun h => old (hfp S (List.mem_append_right _ h)) rfl) (Ne.symm (old (hb z (by simp)))) (Ne.symm (old (hb TI (by simp)))) (Ne.symm (old (hb TO (by simp)))) H _ 0 _ H [] rfl (Nat.zero_le _) I3 (Same.refl H) f5 (fun b h => ?_) (.inl ⟨rfl, k3 _ _ hz, ?_⟩) (k3 _ _ hTI) (D1.frame _ _ _ st1 fun b _ o e => k3 b o e) (D2.frame _ _ _ st2 fun b _ o e => k3 b o e) hS3 rfl (fun j T h => by simp at h) fun s' H' ts c' J sm nw ff g1 g2 g3 => ?_
  · show b < h3.objs.size
    rw [z3]
    simp only [List.mem_cons, List.not_mem_nil, or_false] at h
    rcases h with h | h | h | h | h
    · rw [h]; exact Nat.lt_succ_of_lt (hb z (by simp))
    · rw [h]; exact Nat.lt_succ_of_lt (hb TO (by simp))
    · rw [h]; exact Nat.lt_succ_of_lt (hb i1 (by simp))
    · rw [h]; exact Nat.lt_succ_of_lt (hb i2 (by simp))
    · rw [h, eS]; exact Nat.lt_succ_self _
  · obtain ⟨b1, b2, g⟩ := hTO
    exact ⟨b1, b2, k3 _ _ g⟩
  · refine ⟨rfl, ?_⟩
    have fS' := ff S (by simp)
    refine hQ s' H' S ts (adopt J fS' ?_) sm fS'.1 nS (fun b hb' => ?_) g2 g3
    · refine ⟨by rw [List.length_map, g2]; omega, ts.map Value.ref, c', ?_, g1⟩
      clear g1 g2 g3
      induction ts with
      | nil => exact .nil
      | cons a ts ih => exact .cons rfl ih
    · rcases nw b hb' with g | g
      · exact .inl g
      · have g' : h3.objs.size ≤ b := g
        rw [z3] at g'
        exact .inr (Nat.le_of_succ_le g')
end
section
variable {X : Cx} {e1 e2 : Expr} {ta : TA} {p p' pos pos' : Pos}
def tLz (K : PySem.W.Frag) (ta : TA) : TE := fun σ H Q => ta σ H fun vs H1 => ∃ (r1 r2 : Src) (xs ys : List L2.V), vs = [.ref r1.ad, .ref r2.ad] ∧ r1.Sq K H1 xs ∧ r2.Sq K H1 ys ∧
  ∀ (H' : Hp) (S : Addr) (ts : List Addr), Same H1 H' → H' S = none → H1 S = none → ts.length = min xs.length ys.length → (∀ (j : Nat) (T : Addr), ts[j]? = some T → ∃ x y, xs[j]? = some x ∧ ys[j]? = some y ∧ H' T = some (.tup [x, y]) ∧ H1 T = none) → Q (.ref S) (upd H' S (.lst (ts.map L2.V.ref)))
theorem pe_listZip (hc : X.calm = true) (hgl : Gl X "list") (hml : X.mg "list" = none) (hgz : Gl X "zip") (hmz : X.mg "zip" = none) (ha : PA X [e1, e2] ta)
    (hs : starEach [e1, e2] X.env = (false, eval e1 X.env) :: starEach [e2] X.env := by rfl) (hpl : (backTo pos' (starEach [e2] X.env)).any (·.1) = false := by rfl)
    (hs2 : starEach [.Call (.Name "zip" p') [e1, e2] [] pos'] X.env = (false, eval (.Call (.Name "zip" p') [e1, e2] [] pos') X.env) :: starEach [] X.env := by rfl) (hpl2 : (backTo pos (starEach [] X.env)).any (·.1) = false := by rfl) :
    PE X (.Call (.Name "list" p) [.Call (.Name "zip" p') [e1, e2] [] pos'] [] pos) (tLz X.K ta) := by
  refine ⟨fun pins s σ H Q I h => ?_⟩
  refine Call_ (ld_blt I hgl hml PyProof.Rows.boot_list (PyProof.Rows.callWith_type1 ?_ hs2 hpl2))
  rw [hs2]
  show wpAny (model X.prog X.w) X.A (spliced ((false, eval (.Call (.Name "zip" p') [e1, e2] [] pos') X.env) :: backTo pos (starEach [] X.env))) _ _ s
  refine Calls.spliced_cons (Call_ (ld_blt I hgz hmz PyProof.Rows.boot_zip (PyProof.Rows.callWith_type1 (thn (ha.run pos' pins s σ H _ I h) fun us s1 zz => ?_) hs hpl)))
  obtain ⟨vs, H1, I1, r, ra, rb, xs, ys, ex, hqx, hqy, q⟩ := zz
  subst ex
  cases r with
  | cons r rr =>
    cases rr with
    | cons r' rr =>
      cases rr
      cases r
      cases r'
      obtain ⟨its, rv, p1, hn1⟩ := Src.inv I1 hqx
      obtain ⟨its2, rv2, p2, hn2⟩ := Src.inv I1 hqy
      have la := Src.lt p1
      have lb := Src.lt p2
      refine zip_begins2 (Src.begins ra its.toArray) (Src.begins rb its2.toArray) p1 p2 fun h' hz hTI hTO h1 h2 hsz hk => ?_
      show wpAny (model X.prog X.w) X.A (spliced []) _ _ _
      refine wpAny_pure ?_
      obtain ⟨N, eN⟩ : ∃ N : Nat, N = s1.heap.objs.size := ⟨_, rfl⟩
      rw [← eN] at hz hTI hTO h1 h2 hsz ⊢
      have la' : ra.ad < N := by rw [eN]; exact la
      have lb' : rb.ad < N := by rw [eN]; exact lb
      have hne1 : ra.ad ≠ N := Nat.ne_of_lt la'
      have hne2 : rb.ad ≠ (N + 1 : Nat) := Nat.ne_of_lt (Nat.lt_succ_of_lt lb')
      have SEP : ZipSep2 (N + 4 : Nat) (N + 2 : Nat) (N + 3 : Nat) N (N + 1 : Nat) [N, ra.ad] [(N + 1 : Nat), rb.ad] := zip_sep2 (fun b hb => by rw [List.mem_singleton.mp hb]; exact la') (fun b hb => by rw [List.mem_singleton.mp hb]; exact lb')
      have I2 : Inv X pins σ H1 { s1 with heap := h' } := I1.kept (t' := s1.toks) hk
      obtain ⟨its', rv', pa, hna⟩ := Src.inv I2 hqx
      obtain ⟨its2', rv2', pb, hnb⟩ := Src.inv I2 hqy
      have hh : X.A.handled = none := I.ok.hd hc
      refine listZ (s := { s1 with heap := h' }) SEP (Src.draws (prog := X.prog) (w := X.w) (A := X.A.in1.in1.in1) hh N ra hne1 its'.toArray) (Src.draws (prog := X.prog) (w := X.w) (A := X.A.in1.in1.in1) hh (N + 1 : Nat) rb hne2 its2'.toArray) rv' rv2' hna I2 (fun b hb => ?_) (fun b hb => ?_) (fun b hb => ?_) hz ⟨_, _, hTO⟩ hTI ⟨Src.ob_at h1, pa⟩ ⟨Src.ob_at h2, pb⟩ fun s' H' S ts J sm n1 n2 nw g2 g3 => ⟨.ref S, _, J, rfl, q H' S ts sm n1 n2 g2 g3⟩
      · have hle : s1.heap.objs.size ≤ b := by
          rw [← eN]
          simp only [List.mem_cons, List.not_mem_nil, or_false] at hb
          rcases hb with z | z | z | z
          · rw [z]; exact Nat.le_add_right _ _
          · rw [z]; exact Nat.le_add_right _ _
          · rw [z]; exact Nat.le_refl _
          · rw [z]; exact Nat.le_add_right _ _
        exact I1.fpOk hle (I1.hok.fresh hle)
      · show b < h'.objs.size
        rw [hsz]
        simp only [List.mem_cons, List.not_mem_nil, or_false] at hb
        rcases hb with z | z | z | z | z
        · rw [z]; exact Nat.lt_succ_self _
        · rw [z]; exact Nat.add_lt_add_left (by decide) _
        · rw [z]; exact Nat.add_lt_add_left (by decide) _
        · rw [z]; exact Nat.lt_add_of_pos_right (by decide)
        · rw [z]; exact Nat.add_lt_add_left (by decide) _
      · show b < h'.objs.size
        rw [hsz]
        simp only [List.mem_append, List.mem_cons, List.not_mem_nil, or_false] at hb
        rcases hb with (z | z) | (z | z)
        · rw [z]; exact Nat.lt_add_of_pos_right (by decide)
        · rw [z]; exact Nat.lt_of_lt_of_le la' (Nat.le_add_right _ _)
        · rw [z]; exact Nat.add_lt_add_left (by decide) _
        · rw [z]; exact Nat.lt_of_lt_of_le lb' (Nat.le_add_right _ _)
end
end G


set_option maxRecDepth 100000
set_option maxHeartbeats 4000000
namespace G
open PySem PySem.Spec PyProof.Rows L2
theorem dps_mk {K : PySem.W.Frag} {F : Hp} : ∀ {vs : List L2.V} {ds : List PyData}, vs.length = ds.length → (∀ (j : Nat) v d, vs[j]? = some v → ds[j]? = some d → Dp K F v d) → DpAll K F vs ds
  | [], [], _, _ => .nil
  | [], _ :: _, h, _ => by simp at h
  | _ :: _, [], h, _ => by simp at h
  | v :: vs, d :: ds, h, k => .cons (k 0 v d rfl rfl) (dps_mk (by simpa using h) fun j v d h1 h2 => k (j + 1) v d (by simpa using h1) (by simpa using h2))
section
variable {X : Cx} {env : En} {e1 e2 : Expr} {p p' pos pos' : Pos} {d1 d2 : PyData} {ds1 ds2 : List PyData}
theorem vo_listZip (hml : X.mg "list" = none) (hmz : X.mg "zip" = none) (h1 : VC X e1 env (.dat d1)) (h2 : VC X e2 env (.dat d2)) (hd1 : d1 = .list ds1 ∨ d1 = .tuple ds1 := by first | exact Or.inl rfl | exact Or.inr rfl) (hd2 : d2 = .list ds2 ∨ d2 = .tuple ds2 := by first | exact Or.inl rfl | exact Or.inr rfl) (hc : X.calm = true := by rfl) (hgl : Gl X "list" := by rfl) (hgz : Gl X "zip" := by rfl)
    (hs : starEach [e1, e2] X.env = (false, eval e1 X.env) :: starEach [e2] X.env := by rfl) (hs1 : starEach [e2] X.env = (false, eval e2 X.env) :: starEach [] X.env := by rfl) (hpl : (backTo pos' (starEach [e2] X.env)).any (·.1) = false := by rfl)
    (hs2 : starEach [.Call (.Name "zip" p') [e1, e2] [] pos'] X.env = (false, eval (.Call (.Name "zip" p') [e1, e2] [] pos') X.env) :: starEach [] X.env := by rfl) (hpl2 : (backTo pos (starEach [] X.env)).any (·.1) = false := by rfl) :
    VO X (.Call (.Name "list" p) [.Call (.Name "zip" p') [e1, e2] [] pos'] [] pos) env (olst X.K ((ds1.zip ds2).map fun x => .tuple [x.1, x.2])) := fun F H σ S s Q k =>
  ⟨_, pe_listZip hc hgl hml hgz hmz (pa_cons pwE (pa_cons pwE pa_nil hs1) hs) hs hpl hs2 hpl2, two h1 h2 s fun v1 v2 F1 H1 g q1 q2 => by
    obtain ⟨ra, xs, rfl, hq1, hp1⟩ := Src.of_dp g.sub q1 hd1
    obtain ⟨rb, ys, rfl, hq2, hp2⟩ := Src.of_dp g.sub q2 hd2
    refine ⟨ra, rb, xs, ys, rfl, hq1 H1 g.sub, hq2 H1 g.sub, fun H' L ts sm n1 n2 ln tt => ?_⟩
    have lx := dps_length hp1
    have ly := dps_length hp2
    let F' : Hp := fun a => match H1 a with
      | none => H' a
      | some _ => F1 a
    have fn : ∀ {a}, H1 a = none → F' a = H' a := fun {a} e => by show (match H1 a with | none => H' a | some _ => F1 a) = _; rw [e]
    have fs : ∀ {a o}, H1 a = some o → F' a = F1 a := fun {a o} e => by show (match H1 a with | none => H' a | some _ => F1 a) = _; rw [e]
    have s1 : Same F1 F' := fun a o e => by rw [fs (g.sub a o e)]; exact e
    have sub : Same F' (upd H' L (.lst (ts.map L2.V.ref))) := fun a o e => by
      cases q : H1 a with
      | none =>
        rw [fn q] at e
        rw [upd_ne (ne_of_none e n1)]
        exact e
      | some u =>
        rw [fs q] at e
        have := sm a o (g.sub a o e)
        rw [upd_ne (ne_of_none this n1)]
        exact this
    have gr : Grow F1 H1 F' (upd H' L (.lst (ts.map L2.V.ref))) := ⟨s1, fun a o e => by rw [upd_ne (ne_of_none (sm a o e) n1)]; exact sm a o e, sub, fun a o e => by
      cases q : H1 a with
      | none => exact .inr rfl
      | some u => rw [fs q] at e; exact .inl e⟩
    refine k (.ref L) F' _ (fun b => b = L) (g.trans gr) ⟨rfl, ⟨L, _, rfl, upd_same, dps_mk (by simp [ln, lx, ly]) fun j v d hv hd => ?_, fun _ => Iff.rfl⟩, fun b z => by subst z; exact ⟨by rw [fn n2]; exact n1, _, upd_same⟩⟩ fun b z => by subst z; exact g.h.free n2
    rw [List.getElem?_map] at hv hd
    cases qt : ts[j]? with
    | none => rw [qt] at hv; cases hv
    | some T =>
      rw [qt] at hv
      cases hv
      obtain ⟨x, y, a1, a2, a3, a4⟩ := tt j T qt
      obtain ⟨dx, b1, b2⟩ := dps_getv hp1 a1
      obtain ⟨dy, c1, c2⟩ := dps_getv hp2 a2
      have hz : (ds1.zip ds2)[j]? = some (dx, dy) := by rw [List.getElem?_zip_eq_some]; exact ⟨b1, c1⟩
      rw [hz] at hd
      cases hd
      exact .tup (SqT.of (by rw [fn a4]; exact a3)) (.cons (dp_mono s1 (dp_mono (Same.refl _) b2)) (.cons (dp_mono s1 c2) .nil))⟩
end
end G


set_option maxRecDepth 100000
set_option maxHeartbeats 4000000
/-! two tables of rows, all lists of one's own -/
namespace G
open PySem PySem.Spec PyProof.Rows L2
structure Lay where
  rt : Addr
  tb : Bool → Addr
  ro : Bool → List Addr
abbrev Tab := Bool → List (List PyData)
def Lay.Has (T : Lay) (b : Addr) : Prop := b = T.rt ∨ (∃ w, b = T.tb w) ∨ ∃ w, b ∈ T.ro w
structure Lay.Ok (T : Lay) : Prop where
  r1 : ∀ w, T.rt ≠ T.tb w
  r2 : ∀ w, T.rt ∉ T.ro w
  t1 : ∀ w w', T.tb w = T.tb w' → w = w'
  t2 : ∀ w w', T.tb w ∉ T.ro w'
  n : ∀ w, (T.ro w).Nodup
  d : ∀ b w w', b ∈ T.ro w → b ∈ T.ro w' → w = w'
def RowsH (K : PySem.W.Frag) (F H : Hp) (A : List Addr) (R : List (List PyData)) : Prop := A.length = R.length ∧ ∀ (j : Nat) (b : Addr) (ds : List PyData), A[j]? = some b → R[j]? = some ds → ∃ vs, H b = some (.lst vs) ∧ DpAll K F vs ds
def upB {α : Type} (f : Bool → α) (w : Bool) (x : α) : Bool → α := fun w' => if w' = w then x else f w'
theorem upB_same {α : Type} {f : Bool → α} {w : Bool} {x : α} : upB f w x w = x := if_pos rfl
theorem upB_ne {α : Type} {f : Bool → α} {w w' : Bool} {x : α} (h : w' ≠ w) : upB f w x w' = f w' := if_neg h
def ost (K : PySem.W.Frag) (T : Lay) (R : Tab) : Rs where
  At F H v S := v = .ref T.rt ∧ T.Ok ∧ H T.rt = some (.lst [.ref (T.tb false), .ref (T.tb true)]) ∧ (∀ w, H (T.tb w) = some (.lst ((T.ro w).map .ref)) ∧ RowsH K F H (T.ro w) (R w)) ∧ ∀ b, S b ↔ T.Has b
  mono := fun {F F' H H' v S} e eH ⟨h0, h1, h2, h3, h4⟩ => ⟨h0, h1, by rw [eH _ ((h4 _).mpr (.inl rfl))]; exact h2, fun w => ⟨by rw [eH _ ((h4 _).mpr (.inr (.inl ⟨w, rfl⟩)))]; exact (h3 w).1, (h3 w).2.1, fun j b ds g1 g2 => by
    obtain ⟨vs, g3, g4⟩ := (h3 w).2.2 j b ds g1 g2
    exact ⟨vs, by rw [eH _ ((h4 _).mpr (.inr (.inr ⟨w, List.mem_of_getElem? g1⟩)))]; exact g3, dps_mono e g4⟩⟩, h4⟩
def tabD (R : Tab) : PyData := .list [.list ((R false).map .list), .list ((R true).map .list)]
theorem rows_dps {K : PySem.W.Frag} {F H F' : Hp} (e : Same F F') : ∀ {A : List Addr} {R : List (List PyData)}, RowsH K F H A R → (∀ b ∈ A, F' b = H b) → DpAll K F' (A.map V.ref) (R.map .list)
  | [], [], _, _ => .nil
  | [], _ :: _, h, _ => by have := h.1; simp at this
  | _ :: _, [], h, _ => by have := h.1; simp at this
  | a :: A, r :: R, h, k => by
    obtain ⟨vs, g1, g2⟩ := h.2 0 a r rfl rfl
    refine .cons (.lst (SqL.of (xs := vs) (by rw [k a List.mem_cons_self]; exact g1)) (dps_mono e g2)) (rows_dps e (A := A) (R := R) ⟨by simpa using h.1, fun j b ds q1 q2 => h.2 (j + 1) b ds (by simpa using q1) (by simpa using q2)⟩ fun b hb => k b (List.mem_cons_of_mem _ hb))
open Classical in
theorem frz_ost {K : PySem.W.Frag} {T : Lay} {R : Tab} : Frz K (ost K T R) (tabD R) where
  frz := fun {F H v S} s ⟨h0, h1, h2, h3, h4⟩ hn => by
    let F' : Hp := fun a => if S a then H a else F a
    have y : ∀ a, S a → F' a = H a := fun a z => if_pos z
    have n : ∀ a, ¬ S a → F' a = F a := fun a z => if_neg z
    have sf : Same F F' := fun b o e => by
      rw [n b (fun z => by rw [hn b z] at e; cases e)]
      exact e
    have sr := (h4 T.rt).mpr (.inl rfl)
    have st := fun w => (h4 (T.tb w)).mpr (.inr (.inl ⟨w, rfl⟩))
    have ss := fun w b (h : b ∈ T.ro w) => (h4 b).mpr (.inr (.inr ⟨w, h⟩))
    refine ⟨F', sf, fun b o e => ?_, fun b o e => ?_, ?_⟩
    · by_cases z : S b
      · rw [y b z] at e; exact e
      · rw [n b z] at e; exact s b o e
    · by_cases z : S b
      · exact .inr z
      · rw [n b z] at e; exact .inl e
    · rw [h0]
      refine .lst (SqL.of (by rw [y _ sr]; exact h2)) (.cons (.lst (SqL.of (by rw [y _ (st false)]; exact (h3 false).1)) ?_) (.cons (.lst (SqL.of (by rw [y _ (st true)]; exact (h3 true).1)) ?_) .nil))
      · exact rows_dps sf (h3 false).2 fun b hb => y b (ss false b hb)
      · exact rows_dps sf (h3 true).2 fun b hb => y b (ss true b hb)
  lists := fun {F H v S} ⟨h0, h1, h2, h3, h4⟩ b hb => by
    rcases (h4 b).mp hb with e | ⟨w, e⟩ | ⟨w, e⟩
    · rw [e]; exact ⟨_, h2⟩
    · rw [e]; exact ⟨_, (h3 w).1⟩
    · obtain ⟨j, hj⟩ := List.mem_iff_getElem?.mp e
      have hl : j < (R w).length := by rw [← (h3 w).2.1]; exact (List.getElem?_eq_some_iff.mp hj).1
      obtain ⟨vs, g, _⟩ := (h3 w).2.2 j b _ hj (List.getElem?_eq_getElem hl)
      exact ⟨vs, g⟩
/-- what slot i owns has changed, all else stands -/
theorem Sit.renew {K : PySem.W.Frag} {F H H' : Hp} {σ : St} {S : Foot} {env : En} {i : Nat} {v : V} {R R' : Rs} {Si : Addr → Prop} (s : Sit K F H σ S env) (h : env[i]? = some (some (.own v R)))
    (k1 : ∀ a o, H a = some o → ¬ S i a → H' a = some o) (k2 : R'.At F H' v Si) (k3 : ∀ a, Si a → S i a ∨ (F a = none ∧ ∀ j, ¬ S j a)) (k4 : ∀ a, Si a → ∃ o, H' a = some o) :
    ∃ S', Sit K F H' σ S' (env.set i (some (.own v R'))) ∧ ∀ a, tot S' a → tot S a ∨ Si a := by
  obtain ⟨v', e1, ev, hA, hn⟩ := s.slot i _ h
  have ev : v' = v := ev
  subst ev
  have hi : i < env.length := (List.getElem?_eq_some_iff.mp h).1
  have nF : ∀ a, Si a → F a = none := fun a z => (k3 a z).elim (fun y => (hn a y).1) fun y => y.1
  refine ⟨fun j => if j = i then Si else S j, ⟨fun b o e => ?_, fun j c' e => ?_, fun j k a hj hk => ?_, by simp [s.len], fun j hj b => ?_⟩, fun b z => ?_⟩
  · exact k1 b o (s.sub b o e) fun z => by rw [(hn b z).1] at e; cases e
  · by_cases hji : j = i
    · subst hji
      rw [List.getElem?_set_self hi] at e
      cases e
      exact ⟨_, e1, rfl, by simpa using k2, fun b z => by simp at z; exact ⟨nF b z, k4 b z⟩⟩
    · rw [List.getElem?_set_ne (Ne.symm hji)] at e
      obtain ⟨w, w1, w2⟩ := s.slot j c' e
      refine ⟨w, w1, ?_⟩
      simp only [hji, if_false]
      refine w2.keep (Same.refl F) (fun b z => ?_) fun b z => (w2.no z).1
      obtain ⟨_, o, ho⟩ := w2.no z
      rw [ho, k1 b o ho fun y => hji (s.dis j i b z y)]
  · by_cases hji : j = i
    · by_cases hki : k = i
      · rw [hji, hki]
      · simp only [hji, hki, if_true, if_false] at hj hk
        rcases k3 a hj with y | y
        · exact absurd (s.dis i k a y hk) (fun z => hki z.symm)
        · exact absurd hk (y.2 k)
    · by_cases hki : k = i
      · simp only [hji, hki, if_true, if_false] at hj hk
        rcases k3 a hk with y | y
        · exact absurd (s.dis j i a hj y) hji
        · exact absurd hj (y.2 j)
      · simp only [hji, hki, if_false] at hj hk
        exact s.dis j k a hj hk
  · by_cases hji : j = i
    · subst hji
      exact absurd (List.getElem?_set_self hi) (hj _)
    · simp only [hji, if_false]
      exact s.emp j (fun c' e => hj c' (by rw [List.getElem?_set_ne (Ne.symm hji)]; exact e)) b
  · obtain ⟨j, z⟩ := z
    by_cases hji : j = i
    · simp only [hji, if_true] at z
      exact .inr z
    · simp only [hji, if_false] at z
      exact .inl ⟨j, z⟩
theorem prog_renew {F H F3 H3 H' : Hp} {S S' : Foot} {i : Nat} (g : Grow F H F3 H3) (k1 : ∀ a o, H3 a = some o → ¬ S i a → H' a = some o) (t : ∀ a, tot S' a → tot S a ∨ H a = none) : Prog F H (tot S) F3 H' (tot S') :=
  ⟨g.f, fun a o e na => k1 a o (g.h a o e) fun z => na ⟨i, z⟩, fun a o e => (g.new a o e).elim .inl fun z => .inr (.inl z), t⟩
def refP (a : Addr) : Ps where
  At _ v := v = .ref a
  mono := fun _ h => h
section
variable {K : PySem.W.Frag} {F H : Hp} {A : List Addr} {R : List (List PyData)}
theorem RowsH.upd {b : Addr} {j : Nat} {vs : List V} {ds : List PyData} (h : RowsH K F H A R) (n : A.Nodup) (hj : A[j]? = some b) (hv : DpAll K F vs ds) : RowsH K F (upd H b (.lst vs)) A (R.set j ds) := by
  refine ⟨by simp [h.1], fun i c es g1 g2 => ?_⟩
  by_cases e : j = i
  · subst e
    rw [hj] at g1
    cases g1
    rw [List.getElem?_set_self (by rw [← h.1]; exact (List.getElem?_eq_some_iff.mp hj).1)] at g2
    cases g2
    exact ⟨vs, upd_same, hv⟩
  · rw [List.getElem?_set_ne e] at g2
    have ne : c ≠ b := fun z => e (by
      subst z
      obtain ⟨h1, e1⟩ := List.getElem?_eq_some_iff.mp hj
      obtain ⟨h2, e2⟩ := List.getElem?_eq_some_iff.mp g1
      exact (List.getElem_inj n).mp (e1.trans e2.symm))
    rw [upd_ne ne]
    exact h.2 i c es g1 g2
theorem RowsH.skip {b : Addr} {o : HO} (h : RowsH K F H A R) (hb : b ∉ A) : RowsH K F (L2.upd H b o) A R :=
  ⟨h.1, fun i c es g1 g2 => by
    rw [upd_ne (fun z => hb (by rw [← z]; exact List.mem_of_getElem? g1))]
    exact h.2 i c es g1 g2⟩
theorem RowsH.same {H' : Hp} (h : RowsH K F H A R) (hb : ∀ b ∈ A, H' b = H b) : RowsH K F H' A R :=
  ⟨h.1, fun i c es g1 g2 => by
    rw [hb c (List.mem_of_getElem? g1)]
    exact h.2 i c es g1 g2⟩
theorem RowsH.app {p : Addr} {vs : List V} {ds : List PyData} (h : RowsH K F H A R) (hp : H p = some (.lst vs)) (hv : DpAll K F vs ds) : RowsH K F H (A ++ [p]) (R ++ [ds]) := by
  refine ⟨by simp [h.1], fun i c es g1 g2 => ?_⟩
  have hl := h.1
  by_cases e : i < A.length
  · rw [List.getElem?_append_left e] at g1
    rw [List.getElem?_append_left (by omega)] at g2
    exact h.2 i c es g1 g2
  · rw [List.getElem?_append_right (by omega)] at g1
    rw [List.getElem?_append_right (by omega)] at g2
    have e1 : i - A.length = 0 := by have := (List.getElem?_eq_some_iff.mp g1).1; simp at this; omega
    rw [e1] at g1
    rw [show i - R.length = 0 by omega] at g2
    simp at g1 g2
    subst g1 g2
    exact ⟨vs, hp, hv⟩
theorem RowsH.setA {p : Addr} {j : Nat} {vs : List V} {ds : List PyData} (h : RowsH K F H A R) (hp : H p = some (.lst vs)) (hv : DpAll K F vs ds) : RowsH K F H (A.set j p) (R.set j ds) := by
  refine ⟨by simp [h.1], fun i c es g1 g2 => ?_⟩
  by_cases e : j = i
  · subst e
    rw [List.getElem?_set] at g1 g2
    simp at g1 g2
    obtain ⟨_, rfl⟩ := g1
    obtain ⟨_, rfl⟩ := g2
    exact ⟨vs, hp, hv⟩
  · rw [List.getElem?_set_ne e] at g1 g2
    exact h.2 i c es g1 g2
end
theorem nodup_app {α : Type} {xs : List α} {x : α} (n : xs.Nodup) (h : x ∉ xs) : (xs ++ [x]).Nodup := by
  rw [List.nodup_append]
  refine ⟨n, by simp, fun a ha b hb => ?_⟩
  rw [List.mem_singleton] at hb
  subst hb
  exact fun z => h (z ▸ ha)
theorem nodup_set {α : Type} : ∀ {xs : List α} {x : α} {j : Nat}, xs.Nodup → x ∉ xs → (xs.set j x).Nodup
  | [], x, j, n, h => by simpa using n
  | y :: ys, x, 0, n, h => by
    rw [List.set_cons_zero, List.nodup_cons]
    exact ⟨fun z => h (List.mem_cons_of_mem _ z), (List.nodup_cons.mp n).2⟩
  | y :: ys, x, j + 1, n, h => by
    obtain ⟨n1, n2⟩ := List.nodup_cons.mp n
    rw [List.set_cons_succ, List.nodup_cons]
    refine ⟨fun z => ?_, nodup_set n2 fun z => h (List.mem_cons_of_mem _ z)⟩
    rcases List.mem_or_eq_of_mem_set z with q | q
    · exact n1 q
    · exact h (by rw [← q]; exact List.mem_cons_self)
section
variable {X : Cx} {W : WX} {env : En} {D : DE} {e ix val : Expr} {pos p : Pos} {T : Lay} {R : Tab} {a b : Addr} {d : PyData} {k j : Nat} {w : Bool} {ds : List PyData}
/-- the slot's name: where its list stands -/
theorem vs_name (i : Nat) {v : V} {R : Rs} (h : env[i]? = some (some (.own v R))) (hv0 : v = .ref a) {x : Str} (hN : X.N[i]? = some x := by rfl) (hv : Vis X.env.scope x := by first | exact Or.inl rfl | exact Or.inr (Or.inl rfl) | exact Or.inr (Or.inr rfl)) (hd : (x == ("__debug__" : Str)) = false := by decide)
    (hcd : (x == ("__classdict__" : Str)) = false := by decide) : VC X (.Name x pos) env (.pin (refP a)) := fun F H σ S s Q q => by
  obtain ⟨v, e1, h1⟩ := s.slot i _ h
  exact ⟨_, pe_var hN hv hd hcd, v, e1, q v F H (fun _ => False) (Grow.refl s.sub) ⟨h1.1.trans hv0, fun _ z => z⟩ fun _ z => z.elim⟩
theorem vs_ix (he : VC X e env (.pin (refP a))) (hk : VC X ix env (.dat (.int (k : Int)))) {c : Ct} (hc : ∀ (F H : Hp) (σ : St) (S : Foot), Sit X.K F H σ S env → ∃ vs v, H a = some (.lst vs) ∧ vs[k]? = some v ∧ Hold X.K F H v (fun _ => False) c) (hs : PlainIx ix := by exact fun _ _ => rfl) : VC X (.Subscript e ix pos) env c := fun F H σ S s Q q =>
  ⟨_, pe_ix ix_list pwE pwE hs, he F H σ S s _ fun v F1 H1 _ g1 h1 _ => hk F1 H1 σ S (s.grow g1) _ fun u F2 H2 _ g2 h2 _ => by
    have e1 : v = .ref a := h1.1
    have e2 := h2.1
    cases e2
    obtain ⟨vs, w, g3, g4, g5⟩ := hc F2 H2 σ S ((s.grow g1).grow g2)
    exact ⟨a, vs, _, w, e1, rfl, SqL.of g3, atI_nat g4, q w F2 H2 (fun _ => False) (g1.trans g2) g5 fun _ z => z.elim⟩⟩
/-- a table -/
theorem vs_tab (i : Nat) (w : Bool) (h : env[i]? = some (some (.own (.ref T.rt) (ost X.K T R)))) (he : VC X e env (.pin (refP T.rt))) (hk : VC X ix env (.dat (.int (if w then 1 else 0)))) (hs : PlainIx ix := by exact fun _ _ => rfl) : VC X (.Subscript e ix pos) env (.pin (refP (T.tb w))) :=
  vs_ix (k := if w then 1 else 0) he (by cases w <;> exact hk) (fun F H σ S s => by
    obtain ⟨v, e1, _, ⟨_, _, h2, h3, _⟩, _⟩ := s.slot i _ h
    exact ⟨_, .ref (T.tb w), h2, by cases w <;> rfl, rfl, fun _ z => z⟩) hs
/-- a row -/
theorem vs_row (i : Nat) (w : Bool) (h : env[i]? = some (some (.own (.ref T.rt) (ost X.K T R)))) (he : VC X e env (.pin (refP (T.tb w)))) (hk : VC X ix env (.dat (.int (j : Int)))) (hj : (T.ro w)[j]? = some b) (hs : PlainIx ix := by exact fun _ _ => rfl) : VC X (.Subscript e ix pos) env (.pin (refP b)) :=
  vs_ix he hk (fun F H σ S s => by
    obtain ⟨v, e1, _, ⟨_, _, h2, h3, _⟩, _⟩ := s.slot i _ h
    exact ⟨_, .ref b, (h3 w).1, by rw [List.getElem?_map, hj]; rfl, rfl, fun _ z => z⟩) hs
/-- a cell -/
theorem vs_cell (i : Nat) (w : Bool) (h : env[i]? = some (some (.own (.ref T.rt) (ost X.K T R)))) (he : VC X e env (.pin (refP b))) (hj : (T.ro w)[j]? = some b) (hd : (R w)[j]? = some ds) (hk : VC X ix env (.dat (.int (k : Int)))) (hc : ds[k]? = some d) (hs : PlainIx ix := by exact fun _ _ => rfl) : VC X (.Subscript e ix pos) env (.dat d) :=
  vs_ix he hk (fun F H σ S s => by
    obtain ⟨v, e1, _, ⟨_, _, h2, h3, _⟩, _⟩ := s.slot i _ h
    obtain ⟨vs, g1, g2⟩ := (h3 w).2.2 j b ds hj hd
    obtain ⟨u, g3, g4⟩ := dps_get g2 hc
    exact ⟨vs, u, g1, g3, g4, fun _ z => z⟩) hs
theorem rt_ne_ro {T : Lay} (ok : T.Ok) {b : Addr} {w : Bool} (h : b ∈ T.ro w) : T.rt ≠ b := fun z => ok.r2 w (z ▸ h)
theorem tb_ne_ro {T : Lay} (ok : T.Ok) {b : Addr} {w w' : Bool} (h : b ∈ T.ro w) : T.tb w' ≠ b := fun z => ok.t2 w' w (z ▸ h)
/-- row[k] = e -/
theorem ws_cell (i : Nat) (w : Bool) (h : env[i]? = some (some (.own (.ref T.rt) (ost X.K T R)))) (hval : VC X val env (.dat d)) (he : VC X e env (.pin (refP b))) (hk : VC X ix env (.dat (.int (k : Int)))) (hj : (T.ro w)[j]? = some b) (hd : (R w)[j]? = some ds) (hl : k < ds.length)
    (kx : D.nx (env.set i (some (.own (.ref T.rt) (ost X.K T (upB R w ((R w).set j (ds.set k d))))))))
    (hps : ∀ tv te ti, PE X val tv → PE X e te → PE X ix ti → PS X (.Assign [.Subscript e ix p] val pos) (tAsg tv (gSub te ti rSetL)) := by exact fun _ _ _ h1 h2 h3 => ps_asg h1 (pg_sub h2 h3 set_list)) :
    WS X W (.Assign [.Subscript e ix p] val pos) D env := fun F H σ S s E m => by
  refine ⟨_, hps _ _ _ pwE pwE pwE, hval F H σ S s _ fun v F1 H1 _ g1 h1 _ => he F1 H1 σ S (s.grow g1) _ fun u F2 H2 _ g2 h2 _ => hk F2 H2 σ S ((s.grow g1).grow g2) _ fun n F3 H3 _ g3 h3 _ => ?_⟩
  have e2 : u = .ref b := h2.1
  have e3 := h3.1
  cases e3
  have s3 := ((s.grow g1).grow g2).grow g3
  obtain ⟨v', _, ev, ⟨h4, ok, h5, h6, h7⟩, hn⟩ := s3.slot i _ h
  obtain ⟨vs, g4, g5⟩ := (h6 w).2.2 j b ds hj hd
  have hb := List.mem_of_getElem? hj
  have ln := dps_length g5
  refine ⟨b, vs, (k : Int), k, e2, rfl, g4, ?_, ?_⟩
  · unfold ixN
    rw [if_pos (by omega), if_pos (by omega)]
    simp
  · have k1 : ∀ a o, H3 a = some o → ¬ S i a → upd H3 b (.lst (vs.set k v)) a = some o := fun a o e na => by
      rw [upd_ne (fun z => na (by rw [z]; exact (h7 b).mpr (.inr (.inr ⟨w, hb⟩))))]
      exact e
    have hAt : (ost X.K T (upB R w ((R w).set j (ds.set k d)))).At F3 (upd H3 b (.lst (vs.set k v))) (.ref T.rt) (S i) := by
      refine ⟨rfl, ok, ?_, fun w' => ⟨?_, ?_⟩, h7⟩
      · rw [upd_ne (rt_ne_ro ok hb)]
        exact h5
      · rw [upd_ne (tb_ne_ro ok hb)]
        exact (h6 w').1
      · by_cases e : w' = w
        · subst e
          rw [upB_same]
          exact (h6 w').2.upd (ok.n w') hj (dps_set (dp_mono (g2.f.trans g3.f) h1.1) k g5)
        · rw [upB_ne e]
          exact (h6 w').2.skip fun z => e (ok.d b w' w z hb)
    obtain ⟨S', s', t'⟩ := s3.renew (Si := S i) h k1 hAt (fun a z => .inl z) (fun a z => by
      by_cases e : a = b
      · rw [e]; exact ⟨_, upd_same⟩
      · rw [upd_ne e]; exact (hn a z).2)
    exact m.nx F3 _ σ S' _ (prog_renew ((g1.trans g2).trans g3) k1 fun a z => .inl ((t' a z).elim id fun y => ⟨i, y⟩)) s' kx
def Lay.set (T : Lay) (w : Bool) (A : List Addr) : Lay := ⟨T.rt, T.tb, upB T.ro w A⟩
theorem Lay.set_has {T : Lay} {w : Bool} {A : List Addr} {a : Addr} (h : (T.set w A).Has a) : T.Has a ∨ a ∈ A := by
  rcases h with e | ⟨w', e⟩ | ⟨w', e⟩
  · exact .inl (.inl e)
  · exact .inl (.inr (.inl ⟨w', e⟩))
  · by_cases q : w' = w
    · subst q
      have e : a ∈ upB T.ro w' A w' := e
      rw [upB_same] at e
      exact .inr e
    · have e : a ∈ upB T.ro w A w' := e
      rw [upB_ne q] at e
      exact .inl (.inr (.inr ⟨w', e⟩))
theorem Lay.Ok.set {T : Lay} (ok : T.Ok) {w : Bool} {A : List Addr} {p : Addr} (np : ¬ T.Has p) (hA : ∀ a ∈ A, a = p ∨ a ∈ T.ro w) (n : A.Nodup) : (T.set w A).Ok := by
  have mem : ∀ {w' a}, a ∈ (T.set w A).ro w' → (w' = w ∧ a = p) ∨ a ∈ T.ro w' := fun {w' a} h => by
    by_cases q : w' = w
    · subst q
      have h : a ∈ upB T.ro w' A w' := h
      rw [upB_same] at h
      exact (hA a h).elim (fun z => .inl ⟨rfl, z⟩) .inr
    · have h : a ∈ upB T.ro w A w' := h
      rw [upB_ne q] at h
      exact .inr h
  refine ⟨ok.r1, fun w' z => ?_, ok.t1, fun w1 w2 z => ?_, fun w' => ?_, fun b w1 w2 z1 z2 => ?_⟩
  · rcases mem z with ⟨_, e⟩ | e
    · exact np (.inl e.symm)
    · exact ok.r2 w' e
  · rcases mem z with ⟨_, e⟩ | e
    · exact np (.inr (.inl ⟨w1, e.symm⟩))
    · exact ok.t2 w1 w2 e
  · show (upB T.ro w A w').Nodup
    by_cases q : w' = w
    · subst q; rw [upB_same]; exact n
    · rw [upB_ne q]; exact ok.n w'
  · rcases mem z1 with ⟨e1, f1⟩ | e1 <;> rcases mem z2 with ⟨e2, f2⟩ | e2
    · rw [e1, e2]
    · exact absurd (.inr (.inr ⟨w2, f1 ▸ e2⟩)) np
    · exact absurd (.inr (.inr ⟨w1, f2 ▸ e1⟩)) np
    · exact ok.d b w1 w2 e1 e2
/-- a table becomes another one, its new row at q -/
theorem Sit.table {F0 H0 F H : Hp} {σ : St} {S : Foot} (s0 : Sit X.K F0 H0 σ S env) (s : Sit X.K F H σ S env) (g : Grow F0 H0 F H) {i : Nat} {w : Bool} (h : env[i]? = some (some (.own (.ref T.rt) (ost X.K T R)))) {q : Addr} {A : List Addr} {R' : List (List PyData)} (hq0 : H0 q = none) (hq : ∃ o, H q = some o) (nFq : F q = none)
    (hA : ∀ a ∈ A, a = q ∨ a ∈ T.ro w) (nA : A.Nodup) (hR : RowsH X.K F H (T.ro w) (R w) → RowsH X.K F H A R') :
    ∃ S', Sit X.K F (upd H (T.tb w) (.lst (A.map .ref))) σ S' (env.set i (some (.own (.ref T.rt) (ost X.K (T.set w A) (upB R w R'))))) ∧ Prog F0 H0 (tot S) F (upd H (T.tb w) (.lst (A.map .ref))) (tot S') := by
  obtain ⟨v', _, ev, ⟨h4, ok, h5, h6, h7⟩, hn⟩ := s.slot i _ h
  have nq : ∀ j, ¬ S j q := fun j z => by
    obtain ⟨_, o, ho⟩ := s0.no z
    rw [hq0] at ho; cases ho
  have nh : ¬ T.Has q := fun z => nq i ((h7 q).mpr z)
  have nq2 : q ≠ T.tb w := fun z => nh (.inr (.inl ⟨w, z⟩))
  have k1 : ∀ a o, H a = some o → ¬ S i a → upd H (T.tb w) (.lst (A.map .ref)) a = some o := fun a o e na => by
    rw [upd_ne (fun z => na (by rw [z]; exact (h7 _).mpr (.inr (.inl ⟨w, rfl⟩))))]
    exact e
  have sk : ∀ {A' : List Addr} {R'' : List (List PyData)}, RowsH X.K F H A' R'' → T.tb w ∉ A' → RowsH X.K F (upd H (T.tb w) (.lst (A.map .ref))) A' R'' := fun h n => h.skip n
  have nA2 : T.tb w ∉ A := fun z => (hA _ z).elim (fun y => nq2 y.symm) (ok.t2 w w)
  have Sub : ∀ a, (T.set w A).Has a → S i a ∨ a = q := fun a z => by
    rcases Lay.set_has z with y | y
    · exact .inl ((h7 a).mpr y)
    · exact (hA a y).elim .inr fun y => .inl ((h7 a).mpr (.inr (.inr ⟨w, y⟩)))
  have hAt : (ost X.K (T.set w A) (upB R w R')).At F (upd H (T.tb w) (.lst (A.map .ref))) (.ref T.rt) (T.set w A).Has := by
    refine ⟨rfl, ok.set nh hA nA, ?_, fun w' => ⟨?_, ?_⟩, fun _ => Iff.rfl⟩
    · show upd _ _ _ T.rt = _
      rw [upd_ne (ok.r1 w)]
      exact h5
    · show upd _ _ _ (T.tb w') = some (.lst ((upB T.ro w _ w').map .ref))
      by_cases e : w' = w
      · subst e
        rw [upB_same, upd_same]
      · rw [upB_ne e, upd_ne (fun z => e (ok.t1 _ _ z))]
        exact (h6 w').1
    · show RowsH _ _ _ (upB T.ro w _ w') (upB R w _ w')
      by_cases e : w' = w
      · subst e
        rw [upB_same, upB_same]
        exact sk (hR (h6 w').2) nA2
      · rw [upB_ne e, upB_ne e]
        exact sk (h6 w').2 (ok.t2 w w')
  obtain ⟨S', s', t'⟩ := s.renew (Si := (T.set w A).Has) h k1 hAt (fun a z => (Sub a z).elim .inl fun y => .inr (by rw [y]; exact ⟨nFq, nq⟩)) (fun a z => by
    by_cases e : a = T.tb w
    · rw [e]; exact ⟨_, upd_same⟩
    · rw [upd_ne e]
      rcases Sub a z with y | y
      · exact (hn a y).2
      · rw [y]; exact hq)
  refine ⟨S', s', prog_renew g k1 fun a z => ?_⟩
  rcases t' a z with y | y
  · exact .inl y
  · exact (Sub a y).elim (fun y => .inl ⟨i, y⟩) fun y => .inr (by rw [y]; exact hq0)
/-- table[j] = [..] -/
theorem ws_row (i : Nat) (w : Bool) (h : env[i]? = some (some (.own (.ref T.rt) (ost X.K T R)))) (hval : VO X val env (olst X.K ds)) (he : VC X e env (.pin (refP (T.tb w)))) (hk : VC X ix env (.dat (.int (j : Int)))) (hl : j < (R w).length)
    (kx : ∀ p, D.nx (env.set i (some (.own (.ref T.rt) (ost X.K (T.set w ((T.ro w).set j p)) (upB R w ((R w).set j ds)))))))
    (hps : ∀ tv te ti, PE X val tv → PE X e te → PE X ix ti → PS X (.Assign [.Subscript e ix p] val pos) (tAsg tv (gSub te ti rSetL)) := by exact fun _ _ _ h1 h2 h3 => ps_asg h1 (pg_sub h2 h3 set_list)) :
    WS X W (.Assign [.Subscript e ix p] val pos) D env := fun F H σ S s E m => by
  refine ⟨_, hps _ _ _ pwE pwE pwE, hval F H σ S s _ fun v F1 H1 Sv g1 h1 fr => he F1 H1 σ S (s.grow g1) _ fun u F2 H2 _ g2 h2 _ => hk F2 H2 σ S ((s.grow g1).grow g2) _ fun n F3 H3 _ g3 h3 _ => ?_⟩
  have e2 : u = .ref (T.tb w) := h2.1
  have e3 := h3.1
  cases e3
  have s3 := ((s.grow g1).grow g2).grow g3
  obtain ⟨v', _, ev, ⟨h4, ok, h5, h6, h7⟩, hn⟩ := s3.slot i _ h
  obtain ⟨_, ⟨q, xs, eq, hq, hx, hSv⟩, hfr⟩ := h1
  subst eq
  have hq3 : H3 q = some (.lst xs) := g3.h _ _ (g2.h _ _ hq)
  have ln := (h6 w).2.1
  have nFq : F3 q = none := by
    have f1 := (hfr q ((hSv q).mpr rfl)).1
    have f2 : F2 q = none := by
      cases z : F2 q with
      | none => rfl
      | some o =>
        rcases g2.new q o z with y | y
        · rw [f1] at y; cases y
        · rw [hq] at y; cases y
    cases z : F3 q with
    | none => rfl
    | some o =>
      rcases g3.new q o z with y | y
      · rw [f2] at y; cases y
      · rw [g2.h _ _ hq] at y; cases y
  have hq0 := fr q ((hSv q).mpr rfl)
  refine ⟨T.tb w, _, (j : Int), j, e2, rfl, (h6 w).1, ?_, ?_⟩
  · unfold ixN
    rw [if_pos (by omega), if_pos (by rw [List.length_map]; omega)]
    simp
  · have nh : q ∉ T.ro w := fun z => by
      obtain ⟨_, o, ho⟩ := s.no ((h7 q).mpr (.inr (.inr ⟨w, z⟩)))
      rw [hq0] at ho; cases ho
    obtain ⟨S', s', p'⟩ := Sit.table s s3 ((g1.trans g2).trans g3) h (A := (T.ro w).set j q) hq0 ⟨_, hq3⟩ nFq (fun a ha => (List.mem_or_eq_of_mem_set ha).symm) (nodup_set (ok.n w) nh) fun r => r.setA hq3 (dps_mono (g2.f.trans g3.f) hx)
    rw [List.map_set] at s' p'
    exact m.nx F3 _ σ S' _ p' s' (kx q)
/-- table.append([..]) -/
theorem ws_push (i : Nat) (w : Bool) {p2 pos2 : Pos} (h : env[i]? = some (some (.own (.ref T.rt) (ost X.K T R)))) (he : VC X e env (.pin (refP (T.tb w)))) (hval : VO X val env (olst X.K ds)) (hl : (R w).length < 16777216)
    (kx : ∀ p, D.nx (env.set i (some (.own (.ref T.rt) (ost X.K (T.set w (T.ro w ++ [p])) (upB R w (R w ++ [ds])))))))
    (hbm : ∀ te tv, PE X e te → PE X val tv → PE X (.Call (.Attribute e (Str.ofString "append") p2) [val] [] pos) (tBM X.K "list" rAppend te (tCons tv tNil)) := by exact fun _ _ h1 h2 => pe_bm PySem.F.plainAttrs_list PySem.F.slot_list_append PySem.F.type_list_append mt_append h1 (pa_cons h2 pa_nil))
    (hs : swapsWith (.Call (.Attribute e (Str.ofString "append") p2) [val] [] pos) none pos2.line X.env = pure false := by rfl) :
    WS X W (.Expr (.Call (.Attribute e (Str.ofString "append") p2) [val] [] pos) pos2) D env := fun F H σ S s E m => by
  refine ⟨_, ps_expr (hbm _ _ pwE pwE) hs, he F H σ S s _ fun u F1 H1 _ g1 h1 _ => ?_⟩
  have e2 : u = .ref (T.tb w) := h1.1
  subst e2
  have s1 := s.grow g1
  refine ⟨?_, hval F1 H1 σ S s1 _ fun v F2 H2 Sv g2 h2 fr => ?_⟩
  · obtain ⟨_, _, _, ⟨_, _, _, h6, _⟩, _⟩ := s1.slot i _ h
    exact .inl ⟨rfl, _, SqL.of (h6 w).1⟩
  have s3 := s1.grow g2
  obtain ⟨v', _, ev, ⟨h4, ok, h5, h6, h7⟩, hn⟩ := s3.slot i _ h
  obtain ⟨_, ⟨q, xs, eq, hq, hx, hSv⟩, hfr⟩ := h2
  subst eq
  have ln := (h6 w).2.1
  have hq1 := fr q ((hSv q).mpr rfl)
  have hq0 : H q = none := g1.h.free hq1
  refine ⟨T.tb w, _, _, rfl, rfl, (h6 w).1, by rw [sizeLine_eq, List.length_map, ln]; exact hl, ?_⟩
  have nh : q ∉ T.ro w := fun z => by
    obtain ⟨_, o, ho⟩ := s.no ((h7 q).mpr (.inr (.inr ⟨w, z⟩)))
    rw [hq0] at ho; cases ho
  obtain ⟨S', s', p'⟩ := Sit.table s s3 (g1.trans g2) h (A := T.ro w ++ [q]) hq0 ⟨_, hq⟩ (hfr q ((hSv q).mpr rfl)).1 (fun a ha => (List.mem_append.mp ha).elim .inr fun z => .inl (List.mem_singleton.mp z)) (nodup_app (ok.n w) nh) fun r => r.app hq hx
  rw [List.map_append] at s' p'
  exact m.nx F2 _ σ S' _ p' s' (kx q)
/-- for row in table -/
theorem ws_rows (i : Nat) (w : Bool) (l : Nat) {x : Str} {xp : Pos} {iter : Expr} {body : List Stmt} {A : List Addr} {tb : Addr} (hN : X.N.Nodup) (hp : PassesOwn (model X.prog X.w) X.A X.env X.xe) (hc : X.calm = true)
    (hi : VC X iter env (.pin (refP tb)))
    (P : Nat → En → Prop) (h0 : P 0 env) (hP : ∀ j env1, P j env1 → ∃ T R, env1[i]? = some (some (.own (.ref T.rt) (ost X.K T R))) ∧ T.tb w = tb ∧ T.ro w = A)
    (hs : ∀ j b, A[j]? = some b → ∀ env1, P j env1 → WB X W body { D with nx := P (j + 1), ct := P (j + 1), bk := D.nx } (env1.set l (some (.pin (refP b))))) (hd : ∀ env1, P A.length env1 → D.nx env1)
    (hx : X.N[l]? = some x := by rfl) (hlo : Loc X.env.scope x := by first | exact Or.inl rfl | exact Or.inr rfl) (hfn : X.fn x = true ∨ X.env.scope.names.lookup x = some .local := by first | exact .inl rfl | exact .inr rfl | assumption)
    (hf : ∀ x, foldedSetIterable iter X.env x = pure x := by intro _; rfl) : WS X W (.For (.Name x xp) iter body [] pos) D env := fun F H σ S s E m =>
  ⟨_, ps_for hp hc (pi_list pwE) (pg_name hN hx hlo hfn) pwB hf, hi F H σ S s _ fun v F1 H1 Sv g1 h1 _ => by
    have e2 : v = .ref tb := h1.1
    subst e2
    let Pv : Nat → St → Hp → Prop := fun j σ' H' => ∃ F' S' env', Prog F1 H1 (tot S) F' H' (tot S') ∧ Sit X.K F' H' σ' S' env' ∧ P j env'
    have at_ : ∀ j σ' H', Pv j σ' H' → SqL X.K H' tb (A.map .ref) := fun j σ' H' ⟨F', S', env', p', s', q'⟩ => by
      obtain ⟨T, R, e, t1, t2⟩ := hP j env' q'
      obtain ⟨v', _, ev, ⟨h4, ok, h5, h6, h7⟩, hn⟩ := s'.slot i _ e
      have := (h6 w).1
      rw [t1, t2] at this
      exact SqL.of this
    have p0 : Pv 0 σ H1 := ⟨F1, S, env, Prog.refl, s.grow g1, h0⟩
    refine ⟨tb, rfl, ⟨_, at_ 0 σ H1 p0⟩, for_list (xs := A.map .ref) Pv p0 (fun j σ' H' _ z => at_ j σ' H' z) (fun j y σ' H' hy ⟨F', S', env', p', s', q'⟩ => ?_) (fun σ' H' ⟨F', S', env', p', s', q'⟩ => ?_)⟩
    · rw [List.getElem?_map] at hy
      cases eb : A[j]? with
      | none => rw [eb] at hy; cases hy
      | some b =>
        rw [eb] at hy
        cases hy
        obtain ⟨S3, s3, t3⟩ := s'.put (i := l) (v := .ref b) (c := .pin (refP b)) (Sv := fun _ => False) ⟨rfl, fun _ z => z⟩ (fun _ _ _ z => z)
        have t3' : ∀ a, tot S3 a → tot S' a := fun a z => (t3 a z).elim id False.elim
        have p3 : Prog F1 H1 (tot S) F' H' (tot S3) := p'.trans (s'.sub_tot t3')
        have m3 := m.from (g1.prog.trans p3)
        exact hs j b eb env' q' F' H' _ S3 s3 _ ⟨fun F4 H4 σ4 S4 env4 p4 s4 q4 => ⟨F4, S4, env4, p3.trans p4, s4, q4⟩, m3.rt, m3.nx, fun F4 H4 σ4 S4 env4 p4 s4 q4 => ⟨F4, S4, env4, p3.trans p4, s4, q4⟩, m3.ex⟩
    · rw [List.length_map] at q'
      exact m.nx F' H' σ' S' env' (g1.prog.trans p') s' (hd env' q')⟩
end
end G


set_option maxRecDepth 100000
set_option maxHeartbeats 4000000
/-! len(set(xs)), xs a list of texts -/
namespace G
open PySem PySem.Spec PyProof.Rows L2
theorem dset_go (k : Str) : ∀ (xs acc : List Str), (xs.foldl (fun acc x => if x ∈ acc then acc else acc ++ [x]) acc).any (· == k) = (acc.any (· == k) || xs.any (· == k))
  | [], acc => by simp
  | x :: xs, acc => by
    rw [List.foldl_cons, dset_go k xs]
    by_cases e : x ∈ acc
    · rw [if_pos e, List.any_cons]
      by_cases q : x = k
      · subst q
        have : acc.any (· == x) = true := List.any_eq_true.mpr ⟨x, e, by simp⟩
        simp [this]
      · have : (x == k) = false := beq_eq_false_iff_ne.mpr q
        rw [this]; simp
    · rw [if_neg e, List.any_append, List.any_cons, List.any_cons, List.any_nil, Bool.or_false, Bool.or_assoc]
theorem dset_mem (k : Str) (xs : List Str) : (dset xs).any (· == k) = xs.any (· == k) := by
  unfold dset
  rw [dset_go]
  rfl
section
variable {prog : Program} {w : World} {A : Around} {R : Result → Shared → Prop} {I S : Addr} {fp wr : List Addr} {g0 : Array GenState → Array GenState → Prop} {n : Nat} {Pv : Nat → Value → Prop} {St : Nat → Shared → Prop} {xs : List Str}
/-- the set at S of the first i texts -/
def SetAt (prog : Program) (w : World) (S : Addr) (ys : List Str) (h : Heap) : Prop := h.SetOf (PySem.strKind prog w) S (fun k' => ys.any (· == k')) (dset ys).length
theorem SetAt.at {h h' : Heap} {ys : List Str} (x : SetAt prog w S ys h) (k : ∀ o, h.get? S = some o → h'.get? S = some o) : SetAt prog w S ys h' := by
  obtain ⟨o, es, ep, t, ho, r⟩ := x
  exact ⟨o, es, ep, t, k o ho, r⟩
theorem texts_loop (Wk : WalksS prog w A.in1 I fp wr g0 n Pv St) (hSf : S ∉ fp) (hsz : xs.length = n) (hn : n + 1 < scanBound) (hval : ∀ i v, Pv i v → ∃ t, v = .str (xs.getD i Str.empty) t) : ∀ (k i : Nat) (s : Shared), n - i = k → i ≤ n → St i s → SetAt prog w S (xs.take i) s.heap →
    (∀ s', Moved (S :: wr) g0 s s' → SetAt prog w S xs s'.heap → R (.ok (.ret .none)) s') → codeAny (model prog w) A (.builtin "set.update.loop" ⟨[.ref S, .ref I], []⟩) R s := by
  have nS : S ∉ wr := fun z => hSf (Wk.sub _ z)
  have up : ∀ b ∈ wr, b ∈ S :: wr := fun b z => List.mem_cons_of_mem _ z
  intro k
  induction k with
  | zero =>
    intro i s hk hi st hS hR
    have ei : i = n := by omega
    subst ei
    refine codeAny_builtin PyProof.Rows.F.entry_set_update_loop ?_; rw [Around.under_plainId PyProof.Rows.F.plain_set_update_loop _]
    show wpAny _ _ (pyNext (.ref I) >>= _) _ _ _
    refine wpAny_bind (Wk.done s _ _ st fun s' mv => ?_)
    show wpAny _ _ (ret Value.none) _ _ _
    rw [List.take_of_length_le (by omega)] at hS
    exact wpAny_pure (hR s' (mv.mono up) (hS.at fun o q => mv.heap S o nS q))
  | succ k ih =>
    intro i s hk hi st hS hR
    have lt : i < n := by omega
    refine codeAny_builtin PyProof.Rows.F.entry_set_update_loop ?_; rw [Around.under_plainId PyProof.Rows.F.plain_set_update_loop _]
    show wpAny _ _ (pyNext (.ref I) >>= _) _ _ _
    refine wpAny_bind (Wk.item i s _ _ lt st fun v s' hv st' mv => ?_)
    obtain ⟨t, rfl⟩ := hval i v hv
    have hS1 : SetAt prog w S (xs.take i) s'.heap := hS.at fun o q => mv.heap S o nS q
    have hx : xs[i]? = some (xs.getD i Str.empty) := by rw [List.getD_eq_getElem?_getD, List.getElem?_eq_getElem (by omega)]; rfl
    generalize hxi : xs.getD i Str.empty = x at *
    have ht : xs.take (i + 1) = xs.take i ++ [x] := by rw [List.take_add_one, hx]; rfl
    show wpAny _ _ (holding [Value.str x t] (setAdd S (.str x t)) >>= _) _ _ _
    refine wpAny_bind (wpAny_holding ?_)
    unfold setAdd
    refine wpAny_holding (wpAny_bind ((PySem.strKind prog w).pyHash (k := x) (strKind_is _ _ _ _) ?_))
    have room : (dset (xs.take i)).length + 1 < scanBound := by have := dset_len (xs.take i); rw [List.length_take] at this; omega
    refine wpAny_setAddHashed_of (knd := PySem.strKind prog w) (s := { s' with toks := s'.toks + 1 }) (strKind_is _ _ _ _) rfl hS1 room fun h' sb hS2 => ?_
    have hS3 : SetAt prog w S (xs.take (i + 1)) h' := by
      refine SetOf_congr hS2 (fun k' => ?_) ?_
      · rw [ht, List.any_append]
        by_cases q : k' = x
        · subst q; simp
        · have : (x == k') = false := beq_eq_false_iff_ne.mpr fun z => q z.symm
          simp [q, this]
      · rw [ht, dset_succ]
        have e : (xs.take i).any (· == x) = decide (x ∈ dset (xs.take i)) := by
          rw [← dset_mem, Bool.eq_iff_iff]
          simp
        rw [e]
        by_cases q : x ∈ dset (xs.take i)
        · simp [q]
        · simp [q]
    refine wpAny_pure ⟨plainId_quiet PyProof.Rows.F.plain_set_update_loop _, ih (i + 1) _ (by omega) lt (Wk.frame _ s' _ _ st' (Nat.le_succ _) fun b hb o q => ?_) hS3 fun s'' mv' hS'' => ?_⟩
    · rw [sb.2 b (fun z : b = S => hSf (z ▸ hb))]; exact q
    · refine hR s'' (Moved.trans Wk.gtrans ((mv.mono up).then_heap (Nat.le_succ _) fun b o hb q => ?_) mv') hS''
      rw [sb.2 b (fun z : b = S => hb (z ▸ List.mem_cons_self))]; exact q
end
section
variable {prog : Program} {w : World} {A : Around} {E : Value → Shared → Prop} {s : Shared}
set_option maxHeartbeats 6400000 in
theorem set_texts {l : Addr} {items : Array Value} {xs : List Str} {Q : Value → Shared → Prop} (hh : A.handled = none) (hl : s.heap.IsList l items) (hi : PyProof.Rows.StrsAre items.toList xs) (hn : xs.length + 1 < scanBound)
    (h : ∀ (h' : Heap) (tk : Nat), SetAt prog w s.heap.objs.size xs h' → (∀ b o, b < s.heap.objs.size → s.heap.get? b = some o → h'.get? b = some o) → Q (.ref s.heap.objs.size) { s with heap := h', toks := tk }) :
    wpAny (model prog w) A (call (.type "set") [.ref l]) Q E s := by
  obtain ⟨cx, tlx, mrox⟩ := PySem.F.called_set.mro
  have made := PySem.F.called_set.made
  have subm := PySem.F.called_set.sub
  refine wpAny_call (codeAny_of_tree ?_)
  show wpAny _ _ (callAny (.type "set") _) _ _ _
  refine wpAny_pure ⟨Code.quiet_builtin _ (by decide +kernel), codeAny_builtin PySem.F.entry_type_call ?_⟩; rw [Around.under_plain (weight_type_call_type "set" [.ref l] []) rfl]
  have n1 := PySem.F.called_set.notType
  have n2 := PySem.F.called_set.canCreate
  have n3 := PySem.F.typeCall_set_1 (.ref l)
  repeat (any_goals (first | assumption | wp_step))
  let nw : Bool → Heap := fun led => s.heap.push { cls := .type "set", dict := none, data := .set #[] 0 (.fresh 0 0 led) }
  refine codeAny_mono (code_set_new_1 (.ref l) (E := E) (Q₁ := fun obj s₁ => ∃ led : Bool, obj = .ref s.heap.objs.size ∧ s₁ = { s with heap := nw led }) fun led => ⟨led, rfl, rfl⟩) fun r s₁ hr => ?_
  cases r with
  | error e => exact hr
  | ok fl =>
    cases fl with
    | ret obj =>
      obtain ⟨led, rfl, rfl⟩ := hr
      have atS : (nw led).get? s.heap.objs.size = some { cls := .type "set", dict := none, data := .set #[] 0 (.fresh 0 0 led) } := Heap.get?_push_size _ rfl
      have tyS : Shared.TypeIs { s with heap := nw led } (.ref s.heap.objs.size) "set" := ⟨_, atS, rfl⟩
      have n4 := PySem.F.called_set.init.lookup
      have n5 := PySem.F.called_set.init.bind (.ref s.heap.objs.size)
      repeat (any_goals (first | assumption | wp_step))
      refine codeAny_mono (codeAny_call_builtin (R := wants (fun r s₂ => r = .none ∧ ∃ h' tk, s₂ = { s with heap := h', toks := tk } ∧ SetAt prog w s.heap.objs.size xs h' ∧ (∀ b o, b < s.heap.objs.size → s.heap.get? b = some o → h'.get? b = some o)) E) PySem.F.called_set.init.plain PySem.F.entry_set_init (check_set_init_1 tyS ?_)) fun r₂ s₂ hr₂ => ?_
      · obtain ⟨⟨ocls, odict, odata, oslots⟩, hol, hcl, nl, hdl⟩ := hl
        simp only at hcl hdl
        subst hcl; subst hdl
        have hol' : (nw led).get? l = some { cls := .type "list", dict := odict, data := .seq items nl, slots := oslots } := Heap.get?_push_of_some _ hol
        have q1 := PySem.F.sub_list_set
        have q2 := PySem.F.sub_list_frozenset
        have q3 : (Value.type "list" == Value.type "dict") = false := by decide
        have hl1 : (nw led).IsList l items := ⟨_, hol', rfl, nl, rfl⟩
        unfold Builtin.«set.__init__» noKeywords Builtin.Frozenset.updateFrom
        generalize hPI : pyIter = PI
        wp_walk
        subst hPI
        refine wpAny_pyIter_list hl1 ?_
        refine wpAny_bind (wpAny_runValue ?_)
        have hlS : l < s.heap.objs.size := Heap.lt_size hol
        have nh : A.in1.in1.in1.handled = none := by simp [hh]
        have szn : (nw led).objs.size = s.heap.objs.size + 1 := Heap.size_push ..
        have neI : l ≠ (nw led).objs.size := by rw [szn]; exact Nat.ne_of_lt (Nat.lt_succ_of_lt hlS)
        have nfp : s.heap.objs.size ∉ [(nw led).objs.size, l] := by
          rw [szn]; simp only [List.mem_cons, List.not_mem_nil, or_false, not_or]
          exact ⟨Nat.ne_of_lt (Nat.lt_succ_self _), Nat.ne_of_gt hlS⟩
        have sz : xs.length = items.size := by rw [← StrsAre.len_eq hi, Array.length_toList]
        refine texts_loop ((Walks.list nh _ l neI items).toS) nfp sz (by omega) (fun i v hv => SS.strs_at hi i v (by rw [Array.getElem?_toList]; exact hv)) (items.size - 0) 0 _ (by omega) (Nat.zero_le _) ⟨⟨_, Heap.get?_push_size _ rfl, rfl, rfl⟩, (hl1.push _)⟩ ?hS0 ?hR
        case hS0 =>
          have gS : ((nw led).push { cls := .type "list_iterator", data := .fields #[.ref l, .int 0 0] }).get? s.heap.objs.size = some { cls := .type "set", dict := none, data := .set #[] 0 (.fresh 0 0 led) } := Heap.get?_push_of_some _ atS
          exact PyProof.Rows.SetOf_congr ((PyProof.Rows.setObjOf_fresh (knd := PySem.strKind prog w) led).setOf gS (by unfold scanBound; omega)) (fun _ => rfl) rfl
        case hR =>
          intro s' mv hS'
          obtain ⟨h', g', d', tk', os'⟩ := s'
          have eg : g' = s.gens := mv.gens
          have ed : d' = s.drawn := mv.drawn
          have eo : os' = s.os := mv.os
          subst eg ed eo
          show wpAny _ _ _ _ _ _
          refine wpAny_pure ?_
          show wpAny _ _ (ret Value.none) _ _ _
          refine wpAny_pure ⟨rfl, h', tk', rfl, hS', fun b o hb q => ?_⟩
          refine mv.heap b o ?_ (Heap.get?_push_of_some _ (Heap.get?_push_of_some _ q))
          simp only [List.mem_cons, List.not_mem_nil, or_false, not_or]
          exact ⟨Nat.ne_of_lt hb, by rw [show (nw led).objs.size = s.heap.objs.size + 1 from szn]; exact Nat.ne_of_lt (Nat.lt_succ_of_lt hb)⟩
      · cases r₂ with
        | error e => exact hr₂
        | ok fl₂ =>
          cases fl₂ with
          | ret r =>
            obtain ⟨rfl, h', tk, rfl, hS', hk'⟩ := hr₂
            repeat (any_goals (first | assumption | wp_step))
            exact h _ _ hS' hk'
          | _ => exact hr₂.elim
    | _ => exact hr.elim
end
section
variable {X : Cx} {env : En} {a : Expr} {ta : TE} {p p2 q pos : Pos}
def tLenSetN (K : PySem.W.Frag) (ta : TE) : TE := fun σ H Q => ta σ H fun x H1 => ∃ l, ∃ xs : List Str, x = .ref l ∧ SqL K H1 l (xs.map V.str) ∧ xs.length ≤ 1000 ∧ Q (.int (dset xs).length) H1
theorem pe_lenSetN (hc : X.calm = true) (hg : Gl X "len") (hm : X.mg "len" = none) (hg2 : Gl X "set") (hm2 : X.mg "set" = none) (ha : PE X a ta)
    (na : starEach [a] X.env = (false, eval a X.env) :: starEach [] X.env := by rfl) : PE X (.Call (.Name "len" p) [.Call (.Name "set" p2) [a] [] q] [] pos) (tLenSetN X.K ta) := by
  refine ⟨fun pins s σ H Q I h => Call_ (ld_blt I hg hm boot_len ?_)⟩
  refine PyProof.Rows.callWith_builtin1 (PyProof.Rows.args_cons (Call_ (ld_blt I hg2 hm2 boot_set ?_)) rfl) rfl rfl
  refine PyProof.Rows.callWith_type1 (PyProof.Rows.args_cons (thn (ha.run pins s σ H _ I h) fun v s1 ⟨x, H1, I1, r1, z1⟩ => PyProof.Rows.args_nil ?_) na) na rfl
  obtain ⟨l, xs, rfl, hq, hn, z1⟩ := z1
  cases r1
  obtain ⟨its, r, pl, hz⟩ := I1.list hq
  refine set_texts (I1.ok.hd hc) pl.isList (by simpa using strsAre_of r) (by unfold scanBound; omega) fun h' tk hS hk => PyProof.Rows.args_nil ?_
  obtain ⟨o, es, ep, t, ho, hex, hd, _, _, _, hf, hes⟩ := hS
  have I2 : Inv X pins σ H1 { s1 with heap := h', toks := tk } := I1.kept fun b o e => hk b o (Heap.lt_size e) e
  have dl := dset_len xs
  exact call_len_set ho hex hd hf (by rw [hes] <;> omega) ⟨.int (dset xs).length, H1, I2.tok _, ⟨_, by rw [hes]⟩, z1⟩
theorem vc_lenSet (hm : X.mg "len" = none) (hm2 : X.mg "set" = none) {xs : List Str} (h : VC X a env (.dat (.list (xs.map .str)))) (hl : xs.length ≤ 1000) (hg : Gl X "len" := by rfl) (hg2 : Gl X "set" := by rfl) (hc : X.calm = true := by rfl)
    (na : starEach [a] X.env = (false, eval a X.env) :: starEach [] X.env := by rfl) : VC X (.Call (.Name "len" p) [.Call (.Name "set" p2) [a] [] q] [] pos) env (.dat (.int ((dset xs).length : Nat))) := fun F H σ S s Q k =>
  ⟨_, pe_lenSetN hc hg hm hg2 hm2 pwE na, h F H σ S s _ fun v F1 H1 Sv g1 h1 _ => by
    obtain ⟨hd, _⟩ := h1
    cases hd with
    | lst hq hs =>
      have e := dps_strs hs
      subst e
      exact ⟨_, xs, rfl, g1.sub.seq hq, hl, k _ F1 H1 (fun _ => False) g1 ⟨.int _, fun _ z => z⟩ fun _ z => z.elim⟩⟩
end
end G


set_option maxRecDepth 100000
set_option maxHeartbeats 4000000
/-! dicts of one's own, their keys texts -/
namespace G
open PySem PySem.Spec PyProof.Rows L2
abbrev Kd := List (Str × PyData)
def KdAt (K : PySem.W.Frag) (F : Hp) (us : List (Key × V)) (kvs : Kd) : Prop := Paired (fun (x : Key × V) (y : Str × PyData) => x.1 = .inr y.1 ∧ Dp K F x.2 y.2) us kvs
def getS (kvs : Kd) (k : Str) : Option PyData := (kvs.find? fun x => decide (x.1 = k)).map (·.2)
def putS (kvs : Kd) (k : Str) (d : PyData) : Kd := if (kvs.any fun x => decide (x.1 = k)) = true then kvs.map (fun x => if x.1 = k then (x.1, d) else x) else kvs ++ [(k, d)]
section
variable {K : PySem.W.Frag} {F : Hp} {k : Str} {v : V} {d : PyData}
theorem KdAt.mono {F' : Hp} (e : Same F F') {us : List (Key × V)} {kvs : Kd} (h : KdAt K F us kvs) : KdAt K F' us kvs := Paired.mapP h fun a b z => ⟨z.1, dp_mono e z.2⟩
theorem kd_get : ∀ {us : List (Key × V)} {kvs : Kd}, KdAt K F us kvs → (getS kvs k = none ∧ valV us (.inr k) = none) ∨ ∃ d v, getS kvs k = some d ∧ valV us (.inr k) = some v ∧ Dp K F v d
  | _, _, .nil => .inl ⟨rfl, rfl⟩
  | x :: us, y :: kvs, .cons h hs => by
    by_cases e : y.1 = k
    · refine .inr ⟨y.2, x.2, ?_, valV_pos (by rw [h.1, e]), h.2⟩
      simp [getS, List.find?_cons, e]
    · have e2 : ¬ x.1 = .inr k := fun z => e (Sum.inr.inj (h.1.symm.trans z))
      rw [valV_neg e2]
      have : getS (y :: kvs) k = getS kvs k := by simp [getS, List.find?_cons, e]
      rw [this]
      exact kd_get hs
theorem kd_any : ∀ {us : List (Key × V)} {kvs : Kd}, KdAt K F us kvs → (us.any fun kv => decide (kv.1 = Sum.inr k)) = kvs.any fun x => decide (x.1 = k)
  | _, _, .nil => rfl
  | x :: us, y :: kvs, .cons h hs => by
    rw [List.any_cons, List.any_cons, kd_any hs, h.1]
    congr 1
    simp
theorem kd_map (hv : Dp K F v d) : ∀ {us : List (Key × V)} {kvs : Kd}, KdAt K F us kvs → KdAt K F (us.map fun kv => if kv.1 = Sum.inr k then (kv.1, v) else kv) (kvs.map fun x => if x.1 = k then (x.1, d) else x)
  | _, _, .nil => .nil
  | x :: us, y :: kvs, .cons h hs => by
    rw [List.map_cons, List.map_cons]
    refine .cons ?_ (kd_map hv hs)
    by_cases e : y.1 = k
    · rw [if_pos e, if_pos (by rw [h.1, e])]
      exact ⟨h.1, hv⟩
    · rw [if_neg e, if_neg (fun z => e (Sum.inr.inj (h.1.symm.trans z)))]
      exact h
theorem kd_put {us : List (Key × V)} {kvs : Kd} (h : KdAt K F us kvs) (hv : Dp K F v d) : KdAt K F (putK us (.inr k) v) (putS kvs k d) := by
  unfold putK putS
  rw [kd_any h]
  by_cases e : (kvs.any fun x => decide (x.1 = k)) = true
  · rw [if_pos e, if_pos e]
    exact kd_map hv h
  · rw [if_neg e, if_neg e]
    exact Paired.snoc h ⟨rfl, hv⟩
theorem putS_len {kvs : Kd} : (putS kvs k d).length ≤ kvs.length + 1 := by
  unfold putS
  split
  · rw [List.length_map]; omega
  · simp
/-- a dict of one's own -/
def odk (K : PySem.W.Frag) (kvs : Kd) : Rs where
  At F H v S := ∃ a us, v = .ref a ∧ H a = some (.dK us) ∧ KdAt K F us kvs ∧ ∀ b, S b ↔ b = a
  mono := fun e eH ⟨a, us, h1, h2, h3, h4⟩ => ⟨a, us, h1, by rw [eH a ((h4 a).mpr rfl)]; exact h2, h3.mono e, h4⟩
end
section
variable {X : Cx} {W : WX} {env : En} {D : DE} {e ix val : Expr} {es : List Expr} {pos p : Pos} {d : PyData} {k : Str} {v : V} {kvs : Kd}
/-- {} -/
theorem vo_dnew : VO X (.Dict [] [] pos) env (odk X.K []) := fun F H σ S s Q kq =>
  ⟨_, pe_dnewK, fun a ha => kq (.ref a) F _ (fun b => b = a) (Grow.made s.sub ha) ⟨rfl, ⟨a, [], rfl, upd_same, .nil, fun _ => Iff.rfl⟩, fun b z => by subst z; exact ⟨s.sub.free ha, _, upd_same⟩⟩ fun b z => by subst z; exact ha⟩
/-- d[k] = e -/
theorem ws_dput {k0 : Nat} (i : Nat) (hr : Room k0 X.A) (hval : EC X W val (fun c env1 => ∃ d, c = .dat d ∧ ∃ kvs, env1[i]? = some (some (.own v (odk X.K kvs))) ∧ VC X ix env1 (.dat (.str k)) ∧ kvs.length < 16777216 ∧ D.nx (env1.set i (some (.own v (odk X.K (putS kvs k d)))))) D.ex env) {x : Str} {p1 p2 : Pos} (hN : X.N[i]? = some x := by rfl)
    (hv : Vis X.env.scope x := by first | exact Or.inl rfl | exact Or.inr (Or.inl rfl) | exact Or.inr (Or.inr rfl)) (hd : (x == ("__debug__" : Str)) = false := by decide) (hcd : (x == ("__classdict__" : Str)) = false := by decide)
    (hs : swapsWith val (some (.Subscript (.Name x p1) ix p2)) pos.line X.env = pure false := by rfl) :
    WS X W (.Assign [.Subscript (.Name x p1) ix p2] val pos) D env := fun F H σ S s E m => by
  refine ⟨_, ps_dput (L2.hu_of hr) (pe_var hN hv hd hcd) pwE pwE hs, hval F H σ S s _ (fun w F1 H1 S1 Sv c env1 pr s1 hw dj ⟨d, ec, kvs, h, hk, hl, kx⟩ => ?_) fun cls od F' H' S' x env' p s' xh q => m.ex cls od F' H' σ S' x env' p s' xh q⟩
  subst ec
  have pw : Prog F H (tot S) F1 H1 (tot S1) := pr.weak (fun _ z => z) fun a z => .inl (.inl z)
  obtain ⟨v', e1, ev, _⟩ := s1.slot i _ h
  have ev : v' = v := ev
  subst ev
  refine ⟨v', e1, hk F1 H1 σ S1 s1 _ fun u F2 H2 _ g2 hu _ => ?_⟩
  have q1 := hu.1
  cases q1
  have s2 := s1.grow g2
  obtain ⟨v'', _, ev2, ⟨a, us, ea, h3, h4, h5⟩, hn⟩ := s2.slot i _ h
  have ev2 : v'' = v' := ev2
  subst ev2
  subst ea
  have hz := h4.length
  have k1 : ∀ b o, H2 b = some o → ¬ S1 i b → upd H2 a (.dK (putK us (.inr k) w)) b = some o := fun b o e nb => by
    rw [upd_ne (fun z => nb (by rw [z]; exact (h5 a).mpr rfl))]
    exact e
  obtain ⟨S3, s3, t3⟩ := s2.renew (R' := odk X.K (putS kvs k d)) (Si := S1 i) h k1 ⟨a, _, rfl, upd_same, kd_put h4 (dp_mono g2.f hw.1), h5⟩ (fun b z => .inl z) fun b z => by rw [(h5 b).mp z]; exact ⟨_, upd_same⟩
  refine ⟨a, _, rfl, DPut.k (k := .inr k) h3 (by rw [sizeLine_eq]; omega), m.nx F2 _ σ S3 _ (pw.trans (prog_renew g2 k1 fun b z => .inl ((t3 b z).elim id fun y => ⟨i, y⟩))) s3 kx⟩
theorem own_dget {F H : Hp} {σ : St} {S : Foot} (s : Sit X.K F H σ S env) {i : Nat} (h : env[i]? = some (some (.own v (odk X.K kvs)))) : ∃ a us, v = .ref a ∧ H a = some (.dK us) ∧ KdAt X.K F us kvs := by
  obtain ⟨v', _, ev, ⟨a, us, ea, h3, h4, h5⟩, hn⟩ := s.slot i _ h
  have ev : v' = v := ev
  subst ev
  exact ⟨a, us, ea, h3, h4⟩
/-- d[k] -/
theorem vc_dget {k0 : Nat} (i : Nat) (hr : Room k0 X.A) (hk : VC X ix env (.dat (.str k))) (hg : getS kvs k = some d) (h : env[i]? = some (some (.own v (odk X.K kvs))) := by rfl) {x : Str} {p1 : Pos} (hN : X.N[i]? = some x := by rfl)
    (hv : Vis X.env.scope x := by first | exact Or.inl rfl | exact Or.inr (Or.inl rfl) | exact Or.inr (Or.inr rfl)) (hd : (x == ("__debug__" : Str)) = false := by decide) (hcd : (x == ("__classdict__" : Str)) = false := by decide)
    (hs : NoSl ix := by exact fun _ _ => rfl) : VC X (.Subscript (.Name x p1) ix pos) env (.dat d) := fun F H σ S s Q q => by
  obtain ⟨v', e1, h1⟩ := s.slot i _ h
  have ev : v' = v := h1.1
  subst ev
  refine ⟨_, pe_dget (L2.hu_of hr) (pe_var hN hv hd hcd) pwE hs, v', e1, hk F H σ S s _ fun u F1 H1 _ g1 h1 _ => ?_⟩
  have q1 := h1.1
  cases q1
  obtain ⟨a, us, ea, h3, h4⟩ := own_dget (s.grow g1) h
  rcases kd_get (k := k) h4 with ⟨z, _⟩ | ⟨d', w, z, y, hw⟩
  · rw [z] at hg; cases hg
  · rw [z] at hg
    cases hg
    refine ⟨a, w, ea, ?_, q w F1 H1 (fun _ => False) g1 ⟨hw, fun _ z => z⟩ fun _ z => z.elim⟩
    rw [← y]
    exact DGet.k (k := .inr k) h3
/-- k in d, k not in d -/
theorem tc_din {k0 : Nat} (i : Nat) (hr : Room k0 X.A) (hk : VC X e env (.dat (.str k))) (h : env[i]? = some (some (.own v (odk X.K kvs))) := by rfl) {x : Str} {p1 : Pos} (hN : X.N[i]? = some x := by rfl)
    (hv : Vis X.env.scope x := by first | exact Or.inl rfl | exact Or.inr (Or.inl rfl) | exact Or.inr (Or.inr rfl)) (hd : (x == ("__debug__" : Str)) = false := by decide) (hcd : (x == ("__classdict__" : Str)) = false := by decide)
    (hm : behindInMarks .In (.Name x p1) = false := by rfl) : TC X (.Compare e [.In] [.Name x p1] pos) env (getS kvs k).isSome := fun F H σ S s Q q => by
  obtain ⟨v', e1, h1⟩ := s.slot i _ h
  have ev : v' = v := h1.1
  subst ev
  refine ⟨_, pt_cmp (pc_din (L2.hu_of hr) pwE (pe_var hN hv hd hcd)) hm, hk F H σ S s _ fun u F1 H1 _ g1 h1 _ => ⟨v', e1, ?_⟩⟩
  have q1 := h1.1
  cases q1
  obtain ⟨a, us, ea, h3, h4⟩ := own_dget (s.grow g1) h
  refine ⟨a, _, ea, DGet.k (k := .inr k) h3, (getS kvs k).isSome, ?_, q F1 H1 g1⟩
  rcases kd_get (k := k) h4 with ⟨z, y⟩ | ⟨d', w, z, y, hw⟩
  · rw [z, y]; rfl
  · rw [z, y]; rfl
theorem tc_dnotin {k0 : Nat} (i : Nat) (hr : Room k0 X.A) (hk : VC X e env (.dat (.str k))) (h : env[i]? = some (some (.own v (odk X.K kvs))) := by rfl) {x : Str} {p1 : Pos} (hN : X.N[i]? = some x := by rfl)
    (hv : Vis X.env.scope x := by first | exact Or.inl rfl | exact Or.inr (Or.inl rfl) | exact Or.inr (Or.inr rfl)) (hd : (x == ("__debug__" : Str)) = false := by decide) (hcd : (x == ("__classdict__" : Str)) = false := by decide)
    (hm : behindInMarks .NotIn (.Name x p1) = false := by rfl) : TC X (.Compare e [.NotIn] [.Name x p1] pos) env (!(getS kvs k).isSome) := fun F H σ S s Q q => by
  obtain ⟨v', e1, h1⟩ := s.slot i _ h
  have ev : v' = v := h1.1
  subst ev
  refine ⟨_, pt_cmp (pc_dnotin (L2.hu_of hr) pwE (pe_var hN hv hd hcd)) hm, hk F H σ S s _ fun u F1 H1 _ g1 h1 _ => ⟨v', e1, ?_⟩⟩
  have q1 := h1.1
  cases q1
  obtain ⟨a, us, ea, h3, h4⟩ := own_dget (s.grow g1) h
  refine ⟨a, _, ea, DGet.k (k := .inr k) h3, !(getS kvs k).isSome, ?_, q F1 H1 g1⟩
  rcases kd_get (k := k) h4 with ⟨z, y⟩ | ⟨d', w, z, y, hw⟩
  · rw [z, y]; rfl
  · rw [z, y]; rfl
end
end G


set_option maxRecDepth 100000
set_option maxHeartbeats 4000000
/-! rows of one's own made anew: lists of new lists -/
namespace G
open PySem PySem.Spec PyProof.Rows L2
/-- a new list of new lists -/
def oro (K : PySem.W.Frag) (R : List (List PyData)) : Rs where
  At F H v S := ∃ b A, v = .ref b ∧ H b = some (.lst (A.map .ref)) ∧ RowsH K F H A R ∧ A.Nodup ∧ b ∉ A ∧ ∀ c, S c ↔ c = b ∨ c ∈ A
  mono := fun {F F' H H' v S} e eH ⟨b, A, h1, h2, h3, h4, h5, h6⟩ => ⟨b, A, h1, by rw [eH b ((h6 b).mpr (.inl rfl))]; exact h2, ⟨h3.1, fun j c ds g1 g2 => by
    obtain ⟨vs, g3, g4⟩ := h3.2 j c ds g1 g2
    exact ⟨vs, by rw [eH c ((h6 c).mpr (.inr (List.mem_of_getElem? g1)))]; exact g3, dps_mono e g4⟩⟩, h4, h5, h6⟩
def ostE (K : PySem.W.Frag) (R : Tab) : Rs where
  At F H v S := ∃ T, (ost K T R).At F H v S
  mono := fun e eH ⟨T, h⟩ => ⟨T, (ost _ T R).mono e eH h⟩
theorem RowsH.mem {K : PySem.W.Frag} {F H : Hp} {A : List Addr} {R : List (List PyData)} (h : RowsH K F H A R) {a : Addr} (ha : a ∈ A) : ∃ vs, H a = some (.lst vs) := by
  obtain ⟨j, hj⟩ := List.mem_iff_getElem?.mp ha
  have hl : j < R.length := by rw [← h.1]; exact (List.getElem?_eq_some_iff.mp hj).1
  obtain ⟨vs, g, _⟩ := h.2 j a _ hj (List.getElem?_eq_getElem hl)
  exact ⟨vs, g⟩
theorem RowsH.grow {K : PySem.W.Frag} {F H F' H' : Hp} {A : List Addr} {R : List (List PyData)} (h : RowsH K F H A R) (g : Same F F') (gH : Same H H') : RowsH K F' H' A R :=
  ⟨h.1, fun j c ds g1 g2 => by
    obtain ⟨vs, g3, g4⟩ := h.2 j c ds g1 g2
    exact ⟨vs, gH _ _ g3, dps_mono g g4⟩⟩
theorem Grow.noF {F H F' H' : Hp} (g : Grow F H F' H') {a : Addr} {o : HO} (n : F a = none) (h : H a = some o) : F' a = none := by
  cases q : F' a with
  | none => rfl
  | some u =>
    rcases g.new a u q with z | z
    · rw [n] at z; cases z
    · rw [h] at z; cases z
section
variable {X : Cx} {W : WX} {env : En} {e a b : Expr} {pos : Pos}
theorem VO.to {R R' : Rs} (h : VO X e env R) (w : ∀ F H v S, R.At F H v S → R'.At F H v S) : VO X e env R' := fun F H σ S s Q k =>
  h F H σ S s Q fun v F' H' Sv g hv fr => k v F' H' Sv g ⟨hv.1, w _ _ _ _ hv.2.1, hv.2.2⟩ fr
theorem vo_nil : VO X (.List [] pos) env (oro X.K []) :=
  (vo_lst dc_nil).to fun F H v S ⟨a, xs, h1, h2, h3, h4⟩ => by
    cases h3
    exact ⟨a, [], h1, h2, ⟨rfl, fun j c ds g => by simp at g⟩, List.nodup_nil, by simp, by simpa using h4⟩
/-- [a, b], both new tables -/
theorem vo_tabs {R : Tab} (ha : VO X a env (oro X.K (R false))) (hb : VO X b env (oro X.K (R true))) (h1 : starEach [a, b] X.env = (false, eval a X.env) :: starEach [b] X.env := by rfl) (h2 : starEach [b] X.env = (false, eval b X.env) :: starEach [] X.env := by rfl) : VO X (.List [a, b] pos) env (ostE X.K R) := fun F H σ S s Q k => by
  refine ⟨_, pe_lst (pa_cons pwE (pa_cons pwE pa_nil h2) h1), ha F H σ S s _ fun v1 F1 H1 S1 g1 hv1 fr1 => hb F1 H1 σ S (s.grow g1) _ fun v2 F2 H2 S2 g2 hv2 fr2 => ⟨by rw [sizeLine_eq, List.length_cons, List.length_cons, List.length_nil]; decide, fun p hp => ?_⟩⟩
  obtain ⟨_, ⟨b0, A0, rfl, p2, p3, p4, p5, p6⟩, pf⟩ := hv1
  obtain ⟨_, ⟨b1, A1, rfl, q2, q3, q4, q5, q6⟩, qf⟩ := hv2
  have g3 := Grow.made (F := F2) (o := .lst [.ref b0, .ref b1]) g2.sub hp
  have i1 : ∀ c, S1 c → ∃ o, H1 c = some o := fun c z => (pf c z).2
  have i2 : ∀ c, S2 c → H1 c = none := fr2
  have np1 : ∀ c, S1 c → p ≠ c := fun c z e => by
    obtain ⟨o, ho⟩ := i1 c z
    have := g2.h _ _ ho
    rw [← e, hp] at this; cases this
  have np2 : ∀ c, S2 c → p ≠ c := fun c z e => by
    obtain ⟨o, ho⟩ := (qf c z).2
    rw [← e, hp] at ho; cases ho
  have d12 : ∀ c, S1 c → ¬ S2 c := fun c z y => by
    obtain ⟨o, ho⟩ := i1 c z
    rw [i2 c y] at ho; cases ho
  have s0 := (p6 b0).mpr (.inl rfl)
  have s1 := (q6 b1).mpr (.inl rfl)
  have sA0 := fun c (h : c ∈ A0) => (p6 c).mpr (.inr h)
  have sA1 := fun c (h : c ∈ A1) => (q6 c).mpr (.inr h)
  let T : Lay := ⟨p, fun w => if w then b1 else b0, fun w => if w then A1 else A0⟩
  have ok : T.Ok := by
    refine ⟨fun w => ?_, fun w z => ?_, fun w w' z => ?_, fun w w' z => ?_, fun w => ?_, fun c w w' z1 z2 => ?_⟩
    · cases w
      · exact np1 _ s0
      · exact np2 _ s1
    · cases w
      · exact np1 _ (sA0 _ z) rfl
      · exact np2 _ (sA1 _ z) rfl
    · cases w <;> cases w'
      · rfl
      · exact absurd s1 (d12 _ ((show b0 = b1 from z) ▸ s0))
      · exact absurd s1 (d12 _ ((show b1 = b0 from z) ▸ s0))
      · rfl
    · cases w <;> cases w'
      · exact p5 z
      · exact d12 _ s0 (sA1 _ z)
      · exact d12 _ (sA0 _ z) s1
      · exact q5 z
    · cases w
      · exact p4
      · exact q4
    · cases w <;> cases w'
      · rfl
      · exact absurd (sA1 _ z2) (d12 _ (sA0 _ z1))
      · exact absurd (sA1 _ z1) (d12 _ (sA0 _ z2))
      · rfl
  have has : ∀ c, T.Has c ↔ c = p ∨ S1 c ∨ S2 c := fun c => by
    rw [p6, q6]
    constructor
    · rintro (z | ⟨w, z⟩ | ⟨w, z⟩)
      · exact .inl z
      · cases w
        · exact .inr (.inl (.inl z))
        · exact .inr (.inr (.inl z))
      · cases w
        · exact .inr (.inl (.inr z))
        · exact .inr (.inr (.inr z))
    · rintro (z | (z | z) | (z | z))
      · exact .inl z
      · exact .inr (.inl ⟨false, z⟩)
      · exact .inr (.inr ⟨false, z⟩)
      · exact .inr (.inl ⟨true, z⟩)
      · exact .inr (.inr ⟨true, z⟩)
  refine k (.ref p) F2 (upd H2 p (.lst [.ref b0, .ref b1])) T.Has ((g1.trans g2).trans g3) ⟨rfl, ⟨T, rfl, ok, upd_same, fun w => ?_, fun c => Iff.rfl⟩, fun c z => ?_⟩ fun c z => ?_
  · cases w
    · exact ⟨by rw [show T.tb false = b0 from rfl]; exact g3.h _ _ (g2.h _ _ p2), (p3.grow g2.f (g2.h.trans g3.h))⟩
    · exact ⟨by rw [show T.tb true = b1 from rfl]; exact g3.h _ _ q2, (q3.grow g3.f g3.h)⟩
  · rcases (has c).mp z with y | y | y
    · exact ⟨by rw [y]; exact g2.sub.free hp, by rw [y]; exact ⟨_, upd_same⟩⟩
    · obtain ⟨f1, o, ho⟩ := pf c y
      exact ⟨g2.noF f1 ho, o, g3.h _ _ (g2.h _ _ ho)⟩
    · obtain ⟨f1, o, ho⟩ := qf c y
      exact ⟨f1, o, g3.h _ _ ho⟩
  · rcases (has c).mp z with y | y | y
    · rw [y]; exact g1.h.free (g2.h.free hp)
    · exact fr1 c y
    · exact g1.h.free (fr2 c y)
/-- whatever its places are -/
theorem VO.tabs {R : Tab} {Q : Ct → En → Prop} {RX : Xc → En → Prop} (h : VO X e env (ostE X.K R)) (q : ∀ T : Lay, Q (.own (.ref T.rt) (ost X.K T R)) env) : EC X W e Q RX env := fun F H σ S s QV kq kx =>
  h F H σ S s QV fun v F' H' Sv g hv fr => by
    obtain ⟨_, ⟨T, hT⟩, hf⟩ := hv
    have e : v = .ref T.rt := hT.1
    subst e
    exact kq _ F' H' S Sv (.own (.ref T.rt) (ost X.K T R)) env ⟨g.f, fun a o e _ => g.h a o e, fun a o e => (g.new a o e).elim .inl fun z => .inr (.inl z), fun a z => z.elim .inl fun z => .inr (fr a z)⟩ (s.grow g) ⟨rfl, hT, hf⟩ (fun i a z y => by
      obtain ⟨_, o, ho⟩ := s.no z
      rw [fr a y] at ho; cases ho) (q T)
variable {tg iter elt : Expr} {scope : Scope} {own : List (Str × Nat)} {α : Type}
/-- [elt for tg in iter], each item a new list -/
theorem vo_rows (xs : List α) (f : α → PyData) (g : α → List PyData) {js : List Nat} {bnd : α → En} (hN : X.N.Nodup) (hi : VI X tg iter env (xs.map f))
    (hb : ∀ x, x ∈ xs → Blk X scope fun X' => GC X' tg (f x) (wipE env (own.map (·.2))) js (bnd x)) (he : ∀ x, x ∈ xs → Blk X scope fun X' => VO X' elt (bnd x) (olst X'.K (g x))) (hz : xs.length < 16777216)
    (ok : BlkOk X.N X.env.scope scope own := by exact blkOk_by (by rfl)) (hj : ∀ j ∈ js, j ∈ own.map (·.2) := by decide) (hc : X.calm = true := by rfl)
    (hf : ∀ x, foldedSetIterable iter X.env x = pure x := by intro _; rfl) : VO X (.ListComp elt [⟨tg, iter, [], 0⟩] scope pos) env (oro X.K (xs.map g)) := fun F H σ S s Q k => by
  refine ⟨_, pe_lc (own := own) (tt := tYes) hc hN (⟨fun pins s σ H R I ⟨t, h, q⟩ => h.run pins s σ H R I q⟩ : PI X tg iter (wI X tg iter)) ok pbG (fun _ _ _ _ _ => pts_nil) pbE hf, ?_⟩
  refine hi F H σ S s _ fun J F1 H1 g1 y D hD => ?_
  have s1 := s.grow g1
  obtain ⟨Sw, sw, tw⟩ := s1.wipe (own.map (·.2))
  have hl : (xs.map f).length = xs.length := List.length_map ..
  let Pv : Nat → Hp → Prop := fun i H' => ∃ F' A, H' D = some (.lst (A.map .ref)) ∧ RowsH X.K F' H' A ((xs.take i).map g) ∧ A.Nodup ∧ D ∉ A ∧ (∀ a ∈ A, H1 a = none ∧ F' a = none) ∧ F' D = none ∧ Grow F1 H1 F' H'
  have hP0 : Pv 0 (upd H1 D (.lst [])) := ⟨F1, [], upd_same, ⟨rfl, fun j c ds q => by simp at q⟩, List.nodup_nil, by simp, by simp, g1.sub.free hD, Grow.made g1.sub hD⟩
  refine ⟨fun i m H' => m = xs.length - i ∧ i ≤ xs.length ∧ Pv i H', ⟨xs.length, rfl, Nat.zero_le _, hP0⟩, ?_⟩
  rintro i m H' ⟨rfl, hi', F', A, hacc, hR, nA, nDA, hA, nF, g2⟩
  by_cases hlt : i < xs.length
  · refine .inr ⟨y.go i F' H' (by omega) g2.f g2.sub, Pv (i + 1), fun H'' p' => ⟨xs.length - (i + 1), by omega, rfl, hlt, p'⟩, fun x H'' hy => ?_⟩
    obtain ⟨d, F2, hd, g3, hx⟩ := y.yld i F' H' x H'' (by omega) g2.f g2.sub hy
    have hxi : xs[i]? = some xs[i] := List.getElem?_eq_getElem hlt
    have hmem : xs[i] ∈ xs := List.getElem_mem hlt
    have htk : xs.take (i + 1) = xs.take i ++ [xs[i]] := by rw [List.take_succ, hxi] <;> rfl
    have hd' : d = f xs[i] := by
      rw [List.getElem?_map, hxi] at hd
      exact (Option.some.inj hd).symm
    subst hd'
    have s2 : Sit X.K F2 H'' (L2.wipe σ (own.map (·.2))) Sw (wipE env (own.map (·.2))) := sw.grow (g2.trans g3)
    intro sS sH sC scl sfp
    refine hb _ hmem sS sH sC scl sfp F2 H'' _ Sw x s2 hx _ fun σ2 S2 s3 t2 o2 => ⟨wipe_of o2 hj, ?_⟩
    simp only [tYes, if_true]
    intro sS sH sC scl sfp
    refine he _ hmem sS sH sC scl sfp F2 H'' σ2 S2 s3 _ fun v F4 H4 Sv g5 hv fr => ?_
    obtain ⟨_, ⟨q, vs, eq, hq, hvs, hSv⟩, hfr⟩ := hv
    subst eq
    have gg := g3.trans g5
    have hD4 : H4 D = some (.lst (A.map .ref)) := gg.h _ _ hacc
    have nF4 : F4 D = none := gg.noF nF hacc
    have sq := (hSv q).mpr rfl
    have hq2 : H'' q = none := fr q sq
    have nqA : q ∉ A := fun z => by
      obtain ⟨us, hu⟩ := hR.mem z
      rw [g3.h _ _ hu] at hq2; cases hq2
    have nqD : D ≠ q := fun z => by
      have := g3.h _ _ hacc
      rw [z, hq2] at this; cases this
    have hR4 : RowsH X.K F4 (upd H4 D (.lst (A.map .ref ++ [.ref q]))) (A ++ [q]) ((xs.take (i + 1)).map g) := by
      rw [htk, List.map_append]
      refine RowsH.app ((hR.grow gg.f gg.h).skip nDA) (by rw [upd_ne (Ne.symm nqD)]; exact hq) hvs
    have al : A.length ≤ i := by rw [hR.1, List.length_map, List.length_take]; omega
    refine ⟨_, hD4, by rw [sizeLine_eq, List.length_map]; omega, F4, A ++ [q], ?_, hR4, nodup_app nA nqA, ?_, fun a ha => ?_, nF4, ?_⟩
    · rw [upd_same, List.map_append]; rfl
    · rw [List.mem_append, List.mem_singleton]
      exact fun z => z.elim nDA fun z => nqD z
    · rcases List.mem_append.mp ha with z | z
      · obtain ⟨us, hu⟩ := hR.mem z
        exact ⟨(hA a z).1, gg.noF (hA a z).2 hu⟩
      · rw [List.mem_singleton.mp z]
        exact ⟨g2.h.free (g3.h.free hq2), (hfr q sq).1⟩
    · have g6 := g2.trans gg
      exact ⟨g6.f, fun b o e => by rw [upd_ne (ne_of_none e hD)]; exact g6.h b o e, fun b o e => by rw [upd_ne (ne_of_none e nF4)]; exact g6.sub b o e, g6.new⟩
  · have e : i = xs.length := by omega
    subst e
    refine .inl ⟨by have z := y.stop F' H' g2.f g2.sub; rw [hl] at z; exact z, ?_⟩
    rw [List.take_length] at hR
    refine k (.ref D) F' H' (fun c => c = D ∨ c ∈ A) (g1.trans g2) ⟨rfl, ⟨D, A, rfl, hacc, hR, nA, nDA, fun c => Iff.rfl⟩, fun c z => ?_⟩ fun c z => ?_
    · rcases z with z | z
      · rw [z]; exact ⟨nF, _, hacc⟩
      · obtain ⟨us, hu⟩ := hR.mem z
        exact ⟨(hA c z).2, _, hu⟩
    · rcases z with z | z
      · rw [z]; exact g1.h.free hD
      · exact g1.h.free (hA c z).1
end
end G


set_option maxRecDepth 100000
set_option maxHeartbeats 4000000
/-! the mirror of steps.py: standings, rules, deeds -/
namespace M
open PySem
inductive S3 where
  | live | gone | cleared
  deriving DecidableEq, Repr
def S3.str : S3 → Str
  | .live => "live"
  | .gone => "gone"
  | .cleared => "cleared"
inductive Tk where
  | non | self | num (n : Nat)
  deriving DecidableEq, Repr
def Tk.d : Tk → PyData
  | .non => .none
  | .self => .str "self"
  | .num n => .int (n : Int)
abbrev Ow := Str × S3
abbrev Th := Nat × S3 × Tk
structure Std where
  os : List Ow
  ts : List Th
  deriving DecidableEq
def oD (o : Ow) : PyData := .tuple [.str o.1, .str o.2.str]
def tD (t : Th) : PyData := .tuple [.int (t.1 : Int), .str t.2.1.str, t.2.2.d]
def Std.d (s : Std) : PyData := .tuple [.tuple (s.os.map oD), .tuple (s.ts.map tD)]
structure Std.Ok (s : Std) : Prop where
  key : ∀ o ∈ s.os, PyData.strOk o.1 = true
  own : ∀ t ∈ s.ts, t.1 < s.os.length
  ol : s.os.length ≤ 1000
  tl : s.ts.length ≤ 1000
inductive Mk where
  | alone | along | barred
  deriving DecidableEq, Repr
def Mk.str : Mk → Str
  | .alone => "alone"
  | .along => "along"
  | .barred => "barred"
inductive Bk where
  | none | same | all
  deriving DecidableEq, Repr
def Bk.str : Bk → Str
  | .none => "none"
  | .same => "same"
  | .all => "all"
inductive Cl where
  | plain | along | kept
  deriving DecidableEq, Repr
def Cl.str : Cl → Str
  | .plain => "plain"
  | .along => "along"
  | .kept => "kept"
structure Rl where
  hold : Bool   -- "all"
  link : Bool   -- "any"
  mark : Mk
  check : Bool
  back : Bk
  whole : Bool
  clear : Cl
  count : Bool  -- "all"
  join : Bool   -- "own"
  deriving DecidableEq
def bstr (b : Bool) (x y : Str) : Str := if b then x else y
/-- the attributes, in the order in which they are stored -/
def Rl.fs (r : Rl) : List (Str × PyData) := [("holding", .str (bstr r.hold "all" "live")), ("links", .str (bstr r.link "any" "live")), ("marking", .str r.mark.str), ("check", .bool r.check), ("back", .str r.back.str), ("whole", .bool r.whole),
  ("clearing", .str r.clear.str), ("counting", .str (bstr r.count "all" "live")), ("joining", .str (bstr r.join "own" "both"))]
inductive Deed where
  | own (k : Str) | put (o : Nat) | move (t o : Nat) | mark (o : Nat) | take (t : Nat) | fetch (o : Nat) | raise (t : Nat) | clear
  deriving DecidableEq
def Deed.d : Deed → PyData
  | .own k => .tuple [.str "own", .str k]
  | .put o => .tuple [.str "put", .int (o : Int)]
  | .move t o => .tuple [.str "move", .int (t : Int), .int (o : Int)]
  | .mark o => .tuple [.str "mark", .int (o : Int)]
  | .take t => .tuple [.str "take", .int (t : Int)]
  | .fetch o => .tuple [.str "fetch", .int (o : Int)]
  | .raise t => .tuple [.str "raise", .int (t : Int)]
  | .clear => .tuple [.str "clear"]
/-! ### what a deed does -/
def oSt (s : Std) (n : Nat) : Option S3 := s.os[n]?.map (·.2)
def tSt (s : Std) (n : Nat) : Option S3 := s.ts[n]?.map (·.2.1)
def hasLive (os : List Ow) (key : Str) : Bool := os.any fun o => decide (o = (key, .live))
def mayOwn (r : Rl) (os : List Ow) (key : Str) : Bool := !hasLive os key && (!r.hold || !(os.any fun o => decide (o = (key, .gone))))
def mayHave (r : Rl) (os : List Ow) (n : Nat) : Bool := decide (os[n]?.map (·.2) = some .live) || (r.link && decide (os[n]?.map (·.2) = some .gone))
def keyAt (s : Std) (n : Nat) : Str := (s.os.getD n ("", .live)).1
def ownAt (s : Std) (n : Nat) : Nat := (s.ts.getD n (0, .live, .non)).1
def marked (r : Rl) (s : Std) (n : Nat) : Option Std :=
  if oSt s n ≠ some .live then none
  else if r.mark = .barred ∧ (s.ts.any fun t => decide (t.1 = n) && decide (t.2.1 = .live)) = true then none
  else some ⟨s.os.set n (keyAt s n, .gone), if r.mark = .along then s.ts.map fun t => if t.1 = n ∧ t.2.1 = .live then (n, .gone, .num n) else t else s.ts⟩
def fetched (r : Rl) (s : Std) (n : Nat) : Option Std :=
  if oSt s n ≠ some .gone ∨ (r.check = true ∧ hasLive s.os (keyAt s n) = true) then none
  else some ⟨s.os.set n (keyAt s n, .live), s.ts.map fun t => if t.1 = n ∧ t.2.1 = .gone ∧ (r.back = .all ∨ (r.back = .same ∧ t.2.2 = .num n)) then (t.1, .live, .non) else t⟩
def raised (r : Rl) (s : Std) (n : Nat) : Option Std :=
  if tSt s n ≠ some .gone then none
  else if r.whole = true ∧ oSt s (ownAt s n) ≠ some .live then none
  else some ⟨s.os, s.ts.set n (ownAt s n, .live, .non)⟩
def cleared (r : Rl) (s : Std) : Std :=
  let ts := s.ts.map fun t => if t.2.1 = .gone then (t.1, .cleared, .non) else t
  let os := s.os.zipIdx.map fun p => if (decide (p.1.2 = .gone) && !(decide (r.clear = .kept) && (ts.any fun t => decide (t.1 = p.2) && decide (t.2.1 = .live)))) = true then (p.1.1, .cleared) else p.1
  ⟨os, if r.clear = .along then ts.map fun t => if oSt s t.1 = some .gone then (t.1, .cleared, .non) else t else ts⟩
def behind (r : Rl) (s : Std) : Deed → Option Std
  | .own k => if mayOwn r s.os k then some ⟨s.os ++ [(k, .live)], s.ts⟩ else none
  | .put o => if mayHave r s.os o then some ⟨s.os, s.ts ++ [(o, .live, .non)]⟩ else none
  | .move t o => if tSt s t ≠ some .live ∨ ownAt s t = o ∨ mayHave r s.os o = false then none else some ⟨s.os, s.ts.set t (o, .live, .non)⟩
  | .mark o => marked r s o
  | .take t => if tSt s t ≠ some .live then none else some ⟨s.os, s.ts.set t (ownAt s t, .gone, .self)⟩
  | .fetch o => fetched r s o
  | .raise t => raised r s t
  | .clear => some (cleared r s)
def step (r : Rl) (s : Std) (d : Deed) : Bool × Std := match behind r s d with
  | none => (false, s)
  | some s' => (true, s')
def wordD (b : Bool) : Str := if b then "done" else "refused"
def counted (r : Rl) (s : Std) (o : Nat) : Nat := (s.ts.filter fun t => decide (t.1 = o) && (decide (t.2.1 = .live) || (r.count && decide (t.2.1 = .gone)))).length
def shown (r : Rl) (s : Std) : List Nat := (s.ts.zipIdx.filter fun p => decide (p.1.2.1 = .live) && (r.join || decide (oSt s p.1.1 = some .live))).map (·.2)
/-! ### equality of data -/
open G
theorem S3.ok (a : S3) : PyData.strOk a.str = true := by cases a <;> decide +kernel
theorem S3.eqv (a b : S3) : PyData.eqv (.str a.str) (.str b.str) = decide (a = b) := by
  rw [eqv_str]
  cases a <;> cases b <;> decide +kernel
theorem sh_st (a : S3) : SeqAt.shaped (.str a.str) = true := (shaped_str (S3.ok a)).1
theorem oD_shaped {k : Str} (h : PyData.strOk k = true) (x : S3) : SeqAt.shaped (.tuple [.str k, .str x.str]) = true := sh2 (shaped_str h) (shaped_str (S3.ok x))
theorem oD_eqv (o : Ow) (k : Str) (x : S3) : PyData.eqv (oD o) (.tuple [.str k, .str x.str]) = decide (o = (k, x)) := by
  unfold oD
  rw [eqv_tup2, eqv_str, S3.eqv, Bool.eq_iff_iff]
  obtain ⟨a, b⟩ := o
  simp
theorem Rl.look_holding (r : Rl) : r.fs.lookup (Str.ofString "holding") = some (.str (bstr r.hold "all" "live")) := by rfl
theorem Rl.look_links (r : Rl) : r.fs.lookup (Str.ofString "links") = some (.str (bstr r.link "any" "live")) := by rfl
theorem Rl.look_marking (r : Rl) : r.fs.lookup (Str.ofString "marking") = some (.str r.mark.str) := by rfl
theorem Rl.look_check (r : Rl) : r.fs.lookup (Str.ofString "check") = some (.bool r.check) := by rfl
theorem Rl.look_back (r : Rl) : r.fs.lookup (Str.ofString "back") = some (.str r.back.str) := by rfl
theorem Rl.look_whole (r : Rl) : r.fs.lookup (Str.ofString "whole") = some (.bool r.whole) := by rfl
theorem Rl.look_clearing (r : Rl) : r.fs.lookup (Str.ofString "clearing") = some (.str r.clear.str) := by rfl
theorem Rl.look_counting (r : Rl) : r.fs.lookup (Str.ofString "counting") = some (.str (bstr r.count "all" "live")) := by rfl
theorem Rl.look_joining (r : Rl) : r.fs.lookup (Str.ofString "joining") = some (.str (bstr r.join "own" "both")) := by rfl
end M


set_option maxRecDepth 100000
set_option maxHeartbeats 4000000
/-! the mirror of rules.py -/
namespace M
open PySem G
def partsL : List Str := ["holding", "links", "marking", "check", "back", "whole", "clearing", "counting", "joining"]
def valsL : List (List PyData) := [[.str "all", .str "live"], [.str "any", .str "live"], [.str "alone", .str "along", .str "barred"], [.bool true, .bool false], [.str "none", .str "same", .str "all"], [.bool true, .bool false],
  [.str "plain", .str "along", .str "kept"], [.str "all", .str "live"], [.str "own", .str "both"]]
def partsD : PyData := .tuple (partsL.map .str)
def valsD : PyData := .tuple (valsL.map .tuple)
def isB : PyData → Bool
  | .bool _ => true
  | _ => false
def isS : PyData → Bool
  | .str _ => true
  | _ => false
def isVal (some : List PyData) (d : PyData) : Bool := if isB (some.headD .none) then isB d else isS d && some.any fun z => PyData.eqv z d
abbrev Row9 := Str × PyData × List PyData
def rowD (p : Row9) : PyData := .tuple [.str p.1, p.2.1, .tuple p.2.2]
def rows9 (ps : List PyData) : List Row9 := partsL.zip (ps.zip valsL)
def badOf (L : List Row9) : Option Str := (L.find? fun p => !isVal p.2.2 p.2.1).map (·.1)
def fs9 (ps : List PyData) : List (Str × PyData) := partsL.zip ps
theorem badOf_step {L : List Row9} {i : Nat} {p : Row9} (h : L[i]? = some p) : badOf (L.drop i) = if isVal p.2.2 p.2.1 then badOf (L.drop (i + 1)) else some p.1 := by
  obtain ⟨hi, e⟩ := List.getElem?_eq_some_iff.mp h
  subst e
  rw [List.drop_eq_getElem_cons hi]
  unfold badOf
  rw [List.find?_cons]
  cases q : isVal L[i].2.2 L[i].2.1 <;> simp
theorem kit_bool (d : PyData) : L2.kitB (tyD d) "bool" = some (isB d) := by cases d <;> simp only [tyD, isB, isS] <;> decide +kernel
theorem kit_str (d : PyData) : L2.kitB (tyD d) "str" = some (isS d) := by cases d <;> simp only [tyD, isB, isS] <;> decide +kernel
theorem vals_flat : ∀ ss ∈ valsL, ss.all flatD = true := by decide
theorem vals_ne : ∀ ss ∈ valsL, ss ≠ [] := by decide
theorem Rl.fs_look (r : Rl) : r.fs = fs9 (r.fs.map (·.2)) := rfl
end M


set_option maxRecDepth 100000
namespace Pg
open PySem L2
def top (i : Nat) : Stmt := PySem.Challenge.pw_markedgone_k05_whole_known_faults.main.body.getD i (.Pass ⟨0, 0, 0, 0⟩)
abbrev s__wall : Stmt := top 0
abbrev n__wall : List Str := ["k"]
abbrev p__wall : List Str := ["k"]
theorem sc__wall : FnScope n__wall p__wall (defScope s__wall) := ⟨rfl, rfl, rfl, by decide +kernel, rfl, by decide +kernel, by decide +kernel⟩
abbrev s_BadRule_init : Stmt := inClass (top 4) 0
abbrev n_BadRule_init : List Str := ["self", "part"]
abbrev p_BadRule_init : List Str := ["self", "part"]
theorem sc_BadRule_init : FnScope n_BadRule_init p_BadRule_init (defScope s_BadRule_init) := ⟨rfl, rfl, rfl, by decide +kernel, rfl, by decide +kernel, by decide +kernel⟩
abbrev s_is_live : Stmt := top 9
abbrev n_is_live : List Str := ["rows", "number", "place"]
abbrev p_is_live : List Str := ["rows", "number", "place"]
theorem sc_is_live : FnScope n_is_live p_is_live (defScope s_is_live) := ⟨rfl, rfl, rfl, by decide +kernel, rfl, by decide +kernel, by decide +kernel⟩
abbrev s_is_gone : Stmt := top 10
abbrev n_is_gone : List Str := ["rows", "number", "place"]
abbrev p_is_gone : List Str := ["rows", "number", "place"]
theorem sc_is_gone : FnScope n_is_gone p_is_gone (defScope s_is_gone) := ⟨rfl, rfl, rfl, by decide +kernel, rfl, by decide +kernel, by decide +kernel⟩
abbrev s_has_live : Stmt := top 11
abbrev n_has_live : List Str := ["owners", "key", "row"]
abbrev p_has_live : List Str := ["owners", "key"]
theorem sc_has_live : FnScope n_has_live p_has_live (defScope s_has_live) := ⟨rfl, rfl, rfl, by decide +kernel, rfl, by decide +kernel, by decide +kernel⟩
abbrev s_may_own : Stmt := top 12
abbrev n_may_own : List Str := ["rule", "owners", "key", "row"]
abbrev p_may_own : List Str := ["rule", "owners", "key"]
theorem sc_may_own : FnScope n_may_own p_may_own (defScope s_may_own) := ⟨rfl, rfl, rfl, by decide +kernel, rfl, by decide +kernel, by decide +kernel⟩
abbrev s_may_have : Stmt := top 13
abbrev n_may_have : List Str := ["rule", "owners", "number"]
abbrev p_may_have : List Str := ["rule", "owners", "number"]
theorem sc_may_have : FnScope n_may_have p_may_have (defScope s_may_have) := ⟨rfl, rfl, rfl, by decide +kernel, rfl, by decide +kernel, by decide +kernel⟩
abbrev s_with_row : Stmt := top 14
abbrev n_with_row : List Str := ["rows", "number", "row"]
abbrev p_with_row : List Str := ["rows", "number", "row"]
theorem sc_with_row : FnScope n_with_row p_with_row (defScope s_with_row) := ⟨rfl, rfl, rfl, by decide +kernel, rfl, by decide +kernel, by decide +kernel⟩
abbrev s_marked : Stmt := top 15
abbrev n_marked : List Str := ["rule", "standing", "number", "owners", "things", "some", "at", "row"]
abbrev p_marked : List Str := ["rule", "standing", "number"]
theorem sc_marked : FnScope n_marked p_marked (defScope s_marked) := ⟨rfl, rfl, rfl, by decide +kernel, rfl, by decide +kernel, by decide +kernel⟩
abbrev s_fetched : Stmt := top 16
abbrev n_fetched : List Str := ["rule", "standing", "number", "owners", "things", "found", "owner", "state", "took", "comes"]
abbrev p_fetched : List Str := ["rule", "standing", "number"]
theorem sc_fetched : FnScope n_fetched p_fetched (defScope s_fetched) := ⟨rfl, rfl, rfl, by decide +kernel, rfl, by decide +kernel, by decide +kernel⟩
abbrev s_raised : Stmt := top 17
abbrev n_raised : List Str := ["rule", "standing", "number", "owners", "things", "owner"]
abbrev p_raised : List Str := ["rule", "standing", "number"]
theorem sc_raised : FnScope n_raised p_raised (defScope s_raised) := ⟨rfl, rfl, rfl, by decide +kernel, rfl, by decide +kernel, by decide +kernel⟩
abbrev s_cleared : Stmt := top 18
abbrev n_cleared : List Str := ["rule", "standing", "owners", "things", "state", "used", "found", "number", "key", "stays", "out", "owner", "took", "row"]
abbrev p_cleared : List Str := ["rule", "standing"]
theorem sc_cleared : FnScope n_cleared p_cleared (defScope s_cleared) := ⟨rfl, rfl, rfl, by decide +kernel, rfl, by decide +kernel, by decide +kernel⟩
abbrev s_behind : Stmt := top 19
abbrev n_behind : List Str := ["rule", "standing", "deed", "owners", "things", "word"]
abbrev p_behind : List Str := ["rule", "standing", "deed"]
theorem sc_behind : FnScope n_behind p_behind (defScope s_behind) := ⟨rfl, rfl, rfl, by decide +kernel, rfl, by decide +kernel, by decide +kernel⟩
abbrev s_step : Stmt := top 20
abbrev n_step : List Str := ["rule", "standing", "deed", "after"]
abbrev p_step : List Str := ["rule", "standing", "deed"]
theorem sc_step : FnScope n_step p_step (defScope s_step) := ⟨rfl, rfl, rfl, by decide +kernel, rfl, by decide +kernel, by decide +kernel⟩
abbrev s_counted : Stmt := top 21
abbrev n_counted : List Str := ["rule", "standing", "owner", "states", "row"]
abbrev p_counted : List Str := ["rule", "standing", "owner"]
theorem sc_counted : FnScope n_counted p_counted (defScope s_counted) := ⟨rfl, rfl, rfl, by decide +kernel, rfl, by decide +kernel, by decide +kernel⟩
abbrev s_shown : Stmt := top 22
abbrev n_shown : List Str := ["rule", "standing", "owners", "things", "found", "number", "owner", "state", "took"]
abbrev p_shown : List Str := ["rule", "standing"]
theorem sc_shown : FnScope n_shown p_shown (defScope s_shown) := ⟨rfl, rfl, rfl, by decide +kernel, rfl, by decide +kernel, by decide +kernel⟩
abbrev s_standing_faults : Stmt := top 23
abbrev n_standing_faults : List Str := ["rule", "standing", "owners", "things", "found", "key", "state", "live", "number", "many", "owner", "took", "row"]
abbrev p_standing_faults : List Str := ["rule", "standing"]
theorem sc_standing_faults : FnScope n_standing_faults p_standing_faults (defScope s_standing_faults) := ⟨rfl, rfl, rfl, by decide +kernel, rfl, by decide +kernel, by decide +kernel⟩
abbrev s_deed_faults : Stmt := top 24
abbrev n_deed_faults : List Str := ["standing", "deed", "word", "after", "found", "pairs", "before", "there"]
abbrev p_deed_faults : List Str := ["standing", "deed", "word", "after"]
theorem sc_deed_faults : FnScope n_deed_faults p_deed_faults (defScope s_deed_faults) := ⟨rfl, rfl, rfl, by decide +kernel, rfl, by decide +kernel, by decide +kernel⟩
abbrev s_faults_of : Stmt := top 25
abbrev n_faults_of : List Str := ["rule", "standing", "deed", "word", "after", "found", "fault"]
abbrev p_faults_of : List Str := ["rule", "standing", "deed"]
theorem sc_faults_of : FnScope n_faults_of p_faults_of (defScope s_faults_of) := ⟨rfl, rfl, rfl, by decide +kernel, rfl, by decide +kernel, by decide +kernel⟩
abbrev s_is_whole : Stmt := top 27
abbrev n_is_whole : List Str := ["thing", "least", "most"]
abbrev p_is_whole : List Str := ["thing", "least", "most"]
theorem sc_is_whole : FnScope n_is_whole p_is_whole (defScope s_is_whole) := ⟨rfl, rfl, rfl, by decide +kernel, rfl, by decide +kernel, by decide +kernel⟩
abbrev s_is_world : Stmt := top 28
abbrev n_is_world : List Str := ["thing", "keys", "key"]
abbrev p_is_world : List Str := ["thing"]
theorem sc_is_world : FnScope n_is_world p_is_world (defScope s_is_world) := ⟨rfl, rfl, rfl, by decide +kernel, rfl, by decide +kernel, by decide +kernel⟩
abbrev s_check_world : Stmt := top 29
abbrev n_check_world : List Str := ["world"]
abbrev p_check_world : List Str := ["world"]
theorem sc_check_world : FnScope n_check_world p_check_world (defScope s_check_world) := ⟨rfl, rfl, rfl, by decide +kernel, rfl, by decide +kernel, by decide +kernel⟩
abbrev s_all_deeds : Stmt := top 30
abbrev n_all_deeds : List Str := ["world", "standing", "keys", "most_owners", "most_things", "owners", "things", "found", "key", "owner", "thing"]
abbrev p_all_deeds : List Str := ["world", "standing"]
theorem sc_all_deeds : FnScope n_all_deeds p_all_deeds (defScope s_all_deeds) := ⟨rfl, rfl, rfl, by decide +kernel, rfl, by decide +kernel, by decide +kernel⟩
abbrev s_walked : Stmt := top 31
abbrev n_walked : List Str := ["rule", "world", "found", "waiting", "at", "here", "deed", "after"]
abbrev p_walked : List Str := ["rule", "world"]
theorem sc_walked : FnScope n_walked p_walked (defScope s_walked) := ⟨rfl, rfl, rfl, by decide +kernel, rfl, by decide +kernel, by decide +kernel⟩
abbrev s_least_faults : Stmt := top 32
abbrev n_least_faults : List Str := ["rule", "world", "histories", "found", "here", "deed", "fault"]
abbrev p_least_faults : List Str := ["rule", "world"]
theorem sc_least_faults : FnScope n_least_faults p_least_faults (defScope s_least_faults) := ⟨rfl, rfl, rfl, by decide +kernel, rfl, by decide +kernel, by decide +kernel⟩
abbrev s_can : Stmt := top 33
abbrev n_can : List Str := ["rule", "world", "found", "fault"]
abbrev p_can : List Str := ["rule", "world"]
theorem sc_can : FnScope n_can p_can (defScope s_can) := ⟨rfl, rfl, rfl, by decide +kernel, rfl, by decide +kernel, by decide +kernel⟩
abbrev s_is_value : Stmt := top 37
abbrev n_is_value : List Str := ["value", "some"]
abbrev p_is_value : List Str := ["value", "some"]
theorem sc_is_value : FnScope n_is_value p_is_value (defScope s_is_value) := ⟨rfl, rfl, rfl, by decide +kernel, rfl, by decide +kernel, by decide +kernel⟩
abbrev s_Rule_init : Stmt := inClass (top 38) 0
abbrev n_Rule_init : List Str := ["self", "holding", "links", "marking", "check", "back", "whole", "clearing", "counting", "joining", "row", "part", "value", "some"]
abbrev p_Rule_init : List Str := ["self", "holding", "links", "marking", "check", "back", "whole", "clearing", "counting", "joining"]
theorem sc_Rule_init : FnScope n_Rule_init p_Rule_init (defScope s_Rule_init) := ⟨rfl, rfl, rfl, by decide +kernel, rfl, by decide +kernel, by decide +kernel⟩
abbrev s_Rule_parts : Stmt := inClass (top 38) 1
abbrev n_Rule_parts : List Str := ["self", "first"]
abbrev p_Rule_parts : List Str := ["self"]
theorem sc_Rule_parts : FnScope n_Rule_parts p_Rule_parts (defScope s_Rule_parts) := ⟨rfl, rfl, rfl, by decide +kernel, rfl, by decide +kernel, by decide +kernel⟩
abbrev s_Rule_eq : Stmt := inClass (top 38) 2
abbrev n_Rule_eq : List Str := ["self", "other"]
abbrev p_Rule_eq : List Str := ["self", "other"]
theorem sc_Rule_eq : FnScope n_Rule_eq p_Rule_eq (defScope s_Rule_eq) := ⟨rfl, rfl, rfl, by decide +kernel, rfl, by decide +kernel, by decide +kernel⟩
abbrev s_Rule_turned : Stmt := inClass (top 38) 3
abbrev n_Rule_turned : List Str := ["self", "part", "value"]
abbrev p_Rule_turned : List Str := ["self", "part", "value"]
theorem sc_Rule_turned : FnScope n_Rule_turned p_Rule_turned (defScope s_Rule_turned) := ⟨rfl, rfl, rfl, by decide +kernel, rfl, by decide +kernel, by decide +kernel⟩
abbrev s__law_begin : Stmt := top 40
abbrev n__law_begin : List Str := ["_law_script"]
abbrev p__law_begin : List Str := ["_law_script"]
theorem sc__law_begin : FnScope n__law_begin p__law_begin (defScope s__law_begin) := ⟨rfl, rfl, rfl, by decide +kernel, rfl, by decide +kernel, by decide +kernel⟩
abbrev s__law_draw : Stmt := top 41
abbrev n__law_draw : List Str := ["_law_draws", "_law_size", "_law_cell", "_law_found"]
abbrev p__law_draw : List Str := ["_law_draws", "_law_size"]
theorem sc__law_draw : FnScope n__law_draw p__law_draw (defScope s__law_draw) := ⟨rfl, rfl, rfl, by decide +kernel, rfl, by decide +kernel, by decide +kernel⟩
abbrev s__law_values : Stmt := top 42
abbrev n__law_values : List Str := ["_law_whole"]
abbrev p__law_values : List Str := []
theorem sc__law_values : FnScope n__law_values p__law_values (defScope s__law_values) := ⟨rfl, rfl, rfl, by decide +kernel, rfl, by decide +kernel, by decide +kernel⟩
abbrev s__law_names : Stmt := top 43
abbrev n__law_names : List Str := ["_law_first"]
abbrev p__law_names : List Str := []
theorem sc__law_names : FnScope n__law_names p__law_names (defScope s__law_names) := ⟨rfl, rfl, rfl, by decide +kernel, rfl, by decide +kernel, by decide +kernel⟩
abbrev s__law_parts : Stmt := top 44
abbrev n__law_parts : List Str := ["_law_draws", "_law_some"]
abbrev p__law_parts : List Str := ["_law_draws"]
theorem sc__law_parts : FnScope n__law_parts p__law_parts (defScope s__law_parts) := ⟨rfl, rfl, rfl, by decide +kernel, rfl, by decide +kernel, by decide +kernel⟩
abbrev s__law_rule : Stmt := top 45
abbrev n__law_rule : List Str := ["_law_parts_here"]
abbrev p__law_rule : List Str := ["_law_parts_here"]
theorem sc__law_rule : FnScope n__law_rule p__law_rule (defScope s__law_rule) := ⟨rfl, rfl, rfl, by decide +kernel, rfl, by decide +kernel, by decide +kernel⟩
abbrev s__law_like : Stmt := top 46
abbrev n__law_like : List Str := ["_law_actual", "_law_due", "_law_k"]
abbrev p__law_like : List Str := ["_law_actual", "_law_due"]
theorem sc__law_like : FnScope n__law_like p__law_like (defScope s__law_like) := ⟨rfl, rfl, rfl, by decide +kernel, rfl, by decide +kernel, by decide +kernel⟩
abbrev s__law_loose : Stmt := top 47
abbrev n__law_loose : List Str := ["_law_parts_here", "_law_own", "_law_put", "_law_mark"]
abbrev p__law_loose : List Str := ["_law_parts_here"]
theorem sc__law_loose : FnScope n__law_loose p__law_loose (defScope s__law_loose) := ⟨rfl, rfl, rfl, by decide +kernel, rfl, by decide +kernel, by decide +kernel⟩
abbrev s__law_known : Stmt := top 48
abbrev n__law_known : List Str := ["_law_parts_here", "_law_own", "_law_put", "_law_mark", "_law_take", "_law_found", "_law_loose_here"]
abbrev p__law_known : List Str := ["_law_parts_here"]
theorem sc__law_known : FnScope n__law_known p__law_known (defScope s__law_known) := ⟨rfl, rfl, rfl, by decide +kernel, rfl, by decide +kernel, by decide +kernel⟩
abbrev s_law : Stmt := top 49
abbrev n_law : List Str := ["_law_script", "_law_draws", "_law_parts_here", "_law_told", "_law_due", "_law_names_here", "_law_name"]
abbrev p_law : List Str := ["_law_script"]
theorem sc_law : FnScope n_law p_law (defScope s_law) := ⟨rfl, rfl, rfl, by decide +kernel, rfl, by decide +kernel, by decide +kernel⟩
end Pg

set_option maxRecDepth 100000
set_option maxHeartbeats 4000000
/-! rules.py, walked -/
namespace Pg
open PySem L2 G M
/-- a module's constant -/
def GlobD (K : PySem.W.Frag) (mg : Str → Option Value) (x : Str) (d : PyData) : Prop := ∃ v u, mg x = some u ∧ RelV v u ∧ ∀ F, Dp K F v d
section
variable {P : Program} {w : World} {K : PySem.W.Frag} {mg : Str → Option Value} {base : Heap} {C CB : Addr}
def sp_is_value : G.Spec := fun cs R _ => ∃ (d s0 : PyData) (ss : List PyData), cs = [.dat d, .dat (.tuple (s0 :: ss))] ∧ (s0 :: ss).all flatD = true ∧ R (.dat (.bool (isVal (s0 :: ss) d))) cs
theorem isS_flat {d : PyData} (h : isS d = true) : flatD d = true := by cases d <;> simp [isS] at h <;> rfl
theorem fn_is_value (B : Bi mg) (D : Df K mg "is_value" s_is_value p_is_value) : Fn P w K mg base "is_value" 1 sp_is_value := by
  refine fnG D sc_is_value (fun cs R RX h => ?_) (fun f cdv A outer s H E X eX hr tk hp cs R RX h => ?_)
  · obtain ⟨_, _, _, rfl, _⟩ := h
    rfl
  · subst eX
    obtain ⟨d, s0, ss, rfl, hf, k⟩ := h
    have h0 : atI (s0 :: ss) 0 = some s0 := atI_nat (j := 0) rfl
    refine wb_cons (ws_ifP (b' := isB s0) (tc_val (vc_isi B.isinstance B.bool (vc_ixT (ds := s0 :: ss) (i := 0) (vc_dat 1) vc_int h0) (kit_bool _))) (fun hb => ?_) fun hb => wb_nil ?_)
    · refine wb_cons (ws_ret (.pure (vc_isi B.isinstance B.bool (vc_dat 0) (kit_bool _)) ⟨_, .dat (.dat .nil), ?_⟩))
      have e : isVal (s0 :: ss) d = isB d := by unfold isVal; rw [show (s0 :: ss).headD .none = s0 from rfl, hb]; rfl
      rw [e] at k
      exact k
    · have e : isVal (s0 :: ss) d = (isS d && (s0 :: ss).any fun z => PyData.eqv z d) := by unfold isVal; rw [show (s0 :: ss).headD .none = s0 from rfl, hb]; rfl
      rw [e] at k
      exact wb_cons (ws_ret (.pure (vc_andB (b2 := (s0 :: ss).any fun z => PyData.eqv z d) (vc_isi B.isinstance B.str (vc_dat 0) (kit_str _)) fun h => vc_one (vc_cmp op_in_seq (od_in (neg := false) (Or.inr rfl) (isS_flat h) hf) (vc_dat 0) (vc_dat 1))) ⟨_, .dat (.dat .nil), k⟩))
/-- the class Rule for its making -/
structure RuleK (P : Program) (w : World) (K : PySem.W.Frag) (mg : Str → Option Value) (base : Heap) (C CB : Addr) : Prop where
  cl : Cls K C
  na : ∀ x ∈ partsL, NoAttr K C x
  bad : Exk P w K mg base "BadRule" CB "part"
  parts : GlobD K mg "PARTS" partsD
  values : GlobD K mg "VALUES" valsD
def sp_rule_init (K : PySem.W.Frag) (C CB : Addr) : G.Spec := fun cs R RX => ∃ (v : L2.V) (ps : List PyData), ps.length = 9 ∧ cs = .own v (oins K C []) :: ps.map .dat ∧
  (badOf (rows9 ps) = none → R (.dat .none) (.own v (oins K C (fs9 ps)) :: ps.map .dat)) ∧ (∀ x, badOf (rows9 ps) = some x → RX ⟨CB, some ("part", .str x)⟩ (.own v (oins K C []) :: ps.map .dat))
theorem nine {ps : List PyData} (h : ps.length = 9) : ∃ a b c d e f g i j, ps = [a, b, c, d, e, f, g, i, j] := by
  match ps, h with
  | [a, b, c, d, e, f, g, i, j], _ => exact ⟨a, b, c, d, e, f, g, i, j, rfl⟩
theorem row9_in {ps : List PyData} {i : Nat} {p : Row9} (h : (rows9 ps)[i]? = some p) : p.2.2 ∈ valsL := by
  have := List.mem_of_getElem? h
  unfold rows9 at this
  exact (List.of_mem_zip (List.of_mem_zip this).2).2
theorem ini_rule (B : Bi mg) (T : RuleK P w K mg base C CB) (D : Di K mg "Rule" C "Rule.__init__" s_Rule_init p_Rule_init) (IV : Fn P w K mg base "is_value" 1 sp_is_value) : Ini P w K mg base "Rule" C 3 (sp_rule_init K C CB) := by
  have nd := sc_Rule_init.nd
  obtain ⟨vp, up, mp, rp, dp⟩ := T.parts
  obtain ⟨vv, uv, mv, rv, dv⟩ := T.values
  refine fnI D sc_Rule_init (fun cs R RX h => ?_) (fun f cdv A outer s H E X eX hr tk hp cs R RX h => ?_)
  · obtain ⟨v, ps, hl, rfl, _⟩ := h
    simp [hl]
  · subst eX
    obtain ⟨v, ps, hl, rfl, k1, k2⟩ := h
    obtain ⟨a, b, c, d, e, f, g, i, j, rfl⟩ := nine hl
    have na := T.na
    refine wb_cons (ws_set 10 (.pure (vc_tup (ds := [a, b, c, d, e, f, g, i, j]) (dc_cons (vc_dat 1) (dc_cons (vc_dat 2) (dc_cons (vc_dat 3) (dc_cons (vc_dat 4) (dc_cons (vc_dat 5) (dc_cons (vc_dat 6) (dc_cons (vc_dat 7) (dc_cons (vc_dat 8) (dc_cons (vc_dat 9) dc_nil)))))))))) ?_) nd)
    let L := rows9 [a, b, c, d, e, f, g, i, j]
    refine wb_cons (ws_for (items := L.map rowD) hp rfl (vi_z3 (ds1 := partsL.map .str) (ds2 := [a, b, c, d, e, f, g, i, j]) (ds3 := valsL.map .tuple) B.zip (vc_glob mp rp dp) (vc_dat 10) (vc_glob mv rv dv) (Or.inr rfl) (Or.inr rfl) (Or.inr rfl))
      (fun n env1 => badOf (L.drop n) = badOf L ∧ ∃ x y z, env1 = [some (.own v (oins K C [])), some (.dat a), some (.dat b), some (.dat c), some (.dat d), some (.dat e), some (.dat f), some (.dat g), some (.dat i), some (.dat j), some (.dat (.tuple [a, b, c, d, e, f, g, i, j])), x, y, z])
      ⟨rfl, _, _, _, rfl⟩ ?_ ?_)
    · rintro n it hn env1 ⟨hb, x, y, z, rfl⟩
      rw [List.getElem?_map] at hn
      cases q : L[n]? with
      | none => rw [q] at hn; cases hn
      | some p =>
        rw [q] at hn
        cases hn
        have hin := row9_in q
        obtain ⟨nm, pv, some⟩ := p
        have hne := vals_ne _ hin
        have hfl := vals_flat _ hin
        cases some with
        | nil => exact absurd rfl hne
        | cons s0 ss =>
          have st := badOf_step q
          refine ⟨_, _, gc_tup rfl (gcs_cons (gc_name 11 nd) (gcs_cons (gc_name 12 nd) (gcs_cons (gc_name 13 nd) gcs_nil))), ?_⟩
          refine wb_cons (ws_ifP (b' := !isVal (s0 :: ss) pv) (tc_not (tc_val (vc_call IV (hr.mono (by decide)) (ac_cons (vc_dat 12) (ac_cons (vc_dat 13) ac_nil)) ⟨pv, s0, ss, rfl, hfl, rfl⟩))) (fun hbd => ?_) fun hbd => wb_nil (wb_nil ?_))
          · have hv : isVal (s0 :: ss) pv = false := by simpa using hbd
            rw [hv] at st
            refine wb_cons (ws_raise T.bad hr tk (vc_dat 11) ⟨_, .own (.dat (.dat (.dat (.dat (.dat (.dat (.dat (.dat (.dat .nil))))))))), k2 nm ?_⟩)
            rw [← hb]
            exact st
          · have hv : isVal (s0 :: ss) pv = true := by simpa using hbd
            rw [hv] at st
            exact ⟨st.symm.trans hb, _, _, _, rfl⟩
    · rintro env1 ⟨hb, x, y, z, rfl⟩
      have e0 : badOf L = none := by rw [← hb]; rfl
      have sep : ∀ {x : Str} {l : List Str}, x ∉ l → ∀ g ∈ l, g ≠ x := fun h g hg e => h (e ▸ hg)
      refine wb_cons (ws_fld (fs := []) 0 (vc_dat 1) ?_ T.cl (na _ (by decide +kernel)) (by intro g hg; cases hg) (by decide))
      refine wb_cons (ws_fld (fs := [("holding", a)]) 0 (vc_dat 2) ?_ T.cl (na _ (by decide +kernel)) (sep (l := ["holding"]) (by decide +kernel)) (by decide : 1 < 1000))
      refine wb_cons (ws_fld (fs := [("holding", a), ("links", b)]) 0 (vc_dat 3) ?_ T.cl (na _ (by decide +kernel)) (sep (l := ["holding", "links"]) (by decide +kernel)) (by decide : 2 < 1000))
      refine wb_cons (ws_fld (fs := [("holding", a), ("links", b), ("marking", c)]) 0 (vc_dat 4) ?_ T.cl (na _ (by decide +kernel)) (sep (l := ["holding", "links", "marking"]) (by decide +kernel)) (by decide : 3 < 1000))
      refine wb_cons (ws_fld (fs := [("holding", a), ("links", b), ("marking", c), ("check", d)]) 0 (vc_dat 5) ?_ T.cl (na _ (by decide +kernel)) (sep (l := ["holding", "links", "marking", "check"]) (by decide +kernel)) (by decide : 4 < 1000))
      refine wb_cons (ws_fld (fs := [("holding", a), ("links", b), ("marking", c), ("check", d), ("back", e)]) 0 (vc_dat 6) ?_ T.cl (na _ (by decide +kernel)) (sep (l := ["holding", "links", "marking", "check", "back"]) (by decide +kernel)) (by decide : 5 < 1000))
      refine wb_cons (ws_fld (fs := [("holding", a), ("links", b), ("marking", c), ("check", d), ("back", e), ("whole", f)]) 0 (vc_dat 7) ?_ T.cl (na _ (by decide +kernel)) (sep (l := ["holding", "links", "marking", "check", "back", "whole"]) (by decide +kernel)) (by decide : 6 < 1000))
      refine wb_cons (ws_fld (fs := [("holding", a), ("links", b), ("marking", c), ("check", d), ("back", e), ("whole", f), ("clearing", g)]) 0 (vc_dat 8) ?_ T.cl (na _ (by decide +kernel)) (sep (l := ["holding", "links", "marking", "check", "back", "whole", "clearing"]) (by decide +kernel)) (by decide : 7 < 1000))
      refine wb_cons (ws_fld (fs := [("holding", a), ("links", b), ("marking", c), ("check", d), ("back", e), ("whole", f), ("clearing", g), ("counting", i)]) 0 (vc_dat 9) ?_ T.cl (na _ (by decide +kernel)) (sep (l := ["holding", "links", "marking", "check", "back", "whole", "clearing", "counting"]) (by decide +kernel)) (by decide : 8 < 1000))
      exact wb_nil ⟨_, .own (.dat (.dat (.dat (.dat (.dat (.dat (.dat (.dat (.dat .nil))))))))), k1 e0⟩
end
end Pg


set_option maxRecDepth 100000
set_option maxHeartbeats 4000000
namespace Pg
open PySem L2 G M
section
variable {P : Program} {w : World} {K : PySem.W.Frag} {mg : Str → Option Value} {base : Heap} {C CB : Addr}
def sp_rule_parts (K : PySem.W.Frag) (C : Addr) : G.Spec := fun cs R _ => ∃ ps : List PyData, ps.length = 9 ∧ cs = [.pin (insP K C (fs9 ps))] ∧ R (.dat (.tuple ps)) cs
theorem fm_parts (T : RuleK P w K mg base C CB) (D : Dm K C "parts" "Rule.parts" s_Rule_parts p_Rule_parts) : Fm P w K mg base C "parts" 1 (sp_rule_parts K C) := by
  have nd := sc_Rule_parts.nd
  have na := T.na
  refine fnM D sc_Rule_parts (fun cs R RX h => ?_) (fun f cdv A outer s H E X eX hr tk hp cs R RX h => ?_)
  · obtain ⟨ps, _, rfl, _⟩ := h
    rfl
  · subst eX
    obtain ⟨ps, hl, rfl, k⟩ := h
    obtain ⟨a, b, c, d, e, f, g, i, j, rfl⟩ := nine hl
    refine wb_cons (ws_set 1 (.pure (vc_tup (ds := [a, b, c, d, e]) (dc_cons (vc_fld (vc_pin 0) T.cl (na _ (by decide +kernel)) rfl) (dc_cons (vc_fld (vc_pin 0) T.cl (na _ (by decide +kernel)) rfl) (dc_cons (vc_fld (vc_pin 0) T.cl (na _ (by decide +kernel)) rfl) (dc_cons (vc_fld (vc_pin 0) T.cl (na _ (by decide +kernel)) rfl) (dc_cons (vc_fld (vc_pin 0) T.cl (na _ (by decide +kernel)) rfl) dc_nil)))))) ?_) nd)
    exact wb_cons (ws_ret (.pure (vc_op op_catA (od_catT (ds := [a, b, c, d, e]) (es := [f, g, i, j]) (by simp)) (vc_dat 1) (vc_tup (dc_cons (vc_fld (vc_pin 0) T.cl (na _ (by decide +kernel)) rfl) (dc_cons (vc_fld (vc_pin 0) T.cl (na _ (by decide +kernel)) rfl) (dc_cons (vc_fld (vc_pin 0) T.cl (na _ (by decide +kernel)) rfl) (dc_cons (vc_fld (vc_pin 0) T.cl (na _ (by decide +kernel)) rfl) dc_nil)))))) ⟨_, .pin .nil, k⟩))
def sp_rule_eq (K : PySem.W.Frag) (C : Addr) : G.Spec := fun cs R _ => ∃ ps qs : List PyData, ps.length = 9 ∧ qs.length = 9 ∧ SeqAt.shaped (.tuple ps) = true ∧ SeqAt.shaped (.tuple qs) = true ∧ cs = [.pin (insP K C (fs9 ps)), .pin (insP K C (fs9 qs))] ∧ R (.dat (.bool (PyData.eqv (.tuple ps) (.tuple qs)))) cs
theorem fm_eq (B : Bi mg) (T : RuleK P w K mg base C CB) (I : IsiC K C) (gC : mg "Rule" = some (.ref C)) (D : Dm K C "__eq__" "Rule.__eq__" s_Rule_eq p_Rule_eq) (MP : Fm P w K mg base C "parts" 1 (sp_rule_parts K C)) : Fm P w K mg base C "__eq__" 2 (sp_rule_eq K C) := by
  refine fnM D sc_Rule_eq (fun cs R RX h => ?_) (fun f cdv A outer s H E X eX hr tk hp cs R RX h => ?_)
  · obtain ⟨ps, qs, _, _, _, _, rfl, _⟩ := h
    rfl
  · subst eX
    obtain ⟨ps, qs, hl, hl2, s1, s2, rfl, k⟩ := h
    have l1 : (fs9 ps).lookup (Str.ofString "parts") = none := by
      obtain ⟨a, b, c, d, e, f, g, i, j, rfl⟩ := nine hl
      rfl
    have l2 : (fs9 qs).lookup (Str.ofString "parts") = none := by
      obtain ⟨a, b, c, d, e, f, g, i, j, rfl⟩ := nine hl2
      rfl
    exact wb_cons (ws_ret (.pure (vc_andB (b1 := true) (b2 := PyData.eqv (.tuple ps) (.tuple qs)) (vc_isiC I B.isinstance gC (vc_pin 1)) fun _ => vc_one (vc_cmp (op_eqD hr.units) (od_eqD s1 s2) (vc_meth0 MP hr T.cl (vc_pin 0) ⟨ps, hl, rfl, rfl⟩ l1) (vc_meth0 MP hr T.cl (vc_pin 1) ⟨qs, hl2, rfl, rfl⟩ l2))) ⟨_, .pin (.pin .nil), by simpa using k⟩))
def sp_rule_of (K : PySem.W.Frag) (C CB : Addr) : G.Spec := fun cs R RX => ∃ ps : List PyData, ps.length = 9 ∧ cs = [.dat (.list ps)] ∧ (badOf (rows9 ps) = none → R (.pin (insP K C (fs9 ps))) cs) ∧ (∀ x, badOf (rows9 ps) = some x → RX ⟨CB, some ("part", .str x)⟩ cs)
end
end Pg


set_option maxRecDepth 100000
set_option maxHeartbeats 4000000
/-! what each law has: draws, parts, a rule -/
namespace M
open PySem
/-- the draws: the script, the place, what is left of a long number, the state -/
structure Dr where
  ns : List Int
  at_ : Nat
  c : Int
  z : Int
def Dr.ds (D : Dr) : List PyData := [.list (D.ns.map .int), .int (D.at_ : Int), .int D.c, .int D.z]
def PartsOk (n : Nat) (ps : List PyData) : Prop := ps.length = n ∧ ∀ (i : Nat) (vs : List PyData), i < n → valsL[i]? = some vs → ∃ p, ps[i]? = some p ∧ p ∈ vs
end M
namespace Pg
open PySem L2 G M
section
variable {P : Program} {w : World} {K : PySem.W.Frag} {mg : Str → Option Value} {base : Heap} {C CB : Addr}
def sp_begin (K : PySem.W.Frag) : G.Spec := fun cs R _ => ∃ ns : List Int, cs = [.dat (.list (ns.map .int))] ∧ ∀ v, R (.own v (olst K (Dr.ds ⟨ns, 0, 0, 7⟩))) cs
theorem fn_begin (B : Bi mg) (D : Df K mg "_law_begin" s__law_begin p__law_begin) : Fn P w K mg base "_law_begin" 1 (sp_begin K) := by
  refine fnG D sc__law_begin (fun cs R RX h => ?_) (fun f cdv A outer s H E X eX hr tk hp cs R RX h => ?_)
  · obtain ⟨ns, rfl, _⟩ := h
    rfl
  · subst eX
    obtain ⟨ns, rfl, k⟩ := h
    exact wb_cons (ws_ret (VO.eff (vo_lst (ds := Dr.ds ⟨ns, 0, 0, 7⟩) (dc_cons (VO.dat (vo_list (ds := ns.map .int) B.list (vc_dat 0) (Or.inl rfl))) (dc_cons vc_int (dc_cons vc_int (dc_cons vc_int dc_nil))))) fun v => ⟨_, .dat .nil, k v⟩))
def sp_draw (K : PySem.W.Frag) : G.Spec := fun cs R _ => ∃ (v : L2.V) (D : Dr) (n : Nat), cs = [.own v (olst K D.ds), .dat (.int (n : Int))] ∧ 0 < n ∧ n < 1073741824 ∧ ∀ (k : Nat) (D' : Dr), k < n → R (.dat (.int (k : Int))) [.own v (olst K D'.ds), .dat (.int (n : Int))]
theorem fn_draw (B : Bi mg) (D : Df K mg "_law_draw" s__law_draw p__law_draw) : Fn P w K mg base "_law_draw" 1 (sp_draw K) := by
  have nd := sc__law_draw.nd
  refine fnG D sc__law_draw (fun cs R RX h => ?_) (fun f cdv A outer s H E X eX hr tk hp cs R RX h => ?_)
  · obtain ⟨v, D, n, rfl, _⟩ := h
    rfl
  · subst eX
    obtain ⟨v, D, n, rfl, hn, hn2, k⟩ := h
    have rest : ∀ i : Int, ∃ q : Nat, q < n ∧ i % (n : Int) = (q : Int) := fun i => ⟨(i % (n : Int)).toNat, by have := Int.emod_lt_of_pos i (b := (n : Int)) (by omega); have := Int.emod_nonneg i (b := (n : Int)) (by omega); omega, by have := Int.emod_nonneg i (b := (n : Int)) (by omega); omega⟩
    refine wb_mid (fun env' => ∃ (D' : Dr) (x y : Option Ct), env' = [some (.own v (olst K D'.ds)), some (.dat (.int (n : Int))), x, y]) (ws_ifP (b' := decide (D.c = 0)) ?t1 (fun h1 => ?_) fun h1 => wb_nil ⟨D, _, _, rfl⟩) ?_
    case t1 =>
      exact tc_lend 0 frz_olst (tis (eqv_int _ _) (tc_cmp (op_eqD hr.units) (od_eqD rfl rfl) (vc_ixL (ds := D.ds) (i := 2) (vc_dat 0) vc_int rfl) vc_int))
    · refine wb_cons (ws_ifP (b' := decide ((D.at_ : Int) < (D.ns.length : Int))) ?t2 (fun h2 => ?_) fun h2 => ?_)
      case t2 =>
        exact tc_lend 0 frz_olst (tis (by simp) (tc_cmp op_lt od_lt (vc_ixL (ds := D.ds) (i := 1) (vc_dat 0) vc_int rfl) (vc_len (ds := D.ns.map .int) B.len (vc_ixL (ds := D.ds) (i := 0) (vc_dat 0) vc_int rfl))))
      · have hlt : D.at_ < D.ns.length := by simpa using h2
        have hg : atI (D.ns.map PyData.int) (D.at_ : Int) = some (.int D.ns[D.at_]) := atI_nat (by rw [List.getElem?_map, List.getElem?_eq_getElem hlt]; rfl)
        refine wb_cons (ws_set 2 (.pure (vc_lend 0 frz_olst (c := .dat (.int D.ns[D.at_])) rfl (vc_ixL (ds := D.ns.map .int) (vc_ixL (ds := D.ds) (i := 0) (vc_dat 0) vc_int rfl) (vc_ixL (ds := D.ds) (i := 1) (vc_dat 0) vc_int rfl) hg)) ?_) nd)
        refine wb_cons (ws_setIx (j := 1) 0 (.pure (vc_lend 0 frz_olst (c := .dat (.int ((D.at_ + 1 : Nat) : Int))) rfl (vc_op op_add od_add (vc_ixL (ds := D.ds) (i := 1) (vc_dat 0) vc_int rfl) vc_int)) ⟨_, D.ds, rfl, rfl, vc_int, by simp [Dr.ds], ?_⟩))
        refine wb_cons (ws_ifP (b' := decide ((10 : Int) ^ 18 ≤ D.ns[D.at_])) (tc_cmp op_ge od_ge (vc_dat 2) (vc_op op_pow (od_pow (i := 10) (j := 18) ⟨by decide, by decide, by decide⟩) vc_int vc_int)) (fun h3 => ?_) fun h3 => ?_)
        · refine wb_cons (ws_setIx (j := 2) 0 (.pure (vc_dat 2) ⟨_, Dr.ds ⟨D.ns, D.at_ + 1, D.c, D.z⟩, rfl, rfl, vc_int, by simp [Dr.ds], ?_⟩))
          exact wb_nil (wb_nil (wb_nil ⟨⟨D.ns, D.at_ + 1, D.ns[D.at_], D.z⟩, _, _, rfl⟩))
        · refine wb_cons (ws_setIx (j := 3) 0 (.pure (vc_lend (c := .dat (.int ((D.z * 48271 + D.ns[D.at_] * 69621 + 11) % 2147483647))) 0 frz_olst rfl (vc_op op_mod (od_mod (by decide)) (vc_toInt (d := .int (D.z * 48271 + D.ns[D.at_] * 69621 + 11)) B.int (vc_op op_add od_add (vc_op op_add od_add (vc_op op_mul (od_mul (.inr (by decide))) (vc_ixL (ds := Dr.ds ⟨D.ns, D.at_ + 1, D.c, D.z⟩) (i := 3) (vc_dat 0) vc_int rfl) vc_int) (vc_op op_mul (od_mul (.inr (by decide))) (vc_dat 2) vc_int)) vc_int)) vc_int)) ⟨_, Dr.ds ⟨D.ns, D.at_ + 1, D.c, D.z⟩, rfl, rfl, vc_int, by simp [Dr.ds], ?_⟩))
          exact wb_nil (wb_nil (wb_nil ⟨⟨D.ns, D.at_ + 1, D.c, (D.z * 48271 + D.ns[D.at_] * 69621 + 11) % 2147483647⟩, _, _, rfl⟩))
      · refine wb_cons (ws_setIx (j := 3) 0 (.pure (vc_lend (c := .dat (.int ((D.z * 48271 + 7) % 2147483647))) 0 frz_olst rfl (vc_op op_mod (od_mod (by decide)) (vc_toInt (d := .int (D.z * 48271 + 7)) B.int (vc_op op_add od_add (vc_op op_mul (od_mul (.inr (by decide))) (vc_ixL (ds := D.ds) (i := 3) (vc_dat 0) vc_int rfl) vc_int) vc_int)) vc_int)) ⟨_, D.ds, rfl, rfl, vc_int, by simp [Dr.ds], ?_⟩))
        exact wb_nil (wb_nil ⟨⟨D.ns, D.at_, D.c, (D.z * 48271 + 7) % 2147483647⟩, _, _, rfl⟩)
    · rintro env' ⟨D, x, y, rfl⟩
      refine wb_cons (ws_ifP (b' := decide (0 < D.c)) ?t4 (fun h4 => ?_) fun h4 => wb_nil ?_)
      case t4 =>
        exact tc_lend 0 frz_olst (tc_cmp op_gt od_gt (vc_ixL (ds := D.ds) (i := 2) (vc_dat 0) vc_int rfl) vc_int)
      · obtain ⟨q, hq, eq⟩ := rest D.c
        refine wb_cons (ws_set 3 (.pure (vc_lend (c := .dat (.int (q : Int))) 0 frz_olst rfl (vis (by rw [eq]) (vc_op op_mod (od_mod (by omega)) (vc_toInt (d := .int D.c) B.int (vc_ixL (ds := D.ds) (i := 2) (vc_dat 0) vc_int rfl)) (vc_dat 1)))) ?_) nd)
        refine wb_cons (ws_setIx (j := 2) 0 (.pure (vc_lend (c := .dat (.int (D.c / (n : Int)))) 0 frz_olst rfl (vc_op op_fdiv (od_fdiv ⟨by omega, by omega⟩) (vc_ixL (ds := D.ds) (i := 2) (vc_dat 0) vc_int rfl) (vc_dat 1))) ⟨_, D.ds, rfl, rfl, vc_int, by simp [Dr.ds], ?_⟩))
        exact wb_cons (ws_ret (.pure (vc_dat 3) ⟨_, .own (.dat .nil), k q ⟨D.ns, D.at_, D.c / (n : Int), D.z⟩ hq⟩))
      · obtain ⟨q, hq, eq⟩ := rest (D.z * 16807 % 2147483629)
        exact wb_cons (ws_ret (.pure (vc_lend (c := .dat (.int (q : Int))) 0 frz_olst rfl (vis (by rw [eq]) (vc_op op_mod (od_mod (by omega)) (vc_op op_mod (od_mod (by decide)) (vc_toInt (d := .int (D.z * 16807)) B.int (vc_op op_mul (od_mul (.inr (by decide))) (vc_ixL (ds := D.ds) (i := 3) (vc_dat 0) vc_int rfl) vc_int)) vc_int) (vc_dat 1)))) ⟨_, .own (.dat .nil), k q D hq⟩))
end
end Pg


set_option maxRecDepth 100000
set_option maxHeartbeats 4000000
namespace Pg
open PySem L2 G M
def valsLD : PyData := .list (valsL.map .list)
def namesLD : PyData := .list (partsL.map .str)
section
variable {P : Program} {w : World} {K : PySem.W.Frag} {mg : Str → Option Value} {base : Heap} {C CB : Addr}
def sp_const (d : PyData) : G.Spec := fun cs R _ => cs = [] ∧ R (.dat d) []
theorem fn_values (D : Df K mg "_law_values" s__law_values p__law_values) : Fn P w K mg base "_law_values" 1 (sp_const valsLD) := by
  have nd := sc__law_values.nd
  refine fnG D sc__law_values (fun cs R RX h => ?_) (fun f cdv A outer s H E X eX hr tk hp cs R RX h => ?_)
  · obtain ⟨rfl, _⟩ := h
    rfl
  · subst eX
    obtain ⟨rfl, k⟩ := h
    refine wb_cons (ws_set 0 (.pure (vc_lst (ds := (valsL.take 5).map .list) (dc_cons (vc_lst (ds := [.str "all", .str "live"]) (dc_cons vc_str (dc_cons vc_str dc_nil))) (dc_cons (vc_lst (ds := [.str "any", .str "live"]) (dc_cons vc_str (dc_cons vc_str dc_nil))) (dc_cons (vc_lst (ds := [.str "alone", .str "along", .str "barred"]) (dc_cons vc_str (dc_cons vc_str (dc_cons vc_str dc_nil)))) (dc_cons (vc_lst (ds := [.bool true, .bool false]) (dc_cons vc_bl (dc_cons vc_bl dc_nil))) (dc_cons (vc_lst (ds := [.str "none", .str "same", .str "all"]) (dc_cons vc_str (dc_cons vc_str (dc_cons vc_str dc_nil)))) dc_nil)))))) ?_) nd)
    exact wb_cons (ws_ret (.pure (VO.dat (vo_cat (es1 := (valsL.take 5).map .list) (es2 := (valsL.drop 5).map .list) (vc_dat 0) (vc_lst (dc_cons (vc_lst (ds := [.bool true, .bool false]) (dc_cons vc_bl (dc_cons vc_bl dc_nil))) (dc_cons (vc_lst (ds := [.str "plain", .str "along", .str "kept"]) (dc_cons vc_str (dc_cons vc_str (dc_cons vc_str dc_nil)))) (dc_cons (vc_lst (ds := [.str "all", .str "live"]) (dc_cons vc_str (dc_cons vc_str dc_nil))) (dc_cons (vc_lst (ds := [.str "own", .str "both"]) (dc_cons vc_str (dc_cons vc_str dc_nil))) dc_nil))))) (by decide))) ⟨_, .nil, k⟩))
theorem fn_names (D : Df K mg "_law_names" s__law_names p__law_names) : Fn P w K mg base "_law_names" 1 (sp_const namesLD) := by
  have nd := sc__law_names.nd
  refine fnG D sc__law_names (fun cs R RX h => ?_) (fun f cdv A outer s H E X eX hr tk hp cs R RX h => ?_)
  · obtain ⟨rfl, _⟩ := h
    rfl
  · subst eX
    obtain ⟨rfl, k⟩ := h
    refine wb_cons (ws_set 0 (.pure (vc_lst (ds := (partsL.take 5).map .str) (dc_cons vc_str (dc_cons vc_str (dc_cons vc_str (dc_cons vc_str (dc_cons vc_str dc_nil)))))) ?_) nd)
    exact wb_cons (ws_ret (.pure (VO.dat (vo_cat (es1 := (partsL.take 5).map .str) (es2 := (partsL.drop 5).map .str) (vc_dat 0) (vc_lst (dc_cons vc_str (dc_cons vc_str (dc_cons vc_str (dc_cons vc_str dc_nil))))) (by decide))) ⟨_, .nil, k⟩))
def sp_parts (K : PySem.W.Frag) : G.Spec := fun cs R _ => ∃ (v : L2.V) (D : Dr), cs = [.own v (olst K D.ds)] ∧ ∀ (w : L2.V) (ps : List PyData) (D' : Dr), PartsOk 9 ps → R (.own w (olst K ps)) [.own v (olst K D'.ds)]
theorem vals_small : ∀ vs ∈ valsL, 0 < vs.length ∧ vs.length < 1073741824 := by decide
theorem fn_parts (B : Bi mg) (D : Df K mg "_law_parts" s__law_parts p__law_parts) (FD : Fn P w K mg base "_law_draw" 1 (sp_draw K)) (FV : Fn P w K mg base "_law_values" 1 (sp_const valsLD)) : Fn P w K mg base "_law_parts" 2 (sp_parts K) := by
  have nd := sc__law_parts.nd
  refine fnG D sc__law_parts (fun cs R RX h => ?_) (fun f cdv A outer s H E X eX hr tk hp cs R RX h => ?_)
  · obtain ⟨v, D, rfl, _⟩ := h
    rfl
  · subst eX
    obtain ⟨v, D, rfl, k⟩ := h
    refine wb_cons (ws_ret (ec_lc (own := [("_law_some", 1)]) valsL .list [1] (fun i ds env1 => ∃ D' : Dr, env1 = [some (.own v (olst K D'.ds)), none] ∧ ∀ j vs, j < i → valsL[j]? = some vs → ∃ p, ds[j]? = some p ∧ p ∈ vs) nd (vi_list (vc_call0 FV hr ⟨rfl, rfl⟩)) ⟨D, rfl, fun j vs h => by omega⟩ ?_ ?_ (by decide)))
    · rintro i vs hi ds env1 hl ⟨D', rfl, hds⟩
      obtain ⟨h1, h2⟩ := vals_small vs (List.mem_of_getElem? hi)
      intro sS sH sC scl sfp
      refine ⟨_, gc_name 1 nd, ?_⟩
      intro sS sH sC scl sfp
      refine ec_ixL (ds := vs) (vc_dat 1) (ec_call FD hr takes0 (ea_own 0 (ea_dat (vc_len (ds := vs) B.len (vc_dat 1) (Or.inl rfl)) (ea_nil ⟨⟨⟨_, rfl⟩, trivial⟩, by simp [slotsA], v, D', vs.length, rfl, h1, h2, fun q D2 hq => ⟨(q : Int), vs[q], rfl, atI_nat (List.getElem?_eq_getElem hq), _, rfl, D2, rfl, ?_⟩⟩))))
      intro j ws hj hw
      by_cases hji : j < i
      · obtain ⟨p, hp1, hp2⟩ := hds j ws hji hw
        exact ⟨p, by rw [List.getElem?_append_left (by omega)]; exact hp1, hp2⟩
      · have e : j = i := by omega
        subst e
        rw [hi] at hw
        cases hw
        exact ⟨vs[q], by rw [List.getElem?_append_right (by omega), hl]; simp, List.getElem_mem hq⟩
    · rintro w' ds env1 hl ⟨D', rfl, hds⟩
      refine ⟨fun i hi c => by simp at hi; subst hi; simp, _, .own .nil, k w' ds D' ⟨hl, fun i vs h1 h2 => hds i vs (by exact h1) h2⟩⟩
def sp_law_rule (K : PySem.W.Frag) (C CB : Addr) : G.Spec := sp_rule_of K C CB
theorem fn_law_rule (D : Df K mg "_law_rule" s__law_rule p__law_rule) (IR : Ini P w K mg base "Rule" C 3 (sp_rule_init K C CB)) : Fn P w K mg base "_law_rule" 5 (sp_law_rule K C CB) := by
  refine fnG D sc__law_rule (fun cs R RX h => ?_) (fun f cdv A outer s H E X eX hr tk hp cs R RX h => ?_)
  · obtain ⟨ps, _, rfl, _⟩ := h
    rfl
  · subst eX
    obtain ⟨ps, hl, rfl, k1, k2⟩ := h
    obtain ⟨a, b, c, d, e, f, g, i, j, rfl⟩ := nine hl
    let L := [a, b, c, d, e, f, g, i, j]
    refine wb_cons (ws_ret (ec_make IR hr tk (ac_cons (vc_ixL (ds := L) (i := 0) (vc_dat 0) vc_int rfl) (ac_cons (vc_ixL (ds := L) (i := 1) (vc_dat 0) vc_int rfl) (ac_cons (vc_ixL (ds := L) (i := 2) (vc_dat 0) vc_int rfl) (ac_cons (vc_ixL (ds := L) (i := 3) (vc_dat 0) vc_int rfl) (ac_cons (vc_ixL (ds := L) (i := 4) (vc_dat 0) vc_int rfl) (ac_cons (vc_ixL (ds := L) (i := 5) (vc_dat 0) vc_int rfl) (ac_cons (vc_ixL (ds := L) (i := 6) (vc_dat 0) vc_int rfl) (ac_cons (vc_ixL (ds := L) (i := 7) (vc_dat 0) vc_int rfl) (ac_cons (vc_ixL (ds := L) (i := 8) (vc_dat 0) vc_int rfl) ac_nil))))))))) fun v => ⟨v, L, rfl, rfl, fun hb => ⟨rfl, _, _, rfl, ⟨_, .dat .nil, k1 hb⟩⟩, fun x hx => ⟨_, .dat .nil, k2 x hx⟩⟩))
end
end Pg


set_option maxRecDepth 100000
set_option maxHeartbeats 4000000
namespace Pg
open PySem L2 G M
abbrev Spec := G.Spec
abbrev V := L2.V
/-- the class Rule as the top has made it -/
structure RuleC (K : PySem.W.Frag) (C : Addr) : Prop where
  cl : Cls K C
  holding : NoAttr K C "holding"
  links : NoAttr K C "links"
  marking : NoAttr K C "marking"
  check : NoAttr K C "check"
  back : NoAttr K C "back"
  whole : NoAttr K C "whole"
  clearing : NoAttr K C "clearing"
  counting : NoAttr K C "counting"
  joining : NoAttr K C "joining"
abbrev rl (K : PySem.W.Frag) (C : Addr) (r : Rl) : Ct := .pin (insP K C r.fs)
abbrev osD (os : List Ow) : PyData := .tuple (os.map oD)
abbrev tsD (ts : List Th) : PyData := .tuple (ts.map tD)
def KeysOk (os : List Ow) : Prop := ∀ o ∈ os, PyData.strOk o.1 = true
/-- rows whose states (at the place pl) are sts -/
def RowsAt (ds : List PyData) (pl : Int) (sts : List S3) : Prop := ds.length = sts.length ∧ ∀ (n : Nat) (st : S3), sts[n]? = some st → ∃ row, ds[n]? = some (.tuple row) ∧ atI row pl = some (.str st.str)
theorem rows_os (os : List Ow) : RowsAt (os.map oD) 1 (os.map (·.2)) := by
  refine ⟨by simp, fun n st h => ?_⟩
  rw [List.getElem?_map] at h
  cases e : os[n]? with
  | none => rw [e] at h; cases h
  | some o =>
    rw [e] at h
    cases h
    exact ⟨[.str o.1, .str o.2.str], by rw [List.getElem?_map, e] <;> rfl, rfl⟩
theorem rows_ts (ts : List Th) : RowsAt (ts.map tD) 1 (ts.map (·.2.1)) := by
  refine ⟨by simp, fun n st h => ?_⟩
  rw [List.getElem?_map] at h
  cases e : ts[n]? with
  | none => rw [e] at h; cases h
  | some t =>
    rw [e] at h
    cases h
    exact ⟨[.int (t.1 : Int), .str t.2.1.str, t.2.2.d], by rw [List.getElem?_map, e] <;> rfl, rfl⟩
section
variable {P : Program} {w : World} {K : PySem.W.Frag} {mg : Str → Option Value} {base : Heap} {C : Addr}
def sp_is_st (x : S3) : Spec := fun cs R _ => ∃ (ds : List PyData) (pl : Int) (sts : List S3) (n : Nat), cs = [.dat (.tuple ds), .dat (.int (n : Int)), .dat (.int pl)] ∧ RowsAt ds pl sts ∧ R (.dat (.bool (decide (sts[n]? = some x)))) cs
theorem fn_is_live (B : Bi mg) (D : Df K mg "is_live" s_is_live p_is_live) : Fn P w K mg base "is_live" 1 (sp_is_st .live) := by
  refine fnG D sc_is_live (fun cs R RX h => ?_) (fun f cdv A outer s H E X eX hr tk hp cs R RX h => ?_)
  · obtain ⟨_, _, _, _, rfl, _⟩ := h
    rfl
  · subst eX
    obtain ⟨ds, pl, sts, n, rfl, hR, k⟩ := h
    have hl := hR.1
    refine wb_cons (ws_ret (.pure (vis (bool_d ?e1) (vc_andB (b2 := decide (sts[n]? = some S3.live)) (vc_chain op_le op_lt od_le od_lt vc_int (vc_dat 1) (vc_len B.len (vc_dat 0)) rfl)
      (fun hc => ?h2))) ⟨_, .dat (.dat (.dat .nil)), k⟩))
    case e1 =>
      cases h : sts[n]? with
      | none => simp
      | some st =>
        have : n < sts.length := (List.getElem?_eq_some_iff.mp h).1
        simp
        omega
    case h2 =>
      have hn : n < sts.length := by simp at hc; omega
      obtain ⟨row, h1, h2⟩ := hR.2 n sts[n] (List.getElem?_eq_getElem hn)
      exact vc_one (vis (bool_d (by rw [List.getElem?_eq_getElem hn]; exact (S3.eqv sts[n] .live).trans (by simp))) (vc_cmp (op_eqD hr.units) (od_eqD (sh_st _) (sh_st .live)) (vc_ixT (vc_ixT (vc_dat 0) (vc_dat 1) (atI_nat h1)) (vc_dat 2) h2) vc_str))
theorem fn_is_gone (B : Bi mg) (D : Df K mg "is_gone" s_is_gone p_is_gone) : Fn P w K mg base "is_gone" 1 (sp_is_st .gone) := by
  refine fnG D sc_is_gone (fun cs R RX h => ?_) (fun f cdv A outer s H E X eX hr tk hp cs R RX h => ?_)
  · obtain ⟨_, _, _, _, rfl, _⟩ := h
    rfl
  · subst eX
    obtain ⟨ds, pl, sts, n, rfl, hR, k⟩ := h
    have hl := hR.1
    refine wb_cons (ws_ret (.pure (vis (bool_d ?e1) (vc_andB (b2 := decide (sts[n]? = some S3.gone)) (vc_chain op_le op_lt od_le od_lt vc_int (vc_dat 1) (vc_len B.len (vc_dat 0)) rfl)
      (fun hc => ?h2))) ⟨_, .dat (.dat (.dat .nil)), k⟩))
    case e1 =>
      cases h : sts[n]? with
      | none => simp
      | some st =>
        have : n < sts.length := (List.getElem?_eq_some_iff.mp h).1
        simp
        omega
    case h2 =>
      have hn : n < sts.length := by simp at hc; omega
      obtain ⟨row, h1, h2⟩ := hR.2 n sts[n] (List.getElem?_eq_getElem hn)
      exact vc_one (vis (bool_d (by rw [List.getElem?_eq_getElem hn]; exact (S3.eqv sts[n] .gone).trans (by simp))) (vc_cmp (op_eqD hr.units) (od_eqD (sh_st _) (sh_st .gone)) (vc_ixT (vc_ixT (vc_dat 0) (vc_dat 1) (atI_nat h1)) (vc_dat 2) h2) vc_str))
def sp_has_live : Spec := fun cs R _ => ∃ (os : List Ow) (key : Str), cs = [.dat (osD os), .dat (.str key)] ∧ KeysOk os ∧ PyData.strOk key = true ∧ os.length ≤ 1000 ∧ R (.dat (.bool (hasLive os key))) cs
theorem fn_has_live (B : Bi mg) (D : Df K mg "has_live" s_has_live p_has_live) : Fn P w K mg base "has_live" 1 sp_has_live := by
  refine fnG D sc_has_live (fun cs R RX h => ?_) (fun f cdv A outer s H E X eX hr tk hp cs R RX h => ?_)
  · obtain ⟨_, _, rfl, _⟩ := h
    rfl
  · subst eX
    obtain ⟨os, key, rfl, hK, hk, hl, k⟩ := h
    refine wb_cons (ws_ret (.pure (vis (bool_d ?e1) (vc_any (bs := os.map fun o => decide (o = (key, S3.live))) rfl B.any (vis ?e2 (VO.dat (vo_map (own := [("row", 2)]) os oD (fun o => .bool (decide (o = (key, S3.live)))) sc_has_live.nd (vi_tup (vc_dat 0))
      (fun o ho _ _ _ _ _ => gc_name 2 sc_has_live.nd) (fun o ho _ _ _ _ _ => vis (bool_d (oD_eqv o key .live)) (vc_cmp (op_eqD hr.units) (od_eqD (oD_shaped (hK o ho) _) (oD_shaped hk S3.live)) (vc_dat 2) (vc_tup (dc_cons (vc_dat 1) (dc_cons vc_str dc_nil))))) (by omega)))))) ⟨_, .dat (.dat .nil), k⟩))
    case e1 => simp [hasLive, List.any_map, Function.comp_def]
    case e2 => simp [List.map_map, Function.comp_def]

theorem bh {b : Bool} {x y z : Str} (h1 : decide (x = z) = true) (h2 : decide (y = z) = false) : decide (bstr b x y = z) = b := by
  cases b
  · exact h2
  · exact h1
def sp_may_own (K : PySem.W.Frag) (C : Addr) : Spec := fun cs R _ => ∃ (r : Rl) (os : List Ow) (key : Str), cs = [rl K C r, .dat (osD os), .dat (.str key)] ∧ KeysOk os ∧ PyData.strOk key = true ∧ os.length ≤ 1000 ∧ R (.dat (.bool (mayOwn r os key))) cs
theorem fn_may_own (B : Bi mg) (T : RuleC K C) (D : Df K mg "may_own" s_may_own p_may_own) (HL : Fn P w K mg base "has_live" 1 sp_has_live) : Fn P w K mg base "may_own" 2 (sp_may_own K C) := by
  refine fnG D sc_may_own (fun cs R RX h => ?_) (fun f cdv A outer s H E X eX hr tk hp cs R RX h => ?_)
  · obtain ⟨_, _, _, rfl, _⟩ := h
    rfl
  · subst eX
    obtain ⟨r, os, key, rfl, hK, hk, hl, k⟩ := h
    refine wb_cons (ws_ifP (b' := hasLive os key) (tc_val (vc_call HL hr (ac_cons (vc_dat 1) (ac_cons (vc_dat 2) ac_nil)) ⟨os, key, rfl, hK, hk, hl, rfl⟩)) (fun hb => ?_) fun hb => ?_)
    · refine wb_cons (ws_ret (.pure vc_bl ⟨_, .pin (.dat (.dat .nil)), ?_⟩))
      rw [mayOwn, hb] at k
      exact k
    · refine wb_nil (wb_cons (ws_ret (.pure (vis (bool_d ?e1) (vc_orB (b1 := !r.hold) (b2 := !(os.any fun o => decide (o = (key, S3.gone)))) (vis (bool_d ?e2) (vc_cmp (op_eqD hr.units) (od_eqD ?e3 (shs "live")) (vc_fld (vc_pin 0) T.cl T.holding (Rl.look_holding r)) vc_str))
        (fun _ => vc_one (vc_not (vis (bool_d ?e4) (vc_any (bs := os.map fun o => decide (o = (key, S3.gone))) rfl B.any (vis ?e5 (VO.dat (vo_map (own := [("row", 3)]) os oD (fun o => .bool (decide (o = (key, S3.gone)))) sc_may_own.nd (vi_tup (vc_dat 1))
      (fun o ho _ _ _ _ _ => gc_name 3 sc_may_own.nd) (fun o ho _ _ _ _ _ => vis (bool_d (oD_eqv o key .gone)) (vc_cmp (op_eqD hr.units) (od_eqD (oD_shaped (hK o ho) _) (oD_shaped hk S3.gone)) (vc_dat 3) (vc_tup (dc_cons (vc_dat 2) (dc_cons vc_str dc_nil))))) (by omega)))))))))) ⟨_, .pin (.dat (.dat .nil)), k⟩)))
      case e1 => rw [mayOwn, hb]; rfl
      case e2 => rw [eqv_str]; cases r.hold <;> decide +kernel
      case e3 => exact (shaped_str (by cases r.hold <;> decide +kernel)).1
      case e4 => simp [List.any_map, Function.comp_def]
      case e5 => simp [List.map_map, Function.comp_def]
def sp_may_have (K : PySem.W.Frag) (C : Addr) : Spec := fun cs R _ => ∃ (r : Rl) (os : List Ow) (n : Nat), cs = [rl K C r, .dat (osD os), .dat (.int (n : Int))] ∧ R (.dat (.bool (mayHave r os n))) cs
theorem fn_may_have (T : RuleC K C) (D : Df K mg "may_have" s_may_have p_may_have) (IL : Fn P w K mg base "is_live" 1 (sp_is_st .live)) (IG : Fn P w K mg base "is_gone" 1 (sp_is_st .gone)) : Fn P w K mg base "may_have" 2 (sp_may_have K C) := by
  refine fnG D sc_may_have (fun cs R RX h => ?_) (fun f cdv A outer s H E X eX hr tk hp cs R RX h => ?_)
  · obtain ⟨_, _, _, rfl, _⟩ := h
    rfl
  · subst eX
    obtain ⟨r, os, n, rfl, k⟩ := h
    have e (x : S3) : decide ((os.map (·.2))[n]? = some x) = decide (os[n]?.map (·.2) = some x) := by rw [List.getElem?_map]
    refine wb_cons (ws_ret (.pure (vc_orB (b1 := decide (os[n]?.map (·.2) = some .live)) (b2 := r.link && decide (os[n]?.map (·.2) = some .gone)) (vis (bool_d (e .live)) (vc_call IL hr (ac_cons (vc_dat 1) (ac_cons (vc_dat 2) (ac_cons vc_int ac_nil))) ⟨os.map oD, 1, os.map (·.2), n, rfl, rows_os os, rfl⟩))
      fun _ => vc_one (vc_andB (vis (bool_d ?e2) (vc_cmp (op_eqD hr.units) (od_eqD ?e3 (shs "any")) (vc_fld (vc_pin 0) T.cl T.links (Rl.look_links r)) vc_str)) fun _ => vc_one (vis (bool_d (e .gone)) (vc_call IG hr (ac_cons (vc_dat 1) (ac_cons (vc_dat 2) (ac_cons vc_int ac_nil))) ⟨os.map oD, 1, os.map (·.2), n, rfl, rows_os os, rfl⟩))))
      ⟨_, .pin (.dat (.dat .nil)), k⟩))
    case e2 => rw [eqv_str]; cases r.link <;> decide +kernel
    case e3 => exact (shaped_str (by cases r.link <;> decide +kernel)).1
end
end Pg


set_option maxRecDepth 100000
set_option maxHeartbeats 4000000
namespace Pg
open PySem L2 G M
section
variable {P : Program} {w : World} {K : PySem.W.Frag} {mg : Str → Option Value} {base : Heap} {C : Addr}
theorem vi_eq {X : Cx} {tg iter : Expr} {env : En} {a b : List PyData} (e : a = b) (h : VI X tg iter env a) : VI X tg iter env b := e ▸ h
theorem cut_lo {α : Type} (xs : List α) (n : Nat) (h : n ≤ xs.length) : cut xs none (some (n : Int)) = xs.take n := by
  unfold cut
  rw [HT.sIx_none, HT.sIx_nat, List.drop_zero, Nat.sub_zero, Nat.min_eq_left h]
theorem cut_hi {α : Type} (xs : List α) (n : Nat) (h : n ≤ xs.length) : cut xs (some (n : Int)) none = xs.drop n := by
  unfold cut
  rw [HT.sIx_none, HT.sIx_nat, Nat.min_eq_left h]
  exact List.take_of_length_le (by rw [List.length_drop]; omega)
theorem with_eq {α : Type} (xs : List α) (n : Nat) (d : α) (h : n < xs.length) : cut xs none (some (n : Int)) ++ [d] ++ cut xs (some ((n : Int) + 1)) none = xs.set n d := by
  have e : (n : Int) + 1 = ((n + 1 : Nat) : Int) := by omega
  rw [e, cut_lo xs n (by omega), cut_hi xs (n + 1) (by omega), List.set_eq_take_append_cons_drop]
  simp [h]
def sp_with_row : Spec := fun cs R _ => ∃ (ds : List PyData) (n : Nat) (d : PyData), cs = [.dat (.tuple ds), .dat (.int (n : Int)), .dat d] ∧ n < ds.length ∧ ds.length ≤ 1000 ∧ R (.dat (.tuple (ds.set n d))) cs
theorem fn_with_row (D : Df K mg "with_row" s_with_row p_with_row) : Fn P w K mg base "with_row" 1 sp_with_row := by
  refine fnG D sc_with_row (fun cs R RX h => ?_) (fun f cdv A outer s H E X eX hr tk hp cs R RX h => ?_)
  · obtain ⟨_, _, _, rfl, _⟩ := h
    rfl
  · subst eX
    obtain ⟨ds, n, d, rfl, hn, hl, k⟩ := h
    have l1 : (cut ds none (some (n : Int))).length ≤ 1000 := by rw [cut_lo ds n (by omega), List.length_take]; omega
    have l2 : (cut ds (some ((n : Int) + 1)) none).length ≤ 1000 := by
      have e : (n : Int) + 1 = ((n + 1 : Nat) : Int) := by omega
      rw [e, cut_hi ds (n + 1) (by omega), List.length_drop]; omega
    exact wb_cons (ws_ret (.pure (vis (by rw [with_eq ds n d hn]) (vc_op op_catA (od_catT (by simp; omega)) (vc_op op_catA (od_catT (by simp; omega)) (vc_sliceT (vc_dat 0) oc_none (oc_some (vc_dat 1))) (vc_tup (dc_cons (vc_dat 2) dc_nil)))
      (vc_sliceT (vc_dat 0) (oc_some (vc_op op_add od_add (vc_dat 1) vc_int)) oc_none))) ⟨_, .dat (.dat (.dat .nil)), k⟩))
def optD : Option Std → PyData
  | none => .none
  | some s => s.d
theorem en_eq {α : Type} (xs : List α) (f : α → PyData) : ((xs.map f).zipIdx.map fun x => PyData.tuple [.int (x.2 : Int), x.1]) = xs.zipIdx.map fun p => .tuple [.int (p.2 : Int), f p.1] := by
  rw [List.zipIdx_map, List.map_map]
  rfl
theorem any_idx {α : Type} {xs : List α} (p : α × Nat → Bool) {q : α × Nat} (hq : q ∈ xs.zipIdx) : (((xs.zipIdx.filter p).map fun z => PyData.int (z.2 : Int)).any fun z => PyData.eqv z (.int (q.2 : Int))) = p q := by
  rw [Bool.eq_iff_iff, List.any_map, List.any_eq_true]
  constructor
  · rintro ⟨z, hz, e⟩
    obtain ⟨h1, h2⟩ := List.mem_filter.mp hz
    have e : PyData.eqv (.int (z.2 : Int)) (.int (q.2 : Int)) = true := e
    rw [eqv_int] at e
    have e := of_decide_eq_true e
    have e2 : z.2 = q.2 := by omega
    obtain ⟨a, i⟩ := z
    obtain ⟨b, j⟩ := q
    simp only at e2
    subst e2
    have g1 := List.mem_zipIdx_iff_getElem?.mp h1
    have g2 := List.mem_zipIdx_iff_getElem?.mp hq
    rw [g1] at g2
    cases g2
    exact h2
  · intro h
    refine ⟨q, List.mem_filter.mpr ⟨hq, h⟩, ?_⟩
    show PyData.eqv (.int (q.2 : Int)) (.int (q.2 : Int)) = true
    rw [eqv_int]
    simp
theorem map_idx {α β : Type} (xs : List α) (f : α → β) : xs.zipIdx.map (fun p => f p.1) = xs.map f := by
  have : (fun p : α × Nat => f p.1) = f ∘ Prod.fst := rfl
  rw [this, ← List.map_map, List.zipIdx_map_fst]
theorem oSt_eq (s : Std) (n : Nat) (x : S3) : decide ((s.os.map (·.2))[n]? = some x) = decide (oSt s n = some x) := by rw [List.getElem?_map]; rfl
theorem tSt_eq (s : Std) (n : Nat) (x : S3) : decide ((s.ts.map (·.2.1))[n]? = some x) = decide (tSt s n = some x) := by rw [List.getElem?_map]; rfl
theorem oSt_some {s : Std} {n : Nat} {x : S3} (h : oSt s n = some x) : ∃ o, s.os[n]? = some o ∧ o.2 = x ∧ keyAt s n = o.1 ∧ n < s.os.length := by
  unfold oSt at h
  cases e : s.os[n]? with
  | none => rw [e] at h; cases h
  | some o =>
    rw [e] at h
    cases h
    refine ⟨o, rfl, rfl, ?_, (List.getElem?_eq_some_iff.mp e).1⟩
    unfold keyAt
    rw [List.getD_eq_getElem?_getD, e]
    rfl
theorem tSt_some {s : Std} {n : Nat} {x : S3} (h : tSt s n = some x) : ∃ t, s.ts[n]? = some t ∧ t.2.1 = x ∧ ownAt s n = t.1 ∧ n < s.ts.length := by
  unfold tSt at h
  cases e : s.ts[n]? with
  | none => rw [e] at h; cases h
  | some t =>
    rw [e] at h
    cases h
    refine ⟨t, rfl, rfl, ?_, (List.getElem?_eq_some_iff.mp e).1⟩
    unfold ownAt
    rw [List.getD_eq_getElem?_getD, e]
    rfl
theorem get_oD {s : Std} {n : Nat} {o : Ow} (h : s.os[n]? = some o) : (s.os.map oD)[n]? = some (.tuple [.str o.1, .str o.2.str]) := by
  rw [List.getElem?_map, h]
  rfl
theorem get_tD {s : Std} {n : Nat} {t : Th} (h : s.ts[n]? = some t) : (s.ts.map tD)[n]? = some (.tuple [.int (t.1 : Int), .str t.2.1.str, t.2.2.d]) := by
  rw [List.getElem?_map, h]
  rfl
theorem set_oD (os : List Ow) (n : Nat) (k : Str) (x : S3) : (os.map oD).set n (.tuple [.str k, .str x.str]) = (os.set n (k, x)).map oD := by
  rw [List.map_set]
  rfl
theorem set_tD (ts : List Th) (n o : Nat) (x : S3) (t : Tk) : (ts.map tD).set n (.tuple [.int (o : Int), .str x.str, t.d]) = (ts.set n (o, x, t)).map tD := by
  rw [List.map_set]
  rfl
theorem eqv_nat (a b : Nat) : PyData.eqv (.int (a : Int)) (.int (b : Int)) = decide (a = b) := by
  rw [eqv_int, Bool.eq_iff_iff]
  simp
  omega
theorem Tk.sh (t : Tk) : SeqAt.shaped t.d = true ∧ t.d.depth ≤ 0 := by
  cases t with
  | non => exact shaped_none
  | self => exact shaped_str (by decide +kernel)
  | num n => exact shaped_int
theorem vc_row2 {X : Cx} {e : Expr} {env : En} {p2 pos cp : Pos} {j : Nat} (t : Th) (h : VC X e env (.dat (tD t))) : VC X (.Subscript e (.Slice none (some (.Constant (.int 2) j cp)) none p2) pos) env (.dat (.tuple [.int (t.1 : Int), .str t.2.1.str])) :=
  vc_sliceT (ds := [PyData.int (t.1 : Int), .str t.2.1.str, t.2.2.d]) (l := none) (u := some 2) h oc_none (oc_some vc_int)
theorem row2_eqv (t : Th) (n : Nat) (x : S3) : PyData.eqv (.tuple [.int (t.1 : Int), .str t.2.1.str]) (.tuple [.int (n : Int), .str x.str]) = (decide (t.1 = n) && decide (t.2.1 = x)) := by
  rw [eqv_tup2, eqv_nat, S3.eqv]
def sp_marked (K : PySem.W.Frag) (C : Addr) : Spec := fun cs R _ => ∃ (r : Rl) (s : Std) (n : Nat), cs = [rl K C r, .dat s.d, .dat (.int (n : Int))] ∧ s.Ok ∧ R (.dat (optD (marked r s n))) cs
theorem fn_marked (B : Bi mg) (T : RuleC K C) (D : Df K mg "marked" s_marked p_marked) (IL : Fn P w K mg base "is_live" 1 (sp_is_st .live)) (WR : Fn P w K mg base "with_row" 1 sp_with_row) : Fn P w K mg base "marked" 2 (sp_marked K C) := by
  have nd := sc_marked.nd
  refine fnG D sc_marked (fun cs R RX h => ?_) (fun f cdv A outer s H E X eX hr tk hp cs R RX h => ?_)
  · obtain ⟨_, _, _, rfl, _⟩ := h
    rfl
  · subst eX
    obtain ⟨r, t, n, rfl, ok, k⟩ := h
    have ol := ok.ol
    have tl := ok.tl
    refine wb_cons (ws_asg (vc_dat 1) (gc_tup rfl (gcs_cons (gc_name 3 nd) (gcs_cons (gc_name 4 nd) gcs_nil))) ?_)
    refine wb_cons (ws_ifP (b' := !decide (oSt t n = some .live)) (tc_not (tis (oSt_eq t n .live) (tc_val (vc_call IL hr (ac_cons (vc_dat 3) (ac_cons (vc_dat 2) (ac_cons vc_int ac_nil))) ⟨t.os.map oD, 1, t.os.map (·.2), n, rfl, rows_os t.os, rfl⟩)))) (fun hb => ?_) fun hb => ?_)
    · refine wb_cons (ws_ret (.pure vc_non ⟨_, .pin (.dat (.dat .nil)), ?_⟩))
      have : oSt t n ≠ some .live := by simpa using hb
      rw [marked, if_pos this] at k
      exact k
    · have hs : oSt t n = some .live := by simpa using hb
      obtain ⟨o, ho, ho2, hk, hn⟩ := oSt_some hs
      have hkk : PyData.strOk (keyAt t n) = true := by rw [hk]; exact ok.key o (List.mem_of_getElem? ho)
      refine wb_nil ?_
      let p : Th × Nat → Bool := fun q => decide (q.1.1 = n) && decide (q.1.2.1 = .live)
      have hcond : ∀ (q : Th × Nat), (decide (q.1 = q.1) && p q) = p q := fun q => by simp
      refine wb_cons (ws_set 5 (VO.eff (vo_filt (own := [("at", 6), ("row", 7)]) t.ts.zipIdx (fun q => .tuple [.int (q.2 : Int), tD q.1]) p (fun q => .int (q.2 : Int)) nd (vi_eq (en_eq t.ts tD) (vi_en B.enumerate (vc_dat 4)))
        (fun q hq _ _ _ _ _ => gc_tup rfl (gcs_cons (gc_name 6 nd) (gcs_cons (gc_name 7 nd) gcs_nil)))
        (fun q hq _ _ _ _ _ => tis (row2_eqv q.1 n .live) (tc_cmp (op_eqD hr.units) (od_eqD (sh2 shaped_int (shaped_str (S3.ok q.1.2.1))) (sh2 shaped_int (shaped_str (S3.ok .live)))) (vc_row2 q.1 (vc_dat 7)) (vc_tup (dc_cons (vc_dat 2) (dc_cons vc_str dc_nil)))))
        (fun q hq hp _ _ _ _ _ => vc_dat 6) (by rw [List.length_zipIdx]; omega)) fun v => ?_) nd)
      refine wb_frz 5 frz_olst rfl ?_
      have hpa : (t.ts.any fun t => decide (t.1 = n) && decide (t.2.1 = S3.live)) = !((t.ts.zipIdx.filter p).map fun q => PyData.int (q.2 : Int)).isEmpty := by
        rw [Bool.eq_iff_iff, List.any_eq_true]
        simp only [List.isEmpty_map, Bool.not_eq_true', List.isEmpty_eq_false_iff_exists_mem]
        constructor
        · rintro ⟨a, ha, h⟩
          obtain ⟨i, hi⟩ := List.mem_iff_getElem?.mp ha
          exact ⟨(a, i), List.mem_filter.mpr ⟨List.mem_zipIdx_iff_getElem?.mpr hi, h⟩⟩
        · rintro ⟨⟨a, i⟩, h⟩
          obtain ⟨h1, h2⟩ := List.mem_filter.mp h
          exact ⟨a, List.mem_of_getElem? (List.mem_zipIdx_iff_getElem?.mp h1), h2⟩
      refine wb_cons (ws_ifP (b' := decide (r.mark = .barred) && (t.ts.any fun t => decide (t.1 = n) && decide (t.2.1 = S3.live))) (WC.tc (wc_and (tis (b := PyData.eqv (.str r.mark.str) (.str Mk.barred.str)) (by rw [eqv_str]; cases r.mark <;> decide +kernel) (tc_cmp (op_eqD hr.units) (od_eqD (shaped_str (by cases r.mark <;> decide +kernel)).1 (shs "barred")) (vc_fld (vc_pin 0) T.cl T.marking (Rl.look_marking r)) vc_str))
        fun _ => wc_and1 (tis hpa.symm (tc_truth (d := .list ((t.ts.zipIdx.filter p).map fun q => PyData.int (q.2 : Int))) (vc_dat 5))))) (fun hb => ?_) fun hb => ?_)
      · refine wb_cons (ws_ret (.pure vc_non ⟨_, .pin (.dat (.dat .nil)), ?_⟩))
        rw [Bool.and_eq_true] at hb
        rw [marked, if_neg (by simp [hs]), if_pos ⟨of_decide_eq_true hb.1, hb.2⟩] at k
        exact k
      · refine wb_nil ?_
        have hb' : ¬ (r.mark = .barred ∧ (t.ts.any fun t => decide (t.1 = n) && decide (t.2.1 = S3.live)) = true) := fun z => by
          rw [z.2, decide_eq_true z.1] at hb
          cases hb
        rw [marked, if_neg (by simp [hs]), if_neg hb'] at k
        refine wb_mid (fun env' => ∃ (ts' : List Th) (c6 c7 : Option Ct), env' = [some (rl K C r), some (.dat t.d), some (.dat (.int (n : Int))), some (.dat (osD t.os)), some (.dat (tsD ts')), some (.dat (.list ((t.ts.zipIdx.filter p).map fun q => PyData.int (q.2 : Int)))), c6, c7] ∧ ts' = (if r.mark = .along then t.ts.map fun t => if t.1 = n ∧ t.2.1 = .live then (n, S3.gone, Tk.num n) else t else t.ts)) ?_ ?_
        rotate_left
        · rintro env' ⟨ts', c6, c7, rfl, e⟩
          refine wb_cons (ws_ret (.pure (vc_tup (ds := [osD (t.os.set n (keyAt t n, .gone)), tsD ts']) (dc_cons (vis (congrArg PyData.tuple (set_oD t.os n (keyAt t n) .gone)) (vc_call WR hr (ac_cons (vc_dat 3) (ac_cons (vc_dat 2) (ac_cons (vc_tup (ds := [.str (keyAt t n), .str S3.gone.str]) (dc_cons (vc_ixT (i := 0) (vc_ixT (vc_dat 3) (vc_dat 2) (atI_nat (get_oD ho))) vc_int (by rw [hk]; rfl)) (dc_cons vc_str dc_nil))) ac_nil))) ⟨t.os.map oD, n, _, rfl, by simpa using hn, by simpa using ol, rfl⟩)) (dc_cons (vc_dat 4) dc_nil)))
            ⟨_, .pin (.dat (.dat .nil)), by rw [← e] at k; exact k⟩))
        refine (ws_ifP (b' := decide (r.mark = .along)) (tis (b := PyData.eqv (.str r.mark.str) (.str Mk.along.str)) (by rw [eqv_str]; cases r.mark <;> decide +kernel) (tc_cmp (op_eqD hr.units) (od_eqD (shaped_str (by cases r.mark <;> decide +kernel)).1 (shs "along")) (vc_fld (vc_pin 0) T.cl T.marking (Rl.look_marking r)) vc_str)) (fun hb => ?_) fun hb => ?_)
        · have ha : r.mark = .along := of_decide_eq_true hb
          refine wb_cons (ws_set 4 (.pure (vc_tuple B.tuple (vis (d1 := .list ((t.ts.map fun t => if t.1 = n ∧ t.2.1 = S3.live then (n, S3.gone, Tk.num n) else t).map tD)) ?e9 (VO.dat (vo_map (own := [("at", 6), ("row", 7)]) t.ts.zipIdx (fun q => .tuple [.int (q.2 : Int), tD q.1]) (fun q => tD (if q.1.1 = n ∧ q.1.2.1 = S3.live then (n, S3.gone, Tk.num n) else q.1)) nd (vi_eq (en_eq t.ts tD) (vi_en B.enumerate (vc_dat 4)))
            (fun q hq _ _ _ _ _ => gc_tup rfl (gcs_cons (gc_name 6 nd) (gcs_cons (gc_name 7 nd) gcs_nil)))
            (fun q hq _ _ _ _ _ => vc_if (b' := p q) (tis (any_idx p hq) (tc_cmp op_in_seq (od_in (ds := (t.ts.zipIdx.filter p).map fun q => PyData.int (q.2 : Int)) (neg := false) (Or.inl rfl) rfl ?e10) (vc_dat 6) (vc_dat 5)))
              (fun hp => vis ?e11 (vc_tup (dc_cons (vc_dat 2) (dc_cons vc_str (dc_cons (vc_dat 2) dc_nil))))) (fun hp => vis ?e12 (vc_dat 7))) ?e13)))) ?_) nd)
          case e9 => rw [List.map_map]; exact congrArg PyData.list (map_idx t.ts (fun z => tD (if z.1 = n ∧ z.2.1 = S3.live then (n, S3.gone, Tk.num n) else z)))
          case e10 => simp [flatD]
          case e11 =>
            have h : q.1.1 = n ∧ q.1.2.1 = S3.live := by simpa [p] using hp
            rw [if_pos h]
            rfl
          case e12 =>
            have h : ¬ (q.1.1 = n ∧ q.1.2.1 = S3.live) := by simpa [p] using hp
            rw [if_neg h]
          case e13 => rw [List.length_zipIdx]; omega
          exact wb_nil ⟨_, none, none, rfl, by rw [if_pos ha]⟩
        · exact wb_nil ⟨t.ts, none, none, rfl, by rw [if_neg (of_decide_eq_false hb)]⟩
end
end Pg


set_option maxRecDepth 100000
set_option maxHeartbeats 4000000
namespace Pg
open PySem L2 G M
theorem tk_map {α β : Type} (xs : List α) (f : α → β) {i : Nat} {a : α} (h : xs[i]? = some a) : (xs.take (i + 1)).map f = (xs.take i).map f ++ [f a] := by
  rw [List.take_succ, h, List.map_append] <;> rfl
theorem of_map {α : Type} {xs : List α} {f : α → PyData} {i : Nat} {d : PyData} (h : (xs.map f)[i]? = some d) : ∃ a, xs[i]? = some a ∧ d = f a := by
  rw [List.getElem?_map] at h
  cases e : xs[i]? with
  | none => rw [e] at h; cases h
  | some a => rw [e] at h; exact ⟨a, rfl, (Option.some.inj h).symm⟩
theorem Tk.eqv_num (t : Tk) (n : Nat) : PyData.eqv t.d (.int (n : Int)) = decide (t = .num n) := by
  cases t with
  | non => simp [Tk.d, PyData.eqv]
  | self => simp [Tk.d, PyData.eqv]
  | num m =>
    show PyData.eqv (.int (m : Int)) (.int (n : Int)) = _
    rw [eqv_nat, Bool.eq_iff_iff]
    simp
section
variable {P : Program} {w : World} {K : PySem.W.Frag} {mg : Str → Option Value} {base : Heap} {C : Addr}
def sp_fetched (K : PySem.W.Frag) (C : Addr) : Spec := fun cs R _ => ∃ (r : Rl) (s : Std) (n : Nat), cs = [rl K C r, .dat s.d, .dat (.int (n : Int))] ∧ s.Ok ∧ R (.dat (optD (fetched r s n))) cs
def fetT (r : Rl) (n : Nat) (t : Th) : Th := if t.1 = n ∧ t.2.1 = .gone ∧ (r.back = .all ∨ (r.back = .same ∧ t.2.2 = .num n)) then (t.1, .live, .non) else t
theorem fn_fetched (B : Bi mg) (T : RuleC K C) (D : Df K mg "fetched" s_fetched p_fetched) (IG : Fn P w K mg base "is_gone" 1 (sp_is_st .gone)) (HL : Fn P w K mg base "has_live" 1 sp_has_live) (WR : Fn P w K mg base "with_row" 1 sp_with_row) : Fn P w K mg base "fetched" 2 (sp_fetched K C) := by
  have nd := sc_fetched.nd
  refine fnG D sc_fetched (fun cs R RX h => ?_) (fun f cdv A outer s H E X eX hr tk hp cs R RX h => ?_)
  · obtain ⟨_, _, _, rfl, _⟩ := h
    rfl
  · subst eX
    obtain ⟨r, t, n, rfl, ok, k⟩ := h
    have ol := ok.ol
    have tl := ok.tl
    refine wb_cons (ws_asg (vc_dat 1) (gc_tup rfl (gcs_cons (gc_name 3 nd) (gcs_cons (gc_name 4 nd) gcs_nil))) ?_)
    refine wb_cons (ws_ifP (b' := !decide (oSt t n = some .gone) || (r.check && hasLive t.os (keyAt t n))) (WC.tc (wc_or (tc_not (tis (oSt_eq t n .gone) (tc_val (vc_call IG hr (ac_cons (vc_dat 3) (ac_cons (vc_dat 2) (ac_cons vc_int ac_nil))) ⟨t.os.map oD, 1, t.os.map (·.2), n, rfl, rows_os t.os, rfl⟩))))
      fun hb => wc_or1 (WC.tc (wc_and (tc_val (vc_fld (vc_pin 0) T.cl T.check (Rl.look_check r))) fun _ => wc_and1 ?hl)))) (fun hb => ?_) fun hb => ?_)
    case hl =>
      have hs : oSt t n = some .gone := by simpa using hb
      obtain ⟨o, ho, ho2, hk, hn⟩ := oSt_some hs
      exact tc_val (vc_call HL hr (ac_cons (vc_dat 3) (ac_cons (vc_ixT (i := 0) (vc_ixT (vc_dat 3) (vc_dat 2) (atI_nat (get_oD ho))) vc_int (d := .str (keyAt t n)) (by rw [hk]; rfl)) ac_nil)) ⟨t.os, keyAt t n, rfl, ok.key, by rw [hk]; exact ok.key o (List.mem_of_getElem? ho), ol, rfl⟩)
    · refine wb_cons (ws_ret (.pure vc_non ⟨_, .pin (.dat (.dat .nil)), ?_⟩))
      have : oSt t n ≠ some .gone ∨ (r.check = true ∧ hasLive t.os (keyAt t n) = true) := by simpa using hb
      rw [fetched, if_pos this] at k
      exact k
    · have hb' : ¬ (oSt t n ≠ some .gone ∨ (r.check = true ∧ hasLive t.os (keyAt t n) = true)) := by
        intro z
        have : (!decide (oSt t n = some .gone) || (r.check && hasLive t.os (keyAt t n))) = true := by simpa using z
        rw [hb] at this
        cases this
      rw [fetched, if_neg hb'] at k
      have hs : oSt t n = some .gone := Classical.byContradiction fun z => hb' (.inl z)
      obtain ⟨o, ho, ho2, hk, hn⟩ := oSt_some hs
      refine wb_nil (wb_cons (ws_set 5 (VO.eff (vo_lst dc_nil) fun v0 => ?_) nd))
      refine wb_cons (ws_for hp rfl (vi_tup (vc_dat 4)) (fun i env => ∃ v a b c d, env = [some (rl K C r), some (.dat t.d), some (.dat (.int (n : Int))), some (.dat (osD t.os)), some (.dat (tsD t.ts)), some (.own v (olst K ((t.ts.take i).map fun u => tD (fetT r n u)))), a, b, c, d])
        ⟨v0, none, none, none, none, rfl⟩ ?turn ?fin)
      case turn =>
        rintro i d hd env1 ⟨v, a, b, c, e, rfl⟩
        obtain ⟨u, hu, rfl⟩ := of_map hd
        refine ⟨_, _, gc_tup rfl (gcs_cons (gc_name 6 nd) (gcs_cons (gc_name 7 nd) (gcs_cons (gc_name 8 nd) gcs_nil))), ?_⟩
        refine wb_cons (ws_set 9 (.pure (vc_andB (b1 := decide (u.1 = n)) (b2 := decide (u.2.1 = .gone)) (vis (bool_d (eqv_nat u.1 n)) (vc_cmp (op_eqD hr.units) (od_eqD shaped_int.1 shaped_int.1) (vc_dat 6) (vc_dat 2)))
          fun _ => vc_one (vis (bool_d (S3.eqv u.2.1 .gone)) (vc_cmp (op_eqD hr.units) (od_eqD (sh_st _) (sh_st .gone)) (vc_dat 7) vc_str))) ?_) nd)
        have hlen : ((t.ts.take i).map fun u => tD (fetT r n u)).length < 16777216 := by rw [List.length_map, List.length_take]; omega
        refine wb_cons (ws_ifP (b' := (decide (u.1 = n) && decide (u.2.1 = .gone)) && (decide (r.back = .all) || (decide (r.back = .same) && decide (u.2.2 = .num n)))) (WC.tc (wc_and (tc_val (vc_dat 9)) fun _ => wc_and1 (WC.tc (wc_or
          (tis (b := PyData.eqv (.str r.back.str) (.str Bk.all.str)) (by rw [eqv_str]; cases r.back <;> decide +kernel) (tc_cmp (op_eqD hr.units) (od_eqD (shaped_str (by cases r.back <;> decide +kernel)).1 (shs "all")) (vc_fld (vc_pin 0) T.cl T.back (Rl.look_back r)) vc_str))
          fun _ => wc_or1 (WC.tc (wc_and
            (tis (b := PyData.eqv (.str r.back.str) (.str Bk.same.str)) (by rw [eqv_str]; cases r.back <;> decide +kernel) (tc_cmp (op_eqD hr.units) (od_eqD (shaped_str (by cases r.back <;> decide +kernel)).1 (shs "same")) (vc_fld (vc_pin 0) T.cl T.back (Rl.look_back r)) vc_str))
            fun _ => wc_and1 (tis (Tk.eqv_num u.2.2 n) (tc_cmp (op_eqD hr.units) (od_eqD (Tk.sh u.2.2).1 shaped_int.1) (vc_dat 8) (vc_dat 2))))))))) (fun hq => ?_) fun hq => ?_)
        · have hq' : u.1 = n ∧ u.2.1 = .gone ∧ (r.back = .all ∨ (r.back = .same ∧ u.2.2 = .num n)) := by simpa [and_assoc] using hq
          refine wb_cons (ws_app 5 (d := tD (u.1, S3.live, Tk.non)) (vc_tup (dc_cons (vc_dat 6) (dc_cons vc_str (dc_cons vc_non dc_nil)))) hlen ?_)
          refine wb_nil (wb_nil ?_)
          have e := tk_map t.ts (fun u => tD (fetT r n u)) hu
          rw [show fetT r n u = (u.1, S3.live, Tk.non) from if_pos hq'] at e
          dsimp only
          rw [e]
          exact ⟨v, _, _, _, _, rfl⟩
        · have hq' : ¬ (u.1 = n ∧ u.2.1 = .gone ∧ (r.back = .all ∨ (r.back = .same ∧ u.2.2 = .num n))) := fun z => by
            have : ((decide (u.1 = n) && decide (u.2.1 = .gone)) && (decide (r.back = .all) || (decide (r.back = .same) && decide (u.2.2 = .num n)))) = true := by simpa [and_assoc] using z
            rw [hq] at this
            cases this
          refine wb_cons (ws_app 5 (d := tD u) (vc_tup (dc_cons (vc_dat 6) (dc_cons (vc_dat 7) (dc_cons (vc_dat 8) dc_nil)))) hlen ?_)
          refine wb_nil (wb_nil ?_)
          have e := tk_map t.ts (fun u => tD (fetT r n u)) hu
          rw [show fetT r n u = u from if_neg hq'] at e
          dsimp only
          rw [e]
          exact ⟨v, _, _, _, _, rfl⟩
      case fin =>
        rintro env1 ⟨v, a, b, c, e, rfl⟩
        rw [List.length_map, List.take_length]
        refine wb_frz 5 frz_olst rfl ?_
        refine wb_cons (ws_ret (.pure (vc_tup (ds := [osD (t.os.set n (keyAt t n, .live)), tsD (t.ts.map (fetT r n))]) (dc_cons (vis (congrArg PyData.tuple (set_oD t.os n (keyAt t n) .live)) (vc_call WR hr (ac_cons (vc_dat 3) (ac_cons (vc_dat 2) (ac_cons (vc_tup (ds := [.str (keyAt t n), .str S3.live.str]) (dc_cons (vc_ixT (i := 0) (vc_ixT (vc_dat 3) (vc_dat 2) (atI_nat (get_oD ho))) vc_int (by rw [hk]; rfl)) (dc_cons vc_str dc_nil))) ac_nil))) ⟨t.os.map oD, n, _, rfl, by simpa using hn, by simpa using ol, rfl⟩))
          (dc_cons (vis (d := .tuple (t.ts.map fun u => tD (fetT r n u))) (by show _ = PyData.tuple _; rw [List.map_map]; rfl) (vc_tuple B.tuple (vc_dat 5))) dc_nil)))
            ⟨_, .pin (.dat (.dat .nil)), k⟩))
def sp_raised (K : PySem.W.Frag) (C : Addr) : Spec := fun cs R _ => ∃ (r : Rl) (s : Std) (n : Nat), cs = [rl K C r, .dat s.d, .dat (.int (n : Int))] ∧ s.Ok ∧ R (.dat (optD (raised r s n))) cs
theorem fn_raised (T : RuleC K C) (D : Df K mg "raised" s_raised p_raised) (IG : Fn P w K mg base "is_gone" 1 (sp_is_st .gone)) (IL : Fn P w K mg base "is_live" 1 (sp_is_st .live)) (WR : Fn P w K mg base "with_row" 1 sp_with_row) : Fn P w K mg base "raised" 2 (sp_raised K C) := by
  have nd := sc_raised.nd
  refine fnG D sc_raised (fun cs R RX h => ?_) (fun f cdv A outer s H E X eX hr tk hp cs R RX h => ?_)
  · obtain ⟨_, _, _, rfl, _⟩ := h
    rfl
  · subst eX
    obtain ⟨r, t, n, rfl, ok, k⟩ := h
    refine wb_cons (ws_asg (vc_dat 1) (gc_tup rfl (gcs_cons (gc_name 3 nd) (gcs_cons (gc_name 4 nd) gcs_nil))) ?_)
    refine wb_cons (ws_ifP (b' := !decide (tSt t n = some .gone)) (tc_not (tis (tSt_eq t n .gone) (tc_val (vc_call IG hr (ac_cons (vc_dat 4) (ac_cons (vc_dat 2) (ac_cons vc_int ac_nil))) ⟨t.ts.map tD, 1, t.ts.map (·.2.1), n, rfl, rows_ts t.ts, rfl⟩)))) (fun hb => ?_) fun hb => ?_)
    · refine wb_cons (ws_ret (.pure vc_non ⟨_, .pin (.dat (.dat .nil)), ?_⟩))
      have : tSt t n ≠ some .gone := by simpa using hb
      rw [raised, if_pos this] at k
      exact k
    · have hs : tSt t n = some .gone := by simpa using hb
      obtain ⟨u, hu, hu2, hk, hn⟩ := tSt_some hs
      rw [raised, if_neg (by simp [hs])] at k
      refine wb_nil (wb_cons (ws_set 5 (.pure (vc_ixT (i := 0) (vc_ixT (vc_dat 4) (vc_dat 2) (atI_nat (get_tD hu))) vc_int (d := .int (ownAt t n : Int)) (by rw [hk]; rfl)) ?_) nd))
      refine wb_cons (ws_ifP (b' := r.whole && !decide (oSt t (ownAt t n) = some .live)) (WC.tc (wc_and (tc_val (vc_fld (vc_pin 0) T.cl T.whole (Rl.look_whole r))) fun _ => wc_and1 (tc_not (tis (oSt_eq t (ownAt t n) .live) (tc_val (vc_call IL hr (ac_cons (vc_dat 3) (ac_cons (vc_dat 5) (ac_cons vc_int ac_nil))) ⟨t.os.map oD, 1, t.os.map (·.2), ownAt t n, rfl, rows_os t.os, rfl⟩)))))) (fun hb => ?_) fun hb => ?_)
      · refine wb_cons (ws_ret (.pure vc_non ⟨_, .pin (.dat (.dat .nil)), ?_⟩))
        rw [if_pos (by simpa using hb)] at k
        exact k
      · have hb' : ¬ (r.whole = true ∧ oSt t (ownAt t n) ≠ some .live) := fun z => by
          have : (r.whole && !decide (oSt t (ownAt t n) = some .live)) = true := by simpa using z
          rw [hb] at this
          cases this
        rw [if_neg hb'] at k
        refine wb_nil (wb_cons (ws_ret (.pure (vc_tup (ds := [osD t.os, tsD (t.ts.set n (ownAt t n, .live, .non))]) (dc_cons (vc_dat 3) (dc_cons (vis (congrArg PyData.tuple (set_tD t.ts n (ownAt t n) .live .non)) (vc_call WR hr (ac_cons (vc_dat 4) (ac_cons (vc_dat 2) (ac_cons (vc_tup (ds := [.int (ownAt t n : Int), .str S3.live.str, .none]) (dc_cons (vc_dat 5) (dc_cons vc_str (dc_cons vc_non dc_nil)))) ac_nil))) ⟨t.ts.map tD, n, _, rfl, by simpa using hn, by simpa using ok.tl, rfl⟩)) dc_nil)))
            ⟨_, .pin (.dat (.dat .nil)), k⟩)))
end
end Pg


set_option maxRecDepth 100000
set_option maxHeartbeats 4000000
namespace Pg
open PySem L2 G M
section
variable {X : Cx} {W : WX} {env : En} {D : DE} {c l r : Expr} {a b : List Stmt} {pos cp : Pos} {j : Nat}
theorem ws_skip (h : TC X c env false) (k : D.nx env) : WS X W (.If c a [] pos) D env := ws_ifP h (fun z => Bool.noConfusion z) fun _ => wb_nil k
theorem ws_take (h : TC X c env true) (k : WB X W a D env) : WS X W (.If c a b pos) D env := ws_ifP h (fun _ => k) fun z => Bool.noConfusion z
theorem tc_lit {x y : Str} {q : Bool} (hu : X.A.units + 64 < cLine) (h : VC X l env (.dat (.str x))) (e : decide (x = y) = q := by decide +kernel) (hx : PyData.strOk x = true := by decide +kernel) (hy : PyData.strOk y = true := by decide +kernel) : TC X (.Compare l [.Eq] [.Constant (.str y) j cp] pos) env q :=
  tis ((eqv_str x y).trans e) (tc_cmp (op_eqD hu) (od_eqD (shaped_str hx).1 (shaped_str hy).1) h vc_str)
theorem vc_lit {x y : Str} {q : Bool} (hu : X.A.units + 64 < cLine) (h : VC X l env (.dat (.str x))) (e : decide (x = y) = q := by decide +kernel) (hx : PyData.strOk x = true := by decide +kernel) (hy : PyData.strOk y = true := by decide +kernel) : VC X (.Compare l [.Eq] [.Constant (.str y) j cp] pos) env (.dat (.bool q)) :=
  vis (bool_d ((eqv_str x y).trans e)) (vc_cmp (op_eqD hu) (od_eqD (shaped_str hx).1 (shaped_str hy).1) h vc_str)
theorem tc_litN {x y : Str} {q : Bool} (hu : X.A.units + 64 < cLine) (h : VC X l env (.dat (.str x))) (e : (!decide (x = y)) = q := by decide +kernel) (hx : PyData.strOk x = true := by decide +kernel) (hy : PyData.strOk y = true := by decide +kernel) : TC X (.Compare l [.NotEq] [.Constant (.str y) j cp] pos) env q :=
  tis ((congrArg Bool.not (eqv_str x y)).trans e) (tc_cmp (op_neD hu) (od_neD (shaped_str hx).1 (shaped_str hy).1) h vc_str)
theorem vc_litN {x y : Str} {q : Bool} (hu : X.A.units + 64 < cLine) (h : VC X l env (.dat (.str x))) (e : (!decide (x = y)) = q := by decide +kernel) (hx : PyData.strOk x = true := by decide +kernel) (hy : PyData.strOk y = true := by decide +kernel) : VC X (.Compare l [.NotEq] [.Constant (.str y) j cp] pos) env (.dat (.bool q)) :=
  vis (bool_d ((congrArg Bool.not (eqv_str x y)).trans e)) (vc_cmp (op_neD hu) (od_neD (shaped_str hx).1 (shaped_str hy).1) h vc_str)
/-- a state against a written one -/
theorem tc_stE {x : S3} (y : S3) (hu : X.A.units + 64 < cLine) (h : VC X l env (.dat (.str x.str))) : TC X (.Compare l [.Eq] [.Constant (.str y.str) j cp] pos) env (decide (x = y)) :=
  tis (S3.eqv x y) (tc_cmp (op_eqD hu) (od_eqD (sh_st x) (sh_st y)) h vc_str)
theorem vc_stE {x : S3} (y : S3) (hu : X.A.units + 64 < cLine) (h : VC X l env (.dat (.str x.str))) : VC X (.Compare l [.Eq] [.Constant (.str y.str) j cp] pos) env (.dat (.bool (decide (x = y)))) :=
  vis (bool_d (S3.eqv x y)) (vc_cmp (op_eqD hu) (od_eqD (sh_st x) (sh_st y)) h vc_str)
theorem vc_stN {x : S3} (y : S3) (hu : X.A.units + 64 < cLine) (h : VC X l env (.dat (.str x.str))) : VC X (.Compare l [.NotEq] [.Constant (.str y.str) j cp] pos) env (.dat (.bool (!decide (x = y)))) :=
  vis (bool_d (congrArg Bool.not (S3.eqv x y))) (vc_cmp (op_neD hu) (od_neD (sh_st x) (sh_st y)) h vc_str)
theorem vc_natE {x y : Nat} (hu : X.A.units + 64 < cLine) (h : VC X l env (.dat (.int (x : Int)))) (h2 : VC X r env (.dat (.int (y : Int)))) : VC X (.Compare l [.Eq] [r] pos) env (.dat (.bool (decide (x = y)))) :=
  vis (bool_d (eqv_nat x y)) (vc_cmp (op_eqD hu) (od_eqD shaped_int.1 shaped_int.1) h h2)
theorem tc_natE {x y : Nat} (hu : X.A.units + 64 < cLine) (h : VC X l env (.dat (.int (x : Int)))) (h2 : VC X r env (.dat (.int (y : Int)))) : TC X (.Compare l [.Eq] [r] pos) env (decide (x = y)) :=
  tis (eqv_nat x y) (tc_cmp (op_eqD hu) (od_eqD shaped_int.1 shaped_int.1) h h2)
end
theorem lmm {α β : Type} (xs : List α) (g : α → β) (f : β → PyData) : PyData.list (xs.map fun a => f (g a)) = .list ((xs.map g).map f) := by
  rw [List.map_map]
  rfl
theorem tmm {α β : Type} (xs : List α) (g : α → β) (f : β → PyData) : PyData.tuple (xs.map fun a => f (g a)) = .tuple ((xs.map g).map f) := by
  rw [List.map_map]
  rfl
theorem any_nats {α : Type} (xs : List α) (f : α → Nat) (n : Nat) : ((xs.map fun a => PyData.int (f a : Int)).any fun z => PyData.eqv z (.int (n : Int))) = xs.any fun a => decide (f a = n) := by
  rw [List.any_map]
  congr 1
  funext a
  exact eqv_nat (f a) n
section
variable {P : Program} {w : World} {K : PySem.W.Frag} {mg : Str → Option Value} {base : Heap} {C : Addr}
def clT (t : Th) : Th := if t.2.1 = .gone then (t.1, .cleared, .non) else t
def clO (r : Rl) (ts : List Th) (p : Ow × Nat) : Ow := if (decide (p.1.2 = .gone) && !(decide (r.clear = .kept) && (ts.any fun t => decide (t.1 = p.2) && decide (t.2.1 = .live)))) = true then (p.1.1, .cleared) else p.1
theorem cleared_eq (r : Rl) (s : Std) : cleared r s = ⟨s.os.zipIdx.map (clO r (s.ts.map clT)), if r.clear = .along then (s.ts.map clT).map fun t => if oSt s t.1 = some .gone then (t.1, .cleared, .non) else t else s.ts.map clT⟩ := rfl
theorem any_out (s : Std) (n : Nat) : (((s.os.zipIdx.filter fun p => decide (p.1.2 = S3.gone)).map fun p => PyData.int (p.2 : Int)).any fun z => PyData.eqv z (.int (n : Int))) = decide (oSt s n = some .gone) := by
  rw [any_nats, Bool.eq_iff_iff, List.any_eq_true]
  unfold oSt
  constructor
  · rintro ⟨⟨o, i⟩, h, e⟩
    obtain ⟨h1, h2⟩ := List.mem_filter.mp h
    have e : i = n := of_decide_eq_true e
    subst e
    rw [List.mem_zipIdx_iff_getElem?.mp h1]
    have h2 : o.2 = S3.gone := of_decide_eq_true h2
    simp [h2]
  · intro h
    have h := of_decide_eq_true h
    cases e : s.os[n]? with
    | none => rw [e] at h; cases h
    | some o =>
      rw [e] at h
      have h : o.2 = S3.gone := Option.some.inj h
      exact ⟨(o, n), List.mem_filter.mpr ⟨List.mem_zipIdx_iff_getElem?.mpr e, by simp [h]⟩, by simp⟩
def sp_cleared (K : PySem.W.Frag) (C : Addr) : Spec := fun cs R _ => ∃ (r : Rl) (s : Std), cs = [rl K C r, .dat s.d] ∧ s.Ok ∧ R (.dat (cleared r s).d) cs
theorem fn_cleared (B : Bi mg) (T : RuleC K C) (D : Df K mg "cleared" s_cleared p_cleared) : Fn P w K mg base "cleared" 1 (sp_cleared K C) := by
  have nd := sc_cleared.nd
  refine fnG D sc_cleared (fun cs R RX h => ?_) (fun f cdv A outer s H E X eX hr tk hp cs R RX h => ?_)
  · obtain ⟨_, _, rfl, _⟩ := h
    rfl
  · subst eX
    obtain ⟨r, t, rfl, ok, k⟩ := h
    have ol := ok.ol
    have tl := ok.tl
    rw [cleared_eq] at k
    refine wb_cons (ws_asg (vc_dat 1) (gc_tup rfl (gcs_cons (gc_name 2 nd) (gcs_cons (gc_name 3 nd) gcs_nil))) ?_)
    refine wb_cons (ws_set 3 (.pure (vc_tuple B.tuple (vis (d1 := .list ((t.ts.map clT).map tD)) (by rw [List.map_map]; rfl) (VO.dat (vo_map (own := [("owner", 11), ("state", 4), ("took", 12)]) t.ts tD (fun u => tD (clT u)) nd (vi_tup (vc_dat 3))
      (fun u hu _ _ _ _ _ => gc_tup rfl (gcs_cons (gc_name 11 nd) (gcs_cons (gc_name 4 nd) (gcs_cons (gc_name 12 nd) gcs_nil))))
      (fun u hu _ _ _ _ _ => vc_if (b' := decide (u.2.1 = .gone)) (tc_stE .gone hr.units (vc_dat 4)) (fun h => vis (by rw [clT, if_pos (of_decide_eq_true h)]; rfl) (vc_tup (dc_cons (vc_dat 11) (dc_cons vc_str (dc_cons vc_non dc_nil))))) (fun h => vis (by rw [clT, if_neg (of_decide_eq_false h)]; rfl) (vc_tup (dc_cons (vc_dat 11) (dc_cons (vc_dat 4) (dc_cons (vc_dat 12) dc_nil)))))) (by omega))))) ?_) nd)
    have htl : (t.ts.map clT).length ≤ 1000 := by rw [List.length_map]; exact tl
    refine wb_cons (ws_filt (own := [("owner", 11), ("state", 4), ("took", 12)]) 5 (t.ts.map clT) tD (fun u => decide (u.2.1 = .live)) (fun u => .int (u.1 : Int)) nd (vi_tup (vc_dat 3))
      (fun u hu _ _ _ _ _ => gc_tup rfl (gcs_cons (gc_name 11 nd) (gcs_cons (gc_name 4 nd) (gcs_cons (gc_name 12 nd) gcs_nil)))) (fun u hu _ _ _ _ _ => tc_stE .live hr.units (vc_dat 4)) (fun u hu _ _ _ _ _ _ => vc_dat 11) (by omega) fun v => ?_)
    refine wb_frz 5 frz_olst rfl ?_
    refine wb_cons (ws_set 6 (VO.eff (vo_lst dc_nil) fun v0 => ?_) nd)
    refine wb_cons (ws_for hp rfl (vi_eq (en_eq t.os oD) (vi_en B.enumerate (vc_dat 2))) (fun i env => ∃ v a b c d x y z u, env = [some (rl K C r), some (.dat t.d), some (.dat (osD t.os)), some (.dat (tsD (t.ts.map clT))), a, some (.dat (.list (((t.ts.map clT).filter fun u => decide (u.2.1 = .live)).map fun u => PyData.int (u.1 : Int)))), some (.own v (olst K ((t.os.zipIdx.take i).map fun p => oD (clO r (t.ts.map clT) p)))), b, c, d, x, y, z, u])
      ⟨v0, none, none, none, none, none, none, none, none, rfl⟩ ?turn ?fin)
    case turn =>
      rintro i d hd env1 ⟨v, a, b, c, e, x, y, z, u, rfl⟩
      obtain ⟨p, hp', rfl⟩ := of_map hd
      refine ⟨_, _, gc_tup rfl (gcs_cons (gc_name 7 nd) (gcs_cons (gc_tup rfl (gcs_cons (gc_name 8 nd) (gcs_cons (gc_name 4 nd) gcs_nil))) gcs_nil)), ?_⟩
      refine wb_cons (ws_set 9 (.pure (vc_andB (b1 := decide (r.clear = .kept)) (b2 := ((t.ts.map clT).any fun t => decide (t.1 = p.2) && decide (t.2.1 = .live))) (vis (d := .bool (PyData.eqv (.str r.clear.str) (.str Cl.kept.str))) (bool_d (by rw [eqv_str]; cases r.clear <;> decide +kernel)) (vc_cmp (op_eqD hr.units) (od_eqD (shaped_str (by cases r.clear <;> decide +kernel)).1 (shs "kept")) (vc_fld (vc_pin 0) T.cl T.clearing (Rl.look_clearing r)) vc_str))
        fun _ => vc_one (vis (bool_d ?e1) (vc_cmp op_in_seq (od_in (ds := ((t.ts.map clT).filter fun u => decide (u.2.1 = .live)).map fun u => PyData.int (u.1 : Int)) (neg := false) (Or.inl rfl) rfl ?e2) (vc_dat 7) (vc_dat 5)))) ?_) nd)
      case e1 =>
        refine (any_nats _ (fun u : Th => u.1) p.2).trans ?_
        rw [List.any_filter]
        congr 1
        funext u
        rw [Bool.and_comm]
      case e2 => simp [flatD]
      have hlen : ((t.os.zipIdx.take i).map fun p => oD (clO r (t.ts.map clT) p)).length < 16777216 := by rw [List.length_map, List.length_take, List.length_zipIdx]; omega
      refine wb_cons (ws_app 6 (d := oD (clO r (t.ts.map clT) p)) (vc_if (b' := decide (p.1.2 = .gone) && !(decide (r.clear = .kept) && ((t.ts.map clT).any fun t => decide (t.1 = p.2) && decide (t.2.1 = .live)))) (WC.tc (wc_and (tc_stE .gone hr.units (vc_dat 4)) fun _ => wc_and1 (tc_not (tc_val (vc_dat 9)))))
        (fun h => vis ?e3 (vc_tup (dc_cons (vc_dat 8) (dc_cons vc_str dc_nil)))) (fun h => vis ?e4 (vc_tup (dc_cons (vc_dat 8) (dc_cons (vc_dat 4) dc_nil))))) hlen ?_)
      case e3 =>
        rw [clO, if_pos h]
        rfl
      case e4 =>
        rw [clO, if_neg (by rw [h]; exact Bool.false_ne_true)]
        rfl
      refine wb_nil ?_
      have e := tk_map t.os.zipIdx (fun p => oD (clO r (t.ts.map clT) p)) hp'
      dsimp only
      rw [e]
      exact ⟨v, _, _, _, _, _, _, _, _, rfl⟩
    case fin =>
      rintro env1 ⟨v, a, b, c, e, x, y, z, u, rfl⟩
      rw [List.length_map, List.take_length]
      refine wb_frz 6 frz_olst rfl ?_
      refine wb_mid (fun env' => ∃ (ts' : List Th) (a b c d e f g h _x : Option Ct), env' = [some (rl K C r), some (.dat t.d), some (.dat (osD t.os)), some (.dat (tsD ts')), a, b, some (.dat (.list (t.os.zipIdx.map fun p => oD (clO r (t.ts.map clT) p)))), c, d, e, f, g, h, _x] ∧ ts' = (if r.clear = .along then (t.ts.map clT).map fun t_1 => if oSt t t_1.1 = some .gone then (t_1.1, .cleared, .non) else t_1 else t.ts.map clT)) ?_ ?_
      rotate_left
      · rintro env' ⟨ts', a, b, c, d, e, f, g, h, _x, rfl, e'⟩
        exact wb_cons (ws_ret (.pure (vc_tup (ds := [osD (t.os.zipIdx.map (clO r (t.ts.map clT))), tsD ts']) (dc_cons (vis (d := .tuple (t.os.zipIdx.map fun p => oD (clO r (t.ts.map clT) p))) (by show _ = PyData.tuple _; rw [List.map_map]; rfl) (vc_tuple B.tuple (vc_dat 6))) (dc_cons (vc_dat 3) dc_nil))) ⟨_, .pin (.dat .nil), by rw [← e'] at k; exact k⟩))
      · refine ws_ifP (b' := decide (r.clear = .along)) (tis (b := PyData.eqv (.str r.clear.str) (.str Cl.along.str)) (by rw [eqv_str]; cases r.clear <;> decide +kernel) (tc_cmp (op_eqD hr.units) (od_eqD (shaped_str (by cases r.clear <;> decide +kernel)).1 (shs "along")) (vc_fld (vc_pin 0) T.cl T.clearing (Rl.look_clearing r)) vc_str)) (fun hb => ?_) fun hb => ?_
        · have ha : r.clear = .along := of_decide_eq_true hb
          refine wb_cons (ws_set 10 (VO.eff (vo_filt (own := [("number", 7), ("key", 8), ("state", 4)]) t.os.zipIdx (fun p => .tuple [.int (p.2 : Int), oD p.1]) (fun p => decide (p.1.2 = .gone)) (fun p => .int (p.2 : Int)) nd (vi_eq (en_eq t.os oD) (vi_en B.enumerate (vc_dat 2)))
            (fun p hp _ _ _ _ _ => gc_tup rfl (gcs_cons (gc_name 7 nd) (gcs_cons (gc_tup rfl (gcs_cons (gc_name 8 nd) (gcs_cons (gc_name 4 nd) gcs_nil))) gcs_nil))) (fun p hp _ _ _ _ _ => tc_stE .gone hr.units (vc_dat 4)) (fun p hp _ _ _ _ _ _ => vc_dat 7) (by rw [List.length_zipIdx]; omega)) fun v => ?_) nd)
          refine wb_frz 10 frz_olst rfl ?_
          refine wb_cons (ws_set 3 (.pure (vc_tuple B.tuple (vis (d1 := .list (((t.ts.map clT).map fun u => if oSt t u.1 = some .gone then (u.1, S3.cleared, Tk.non) else u).map tD)) (lmm _ _ _) (VO.dat (vo_map (own := [("row", 13)]) (t.ts.map clT) tD (fun u => tD (if oSt t u.1 = some .gone then (u.1, S3.cleared, Tk.non) else u)) nd (vi_tup (vc_dat 3))
            (fun u hu _ _ _ _ _ => gc_name 13 nd)
            (fun u hu _ _ _ _ _ => vc_if (b' := decide (oSt t u.1 = some .gone)) (tis (any_out t u.1) (tc_cmp op_in_seq (od_in (ds := (t.os.zipIdx.filter fun p => decide (p.1.2 = S3.gone)).map fun p => PyData.int (p.2 : Int)) (neg := false) (Or.inl rfl) rfl (by simp [flatD])) (vc_ixT (ds := [.int (u.1 : Int), .str u.2.1.str, u.2.2.d]) (i := 0) (vc_dat 13) vc_int rfl) (vc_dat 10)))
              (fun h => vis (by rw [if_pos (of_decide_eq_true h)]; rfl) (vc_tup (dc_cons (vc_ixT (ds := [.int (u.1 : Int), .str u.2.1.str, u.2.2.d]) (i := 0) (vc_dat 13) vc_int rfl) (dc_cons vc_str (dc_cons vc_non dc_nil))))) (fun h => vis (by rw [if_neg (of_decide_eq_false h)]) (vc_dat 13))) (by omega))))) ?_) nd)
          exact wb_nil ⟨_, _, _, _, _, _, _, _, _, _, rfl, by rw [if_pos ha]⟩
        · exact wb_nil ⟨_, _, _, _, _, _, _, _, _, _, rfl, by rw [if_neg (of_decide_eq_false hb)]⟩
end
end Pg


set_option maxRecDepth 100000
set_option maxHeartbeats 4000000
namespace Pg
open PySem L2 G M
def DeedOk : Deed → Prop
  | .own k => PyData.strOk k = true
  | _ => True
def Deed.word : Deed → Str
  | .own _ => "own"
  | .put _ => "put"
  | .move _ _ => "move"
  | .mark _ => "mark"
  | .take _ => "take"
  | .fetch _ => "fetch"
  | .raise _ => "raise"
  | .clear => "clear"
section
variable {P : Program} {w : World} {K : PySem.W.Frag} {mg : Str → Option Value} {base : Heap} {C : Addr}
def sp_behind (K : PySem.W.Frag) (C : Addr) : Spec := fun cs R _ => ∃ (r : Rl) (s : Std) (d : Deed), cs = [rl K C r, .dat s.d, .dat d.d] ∧ s.Ok ∧ DeedOk d ∧ R (.dat (optD (behind r s d))) cs
theorem fn_behind {tk tself : Value} (B : Bi mg) (T : RuleC K C) (D : Df K mg "behind" s_behind p_behind) (hself : mg "SELF" = some tself) (rself : RelV (.str "self") tself)
    (MO : Fn P w K mg base "may_own" 2 (sp_may_own K C)) (MH : Fn P w K mg base "may_have" 2 (sp_may_have K C)) (IL : Fn P w K mg base "is_live" 1 (sp_is_st .live)) (WR : Fn P w K mg base "with_row" 1 sp_with_row)
    (FM : Fn P w K mg base "marked" 2 (sp_marked K C)) (FF : Fn P w K mg base "fetched" 2 (sp_fetched K C)) (FR : Fn P w K mg base "raised" 2 (sp_raised K C)) (FC : Fn P w K mg base "cleared" 1 (sp_cleared K C)) : Fn P w K mg base "behind" 3 (sp_behind K C) := by
  have nd := sc_behind.nd
  refine fnG D sc_behind (fun cs R RX h => ?_) (fun f cdv A outer s H E X eX hr tk hp cs R RX h => ?_)
  · obtain ⟨_, _, _, rfl, _⟩ := h
    rfl
  · subst eX
    obtain ⟨r, t, d, rfl, ok, dok, k⟩ := h
    have ol := ok.ol
    have tl := ok.tl
    have hr1 := hr.mono (show 1 ≤ 2 by decide)
    refine wb_cons (ws_asg (vc_dat 1) (gc_tup rfl (gcs_cons (gc_name 3 nd) (gcs_cons (gc_name 4 nd) gcs_nil))) ?_)
    cases d with
    | own key =>
      refine wb_cons (ws_set 5 (.pure (vc_ixT (ds := [.str "own", .str key]) (i := 0) (vc_dat 2) vc_int rfl) ?_) nd)
      refine wb_cons (ws_take (tc_lit hr.units (vc_dat 5)) ?_)
      have hb : behind r t (.own key) = if mayOwn r t.os key then some ⟨t.os ++ [(key, .live)], t.ts⟩ else none := rfl
      rw [hb] at k
      exact wb_cons (ws_ret (.pure (vc_if (b' := mayOwn r t.os key) (tc_val (vc_call MO hr (ac_pin (vc_pin 0) (ac_cons (vc_dat 3) (ac_cons (vc_ixT (ds := [.str "own", .str key]) (i := 1) (vc_dat 2) vc_int rfl) ac_nil))) ⟨r, t.os, key, rfl, ok.key, dok, ol, rfl⟩))
        (fun h => vis (by rw [if_pos h]; show _ = PyData.tuple [.tuple ((t.os ++ [(key, S3.live)]).map oD), tsD t.ts]; rw [List.map_append]; rfl) (vc_tup (dc_cons (vc_op op_catA (od_catT (ds := t.os.map oD) (es := [oD (key, .live)]) (by simp; omega)) (vc_dat 3) (vc_tup (dc_cons (vc_tup (dc_cons (vc_ixT (ds := [.str "own", .str key]) (i := 1) (vc_dat 2) vc_int rfl) (dc_cons vc_str dc_nil))) dc_nil))) (dc_cons (vc_dat 4) dc_nil))))
        (fun h => vis (by rw [if_neg (by rw [h]; exact Bool.false_ne_true)]; rfl) vc_non)) ⟨_, .pin (.dat (.dat .nil)), k⟩))
    | put n =>
      refine wb_cons (ws_set 5 (.pure (vc_ixT (ds := [.str "put", .int (n : Int)]) (i := 0) (vc_dat 2) vc_int rfl) ?_) nd)
      refine wb_cons (ws_skip (tc_lit hr.units (vc_dat 5)) ?_)
      refine wb_cons (ws_take (tc_lit hr.units (vc_dat 5)) ?_)
      have hb : behind r t (.put n) = if mayHave r t.os n then some ⟨t.os, t.ts ++ [(n, .live, .non)]⟩ else none := rfl
      rw [hb] at k
      exact wb_cons (ws_ret (.pure (vc_if (b' := mayHave r t.os n) (tc_val (vc_call MH hr (ac_pin (vc_pin 0) (ac_cons (vc_dat 3) (ac_cons (vc_ixT (ds := [.str "put", .int (n : Int)]) (i := 1) (vc_dat 2) vc_int rfl) ac_nil))) ⟨r, t.os, n, rfl, rfl⟩))
        (fun h => vis (by rw [if_pos h]; show _ = PyData.tuple [osD t.os, .tuple ((t.ts ++ [(n, S3.live, Tk.non)]).map tD)]; rw [List.map_append]; rfl) (vc_tup (dc_cons (vc_dat 3) (dc_cons (vc_op op_catA (od_catT (ds := t.ts.map tD) (es := [tD (n, .live, .non)]) (by simp; omega)) (vc_dat 4) (vc_tup (dc_cons (vc_tup (dc_cons (vc_ixT (ds := [.str "put", .int (n : Int)]) (i := 1) (vc_dat 2) vc_int rfl) (dc_cons vc_str (dc_cons vc_non dc_nil)))) dc_nil))) dc_nil))))
        (fun h => vis (by rw [if_neg (by rw [h]; exact Bool.false_ne_true)]; rfl) vc_non)) ⟨_, .pin (.dat (.dat .nil)), k⟩))
    | move m n =>
      refine wb_cons (ws_set 5 (.pure (vc_ixT (ds := [.str "move", .int (m : Int), .int (n : Int)]) (i := 0) (vc_dat 2) vc_int rfl) ?_) nd)
      refine wb_cons (ws_skip (tc_lit hr.units (vc_dat 5)) ?_)
      refine wb_cons (ws_skip (tc_lit hr.units (vc_dat 5)) ?_)
      refine wb_cons (ws_take (tc_lit hr.units (vc_dat 5)) ?_)
      have hb : behind r t (.move m n) = if tSt t m ≠ some .live ∨ ownAt t m = n ∨ mayHave r t.os n = false then none else some ⟨t.os, t.ts.set m (n, .live, .non)⟩ := rfl
      rw [hb] at k
      refine wb_cons (ws_ifP (b' := !decide (tSt t m = some .live) || (decide (ownAt t m = n) || !mayHave r t.os n)) (WC.tc (wc_or (tc_not (tis (tSt_eq t m .live) (tc_val (vc_call IL hr1 (ac_cons (vc_dat 4) (ac_cons (vc_ixT (ds := [.str "move", .int (m : Int), .int (n : Int)]) (i := 1) (vc_dat 2) vc_int rfl) (ac_cons vc_int ac_nil))) ⟨t.ts.map tD, 1, t.ts.map (·.2.1), m, rfl, rows_ts t.ts, rfl⟩))))
        fun h => wc_or ?hx fun _ => wc_or1 (tc_not (tc_val (vc_call MH hr (ac_pin (vc_pin 0) (ac_cons (vc_dat 3) (ac_cons (vc_ixT (ds := [.str "move", .int (m : Int), .int (n : Int)]) (i := 2) (vc_dat 2) vc_int rfl) ac_nil))) ⟨r, t.os, n, rfl, rfl⟩))))) (fun h => ?_) fun h => ?_)
      case hx =>
        have hs : tSt t m = some .live := by simpa using h
        obtain ⟨u, hu, hu2, hk, hn⟩ := tSt_some hs
        exact tc_natE hr.units (vc_ixT (i := 0) (vc_ixT (vc_dat 4) (vc_ixT (ds := [.str "move", .int (m : Int), .int (n : Int)]) (i := 1) (vc_dat 2) vc_int rfl) (atI_nat (get_tD hu))) vc_int (by rw [hk]; rfl)) (vc_ixT (ds := [.str "move", .int (m : Int), .int (n : Int)]) (i := 2) (vc_dat 2) vc_int rfl)
      · refine wb_cons (ws_ret (.pure vc_non ⟨_, .pin (.dat (.dat .nil)), ?_⟩))
        rw [if_pos (by simpa using h)] at k
        exact k
      · have h' : ¬ (tSt t m ≠ some .live ∨ ownAt t m = n ∨ mayHave r t.os n = false) := fun z => by
          have : (!decide (tSt t m = some .live) || (decide (ownAt t m = n) || !mayHave r t.os n)) = true := by simpa using z
          rw [h] at this
          cases this
        rw [if_neg h'] at k
        have hs : tSt t m = some .live := Classical.byContradiction fun z => h' (.inl z)
        obtain ⟨u, hu, hu2, hk, hn⟩ := tSt_some hs
        exact wb_nil (wb_cons (ws_ret (.pure (vc_tup (ds := [osD t.os, tsD (t.ts.set m (n, .live, .non))]) (dc_cons (vc_dat 3) (dc_cons (vis (congrArg PyData.tuple (set_tD t.ts m n .live .non)) (vc_call WR hr1 (ac_cons (vc_dat 4) (ac_cons (vc_ixT (ds := [.str "move", .int (m : Int), .int (n : Int)]) (i := 1) (vc_dat 2) vc_int rfl) (ac_cons (vc_tup (ds := [.int (n : Int), .str S3.live.str, .none]) (dc_cons (vc_ixT (ds := [.str "move", .int (m : Int), .int (n : Int)]) (i := 2) (vc_dat 2) vc_int rfl) (dc_cons vc_str (dc_cons vc_non dc_nil)))) ac_nil))) ⟨t.ts.map tD, m, _, rfl, by simpa using hn, by simpa using tl, rfl⟩)) dc_nil))) ⟨_, .pin (.dat (.dat .nil)), k⟩)))
    | mark n =>
      refine wb_cons (ws_set 5 (.pure (vc_ixT (ds := [.str "mark", .int (n : Int)]) (i := 0) (vc_dat 2) vc_int rfl) ?_) nd)
      refine wb_cons (ws_skip (tc_lit hr.units (vc_dat 5)) ?_)
      refine wb_cons (ws_skip (tc_lit hr.units (vc_dat 5)) ?_)
      refine wb_cons (ws_skip (tc_lit hr.units (vc_dat 5)) ?_)
      refine wb_cons (ws_take (tc_lit hr.units (vc_dat 5)) ?_)
      exact wb_cons (ws_ret (.pure (vc_call FM hr (ac_pin (vc_pin 0) (ac_cons (vc_dat 1) (ac_cons (vc_ixT (ds := [.str "mark", .int (n : Int)]) (i := 1) (vc_dat 2) vc_int rfl) ac_nil))) ⟨r, t, n, rfl, ok, rfl⟩) ⟨_, .pin (.dat (.dat .nil)), k⟩))
    | take n =>
      refine wb_cons (ws_set 5 (.pure (vc_ixT (ds := [.str "take", .int (n : Int)]) (i := 0) (vc_dat 2) vc_int rfl) ?_) nd)
      refine wb_cons (ws_skip (tc_lit hr.units (vc_dat 5)) ?_)
      refine wb_cons (ws_skip (tc_lit hr.units (vc_dat 5)) ?_)
      refine wb_cons (ws_skip (tc_lit hr.units (vc_dat 5)) ?_)
      refine wb_cons (ws_skip (tc_lit hr.units (vc_dat 5)) ?_)
      refine wb_cons (ws_take (tc_lit hr.units (vc_dat 5)) ?_)
      have hb : behind r t (.take n) = if tSt t n ≠ some .live then none else some ⟨t.os, t.ts.set n (ownAt t n, .gone, .self)⟩ := rfl
      rw [hb] at k
      refine wb_cons (ws_ifP (b' := !decide (tSt t n = some .live)) (tc_not (tis (tSt_eq t n .live) (tc_val (vc_call IL hr1 (ac_cons (vc_dat 4) (ac_cons (vc_ixT (ds := [.str "take", .int (n : Int)]) (i := 1) (vc_dat 2) vc_int rfl) (ac_cons vc_int ac_nil))) ⟨t.ts.map tD, 1, t.ts.map (·.2.1), n, rfl, rows_ts t.ts, rfl⟩)))) (fun h => ?_) fun h => ?_)
      · refine wb_cons (ws_ret (.pure vc_non ⟨_, .pin (.dat (.dat .nil)), ?_⟩))
        rw [if_pos (by simpa using h)] at k
        exact k
      · have hs : tSt t n = some .live := by simpa using h
        rw [if_neg (by simp [hs])] at k
        obtain ⟨u, hu, hu2, hk, hn⟩ := tSt_some hs
        exact wb_nil (wb_cons (ws_ret (.pure (vc_tup (ds := [osD t.os, tsD (t.ts.set n (ownAt t n, .gone, .self))]) (dc_cons (vc_dat 3) (dc_cons (vis (congrArg PyData.tuple (set_tD t.ts n (ownAt t n) .gone .self)) (vc_call WR hr1 (ac_cons (vc_dat 4) (ac_cons (vc_ixT (ds := [.str "take", .int (n : Int)]) (i := 1) (vc_dat 2) vc_int rfl) (ac_cons (vc_tup (ds := [.int (ownAt t n : Int), .str S3.gone.str, .str "self"]) (dc_cons (vc_ixT (i := 0) (vc_ixT (vc_dat 4) (vc_ixT (ds := [.str "take", .int (n : Int)]) (i := 1) (vc_dat 2) vc_int rfl) (atI_nat (get_tD hu))) vc_int (by rw [hk]; rfl)) (dc_cons vc_str (dc_cons (vc_glob hself rself (fun _ => .str _)) dc_nil)))) ac_nil))) ⟨t.ts.map tD, n, _, rfl, by simpa using hn, by simpa using tl, rfl⟩)) dc_nil))) ⟨_, .pin (.dat (.dat .nil)), k⟩)))
    | fetch n =>
      refine wb_cons (ws_set 5 (.pure (vc_ixT (ds := [.str "fetch", .int (n : Int)]) (i := 0) (vc_dat 2) vc_int rfl) ?_) nd)
      refine wb_cons (ws_skip (tc_lit hr.units (vc_dat 5)) ?_)
      refine wb_cons (ws_skip (tc_lit hr.units (vc_dat 5)) ?_)
      refine wb_cons (ws_skip (tc_lit hr.units (vc_dat 5)) ?_)
      refine wb_cons (ws_skip (tc_lit hr.units (vc_dat 5)) ?_)
      refine wb_cons (ws_skip (tc_lit hr.units (vc_dat 5)) ?_)
      refine wb_cons (ws_take (tc_lit hr.units (vc_dat 5)) ?_)
      exact wb_cons (ws_ret (.pure (vc_call FF hr (ac_pin (vc_pin 0) (ac_cons (vc_dat 1) (ac_cons (vc_ixT (ds := [.str "fetch", .int (n : Int)]) (i := 1) (vc_dat 2) vc_int rfl) ac_nil))) ⟨r, t, n, rfl, ok, rfl⟩) ⟨_, .pin (.dat (.dat .nil)), k⟩))
    | raise n =>
      refine wb_cons (ws_set 5 (.pure (vc_ixT (ds := [.str "raise", .int (n : Int)]) (i := 0) (vc_dat 2) vc_int rfl) ?_) nd)
      refine wb_cons (ws_skip (tc_lit hr.units (vc_dat 5)) ?_)
      refine wb_cons (ws_skip (tc_lit hr.units (vc_dat 5)) ?_)
      refine wb_cons (ws_skip (tc_lit hr.units (vc_dat 5)) ?_)
      refine wb_cons (ws_skip (tc_lit hr.units (vc_dat 5)) ?_)
      refine wb_cons (ws_skip (tc_lit hr.units (vc_dat 5)) ?_)
      refine wb_cons (ws_skip (tc_lit hr.units (vc_dat 5)) ?_)
      exact wb_cons (ws_ret (.pure (vc_if (b' := true) (tc_lit hr.units (vc_dat 5)) (fun _ => vc_call FR hr (ac_pin (vc_pin 0) (ac_cons (vc_dat 1) (ac_cons (vc_ixT (ds := [.str "raise", .int (n : Int)]) (i := 1) (vc_dat 2) vc_int rfl) ac_nil))) ⟨r, t, n, rfl, ok, rfl⟩) (fun z => Bool.noConfusion z)) ⟨_, .pin (.dat (.dat .nil)), k⟩))
    | clear =>
      refine wb_cons (ws_set 5 (.pure (vc_ixT (ds := [.str "clear"]) (i := 0) (vc_dat 2) vc_int rfl) ?_) nd)
      refine wb_cons (ws_skip (tc_lit hr.units (vc_dat 5)) ?_)
      refine wb_cons (ws_skip (tc_lit hr.units (vc_dat 5)) ?_)
      refine wb_cons (ws_skip (tc_lit hr.units (vc_dat 5)) ?_)
      refine wb_cons (ws_skip (tc_lit hr.units (vc_dat 5)) ?_)
      refine wb_cons (ws_skip (tc_lit hr.units (vc_dat 5)) ?_)
      refine wb_cons (ws_skip (tc_lit hr.units (vc_dat 5)) ?_)
      exact wb_cons (ws_ret (.pure (vc_if (b' := false) (tc_lit hr.units (vc_dat 5)) (fun z => Bool.noConfusion z) (fun _ => vc_call FC hr1 (ac_pin (vc_pin 0) (ac_cons (vc_dat 1) ac_nil)) ⟨r, t, rfl, ok, rfl⟩)) ⟨_, .pin (.dat (.dat .nil)), k⟩))
def stepD (r : Rl) (s : Std) (d : Deed) : PyData := .tuple [.str (wordD (step r s d).1), (step r s d).2.d]
def sp_step (K : PySem.W.Frag) (C : Addr) : Spec := fun cs R _ => ∃ (r : Rl) (s : Std) (d : Deed), cs = [rl K C r, .dat s.d, .dat d.d] ∧ s.Ok ∧ DeedOk d ∧ R (.dat (stepD r s d)) cs
theorem fn_step (T : RuleC K C) (D : Df K mg "step" s_step p_step) (FB : Fn P w K mg base "behind" 3 (sp_behind K C)) : Fn P w K mg base "step" 4 (sp_step K C) := by
  have nd := sc_step.nd
  refine fnG D sc_step (fun cs R RX h => ?_) (fun f cdv A outer s H E X eX hr tk hp cs R RX h => ?_)
  · obtain ⟨_, _, _, rfl, _⟩ := h
    rfl
  · subst eX
    obtain ⟨r, t, d, rfl, ok, dok, k⟩ := h
    refine wb_cons (ws_set 3 (.pure (vc_call FB hr (ac_pin (vc_pin 0) (ac_cons (vc_dat 1) (ac_cons (vc_dat 2) ac_nil))) ⟨r, t, d, rfl, ok, dok, rfl⟩) ?_) nd)
    unfold stepD M.step at k
    cases e : behind r t d with
    | none =>
      rw [e] at k
      exact wb_cons (ws_ret (.pure (vc_if (b' := true) (tc_cmp op_isN (od_isN (d := .none)) (vc_dat 3) vc_non) (fun _ => vc_tup (dc_cons vc_str (dc_cons (vc_dat 1) dc_nil))) (fun z => Bool.noConfusion z)) ⟨_, .pin (.dat (.dat .nil)), k⟩))
    | some t' =>
      rw [e] at k
      exact wb_cons (ws_ret (.pure (vc_if (b' := false) (tc_cmp op_isN (od_isN (d := t'.d)) (vc_dat 3) vc_non) (fun z => Bool.noConfusion z) (fun _ => vc_tup (dc_cons vc_str (dc_cons (vc_dat 3) dc_nil)))) ⟨_, .pin (.dat (.dat .nil)), k⟩))
end
end Pg


set_option maxRecDepth 100000
set_option maxHeartbeats 4000000
namespace Pg
open PySem L2 G M
section
variable {P : Program} {w : World} {K : PySem.W.Frag} {mg : Str → Option Value} {base : Heap} {C : Addr}
def sp_counted (K : PySem.W.Frag) (C : Addr) : Spec := fun cs R _ => ∃ (r : Rl) (s : Std) (n : Nat), cs = [rl K C r, .dat s.d, .dat (.int (n : Int))] ∧ s.Ok ∧ R (.dat (.int (counted r s n : Int))) cs
theorem any_sts (xs : List S3) (x : S3) : ((xs.map fun a => PyData.str a.str).any fun z => PyData.eqv z (.str x.str)) = decide (x ∈ xs) := by
  rw [List.any_map, Bool.eq_iff_iff, List.any_eq_true]
  simp only [Function.comp, S3.eqv, decide_eq_true_eq]
  constructor
  · rintro ⟨a, h, rfl⟩; exact h
  · intro h; exact ⟨x, h, rfl⟩
theorem fn_counted (B : Bi mg) (T : RuleC K C) (D : Df K mg "counted" s_counted p_counted) : Fn P w K mg base "counted" 1 (sp_counted K C) := by
  have nd := sc_counted.nd
  refine fnG D sc_counted (fun cs R RX h => ?_) (fun f cdv A outer s H E X eX hr tk hp cs R RX h => ?_)
  · obtain ⟨_, _, _, rfl, _⟩ := h
    rfl
  · subst eX
    obtain ⟨r, t, n, rfl, ok, k⟩ := h
    have tl := ok.tl
    let sts : List S3 := if r.count then [.live, .gone] else [.live]
    have hs1 : (!r.count) = true → sts = [.live] := fun h => by simp only [sts]; rw [show r.count = false by simpa using h]; rfl
    have hs2 : (!r.count) = false → sts = [.live, .gone] := fun h => by simp only [sts]; rw [show r.count = true by simpa using h]; rfl
    refine wb_cons (ws_set 3 (.pure (vc_if (c := .dat (.tuple (sts.map fun a => PyData.str a.str))) (b' := !r.count) (tis (b := PyData.eqv (.str (bstr r.count "all" "live")) (.str "live")) (by rw [eqv_str]; cases r.count <;> decide +kernel) (tc_cmp (op_eqD hr.units) (od_eqD (shaped_str (by cases r.count <;> decide +kernel)).1 (shs "live")) (vc_fld (vc_pin 0) T.cl T.counting (Rl.look_counting r)) vc_str))
      (fun h => vis (by rw [hs1 h]; rfl) (vc_tup (dc_cons vc_str dc_nil))) (fun h => vis (by rw [hs2 h]; rfl) (vc_tup (dc_cons vc_str (dc_cons vc_str dc_nil))))) ?_) nd)
    have hin : ∀ x : S3, decide (x ∈ sts) = (decide (x = .live) || (r.count && decide (x = .gone))) := fun x => by
      cases hc : r.count with
      | true =>
        rw [show sts = [.live, .gone] from hs2 (by rw [hc]; rfl)]
        cases x <;> decide
      | false =>
        rw [show sts = [.live] from hs1 (by rw [hc]; rfl)]
        cases x <;> decide
    refine wb_cons (ws_ret (.pure (vis (by show PyData.int _ = PyData.int _; simp only [List.length_map]; rfl) (vc_len B.len (VO.dat (vo_filt (own := [("row", 4)]) t.ts tD (fun u => decide (u.1 = n) && (decide (u.2.1 = .live) || (r.count && decide (u.2.1 = .gone)))) tD nd (vi_tup (vc_ixT (ds := [osD t.os, tsD t.ts]) (i := 1) (vc_dat 1) vc_int rfl))
      (fun u hu _ _ _ _ _ => gc_name 4 nd)
      (fun u hu _ _ _ _ _ => WC.tc (wc_and (tc_natE hr.units (vc_ixT (ds := [.int (u.1 : Int), .str u.2.1.str, u.2.2.d]) (i := 0) (vc_dat 4) vc_int rfl) (vc_dat 2)) fun _ => wc_and1 (tis ((any_sts sts u.2.1).trans (hin u.2.1)) (tc_cmp op_in_seq (od_in (ds := sts.map fun a => .str a.str) (neg := false) (Or.inr rfl) rfl (by simp [flatD])) (vc_ixT (ds := [.int (u.1 : Int), .str u.2.1.str, u.2.2.d]) (i := 1) (vc_dat 4) vc_int rfl) (vc_dat 3)))))
      (fun u hu hp _ _ _ _ _ => vc_dat 4) (by omega))) (Or.inl rfl))) ⟨_, .pin (.dat (.dat .nil)), k⟩))
def sp_shown (K : PySem.W.Frag) (C : Addr) : Spec := fun cs R _ => ∃ (r : Rl) (s : Std), cs = [rl K C r, .dat s.d] ∧ s.Ok ∧ ∀ v, R (.own v (olst K ((shown r s).map fun (n : Nat) => .int (n : Int)))) cs
theorem fn_shown (B : Bi mg) (T : RuleC K C) (D : Df K mg "shown" s_shown p_shown) : Fn P w K mg base "shown" 1 (sp_shown K C) := by
  have nd := sc_shown.nd
  refine fnG D sc_shown (fun cs R RX h => ?_) (fun f cdv A outer s H E X eX hr tk hp cs R RX h => ?_)
  · obtain ⟨_, _, rfl, _⟩ := h
    rfl
  · subst eX
    obtain ⟨r, t, rfl, ok, k⟩ := h
    have tl := ok.tl
    let p : Th × Nat → Bool := fun q => decide (q.1.2.1 = .live) && (r.join || decide (oSt t q.1.1 = some .live))
    refine wb_cons (ws_asg (vc_dat 1) (gc_tup rfl (gcs_cons (gc_name 2 nd) (gcs_cons (gc_name 3 nd) gcs_nil))) ?_)
    refine wb_cons (ws_set 4 (VO.eff (vo_lst dc_nil) fun v0 => ?_) nd)
    refine wb_cons (ws_for hp rfl (vi_eq (en_eq t.ts tD) (vi_en B.enumerate (vc_dat 3))) (fun i env => ∃ v a b c d, env = [some (rl K C r), some (.dat t.d), some (.dat (osD t.os)), some (.dat (tsD t.ts)), some (.own v (olst K (((t.ts.zipIdx.take i).filter p).map fun q => .int (q.2 : Int)))), a, b, c, d])
      ⟨v0, none, none, none, none, rfl⟩ ?turn ?fin)
    case turn =>
      rintro i d hd env1 ⟨v, a, b, c, e, rfl⟩
      obtain ⟨q, hq, rfl⟩ := of_map hd
      have hqm := List.mem_of_getElem? hq
      have hut : q.1 ∈ t.ts := by
        obtain ⟨h1, h2⟩ := (List.mem_zipIdx_iff_getElem?.mp hqm) |> fun h => And.intro h h
        exact List.mem_of_getElem? h1
      have hown : q.1.1 < t.os.length := ok.own q.1 hut
      have hg : t.os[q.1.1]? = some t.os[q.1.1] := List.getElem?_eq_getElem hown
      have hst : oSt t q.1.1 = some t.os[q.1.1].2 := by unfold oSt; rw [hg]; rfl
      have htk : t.ts.zipIdx.take (i + 1) = t.ts.zipIdx.take i ++ [q] := by rw [List.take_succ, hq]; rfl
      have hlen : (((t.ts.zipIdx.take i).filter p).map fun q => PyData.int (q.2 : Int)).length < 16777216 := by
        rw [List.length_map]
        have := List.length_filter_le p (t.ts.zipIdx.take i)
        rw [List.length_take, List.length_zipIdx] at this
        omega
      refine ⟨_, _, gc_tup rfl (gcs_cons (gc_name 5 nd) (gcs_cons (gc_tup rfl (gcs_cons (gc_name 6 nd) (gcs_cons (gc_name 7 nd) (gcs_cons (gc_name 8 nd) gcs_nil)))) gcs_nil)), ?_⟩
      refine wb_cons (ws_ifP (b' := p q) (WC.tc (wc_and (tc_stE .live hr.units (vc_dat 7)) fun _ => wc_and1 (WC.tc (wc_or (tis (b := PyData.eqv (.str (bstr r.join "own" "both")) (.str "own")) (by rw [eqv_str]; cases r.join <;> decide +kernel) (tc_cmp (op_eqD hr.units) (od_eqD (shaped_str (by cases r.join <;> decide +kernel)).1 (shs "own")) (vc_fld (vc_pin 0) T.cl T.joining (Rl.look_joining r)) vc_str))
        fun _ => wc_or1 (tis (by rw [hst]; simp) (tc_stE (x := t.os[q.1.1].2) .live hr.units (vc_ixT (ds := [.str t.os[q.1.1].1, .str t.os[q.1.1].2.str]) (i := 1) (vc_ixT (vc_dat 2) (vc_dat 6) (atI_nat (get_oD hg))) vc_int rfl))))))) (fun hq2 => ?_) fun hq2 => ?_)
      · refine wb_cons (ws_app 4 (vc_dat 5) hlen ?_)
        refine wb_nil (wb_nil ?_)
        have e : ((t.ts.zipIdx.take (i + 1)).filter p).map (fun q => PyData.int (q.2 : Int)) = ((t.ts.zipIdx.take i).filter p).map (fun q => PyData.int (q.2 : Int)) ++ [.int (q.2 : Int)] := by
          rw [htk, List.filter_append, List.map_append]
          simp [hq2]
        dsimp only
        rw [e]
        exact ⟨v, _, _, _, _, rfl⟩
      · refine wb_nil (wb_nil ?_)
        have e : ((t.ts.zipIdx.take (i + 1)).filter p).map (fun q => PyData.int (q.2 : Int)) = ((t.ts.zipIdx.take i).filter p).map (fun q => PyData.int (q.2 : Int)) := by
          rw [htk, List.filter_append, List.map_append]
          simp [hq2]
        dsimp only
        rw [e]
        exact ⟨v, _, _, _, _, rfl⟩
    case fin =>
      rintro env1 ⟨v, a, b, c, e, rfl⟩
      rw [List.length_map, List.take_length]
      refine wb_cons (ws_ret (ec_name_own 4 rfl ⟨_, .pin (.dat .nil), ?_⟩))
      have := k v
      unfold shown at this
      rw [List.map_map] at this
      exact this
end
end Pg


set_option maxRecDepth 100000
set_option maxHeartbeats 4000000
namespace M
open PySem G
def liveKeys (s : Std) : List Str := (s.os.filter fun o => decide (o.2 = .live)).map (·.1)
def fDoubled (s : Std) : Bool := decide ((dset (liveKeys s)).length < (liveKeys s).length)
def fHanging (s : Std) : Bool := s.ts.any fun t => decide (t.2.1 = .live) && !decide (oSt s t.1 = some .live)
def fShown (r : Rl) (s : Std) : Bool := (shown r s).any fun n => !decide (oSt s (ownAt s n) = some .live)
def manyLive (s : Std) (n : Nat) : Nat := (s.ts.filter fun t => decide (t.1 = n) && decide (t.2.1 = .live)).length
def wrongAt (r : Rl) (s : Std) (p : Ow × Nat) : Bool := decide (p.1.2 = .live) && !decide (counted r s p.2 = manyLive s p.2)
def fCounted (r : Rl) (s : Std) : Bool := s.os.zipIdx.any (wrongAt r s)
def addIf (b : Bool) (x : Str) (xs : List Str) : List Str := if b then xs ++ [x] else xs
def sf3 (r : Rl) (s : Std) : List Str := addIf (fShown r s) "shown" (addIf (fHanging s) "hanging" (addIf (fDoubled s) "doubled" []))
def sfL (r : Rl) (s : Std) : List Str := addIf (fCounted r s) "counted" (sf3 r s)
theorem mem_addIf {b : Bool} {x y : Str} {xs : List Str} (h : x ∈ addIf b y xs) : x = y ∨ x ∈ xs := by
  unfold addIf at h
  cases b with
  | true =>
    rcases List.mem_append.mp h with h | h
    · exact .inr h
    · exact .inl (List.mem_singleton.mp h)
  | false => exact .inr h
theorem sf3_in (r : Rl) (s : Std) : ∀ x ∈ sf3 r s, x = "doubled" ∨ x = "hanging" ∨ x = "shown" := by
  intro x hx
  rcases mem_addIf hx with h | h
  · exact .inr (.inr h)
  · rcases mem_addIf h with h | h
    · exact .inr (.inl h)
    · rcases mem_addIf h with h | h
      · exact .inl h
      · cases h
theorem sf3_no (r : Rl) (s : Std) : ("counted" : Str) ∉ sf3 r s := by
  intro h
  rcases sf3_in r s _ h with e | e | e <;> exact absurd e (by decide +kernel)
theorem sf3_len (r : Rl) (s : Std) : (sf3 r s).length ≤ 3 := by
  unfold sf3 addIf
  cases fShown r s <;> cases fHanging s <;> cases fDoubled s <;> simp
theorem shown_lt {r : Rl} {s : Std} {n : Nat} (h : n ∈ shown r s) : ∃ t, s.ts[n]? = some t := by
  unfold shown at h
  obtain ⟨p, hp, rfl⟩ := List.mem_map.mp h
  exact ⟨p.1, List.mem_zipIdx_iff_getElem?.mp (List.mem_filter.mp hp).1⟩
end M
namespace Pg
open PySem L2 G M
theorem any_strs (xs : List Str) (x : Str) : ((xs.map PyData.str).any fun z => PyData.eqv z (.str x)) = decide (x ∈ xs) := by
  rw [List.any_map, Bool.eq_iff_iff]
  simp only [List.any_eq_true, Function.comp, eqv_str, decide_eq_true_eq]
  constructor
  · rintro ⟨y, hy, rfl⟩; exact hy
  · intro h; exact ⟨x, h, rfl⟩
section
variable {X : Cx} {W : WX} {env : En} {D : DE} {c : Expr} {pos : Pos}
/-- if c: xs.append('x') -/
theorem wb_addIf (i : Nat) {v : L2.V} {xs : List Str} {x : Str} {b : Bool} {st : Stmt} {rest : List Stmt} (h : TC X c env b) (ha : ∀ D', D'.nx (env.set i (some (.own v (olst X.K (xs.map .str ++ [.str x]))))) → WS X W st D' env)
    (hi : env[i]? = some (some (.own v (olst X.K (xs.map .str))))) (k : WB X W rest D (env.set i (some (.own v (olst X.K ((addIf b x xs).map .str)))))) : WB X W (.If c [st] [] pos :: rest) D env := by
  refine wb_cons (ws_ifP h (fun hb => ?_) fun hb => wb_nil ?_)
  · subst hb
    refine wb_cons (ha _ (wb_nil ?_))
    have e : (addIf true x xs).map PyData.str = xs.map .str ++ [.str x] := by simp [addIf]
    rw [e] at k
    exact k
  · subst hb
    have e : env.set i (some (.own v (olst X.K (xs.map .str)))) = env := by
      apply List.ext_getElem?
      intro j
      by_cases hj : i = j
      · subst hj
        rw [List.getElem?_set_self (List.getElem?_eq_some_iff.mp hi).1, hi]
      · rw [List.getElem?_set_ne hj]
    have k' : WB X W rest D (env.set i (some (.own v (olst X.K (xs.map .str))))) := k
    rw [e] at k'
    exact k'
end
section
variable {P : Program} {w : World} {K : PySem.W.Frag} {mg : Str → Option Value} {base : Heap} {C : Addr}
def sp_sfaults (K : PySem.W.Frag) (C : Addr) : Spec := fun cs R _ => ∃ (r : Rl) (s : Std), cs = [rl K C r, .dat s.d] ∧ s.Ok ∧ ∀ v, R (.own v (olst K ((sfL r s).map .str))) cs
theorem fn_sfaults (B : Bi mg) (T : RuleC K C) (D : Df K mg "standing_faults" s_standing_faults p_standing_faults) (FC : Fn P w K mg base "counted" 1 (sp_counted K C)) (FS : Fn P w K mg base "shown" 1 (sp_shown K C)) : Fn P w K mg base "standing_faults" 2 (sp_sfaults K C) := by
  have nd := sc_standing_faults.nd
  refine fnG D sc_standing_faults (fun cs R RX h => ?_) (fun f cdv A outer s H E X eX hr tk hp cs R RX h => ?_)
  · obtain ⟨_, _, rfl, _⟩ := h
    rfl
  · subst eX
    obtain ⟨r, t, rfl, ok, k⟩ := h
    have ol := ok.ol
    have tl := ok.tl
    have str_snoc : ∀ (xs : List Str) (x : Str), (xs ++ [x]).map PyData.str = xs.map .str ++ [.str x] := fun xs x => by simp
    have sm : ∀ b x xs, (addIf b x xs).length ≤ xs.length + 1 := fun b x xs => by unfold addIf; cases b <;> simp
    refine wb_cons (ws_asg (vc_dat 1) (gc_tup rfl (gcs_cons (gc_name 2 nd) (gcs_cons (gc_name 3 nd) gcs_nil))) ?_)
    refine wb_cons (ws_set 4 (VO.eff (vo_lst dc_nil) fun v0 => ?_) nd)
    refine wb_cons (ws_filt (own := [("key", 5), ("state", 6)]) 7 t.os oD (fun o => decide (o.2 = .live)) (fun o => .str o.1) nd (vi_tup (vc_dat 2)) (fun o ho _ _ _ _ _ => gc_tup rfl (gcs_cons (gc_name 5 nd) (gcs_cons (gc_name 6 nd) gcs_nil)))
      (fun o ho _ _ _ _ _ => tc_stE .live hr.units (vc_dat 6)) (fun o ho _ _ _ _ _ _ => vc_dat 5) (by omega) fun v1 => ?_)
    refine wb_frz 7 frz_olst rfl ?_
    have ek : (t.os.filter fun o => decide (o.2 = S3.live)).map (fun o => PyData.str o.1) = (liveKeys t).map .str := by unfold liveKeys; rw [List.map_map]; rfl
    have kl : (liveKeys t).length ≤ 1000 := by
      unfold liveKeys
      rw [List.length_map]
      exact Nat.le_trans (List.length_filter_le _ _) ol
    rw [ek]
    refine wb_addIf (v := v0) (xs := []) (x := "doubled") 4 (b := fDoubled t) (tis (by unfold fDoubled; simp only [List.length_map, Int.ofNat_lt]) (tc_cmp op_lt od_lt (vc_lenDc (own := [("key", 5)]) (liveKeys t) (vd := .bool true) nd B.len (vi_list (vc_dat 7)) (fun x hx _ _ _ _ _ => gc_name 5 nd) (fun x hx _ _ _ _ _ => vc_dat 5) (fun x hx _ _ _ _ _ => vc_bl) kl) (vc_len (ds := (liveKeys t).map .str) B.len (vc_dat 7) (Or.inl rfl)))) (fun D' k => ws_app 4 (v := v0) (ds := []) (d := .str "doubled") vc_str (by simp) k) rfl ?_
    refine wb_addIf (v := v0) (xs := addIf (fDoubled t) "doubled" []) (x := "hanging") 4 (b := fHanging t) (tc_val (vis (bool_d (by rw [List.any_map]; rfl)) (vc_any (bs := t.ts.map fun u => decide (u.2.1 = .live) && !decide (oSt t u.1 = some .live)) rfl B.any (vis (by rw [List.map_map]; rfl) (VO.dat (vo_map (own := [("owner", 10), ("state", 6), ("took", 11)]) t.ts tD (fun u => .bool (decide (u.2.1 = .live) && !decide (oSt t u.1 = some .live))) nd (vi_tup (vc_dat 3))
      (fun u hu _ _ _ _ _ => gc_tup rfl (gcs_cons (gc_name 10 nd) (gcs_cons (gc_name 6 nd) (gcs_cons (gc_name 11 nd) gcs_nil)))) (fun u hu _ _ _ _ _ => ?eh) (by omega))))))) (fun D' k => ws_app 4 (v := v0) (ds := (addIf (fDoubled t) "doubled" []).map .str) (d := .str "hanging") vc_str (by have := sm (fDoubled t) "doubled" []; simp at this ⊢; omega) k) rfl ?_
    case eh =>
      have hown : u.1 < t.os.length := ok.own u hu
      have hg : t.os[u.1]? = some t.os[u.1] := List.getElem?_eq_getElem hown
      have hst : oSt t u.1 = some t.os[u.1].2 := by unfold oSt; rw [hg]; rfl
      exact vc_andB (vc_stE .live hr.units (vc_dat 6)) fun _ => vc_one (vis (bool_d (by rw [hst]; simp)) (vc_stN (x := t.os[u.1].2) .live hr.units (vc_ixT (ds := [.str t.os[u.1].1, .str t.os[u.1].2.str]) (i := 1) (vc_ixT (vc_dat 2) (vc_dat 10) (atI_nat (get_oD hg))) vc_int rfl)))
    refine wb_addIf (v := v0) (xs := addIf (fHanging t) "hanging" (addIf (fDoubled t) "doubled" [])) (x := "shown") 4 (b := fShown r t) (tc_val (vis (bool_d (by rw [List.any_map]; rfl)) (vc_any (bs := (shown r t).map fun n => !decide (oSt t (ownAt t n) = some .live)) rfl B.any (vis (by rw [List.map_map]; rfl) (VO.dat (vo_map (own := [("number", 8)]) (shown r t) (fun (n : Nat) => .int (n : Int)) (fun n => .bool (!decide (oSt t (ownAt t n) = some .live))) nd (vi_list (VO.dat (vo_call FS hr (ac_pin (vc_pin 0) (ac_cons (vc_dat 1) ac_nil)) ⟨r, t, rfl, ok, fun v => ⟨v, rfl⟩⟩)))
      (fun n hn _ _ _ _ _ => gc_name 8 nd) (fun n hn _ _ _ _ _ => ?es) ?ez)))))) (fun D' k => ws_app 4 (v := v0) (ds := (addIf (fHanging t) "hanging" (addIf (fDoubled t) "doubled" [])).map .str) (d := .str "shown") vc_str (by have h1 := sm (fDoubled t) "doubled" []; have h2 := sm (fHanging t) "hanging" (addIf (fDoubled t) "doubled" []); simp at h1 h2 ⊢; omega) k) rfl ?_
    case es =>
      obtain ⟨u, hu⟩ := shown_lt hn
      have hum := List.mem_of_getElem? hu
      have hown : u.1 < t.os.length := ok.own u hum
      have hg : t.os[u.1]? = some t.os[u.1] := List.getElem?_eq_getElem hown
      have hst : oSt t u.1 = some t.os[u.1].2 := by unfold oSt; rw [hg]; rfl
      have how : ownAt t n = u.1 := by unfold ownAt; rw [List.getD_eq_getElem?_getD, hu]; rfl
      exact vis (bool_d (by rw [how, hst]; simp)) (vc_stN (x := t.os[u.1].2) .live hr.units (vc_ixT (ds := [.str t.os[u.1].1, .str t.os[u.1].2.str]) (i := 1) (vc_ixT (vc_dat 2) (vc_ixT (i := 0) (vc_ixT (vc_dat 3) (vc_dat 8) (atI_nat (get_tD hu))) vc_int rfl) (atI_nat (get_oD hg))) vc_int rfl))
    case ez =>
      unfold shown
      rw [List.length_map]
      have := List.length_filter_le (fun p : Th × Nat => decide (p.1.2.1 = S3.live) && (r.join || decide (oSt t p.1.1 = some S3.live))) t.ts.zipIdx
      rw [List.length_zipIdx] at this
      omega
    have n3 := sf3_len r t
    refine wb_cons (ws_for hp rfl (vi_eq (en_eq t.os oD) (vi_en B.enumerate (vc_dat 2))) (fun i env => ∃ a b c d, env = [some (rl K C r), some (.dat t.d), some (.dat (osD t.os)), some (.dat (tsD t.ts)), some (.own v0 (olst K ((addIf ((t.os.zipIdx.take i).any (wrongAt r t)) "counted" (sf3 r t)).map .str))), a, b, some (.dat (.list ((liveKeys t).map .str))), c, d, none, none, none])
      ⟨none, none, none, none, rfl⟩ ?turn ?fin)
    case turn =>
      rintro i d hd env1 ⟨a, b, c, e, rfl⟩
      obtain ⟨q, hq, rfl⟩ := of_map hd
      have htk : t.os.zipIdx.take (i + 1) = t.os.zipIdx.take i ++ [q] := by rw [List.take_succ, hq]; rfl
      have hany : (t.os.zipIdx.take (i + 1)).any (wrongAt r t) = ((t.os.zipIdx.take i).any (wrongAt r t) || wrongAt r t q) := by rw [htk, List.any_append]; simp
      generalize (t.os.zipIdx.take i).any (wrongAt r t) = c0 at hany
      refine ⟨_, _, gc_tup rfl (gcs_cons (gc_name 8 nd) (gcs_cons (gc_tup rfl (gcs_cons (gc_name 5 nd) (gcs_cons (gc_name 6 nd) gcs_nil))) gcs_nil)), ?_⟩
      refine wb_cons (ws_set 9 (.pure (vis (d := .int ((manyLive t q.2 : Nat) : Int)) (by rfl) (vis (by unfold manyLive; simp) (vc_len B.len (VO.dat (vo_filt (own := [("row", 12)]) t.ts tD (fun u => decide (u.1 = q.2) && decide (u.2.1 = .live)) tD nd (vi_tup (vc_dat 3)) (fun u hu _ _ _ _ _ => gc_name 12 nd)
        (fun u hu _ _ _ _ _ => tis (row2_eqv u q.2 .live) (tc_cmp (op_eqD hr.units) (od_eqD (sh2 shaped_int (shaped_str (S3.ok u.2.1))) (sh2 shaped_int (shaped_str (S3.ok .live)))) (vc_row2 u (vc_dat 12)) (vc_tup (dc_cons (vc_dat 8) (dc_cons vc_str dc_nil)))))
        (fun u hu hp _ _ _ _ _ => vc_dat 12) (by omega))) (Or.inl rfl)))) ?_) nd)
      refine wb_cons (ws_ifP (b' := (decide (q.1.2 = .live) && (!decide (counted r t q.2 = manyLive t q.2) && !c0))) (WC.tc (wc_and (tc_stE .live hr.units (vc_dat 6)) fun _ => wc_and (tis (by rw [eqv_nat]) (tc_cmp (op_neD hr.units) (od_neD shaped_int.1 shaped_int.1) (vc_call FC hr (ac_pin (vc_pin 0) (ac_cons (vc_dat 1) (ac_cons (vc_dat 8) ac_nil))) ⟨r, t, q.2, rfl, ok, rfl⟩) (vc_dat 9)))
        fun _ => wc_and1 (tc_lend 4 frz_olst (tis ?ein (tc_cmp op_notIn_seq (od_in (d := .str "counted") (ds := (addIf c0 "counted" (sf3 r t)).map .str) (neg := true) (Or.inl rfl) rfl (by simp [flatD])) vc_str (vc_dat 4)))))) (fun hb => ?_) fun hb => ?_)
      case ein =>
        show (!(((addIf c0 "counted" (sf3 r t)).map PyData.str).any fun z => PyData.eqv z (.str "counted"))) = !c0
        rw [any_strs]
        have := sf3_no r t
        unfold addIf
        cases c0 <;> simp [this]
      · have h1 : c0 = false ∧ wrongAt r t q = true := by
          unfold wrongAt
          cases c0 <;> simp_all
        obtain ⟨h1, h2⟩ := h1
        subst h1
        refine wb_cons (ws_app 4 (v := v0) (ds := (sf3 r t).map .str) (d := .str "counted") vc_str (by rw [List.length_map]; omega) ?_)
        refine wb_nil (wb_nil ?_)
        rw [hany]
        rw [h2, ← str_snoc]
        exact ⟨_, _, _, _, rfl⟩
      · have h1 : (c0 || wrongAt r t q) = c0 := by
          unfold wrongAt
          cases c0
          · simp at hb ⊢
            exact hb
          · simp
        refine wb_nil (wb_nil ?_)
        rw [hany, h1]
        exact ⟨_, _, _, _, rfl⟩
    case fin =>
      rintro env1 ⟨a, b, c, e, rfl⟩
      rw [List.length_map, List.take_length]
      exact wb_cons (ws_ret (ec_name_own 4 rfl ⟨_, .pin (.dat .nil), k v0⟩))
end
end Pg


set_option maxRecDepth 100000
set_option maxHeartbeats 4000000
/-! standings stay standings -/
namespace M
open PySem
structure Std.OkN (s : Std) (n : Nat) : Prop where
  key : ∀ o ∈ s.os, PyData.strOk o.1 = true
  own : ∀ t ∈ s.ts, t.1 < s.os.length
  ol : s.os.length ≤ n
  tl : s.ts.length ≤ n
theorem Std.OkN.ok {s : Std} {n : Nat} (h : s.OkN n) (hn : n ≤ 1000) : s.Ok := ⟨h.key, h.own, Nat.le_trans h.ol hn, Nat.le_trans h.tl hn⟩
theorem Std.OkN.mono {s : Std} {n m : Nat} (h : s.OkN n) (hn : n ≤ m) : s.OkN m := ⟨h.key, h.own, Nat.le_trans h.ol hn, Nat.le_trans h.tl hn⟩
def empty : Std := ⟨[], []⟩
theorem empty_ok : empty.OkN 0 := ⟨fun _ h => (by cases h), fun _ h => (by cases h), Nat.le_refl _, Nat.le_refl _⟩
def Deed.keyOk : Deed → Prop
  | .own k => PyData.strOk k = true
  | _ => True
theorem keyAt_ok {s : Std} {n m : Nat} (h : s.OkN m) (hn : n < s.os.length) : PyData.strOk (keyAt s n) = true := by
  unfold keyAt
  rw [List.getD_eq_getElem?_getD, List.getElem?_eq_getElem hn]
  exact h.key _ (List.getElem_mem hn)
theorem oSt_lt {s : Std} {n : Nat} {x : S3} (h : oSt s n = some x) : n < s.os.length := by
  unfold oSt at h
  cases e : s.os[n]? with
  | none => rw [e] at h; cases h
  | some o => exact (List.getElem?_eq_some_iff.mp e).1
theorem tSt_lt {s : Std} {n : Nat} {x : S3} (h : tSt s n = some x) : n < s.ts.length := by
  unfold tSt at h
  cases e : s.ts[n]? with
  | none => rw [e] at h; cases h
  | some o => exact (List.getElem?_eq_some_iff.mp e).1
theorem ownAt_lt {s : Std} {n m : Nat} (h : s.OkN m) (hn : n < s.ts.length) : ownAt s n < s.os.length := by
  unfold ownAt
  rw [List.getD_eq_getElem?_getD, List.getElem?_eq_getElem hn]
  exact h.own _ (List.getElem_mem hn)
theorem mayHave_lt {r : Rl} {os : List Ow} {n : Nat} (h : mayHave r os n = true) : n < os.length := by
  unfold mayHave at h
  cases e : os[n]? with
  | none => rw [e] at h; simp at h
  | some o => exact (List.getElem?_eq_some_iff.mp e).1
theorem ok_setO {s : Std} {m n : Nat} (h : s.OkN m) {ts' : List Th} {k : Str} {x : S3} (hk : PyData.strOk k = true) (ht : ∀ t ∈ ts', t.1 < s.os.length) (hl : ts'.length ≤ m) : (⟨s.os.set n (k, x), ts'⟩ : Std).OkN m :=
  ⟨fun o ho => by
    rcases List.mem_or_eq_of_mem_set ho with h1 | h1
    · exact h.key o h1
    · rw [h1]; exact hk, fun t h1 => by rw [List.length_set]; exact ht t h1, by rw [List.length_set]; exact h.ol, hl⟩
theorem ok_setT {s : Std} {m n : Nat} (h : s.OkN m) {t : Th} (ht : t.1 < s.os.length) : (⟨s.os, s.ts.set n t⟩ : Std).OkN m :=
  ⟨h.key, fun u hu => by
    rcases List.mem_or_eq_of_mem_set hu with h1 | h1
    · exact h.own u h1
    · rw [h1]; exact ht, h.ol, by rw [List.length_set]; exact h.tl⟩
theorem behind_ok {r : Rl} {s s' : Std} {d : Deed} {m : Nat} (h : s.OkN m) (hd : d.keyOk) (e : behind r s d = some s') : s'.OkN (m + 1) := by
  cases d with
  | own k =>
    simp only [behind] at e
    split at e
    · cases e
      exact ⟨fun o ho => by
        rcases List.mem_append.mp ho with h1 | h1
        · exact h.key o h1
        · rw [List.mem_singleton.mp h1]; exact hd, fun t ht => by have := h.own t ht; simp; omega, by have := h.ol; simp; omega, Nat.le_succ_of_le h.tl⟩
    · cases e
  | put o =>
    simp only [behind] at e
    split at e
    · rename_i hm
      cases e
      have hlt := mayHave_lt hm
      exact ⟨h.key, fun t ht => by
        rcases List.mem_append.mp ht with h1 | h1
        · exact h.own t h1
        · rw [List.mem_singleton.mp h1]; exact hlt, Nat.le_succ_of_le h.ol, by have := h.tl; simp; omega⟩
    · cases e
  | move t o =>
    simp only [behind] at e
    split at e
    · cases e
    · rename_i hm
      cases e
      have h1 : mayHave r s.os o = true := by
        cases q : mayHave r s.os o with
        | true => rfl
        | false => exact absurd (.inr (.inr q)) hm
      exact (ok_setT h (mayHave_lt h1)).mono (Nat.le_succ _)
  | mark o =>
    simp only [behind, marked] at e
    split at e
    · cases e
    · rename_i h1
      have h1 : oSt s o = some .live := Classical.byContradiction h1
      split at e
      · cases e
      · cases e
        refine (ok_setO h (keyAt_ok h (oSt_lt h1)) (fun t ht => ?_) ?_).mono (Nat.le_succ _)
        · split at ht
          · obtain ⟨u, hu, rfl⟩ := List.mem_map.mp ht
            split
            · exact oSt_lt h1
            · exact h.own u hu
          · exact h.own t ht
        · split
          · rw [List.length_map]; exact h.tl
          · exact h.tl
  | take t =>
    simp only [behind] at e
    split at e
    · cases e
    · rename_i h1
      have h1 : tSt s t = some .live := Classical.byContradiction h1
      cases e
      exact (ok_setT (n := t) (t := (ownAt s t, S3.gone, Tk.self)) h (ownAt_lt h (tSt_lt h1))).mono (Nat.le_succ _)
  | fetch o =>
    simp only [behind, fetched] at e
    split at e
    · cases e
    · rename_i h1
      have h1 : oSt s o = some .gone := Classical.byContradiction fun z => h1 (.inl z)
      cases e
      refine (ok_setO h (keyAt_ok h (oSt_lt h1)) (fun t ht => ?_) ?_).mono (Nat.le_succ _)
      · obtain ⟨u, hu, rfl⟩ := List.mem_map.mp ht
        split
        · exact h.own u hu
        · exact h.own u hu
      · rw [List.length_map]; exact h.tl
  | raise t =>
    simp only [behind, raised] at e
    split at e
    · cases e
    · rename_i h1
      have h1 : tSt s t = some .gone := Classical.byContradiction h1
      split at e
      · cases e
      · cases e
        exact (ok_setT (n := t) (t := (ownAt s t, S3.live, Tk.non)) h (ownAt_lt h (tSt_lt h1))).mono (Nat.le_succ _)
  | clear =>
    have e : some (cleared r s) = some s' := e
    cases e
    unfold cleared
    refine Std.OkN.mono (n := m) ⟨fun o ho => ?_, fun t ht => ?_, ?_, ?_⟩ (Nat.le_succ _)
    · obtain ⟨p, hp, rfl⟩ := List.mem_map.mp ho
      have hm : p.1 ∈ s.os := List.mem_of_getElem? (List.mem_zipIdx_iff_getElem?.mp hp)
      split
      · exact h.key p.1 hm
      · exact h.key p.1 hm
    · have key : ∀ t ∈ (s.ts.map fun t => if t.2.1 = .gone then (t.1, S3.cleared, Tk.non) else t), t.1 < s.os.length := fun t ht => by
        obtain ⟨u, hu, rfl⟩ := List.mem_map.mp ht
        split
        · exact h.own u hu
        · exact h.own u hu
      simp only [List.length_map, List.length_zipIdx]
      dsimp only at ht
      split at ht
      · obtain ⟨u, hu, rfl⟩ := List.mem_map.mp ht
        split
        · exact key u hu
        · exact key u hu
      · exact key t ht
    · simp only [List.length_map, List.length_zipIdx]
      exact h.ol
    · dsimp only
      split
      · simp only [List.length_map]; exact h.tl
      · simp only [List.length_map]; exact h.tl
theorem step_ok {r : Rl} {s : Std} {d : Deed} {m : Nat} (h : s.OkN m) (hd : d.keyOk) : (step r s d).2.OkN (m + 1) := by
  unfold step
  cases e : behind r s d with
  | none => exact h.mono (Nat.le_succ _)
  | some s' => exact behind_ok h hd e
def runs (r : Rl) (s : Std) (ds : List Deed) : Std := ds.foldl (fun s d => (step r s d).2) s
theorem runs_ok {r : Rl} : ∀ (ds : List Deed) {s : Std} {m : Nat}, s.OkN m → (∀ d ∈ ds, d.keyOk) → (runs r s ds).OkN (m + ds.length)
  | [], s, m, h, _ => h
  | d :: ds, s, m, h, hd => by
    have := runs_ok (r := r) ds (step_ok (r := r) h (hd d List.mem_cons_self)) fun d' h' => hd d' (List.mem_cons_of_mem _ h')
    rw [List.length_cons]
    exact this.mono (by omega)
end M


set_option maxRecDepth 100000
set_option maxHeartbeats 4000000
namespace M
open PySem
def hist (r : Rl) (ds : List Deed) : Std × List Str := ds.foldl (fun p d => ((step r p.1 d).2, p.2 ++ [wordD (step r p.1 d).1])) (empty, [])
theorem hist_snoc (r : Rl) (ds : List Deed) (d : Deed) : hist r (ds ++ [d]) = ((step r (hist r ds).1 d).2, (hist r ds).2 ++ [wordD (step r (hist r ds).1 d).1]) := by
  unfold hist
  rw [List.foldl_append]
  rfl
theorem hist_take {r : Rl} {ds : List Deed} {i : Nat} {d : Deed} (h : ds[i]? = some d) : hist r (ds.take (i + 1)) = ((step r (hist r (ds.take i)).1 d).2, (hist r (ds.take i)).2 ++ [wordD (step r (hist r (ds.take i)).1 d).1]) := by
  rw [show ds.take (i + 1) = ds.take i ++ [d] by rw [List.take_succ, h]; rfl, hist_snoc]
theorem hist_ok {r : Rl} : ∀ (n : Nat) (ds : List Deed), (∀ d ∈ ds, d.keyOk) → n ≤ ds.length → (hist r (ds.take n)).1.OkN n ∧ (hist r (ds.take n)).2.length = n
  | 0, ds, _, _ => ⟨empty_ok, rfl⟩
  | n + 1, ds, h, hn => by
    have hlt : n < ds.length := by omega
    obtain ⟨h1, h2⟩ := hist_ok (r := r) n ds h (by omega)
    rw [hist_take (List.getElem?_eq_getElem hlt)]
    exact ⟨step_ok h1 (h _ (List.getElem_mem hlt)), by simp [h2]⟩
end M
namespace Pg
open PySem L2 G M
section
variable {P : Program} {w : World} {K : PySem.W.Frag} {mg : Str → Option Value} {base : Heap} {C : Addr}
theorem keyOk_deedOk {d : Deed} (h : d.keyOk) : DeedOk d := by cases d <;> exact h
def emptyD : PyData := .tuple [.tuple [], .tuple []]
def sp_run (K : PySem.W.Frag) (C : Addr) : Spec := fun cs R _ => ∃ (r : Rl) (ds : List Deed), cs = [rl K C r, .dat (.list (ds.map Deed.d))] ∧ ds.length ≤ 1000 ∧ (∀ d ∈ ds, d.keyOk) ∧ ∀ v, R (.own v (olst K ((hist r ds).2.map .str))) cs
def sp_after (K : PySem.W.Frag) (C : Addr) : Spec := fun cs R _ => ∃ (r : Rl) (ds : List Deed), cs = [rl K C r, .dat (.tuple (ds.map Deed.d))] ∧ ds.length ≤ 1000 ∧ (∀ d ∈ ds, d.keyOk) ∧ R (.dat (hist r ds).1.d) cs
end
end Pg


set_option maxRecDepth 100000
set_option maxHeartbeats 4000000
namespace M
open PySem G
def fTaken (s : Std) (b : Bool) : Deed → Bool
  | .own k => !b && !hasLive s.os k
  | _ => false
def fRaised (s s' : Std) (b : Bool) : Deed → Bool
  | .fetch _ => b && (s.ts.zip s'.ts).any fun p => decide (p.1.2.2 = .self) && decide (p.2.2.1 = .live)
  | _ => false
def fLeft (s' : Std) (b : Bool) : Deed → Bool
  | .fetch n => b && s'.ts.any fun t => decide (t = (n, S3.gone, Tk.num n))
  | _ => false
def fLost (s s' : Std) : Deed → Bool
  | .clear => (s.ts.zip s'.ts).any fun p => decide (p.1.2.1 = .live) && decide (p.2.2.1 = .cleared)
  | _ => false
def dfL (s s' : Std) (b : Bool) (d : Deed) : List Str := addIf (fLost s s' d) "lost" (addIf (fLeft s' b d) "left" (addIf (fRaised s s' b d) "raised" (addIf (fTaken s b d) "taken" [])))
end M
namespace Pg
open PySem L2 G M
def Deed.body : Deed → List PyData
  | .own k => [.str "own", .str k]
  | .put o => [.str "put", .int (o : Int)]
  | .move t o => [.str "move", .int (t : Int), .int (o : Int)]
  | .mark o => [.str "mark", .int (o : Int)]
  | .take t => [.str "take", .int (t : Int)]
  | .fetch o => [.str "fetch", .int (o : Int)]
  | .raise t => [.str "raise", .int (t : Int)]
  | .clear => [.str "clear"]
theorem deed_body (d : Deed) : d.d = .tuple (Deed.body d) := by cases d <;> rfl
theorem deed_head (d : Deed) : atI (Deed.body d) 0 = some (.str (Deed.word d)) := by cases d <;> rfl
section
variable {P : Program} {w : World} {K : PySem.W.Frag} {mg : Str → Option Value} {base : Heap} {C : Addr}
theorem zip_map2 {α β : Type} (xs : List α) (ys : List β) (f : α → PyData) (g : β → PyData) : ((xs.map f).zip (ys.map g)).map (fun x => PyData.tuple [x.1, x.2]) = (xs.zip ys).map fun p => .tuple [f p.1, g p.2] := by
  rw [List.zip_map, List.map_map]
  rfl
theorem word_ok (d : Deed) : PyData.strOk (Deed.word d) = true := by
  have : ∀ x ∈ (["own", "put", "move", "mark", "take", "fetch", "raise", "clear"] : List Str), PyData.strOk x = true := by decide +kernel
  cases d <;> exact this _ (by simp [Deed.word])
theorem Tk.eqv_self (a : Tk) : PyData.eqv a.d (.str "self") = decide (a = .self) := by
  cases a with
  | non => rfl
  | self => decide +kernel
  | num n => rfl
theorem row3_eqv (u : Th) (n : Nat) : PyData.eqv (tD u) (.tuple [.int (n : Int), .str S3.gone.str, .int (n : Int)]) = decide (u = (n, S3.gone, Tk.num n)) := by
  unfold tD
  rw [eqv_tup3, eqv_nat, S3.eqv, Tk.eqv_num, Bool.eq_iff_iff]
  obtain ⟨a, x, y⟩ := u
  simp
theorem wordD_ok (b : Bool) : PyData.strOk (wordD b) = true := by cases b <;> decide +kernel
def sp_dfaults (K : PySem.W.Frag) : Spec := fun cs R _ => ∃ (s s' : Std) (d : Deed) (b : Bool), cs = [.dat s.d, .dat d.d, .dat (.str (wordD b)), .dat s'.d] ∧ s.Ok ∧ s'.Ok ∧ d.keyOk ∧ ∀ v, R (.own v (olst K ((dfL s s' b d).map .str))) cs
theorem fn_dfaults (B : Bi mg) {tself : Value} (hself : mg "SELF" = some tself) (rself : RelV (.str "self") tself) (D : Df K mg "deed_faults" s_deed_faults p_deed_faults) (HL : Fn P w K mg base "has_live" 1 sp_has_live) : Fn P w K mg base "deed_faults" 2 (sp_dfaults K) := by
  have nd := sc_deed_faults.nd
  refine fnG D sc_deed_faults (fun cs R RX h => ?_) (fun f cdv A outer s H E X eX hr tk hp cs R RX h => ?_)
  · obtain ⟨_, _, _, _, rfl, _⟩ := h
    rfl
  · subst eX
    obtain ⟨t, t', d, b, rfl, ok, ok', hk, k⟩ := h
    refine wb_cons (ws_set 4 (VO.eff (vo_lst dc_nil) fun v0 => ?_) nd)
    have tl := ok.tl
    have tl' := ok'.tl
    have sm : ∀ b x xs, (addIf b x xs).length ≤ xs.length + 1 := fun b x xs => by unfold addIf; cases b <;> simp
    have hd0 : d.d = .tuple (Deed.body d) := deed_body d
    refine wb_addIf (v := v0) (xs := []) (x := "taken") 4 (b := fTaken t b d) ?c1 (fun D' k => ws_app 4 (v := v0) (ds := []) (d := .str "taken") vc_str (by simp) k) rfl ?_
    case c1 =>
      have hw : ∀ {X : Cx} {env : En} {l : Expr}, X.A.units + 64 < cLine → VC X l env (.dat (.str (wordD b))) → ∀ {j : Nat} {cp pos : Pos}, TC X (.Compare l [.Eq] [.Constant (.str "refused") j cp] pos) env (!b) := fun hu h => tc_lit hu h (by cases b <;> decide +kernel) (wordD_ok b)
      cases d with
      | own key =>
        exact tis (b := true && (!b && !hasLive t.os key)) rfl (WC.tc (wc_and (tc_lit hr.units (vc_ixT (ds := [.str "own", .str key]) (i := 0) (vc_dat 1) vc_int rfl)) fun _ => wc_and (hw hr.units (vc_dat 2)) fun _ => wc_and1 (tc_not (tc_val (vc_call HL hr (ac_cons (vc_ixT (ds := [osD t.os, tsD t.ts]) (i := 0) (vc_dat 0) vc_int rfl) (ac_cons (vc_ixT (ds := [.str "own", .str key]) (i := 1) (vc_dat 1) vc_int rfl) ac_nil)) ⟨t.os, key, rfl, ok.key, hk, ok.ol, rfl⟩)))))
      | put o => exact WC.tc (wc_and (b1 := false) (b2 := false) (tc_lit hr.units (vc_ixT (ds := Deed.body (.put o)) (i := 0) (vc_dat 1) vc_int rfl)) fun z => Bool.noConfusion z)
      | move a o => exact WC.tc (wc_and (b1 := false) (b2 := false) (tc_lit hr.units (vc_ixT (ds := Deed.body (.move a o)) (i := 0) (vc_dat 1) vc_int rfl)) fun z => Bool.noConfusion z)
      | mark o => exact WC.tc (wc_and (b1 := false) (b2 := false) (tc_lit hr.units (vc_ixT (ds := Deed.body (.mark o)) (i := 0) (vc_dat 1) vc_int rfl)) fun z => Bool.noConfusion z)
      | take o => exact WC.tc (wc_and (b1 := false) (b2 := false) (tc_lit hr.units (vc_ixT (ds := Deed.body (.take o)) (i := 0) (vc_dat 1) vc_int rfl)) fun z => Bool.noConfusion z)
      | fetch o => exact WC.tc (wc_and (b1 := false) (b2 := false) (tc_lit hr.units (vc_ixT (ds := Deed.body (.fetch o)) (i := 0) (vc_dat 1) vc_int rfl)) fun z => Bool.noConfusion z)
      | raise o => exact WC.tc (wc_and (b1 := false) (b2 := false) (tc_lit hr.units (vc_ixT (ds := Deed.body (.raise o)) (i := 0) (vc_dat 1) vc_int rfl)) fun z => Bool.noConfusion z)
      | clear => exact WC.tc (wc_and (b1 := false) (b2 := false) (tc_lit hr.units (vc_ixT (ds := Deed.body .clear) (i := 0) (vc_dat 1) vc_int rfl)) fun z => Bool.noConfusion z)
    refine wb_cons (ws_set 5 (VO.eff (vo_listZip (ds1 := t.ts.map tD) (ds2 := t'.ts.map tD) B.list B.zip (vc_ixT (ds := [osD t.os, tsD t.ts]) (i := 1) (vc_dat 0) vc_int rfl) (vc_ixT (ds := [osD t'.os, tsD t'.ts]) (i := 1) (vc_dat 3) vc_int rfl) (Or.inr rfl) (Or.inr rfl)) fun v1 => ?_) nd)
    refine wb_frz 5 frz_olst rfl ?_
    rw [zip_map2]
    let pr : List (Th × Th) := t.ts.zip t'.ts
    have pl : pr.length < 16777216 := by simp only [pr, List.length_zip]; omega
    have zn : ∀ (p : Th × Th), p ∈ pr → True := fun _ _ => trivial
    let f2 : List Str := addIf (fRaised t t' b d) "raised" (addIf (fTaken t b d) "taken" [])
    have lf1 : (addIf (fTaken t b d) "taken" []).length ≤ 1 := sm _ _ []
    have lf2 : f2.length ≤ 2 := Nat.le_trans (sm _ _ _) (by omega)
    have lf3 : (addIf (fLeft t' b d) "left" f2).length ≤ 3 := Nat.le_trans (sm _ _ _) (by omega)
    refine wb_mid (fun env' => env' = [some (.dat t.d), some (.dat d.d), some (.dat (.str (wordD b))), some (.dat t'.d), some (.own v0 (olst K ((addIf (fLeft t' b d) "left" f2).map .str))), some (.dat (.list (pr.map fun p => .tuple [tD p.1, tD p.2]))), none, none]) (ws_ifP (b' := decide (Deed.word d = "fetch") && b) ?c2 (fun h => ?_) fun h => wb_nil ?_) ?_
    case c2 =>
      have hw : ∀ {X : Cx} {env : En} {l : Expr}, X.A.units + 64 < cLine → VC X l env (.dat (.str (wordD b))) → ∀ {j : Nat} {cp pos : Pos}, TC X (.Compare l [.Eq] [.Constant (.str "done") j cp] pos) env b := fun hu h => tc_lit hu h (by cases b <;> decide +kernel) (wordD_ok b)
      exact WC.tc (wc_and (tc_lit hr.units (vc_ixT (ds := Deed.body d) (i := 0) (vis hd0 (vc_dat 1)) vc_int (deed_head d)) rfl (word_ok d)) fun _ => wc_and1 (hw hr.units (vc_dat 2)))
    · -- fetch, done
      obtain ⟨n, rfl⟩ : ∃ n, d = .fetch n := by
        rw [Bool.and_eq_true] at h
        have h1 := of_decide_eq_true h.1
        cases d with
        | fetch n => exact ⟨n, rfl⟩
        | own k => exact absurd h1 (by show ¬ (("own" : Str) = "fetch"); decide +kernel)
        | put k => exact absurd h1 (by show ¬ (("put" : Str) = "fetch"); decide +kernel)
        | move k j => exact absurd h1 (by show ¬ (("move" : Str) = "fetch"); decide +kernel)
        | mark k => exact absurd h1 (by show ¬ (("mark" : Str) = "fetch"); decide +kernel)
        | take k => exact absurd h1 (by show ¬ (("take" : Str) = "fetch"); decide +kernel)
        | raise k => exact absurd h1 (by show ¬ (("raise" : Str) = "fetch"); decide +kernel)
        | clear => exact absurd h1 (by show ¬ (("clear" : Str) = "fetch"); decide +kernel)
      have hb : b = true := (Bool.and_eq_true_iff.mp h).2
      subst hb
      refine wb_addIf (v := v0) (xs := addIf (fTaken t true (.fetch n)) "taken" []) (x := "raised") 4 (b := fRaised t t' true (.fetch n)) (tc_val (vis (bool_d (by rw [List.any_map]; rfl)) (vc_any (bs := pr.map fun p => decide (p.1.2.2 = .self) && decide (p.2.2.1 = .live)) rfl B.any (vis (by rw [List.map_map]; rfl) (VO.dat (vo_map (own := [("before", 6), ("there", 7)]) pr (fun p => .tuple [tD p.1, tD p.2]) (fun p => .bool (decide (p.1.2.2 = .self) && decide (p.2.2.1 = .live))) nd (vi_list (vc_dat 5))
        (fun p hp _ _ _ _ _ => gc_tup rfl (gcs_cons (gc_name 6 nd) (gcs_cons (gc_name 7 nd) gcs_nil)))
        (fun p hp _ _ _ _ _ => vc_andB (vis (bool_d (Tk.eqv_self p.1.2.2)) (vc_cmp (op_eqD hr.units) (od_eqD (Tk.sh p.1.2.2).1 (shs "self")) (vc_ixT (ds := [.int (p.1.1 : Int), .str p.1.2.1.str, p.1.2.2.d]) (i := 2) (vc_dat 6) vc_int rfl) (vc_glob hself rself (fun _ => .str _)))) fun _ => vc_one (vc_stE .live hr.units (vc_ixT (ds := [.int (p.2.1 : Int), .str p.2.2.1.str, p.2.2.2.d]) (i := 1) (vc_dat 7) vc_int rfl))) pl)))))) (fun D' k => ws_app 4 (v := v0) (ds := (addIf (fTaken t true (.fetch n)) "taken" []).map .str) (d := .str "raised") vc_str (by rw [List.length_map]; omega) k) rfl ?_
      refine wb_addIf (v := v0) (xs := f2) (x := "left") 4 (b := fLeft t' true (.fetch n)) (tc_val (vis (bool_d (by rw [List.any_map]; rfl)) (vc_any (bs := t'.ts.map fun u => decide (u = (n, S3.gone, Tk.num n))) rfl B.any (vis (by rw [List.map_map]; rfl) (VO.dat (vo_map (own := [("there", 7)]) t'.ts tD (fun u => .bool (decide (u = (n, S3.gone, Tk.num n)))) nd (vi_tup (vc_ixT (ds := [osD t'.os, tsD t'.ts]) (i := 1) (vc_dat 3) vc_int rfl))
        (fun u hu _ _ _ _ _ => gc_name 7 nd)
        (fun u hu _ _ _ _ _ => vis (bool_d (row3_eqv u n)) (vc_cmp (op_eqD hr.units) (od_eqD (sh3 shaped_int (shaped_str (S3.ok u.2.1)) (Tk.sh u.2.2)) (sh3 shaped_int (shaped_str (S3.ok .gone)) shaped_int)) (vc_dat 7) (vc_tup (ds := [.int (n : Int), .str S3.gone.str, .int (n : Int)]) (dc_cons (vc_ixT (ds := [.str "fetch", .int (n : Int)]) (i := 1) (vc_dat 1) vc_int rfl) (dc_cons vc_str (dc_cons (vc_ixT (ds := [.str "fetch", .int (n : Int)]) (i := 1) (vc_dat 1) vc_int rfl) dc_nil)))))) (by omega))))))) (fun D' k => ws_app 4 (v := v0) (ds := f2.map .str) (d := .str "left") vc_str (by rw [List.length_map]; omega) k) rfl ?_
      exact wb_nil rfl
    · have e1 : fRaised t t' b d = false := by
        cases d <;> try rfl
        have : b = false := by simpa [Deed.word] using h
        rw [this]; rfl
      have e2 : fLeft t' b d = false := by
        cases d <;> try rfl
        have : b = false := by simpa [Deed.word] using h
        rw [this]; rfl
      show _ = _
      simp only [f2, e1, e2]
      rfl
    rintro env' rfl
    refine wb_addIf (v := v0) (xs := addIf (fLeft t' b d) "left" f2) (x := "lost") 4 (b := fLost t t' d) ?c5 (fun D' k => ws_app 4 (v := v0) (ds := (addIf (fLeft t' b d) "left" f2).map .str) (d := .str "lost") vc_str (by rw [List.length_map]; omega) k) rfl ?_
    case c5 =>
      refine tis (b := decide (Deed.word d = "clear") && pr.any fun p => decide (p.1.2.1 = .live) && decide (p.2.2.1 = .cleared)) ?_ (WC.tc (wc_and (tc_lit hr.units (vc_ixT (ds := Deed.body d) (i := 0) (vis hd0 (vc_dat 1)) vc_int (deed_head d)) rfl (word_ok d)) fun _ => wc_and1 (tc_val (vis (bool_d (by rw [List.any_map]; rfl)) (vc_any (bs := pr.map fun p => decide (p.1.2.1 = .live) && decide (p.2.2.1 = .cleared)) rfl B.any (vis (by rw [List.map_map]; rfl) (VO.dat (vo_map (own := [("before", 6), ("there", 7)]) pr (fun p => .tuple [tD p.1, tD p.2]) (fun p => .bool (decide (p.1.2.1 = .live) && decide (p.2.2.1 = .cleared))) nd (vi_list (vc_dat 5))
        (fun p hp _ _ _ _ _ => gc_tup rfl (gcs_cons (gc_name 6 nd) (gcs_cons (gc_name 7 nd) gcs_nil)))
        (fun p hp _ _ _ _ _ => vc_andB (vc_stE .live hr.units (vc_ixT (ds := [.int (p.1.1 : Int), .str p.1.2.1.str, p.1.2.2.d]) (i := 1) (vc_dat 6) vc_int rfl)) fun _ => vc_one (vc_stE .cleared hr.units (vc_ixT (ds := [.int (p.2.1 : Int), .str p.2.2.1.str, p.2.2.2.d]) (i := 1) (vc_dat 7) vc_int rfl))) pl))))))))
      cases d with
      | clear => rfl
      | own k => show (decide (("own" : Str) = "clear") && _) = false; rw [show decide (("own" : Str) = "clear") = false by decide +kernel]; rfl
      | put k => show (decide (("put" : Str) = "clear") && _) = false; rw [show decide (("put" : Str) = "clear") = false by decide +kernel]; rfl
      | move k j => show (decide (("move" : Str) = "clear") && _) = false; rw [show decide (("move" : Str) = "clear") = false by decide +kernel]; rfl
      | mark k => show (decide (("mark" : Str) = "clear") && _) = false; rw [show decide (("mark" : Str) = "clear") = false by decide +kernel]; rfl
      | take k => show (decide (("take" : Str) = "clear") && _) = false; rw [show decide (("take" : Str) = "clear") = false by decide +kernel]; rfl
      | fetch k => show (decide (("fetch" : Str) = "clear") && _) = false; rw [show decide (("fetch" : Str) = "clear") = false by decide +kernel]; rfl
      | raise k => show (decide (("raise" : Str) = "clear") && _) = false; rw [show decide (("raise" : Str) = "clear") = false by decide +kernel]; rfl
    exact wb_cons (ws_ret (ec_name_own 4 rfl ⟨_, .dat (.dat (.dat (.dat .nil))), k v0⟩))
end
end Pg


set_option maxRecDepth 100000
set_option maxHeartbeats 4000000
namespace M
open PySem G
def faultsL : List Str := ["taken", "doubled", "hanging", "shown", "counted", "raised", "left", "lost"]
def foundL (r : Rl) (s : Std) (d : Deed) : List Str := sfL r (step r s d).2 ++ dfL s (step r s d).2 (step r s d).1 d
def faultsOf (r : Rl) (s : Std) (d : Deed) : List Str := faultsL.filter fun x => decide (x ∈ foundL r s d)
end M
namespace Pg
open PySem L2 G M
section
variable {P : Program} {w : World} {K : PySem.W.Frag} {mg : Str → Option Value} {base : Heap} {C : Addr}
def faultsD : PyData := .tuple (faultsL.map .str)
theorem sfL_len (r : Rl) (s : Std) : (sfL r s).length ≤ 4 := by
  have := sf3_len r s
  unfold sfL addIf
  split <;> simp <;> omega
theorem dfL_len (s s' : Std) (b : Bool) (d : Deed) : (dfL s s' b d).length ≤ 4 := by
  unfold dfL addIf
  cases fLost s s' d <;> cases fLeft s' b d <;> cases fRaised s s' b d <;> cases fTaken s b d <;> simp
def sp_faults_of (K : PySem.W.Frag) (C : Addr) : Spec := fun cs R _ => ∃ (r : Rl) (s : Std) (d : Deed) (n : Nat), cs = [rl K C r, .dat s.d, .dat d.d] ∧ s.OkN n ∧ n < 1000 ∧ d.keyOk ∧ ∀ v, R (.own v (olst K ((faultsOf r s d).map .str))) cs
theorem fn_faults_of (D : Df K mg "faults_of" s_faults_of p_faults_of) (GF : GlobD K mg "FAULTS" faultsD) (FS : Fn P w K mg base "step" 4 (sp_step K C)) (F1 : Fn P w K mg base "standing_faults" 2 (sp_sfaults K C)) (F2 : Fn P w K mg base "deed_faults" 2 (sp_dfaults K)) : Fn P w K mg base "faults_of" 5 (sp_faults_of K C) := by
  have nd := sc_faults_of.nd
  obtain ⟨vf, uf, mf, rf, df⟩ := GF
  refine fnG D sc_faults_of (fun cs R RX h => ?_) (fun f cdv A outer s H E X eX hr tk hp cs R RX h => ?_)
  · obtain ⟨_, _, _, _, rfl, _⟩ := h
    rfl
  · subst eX
    obtain ⟨r, t, d, n, rfl, ok, hn, hk, k⟩ := h
    have ok1 : t.Ok := ok.ok (by omega)
    have ok2 : (step r t d).2.Ok := (step_ok (r := r) ok hk).ok (by omega)
    have hr2 := hr.mono (show 2 ≤ 4 by decide)
    refine wb_cons (ws_asg (d := stepD r t d) (vc_call FS hr (ac_pin (vc_pin 0) (ac_cons (vc_dat 1) (ac_cons (vc_dat 2) ac_nil))) ⟨r, t, d, rfl, ok1, keyOk_deedOk hk, rfl⟩) (gc_tup rfl (gcs_cons (gc_name 3 nd) (gcs_cons (gc_name 4 nd) gcs_nil))) ?_)
    refine wb_cons (ws_set 5 (.pure (vis (d1 := .list ((foundL r t d).map .str)) (congrArg PyData.list List.map_append.symm) (VO.dat (vo_cat (es1 := (sfL r (step r t d).2).map .str) (es2 := (dfL t (step r t d).2 (step r t d).1 d).map .str) (VO.dat (vo_call F1 hr2 (ac_pin (vc_pin 0) (ac_cons (vc_dat 4) ac_nil)) ⟨r, (step r t d).2, rfl, ok2, fun v => ⟨v, rfl⟩⟩))
      (VO.dat (vo_call F2 hr2 (ac_cons (vc_dat 1) (ac_cons (vc_dat 2) (ac_cons (vc_dat 3) (ac_cons (vc_dat 4) ac_nil)))) ⟨t, (step r t d).2, d, (step r t d).1, rfl, ok1, ok2, hk, fun v => ⟨v, rfl⟩⟩)) (by rw [List.length_map, List.length_map]; have := sfL_len r (step r t d).2; have := dfL_len t (step r t d).2 (step r t d).1 d; omega)))) ?_) nd)
    exact wb_cons (ws_ret (VO.eff (vo_filt (own := [("fault", 6)]) faultsL .str (fun x => decide (x ∈ foundL r t d)) .str nd (vi_tup (vc_glob mf rf df)) (fun x hx _ _ _ _ _ => gc_name 6 nd)
      (fun x hx _ _ _ _ _ => tis (any_strs _ x) (tc_cmp op_in_seq (od_in (d := .str x) (ds := (foundL r t d).map .str) (neg := false) (Or.inl rfl) rfl (by simp [flatD])) (vc_dat 6) (vc_dat 5)))
      (fun x hx hp _ _ _ _ _ => vc_dat 6) (by decide)) fun v => ⟨_, .pin (.dat (.dat .nil)), k v⟩))
end
end Pg


set_option maxRecDepth 100000
set_option maxHeartbeats 4000000
/-! what the laws have of their own: their state, read -/
namespace M
open PySem G
abbrev oL (o : Ow) : List PyData := [.str o.1, .str o.2.str]
abbrev tL (t : Th) : List PyData := [.int (t.1 : Int), .str t.2.1.str, t.2.2.d]
def stR (s : Std) : Tab := fun w => if w then s.ts.map tL else s.os.map oL
abbrev osL (os : List Ow) : PyData := .list (os.map fun o => .list (oL o))
abbrev tsL (ts : List Th) : PyData := .list (ts.map fun t => .list (tL t))
def Std.l (s : Std) : PyData := .list [osL s.os, tsL s.ts]
theorem tab_st (s : Std) : tabD (stR s) = s.l := by
  unfold tabD stR Std.l osL tsL
  simp only [Bool.false_eq_true, if_false, if_true, List.map_map]
  rfl
/-- the nine parts of a rule -/
def rp (r : Rl) : List PyData := [.str (bstr r.hold "all" "live"), .str (bstr r.link "any" "live"), .str r.mark.str, .bool r.check, .str r.back.str, .bool r.whole, .str r.clear.str, .str (bstr r.count "all" "live"), .str (bstr r.join "own" "both")]
abbrev rpD (r : Rl) : PyData := .list (rp r)
def optS : Option S3 → PyData
  | none => .none
  | some x => .str x.str
theorem optS_sh (x : Option S3) : SeqAt.shaped (optS x) = true ∧ (optS x).depth ≤ 0 := by
  cases x with
  | none => exact shaped_none
  | some x => exact shaped_str (S3.ok x)
theorem optS_eqv (x : Option S3) (y : S3) : PyData.eqv (optS x) (.str y.str) = decide (x = some y) := by
  cases x with
  | none => simp [optS, PyData.eqv]
  | some x =>
    refine (S3.eqv x y).trans ?_
    simp
theorem gt0_any {α : Type} (xs : List α) (p : α → Bool) : decide ((0 : Int) < ((xs.filter p).length : Int)) = xs.any p := by
  rw [Bool.eq_iff_iff, List.any_eq_true, decide_eq_true_eq]
  constructor
  · intro h
    have : 0 < (xs.filter p).length := by omega
    obtain ⟨x, hx⟩ := List.exists_mem_of_length_pos this
    exact ⟨x, (List.mem_filter.mp hx).1, (List.mem_filter.mp hx).2⟩
  · rintro ⟨x, h1, h2⟩
    have : 0 < (xs.filter p).length := List.length_pos_of_mem (List.mem_filter.mpr ⟨h1, h2⟩)
    omega
theorem eq0_any {α : Type} (xs : List α) (p : α → Bool) : decide (((xs.filter p).length : Int) = 0) = !xs.any p := by
  rw [← gt0_any]
  by_cases h : (xs.filter p).length = 0
  · simp [h]
  · have h2 : ¬ (((xs.filter p).length : Int) = 0) := by omega
    have h3 : (0 : Int) < ((xs.filter p).length : Int) := by omega
    rw [decide_eq_false h2, decide_eq_true h3]
    rfl
def aliveAt (s : Std) (o i : Nat) : Bool := match s.ts[i]? with
  | some t => decide (t.1 = o) && decide (t.2.1 = .live)
  | none => false
def aliveL (s : Std) (o : Nat) : List Nat := (List.range s.ts.length).filter (aliveAt s o)
theorem alive_any (s : Std) (o : Nat) : (aliveL s o).isEmpty = !(s.ts.any fun t => decide (t.1 = o) && decide (t.2.1 = .live)) := by
  rw [Bool.eq_iff_iff]
  simp only [Bool.not_eq_true', List.isEmpty_iff]
  constructor
  · intro h
    rw [Bool.eq_false_iff]
    intro z
    obtain ⟨t, ht, h2⟩ := List.any_eq_true.mp z
    obtain ⟨i, hi⟩ := List.mem_iff_getElem?.mp ht
    have : i ∈ aliveL s o := List.mem_filter.mpr ⟨List.mem_range.mpr (List.getElem?_eq_some_iff.mp hi).1, by unfold aliveAt; rw [hi]; exact h2⟩
    rw [h] at this
    cases this
  · intro h
    rw [List.eq_nil_iff_forall_not_mem]
    intro i hi
    obtain ⟨h1, h2⟩ := List.mem_filter.mp hi
    have hl := List.mem_range.mp h1
    unfold aliveAt at h2
    rw [List.getElem?_eq_getElem hl] at h2
    have : (s.ts.any fun t => decide (t.1 = o) && decide (t.2.1 = .live)) = true := List.any_eq_true.mpr ⟨_, List.getElem_mem hl, h2⟩
    rw [h] at this
    cases this
end M
namespace G
open PySem PySem.Spec PyProof.Rows L2 M
theorem frz_st {K : PySem.W.Frag} {T : Lay} {s : Std} : Frz K (ost K T (stR s)) s.l := tab_st s ▸ frz_ost
end G
namespace Pg
open PySem L2 G M
section
variable {X : Cx} {env : En} {e l r : Expr} {pos : Pos}
theorem vc_strE {x y : Str} (hx : PyData.strOk x = true) (hy : PyData.strOk y = true) (hu : X.A.units + 64 < cLine) (h : VC X l env (.dat (.str x))) (h2 : VC X r env (.dat (.str y))) : VC X (.Compare l [.Eq] [r] pos) env (.dat (.bool (decide (x = y)))) :=
  vis (bool_d (eqv_str x y)) (vc_cmp (op_eqD hu) (od_eqD (shaped_str hx).1 (shaped_str hy).1) h h2)
theorem tc_strE {x y : Str} (hx : PyData.strOk x = true) (hy : PyData.strOk y = true) (hu : X.A.units + 64 < cLine) (h : VC X l env (.dat (.str x))) (h2 : VC X r env (.dat (.str y))) : TC X (.Compare l [.Eq] [r] pos) env (decide (x = y)) :=
  tis (eqv_str x y) (tc_cmp (op_eqD hu) (od_eqD (shaped_str hx).1 (shaped_str hy).1) h h2)
theorem tc_stN {j : Nat} {cp : Pos} {x : S3} (y : S3) (hu : X.A.units + 64 < cLine) (h : VC X l env (.dat (.str x.str))) : TC X (.Compare l [.NotEq] [.Constant (.str y.str) j cp] pos) env (!decide (x = y)) :=
  tis (congrArg Bool.not (S3.eqv x y)) (tc_cmp (op_neD hu) (od_neD (sh_st x) (sh_st y)) h vc_str)
theorem vc_opE {j : Nat} {cp : Pos} {x : Option S3} (y : S3) (hu : X.A.units + 64 < cLine) (h : VC X l env (.dat (optS x))) : VC X (.Compare l [.Eq] [.Constant (.str y.str) j cp] pos) env (.dat (.bool (decide (x = some y)))) :=
  vis (bool_d (optS_eqv x y)) (vc_cmp (op_eqD hu) (od_eqD (optS_sh x).1 (sh_st y)) h vc_str)
theorem tc_opE {j : Nat} {cp : Pos} {x : Option S3} (y : S3) (hu : X.A.units + 64 < cLine) (h : VC X l env (.dat (optS x))) : TC X (.Compare l [.Eq] [.Constant (.str y.str) j cp] pos) env (decide (x = some y)) :=
  tis (optS_eqv x y) (tc_cmp (op_eqD hu) (od_eqD (optS_sh x).1 (sh_st y)) h vc_str)
theorem tc_opN {j : Nat} {cp : Pos} {x : Option S3} (y : S3) (hu : X.A.units + 64 < cLine) (h : VC X l env (.dat (optS x))) : TC X (.Compare l [.NotEq] [.Constant (.str y.str) j cp] pos) env (!decide (x = some y)) :=
  tis (congrArg Bool.not (optS_eqv x y)) (tc_cmp (op_neD hu) (od_neD (optS_sh x).1 (sh_st y)) h vc_str)
end
section
variable {P : Program} {w : World} {K : PySem.W.Frag} {mg : Str → Option Value} {base : Heap} {C : Addr}
def sp_key : Spec := fun cs R _ => ∃ s : Std, cs = [.dat s.l] ∧ s.Ok ∧ R (.dat s.d) cs
def stAt (s : Std) (w : Bool) (n : Nat) : Option S3 := if w then tSt s n else oSt s n
def sp_law_of : Spec := fun cs R _ => ∃ (s : Std) (n : Nat) (w : Bool), cs = [.dat s.l, .dat (.int (n : Int)), .dat (.int (if w then 1 else 0))] ∧ R (.dat (optS (stAt s w n))) cs
def sp_lived : Spec := fun cs R _ => ∃ (s : Std) (key : Str), cs = [.dat s.l, .dat (.str key)] ∧ s.Ok ∧ PyData.strOk key = true ∧ R (.dat (.bool (hasLive s.os key))) cs
theorem lived_any (os : List Ow) (key : Str) : hasLive os key = os.any fun o => decide (o.1 = key) && decide (o.2 = .live) := by
  unfold hasLive
  congr 1
  funext o
  obtain ⟨a, b⟩ := o
  rw [Bool.eq_iff_iff]
  simp
def sp_takes : Spec := fun cs R _ => ∃ (r : Rl) (s : Std) (n : Nat), cs = [.dat (rpD r), .dat s.l, .dat (.int (n : Int))] ∧ R (.dat (.bool (mayHave r s.os n))) cs
def natsD (xs : List Nat) : List PyData := xs.map fun (n : Nat) => .int (n : Int)
def sp_alive (K : PySem.W.Frag) : Spec := fun cs R _ => ∃ (s : Std) (n : Nat), cs = [.dat s.l, .dat (.int (n : Int))] ∧ s.Ok ∧ ∀ v, R (.own v (olst K (natsD (aliveL s n)))) cs
theorem get_tL {s : Std} {n : Nat} {t : Th} (h : s.ts[n]? = some t) : (s.ts.map fun t => PyData.list (tL t))[n]? = some (.list (tL t)) := by rw [List.getElem?_map, h]; rfl
theorem get_oL {s : Std} {n : Nat} {o : Ow} (h : s.os[n]? = some o) : (s.os.map fun o => PyData.list (oL o))[n]? = some (.list (oL o)) := by rw [List.getElem?_map, h]; rfl
end
end Pg


set_option maxRecDepth 100000
set_option maxHeartbeats 4000000
namespace Pg
open PySem L2 G M
section
variable {P : Program} {w : World} {K : PySem.W.Frag} {mg : Str → Option Value} {base : Heap} {C : Addr}
theorem may_own (r : Rl) (os : List Ow) (key : Str) : mayOwn r os key = (!hasLive os key && (!r.hold || !(os.any fun o => decide (o.1 = key) && !decide (o.2 = .cleared)))) := by
  unfold mayOwn
  cases h : hasLive os key with
  | true => rfl
  | false =>
    rw [lived_any] at h
    have : (os.any fun o => decide (o = (key, S3.gone))) = os.any fun o => decide (o.1 = key) && !decide (o.2 = .cleared) := by
      rw [Bool.eq_iff_iff, List.any_eq_true, List.any_eq_true]
      constructor
      · rintro ⟨o, h1, h2⟩
        have e := of_decide_eq_true h2
        subst e
        exact ⟨_, h1, by simp⟩
      · rintro ⟨⟨a, b⟩, h1, h2⟩
        refine ⟨(a, b), h1, ?_⟩
        have h3 : ¬ (decide (a = key) && decide (b = S3.live)) = true := fun z => by
          have : (os.any fun o => decide (o.1 = key) && decide (o.2 = S3.live)) = true := List.any_eq_true.mpr ⟨_, h1, z⟩
          rw [h] at this
          cases this
        cases b <;> simp_all
    rw [this]
theorem isSome_ite {α : Type} (p : Prop) [Decidable p] (x : α) : (if p then none else some x).isSome = !decide p := by
  by_cases h : p <;> simp [h]
def sp_may : Spec := fun cs R _ => ∃ (r : Rl) (s : Std) (d : Deed), cs = [.dat (rpD r), .dat s.l, .dat d.d] ∧ s.Ok ∧ DeedOk d ∧ R (.dat (.bool (behind r s d).isSome)) cs
def sp_words (K : PySem.W.Frag) : Spec := fun cs R _ => cs = [] ∧ ∀ v, R (.own v (olst K (faultsL.map .str))) []
def sp_counts : Spec := fun cs R _ => ∃ (r : Rl) (s : Std) (n : Nat), cs = [.dat (rpD r), .dat s.l, .dat (.int (n : Int))] ∧ s.Ok ∧ R (.dat (.int (counted r s n : Int))) cs
theorem take_idx {α : Type} (xs : List α) {i : Nat} (h : i < xs.length) : xs.zipIdx.take (i + 1) = xs.zipIdx.take i ++ [(xs[i], i)] := by
  rw [List.take_succ, List.getElem?_zipIdx, List.getElem?_eq_getElem h]
  simp
def shownT (r : Rl) (s : Std) (i : Nat) : List Nat := ((s.ts.zipIdx.take i).filter fun p => decide (p.1.2.1 = .live) && (r.join || decide (oSt s p.1.1 = some .live))).map (·.2)
theorem shownT_all (r : Rl) (s : Std) : shownT r s s.ts.length = shown r s := by
  unfold shownT shown
  rw [List.take_of_length_le (by simp)]
theorem shownT_len (r : Rl) (s : Std) (i : Nat) : (shownT r s i).length ≤ s.ts.length := by
  unfold shownT
  rw [List.length_map]
  refine Nat.le_trans (List.length_filter_le _ _) ?_
  rw [List.length_take, List.length_zipIdx]
  omega
def sp_shows (K : PySem.W.Frag) : Spec := fun cs R _ => ∃ (r : Rl) (s : Std), cs = [.dat (rpD r), .dat s.l] ∧ s.Ok ∧ ∀ v, R (.own v (olst K (natsD (shown r s)))) cs
end
end Pg


set_option maxRecDepth 100000
set_option maxHeartbeats 4000000
/-! the law's state, changed -/
namespace M
open PySem G
/-- what is not gone was taken by nothing -/
def Std.Tidy (s : Std) : Prop := ∀ t ∈ s.ts, t.2.1 ≠ .gone → t.2.2 = .non
theorem stR_os (s : Std) (os' : List Ow) : upB (stR s) false (os'.map oL) = stR ⟨os', s.ts⟩ := by
  funext w
  cases w <;> rfl
theorem stR_ts (s : Std) (ts' : List Th) : upB (stR s) true (ts'.map tL) = stR ⟨s.os, ts'⟩ := by
  funext w
  cases w <;> rfl
/-- f at the places L -/
def updAt {α : Type} (L : List Nat) (f : α → α) (xs : List α) : List α := xs.zipIdx.map fun q => if q.2 ∈ L then f q.1 else q.1
section
variable {α : Type} {L : List Nat} {f : α → α} {xs : List α} {j : Nat} {x : α}
theorem updAt_get : (updAt L f xs)[j]? = xs[j]?.map fun x => if j ∈ L then f x else x := by
  unfold updAt
  rw [List.getElem?_map, List.getElem?_zipIdx]
  cases xs[j]? <;> simp
theorem updAt_len : (updAt L f xs).length = xs.length := by simp [updAt]
theorem updAt_nil : updAt [] f xs = xs := by
  apply List.ext_getElem?
  intro j
  rw [updAt_get]
  cases xs[j]? <;> simp
theorem updAt_snoc (h : xs[j]? = some x) : (updAt L f xs).set j (f x) = updAt (L ++ [j]) f xs := by
  apply List.ext_getElem?
  intro i
  rw [updAt_get]
  by_cases e : j = i
  · subst e
    rw [List.getElem?_set_self (by rw [updAt_len]; exact (List.getElem?_eq_some_iff.mp h).1), h]
    simp
  · rw [List.getElem?_set_ne e, updAt_get]
    congr 1
    funext y
    have : i ∈ L ++ [j] ↔ i ∈ L := by simp [Ne.symm e]
    simp only [this]
theorem updAt_filter {p : Nat → Bool} {q : α → Bool} (h : ∀ j x, xs[j]? = some x → p j = q x) : updAt ((List.range xs.length).filter p) f xs = xs.map fun x => if q x = true then f x else x := by
  apply List.ext_getElem?
  intro i
  rw [updAt_get, List.getElem?_map]
  cases e : xs[i]? with
  | none => rfl
  | some x =>
    have hi := (List.getElem?_eq_some_iff.mp e).1
    have hp := h i x e
    simp only [Option.map_some, List.mem_filter, List.mem_range, hi, true_and, hp]
end
theorem alive_mem {s : Std} {n j : Nat} (h : j ∈ aliveL s n) : ∃ t, s.ts[j]? = some t ∧ t.1 = n ∧ t.2.1 = .live := by
  obtain ⟨h1, h2⟩ := List.mem_filter.mp h
  have hl := List.mem_range.mp h1
  unfold aliveAt at h2
  rw [List.getElem?_eq_getElem hl, Bool.and_eq_true] at h2
  exact ⟨_, List.getElem?_eq_getElem hl, of_decide_eq_true h2.1, of_decide_eq_true h2.2⟩
theorem alive_upd (s : Std) (n : Nat) (f : Th → Th) : updAt (aliveL s n) f s.ts = s.ts.map fun t => if t.1 = n ∧ t.2.1 = .live then f t else t := by
  unfold aliveL
  rw [updAt_filter (q := fun t => decide (t.1 = n) && decide (t.2.1 = .live)) (fun j x h => by unfold aliveAt; rw [h])]
  congr 1
  funext t
  by_cases h : t.1 = n ∧ t.2.1 = .live
  · rw [if_pos h, if_pos (by simp [h])]
  · rw [if_neg h, if_neg (by simpa using h)]
theorem alive_nodup (s : Std) (n : Nat) : (aliveL s n).Nodup := List.Pairwise.filter _ List.nodup_range
theorem take_snoc {α : Type} {xs : List α} {i : Nat} {x : α} (h : xs[i]? = some x) : xs.take (i + 1) = xs.take i ++ [x] := by rw [List.take_add_one, h]; rfl
theorem not_mem_take {xs : List Nat} {i x : Nat} (n : xs.Nodup) (h : xs[i]? = some x) : x ∉ xs.take i := fun z => by
  obtain ⟨j, hj⟩ := List.mem_iff_getElem?.mp z
  rw [List.getElem?_take] at hj
  by_cases e : j < i
  · rw [if_pos e] at hj
    obtain ⟨h1, e1⟩ := List.getElem?_eq_some_iff.mp hj
    obtain ⟨h2, e2⟩ := List.getElem?_eq_some_iff.mp h
    have := (List.getElem_inj n).mp (e1.trans e2.symm)
    omega
  · rw [if_neg e] at hj
    cases hj
/-- f on the first j -/
def upTo {α : Type} (j : Nat) (f : α → α) (xs : List α) : List α := (xs.take j).map f ++ xs.drop j
section
variable {α : Type} {f : α → α} {xs : List α} {j : Nat} {x : α}
theorem upTo_zero : upTo 0 f xs = xs := by simp [upTo]
theorem upTo_all : upTo xs.length f xs = xs.map f := by simp [upTo]
theorem upTo_len : (upTo j f xs).length = xs.length := by simp [upTo]; omega
theorem upTo_get (h : xs[j]? = some x) : (upTo j f xs)[j]? = some x := by
  have hj := (List.getElem?_eq_some_iff.mp h).1
  unfold upTo
  rw [List.getElem?_append_right (by simp; omega), List.length_map, List.length_take, List.getElem?_drop, Nat.min_eq_left (by omega)]
  simpa using h
theorem upTo_set (h : xs[j]? = some x) : (upTo j f xs).set j (f x) = upTo (j + 1) f xs := by
  have hj := (List.getElem?_eq_some_iff.mp h).1
  unfold upTo
  rw [List.set_append_right _ _ (by simp; omega), List.length_map, List.length_take, Nat.min_eq_left (by omega), Nat.sub_self, take_snoc h, List.map_append, List.append_assoc]
  congr 1
  have : xs.drop j = x :: xs.drop (j + 1) := by
    rw [List.drop_eq_getElem_cons hj]
    congr 1
    exact (List.getElem?_eq_some_iff.mp h).2
  rw [this]
  rfl
theorem upTo_skip (h : xs[j]? = some x) (e : f x = x) : upTo j f xs = upTo (j + 1) f xs := by
  rw [← upTo_set h, e]
  apply List.ext_getElem?
  intro i
  by_cases q : j = i
  · subst q
    rw [List.getElem?_set_self (by rw [upTo_len]; exact (List.getElem?_eq_some_iff.mp h).1), upTo_get h]
  · rw [List.getElem?_set_ne q]
end
theorem thins_nats (xs : List Nat) : thins (xs.map fun (n : Nat) => PyData.int (n : Int)) = true := by
  induction xs with
  | nil => rfl
  | cons x xs ih => simp [thins, thin, ih]
end M
namespace G
open PySem PySem.Spec PyProof.Rows L2 M
section
variable {X : Cx} {W : WX} {env : En} {D : DE} {c : Expr} {a b : List Stmt} {pos : Pos} {sts : List Stmt} {T : Lay} {R : Tab}
theorem ws_else (h : TC X c env false) (k : WB X W b D env) : WS X W (.If c a b pos) D env := ws_ifP h (fun z => Bool.noConfusion z) fun _ => k
/-- as many places as rows -/
theorem wb_len (i : Nat) {v : L2.V} (h : env[i]? = some (some (.own v (ost X.K T R)))) (k : (∀ w, (T.ro w).length = (R w).length) → WB X W sts D env) : WB X W sts D env := fun F H σ S s E m => by
  obtain ⟨_, _, _, ⟨_, _, _, h6, _⟩, _⟩ := s.slot i _ h
  exact k (fun w => (h6 w).2.1) F H σ S s E m
theorem adr {T : Lay} {R : Tab} {w : Bool} {j : Nat} (h : ∀ w, (T.ro w).length = (R w).length) (hj : j < (R w).length) : ∃ b, (T.ro w)[j]? = some b := ⟨_, List.getElem?_eq_getElem (by rw [h]; exact hj)⟩
end
end G


set_option maxRecDepth 100000
set_option maxHeartbeats 4000000
namespace M
open PySem G Pg
def clTs (ts : List Th) : List Th := ts.map clT
/-- the sweep's things when the owners below k are done -/
def swT (r : Rl) (s : Std) (k : Nat) (t : Th) : Th := if r.clear = .along ∧ t.1 < k ∧ oSt s t.1 = some .gone ∧ t.2.1 = .live then (t.1, .cleared, t.2.2) else t
def swO (r : Rl) (s : Std) (k : Nat) (p : Ow × Nat) : Ow := if p.2 < k then clO r (clTs s.ts) p else p.1
def swTs (r : Rl) (s : Std) (k : Nat) : List Th := (clTs s.ts).map (swT r s k)
def swOs (r : Rl) (s : Std) (k : Nat) : List Ow := s.os.zipIdx.map (swO r s k)
theorem swOs_len (r : Rl) (s : Std) (k : Nat) : (swOs r s k).length = s.os.length := by simp [swOs]
theorem swTs_len (r : Rl) (s : Std) (k : Nat) : (swTs r s k).length = s.ts.length := by simp [swTs, clTs]
theorem swOs_get (r : Rl) (s : Std) (k j : Nat) : (swOs r s k)[j]? = s.os[j]?.map fun o => swO r s k (o, j) := by
  unfold swOs
  rw [List.getElem?_map, List.getElem?_zipIdx]
  cases s.os[j]? <;> simp
theorem swTs_get (r : Rl) (s : Std) (k j : Nat) : (swTs r s k)[j]? = s.ts[j]?.map fun t => swT r s k (clT t) := by
  unfold swTs clTs
  rw [List.getElem?_map, List.getElem?_map, Option.map_map]
  rfl
theorem swT_zero (r : Rl) (s : Std) : swTs r s 0 = clTs s.ts := by
  unfold swTs
  rw [List.map_congr_left (g := id) (fun t _ => by unfold swT; rw [if_neg (fun z => Nat.not_lt_zero _ z.2.1)]; rfl), List.map_id]
theorem swO_zero (r : Rl) (s : Std) : swOs r s 0 = s.os := by
  unfold swOs
  rw [List.map_congr_left (g := fun p => id p.1) (fun p _ => by unfold swO; rw [if_neg (Nat.not_lt_zero _)]; rfl), map_idx s.os id, List.map_id]
theorem clT_ng (t : Th) : (clT t).2.1 ≠ .gone := by
  unfold clT
  by_cases h : t.2.1 = .gone
  · rw [if_pos h]; simp
  · rw [if_neg h]; exact h
theorem clT_own (t : Th) : (clT t).1 = t.1 := by unfold clT; split <;> rfl
theorem swT_own (r : Rl) (s : Std) (k : Nat) (t : Th) : (swT r s k t).1 = t.1 := by unfold swT; split <;> rfl
/-- at its end -/
theorem sweep_all {r : Rl} {s : Std} (td : s.Tidy) (own : ∀ t ∈ s.ts, t.1 < s.os.length) : (⟨swOs r s s.os.length, swTs r s s.os.length⟩ : Std) = cleared r s := by
  rw [cleared_eq]
  congr 1
  · unfold swOs
    refine List.map_congr_left fun p hp => ?_
    obtain ⟨o, i⟩ := p
    have := (List.mem_zipIdx_iff_getElem?.mp hp)
    have hl : i < s.os.length := (List.getElem?_eq_some_iff.mp this).1
    unfold swO
    rw [if_pos hl]
    rfl
  · unfold swTs clTs
    by_cases ha : r.clear = .along
    · rw [if_pos ha, List.map_map, List.map_map]
      refine List.map_congr_left fun t ht => ?_
      show swT r s _ (clT t) = if oSt s (clT t).1 = some .gone then ((clT t).1, .cleared, .non) else clT t
      have hlt : (clT t).1 < s.os.length := by rw [clT_own]; exact own t ht
      have hng := clT_ng t
      have htk : (clT t).2.2 = .non := by
        unfold clT
        by_cases h : t.2.1 = .gone
        · rw [if_pos h]
        · rw [if_neg h]; exact td t ht h
      generalize clT t = u at *
      obtain ⟨a, b, c⟩ := u
      simp only at htk hng hlt
      subst htk
      unfold swT
      by_cases h : oSt s a = some .gone
      · cases b with
        | live => rw [if_pos ⟨ha, hlt, h, rfl⟩, if_pos h]
        | gone => exact absurd rfl hng
        | cleared => rw [if_neg (fun z => by cases z.2.2.2), if_pos h]
      · rw [if_neg (fun z => h z.2.2.1), if_neg h]
    · rw [if_neg ha, List.map_map]
      refine List.map_congr_left fun t ht => ?_
      show swT r s _ (clT t) = clT t
      unfold swT
      rw [if_neg fun z => ha z.1]
/-- the live things of owner k, then -/
theorem sw_alive (r : Rl) (s : Std) (k : Nat) (os : List Ow) : aliveL ⟨os, swTs r s k⟩ k = aliveL ⟨os, clTs s.ts⟩ k := by
  unfold aliveL
  have hl : (swTs r s k).length = (clTs s.ts).length := by simp [swTs]
  show (List.range (swTs r s k).length).filter _ = (List.range (clTs s.ts).length).filter _
  rw [hl]
  refine List.filter_congr fun i hi => ?_
  unfold aliveAt
  show (match (swTs r s k)[i]? with | some t => _ | none => _) = (match (clTs s.ts)[i]? with | some t => _ | none => _)
  unfold swTs
  rw [List.getElem?_map]
  cases e : (clTs s.ts)[i]? with
  | none => rfl
  | some t =>
    show (decide ((swT r s k t).1 = k) && decide ((swT r s k t).2.1 = .live)) = (decide (t.1 = k) && decide (t.2.1 = .live))
    rw [swT_own]
    by_cases h : t.1 = k
    · have : swT r s k t = t := by unfold swT; rw [if_neg (fun z => by have := z.2.1; omega)]
      rw [this]
    · simp [h]
theorem swO_succ {r : Rl} {s : Std} {k : Nat} {o : Ow} (h : s.os[k]? = some o) : (swOs r s k).set k (clO r (clTs s.ts) (o, k)) = swOs r s (k + 1) := by
  apply List.ext_getElem?
  intro i
  have hk := (List.getElem?_eq_some_iff.mp h).1
  rw [swOs_get]
  by_cases e : k = i
  · subst e
    rw [List.getElem?_set_self (by rw [swOs_len]; exact hk), h]
    simp [swO]
  · rw [List.getElem?_set_ne e, swOs_get]
    cases s.os[i]? with
    | none => rfl
    | some o' =>
      simp only [Option.map_some, swO]
      have : (i < k) = (i < k + 1) := by apply propext; omega
      simp only [this]
theorem swO_same {r : Rl} {s : Std} {k : Nat} {o : Ow} (h : s.os[k]? = some o) (e : clO r (clTs s.ts) (o, k) = o) : swOs r s k = swOs r s (k + 1) := by
  rw [← swO_succ h, e]
  apply List.ext_getElem?
  intro i
  by_cases q : k = i
  · subst q
    have hk := (List.getElem?_eq_some_iff.mp h).1
    rw [List.getElem?_set_self (by rw [swOs_len]; exact hk), swOs_get, h]
    simp [swO]
  · rw [List.getElem?_set_ne q]
theorem swT_succ {r : Rl} {s : Std} {k : Nat} (h : oSt s k = some .gone) (ha : r.clear = .along) : updAt (aliveL ⟨[], swTs r s k⟩ k) (fun t => (t.1, .cleared, t.2.2)) (swTs r s k) = swTs r s (k + 1) := by
  refine (alive_upd ⟨[], swTs r s k⟩ k _).trans ?_
  show (swTs r s k).map _ = _
  unfold swTs
  rw [List.map_map]
  refine List.map_congr_left fun t _ => ?_
  show (if (swT r s k t).1 = k ∧ (swT r s k t).2.1 = .live then ((swT r s k t).1, S3.cleared, (swT r s k t).2.2) else swT r s k t) = _
  obtain ⟨a, b, c⟩ := t
  unfold swT
  simp only [ha, true_and]
  by_cases e : a = k
  · subst e
    simp only [h, Nat.lt_irrefl, false_and, if_false, Nat.lt_succ_self, true_and]
  · have : (a < k) = (a < k + 1) := by apply propext; omega
    simp only [← this]
    by_cases q : a < k ∧ oSt s a = some .gone ∧ b = .live
    · rw [if_pos q]
      simp
    · rw [if_neg q]
      simp [e]
theorem swT_same {r : Rl} {s : Std} {k : Nat} (h : ¬ (r.clear = .along ∧ oSt s k = some .gone)) : swTs r s k = swTs r s (k + 1) := by
  unfold swTs
  refine List.map_congr_left fun t _ => ?_
  unfold swT
  by_cases e : t.1 = k
  · have h1 : ¬ (r.clear = .along ∧ t.1 < k ∧ oSt s t.1 = some .gone ∧ t.2.1 = .live) := fun z => by have := z.2.1; omega
    have h2 : ¬ (r.clear = .along ∧ t.1 < k + 1 ∧ oSt s t.1 = some .gone ∧ t.2.1 = .live) := fun z => h ⟨z.1, e ▸ z.2.2.1⟩
    rw [if_neg h1, if_neg h2]
  · have : (t.1 < k) = (t.1 < k + 1) := by apply propext; omega
    simp only [this]
end M


set_option maxRecDepth 100000
set_option maxHeartbeats 4000000
namespace G
open PySem PySem.Spec PyProof.Rows L2 M Pg
section
variable {X : Cx} {W : WX} {env : En} {D : DE} {e ix val : Expr} {pos p : Pos} {T : Lay} {s : Std} {a b : Addr} {d : PyData} {k j : Nat} {t t' : Th} {o o' : Ow}
theorem WB.nx1 {sts : List Stmt} (k : WB X W sts D env) : WB X W sts { D with nx := fun env' => WB X W [] D env' } env := fun F H σ S s E m =>
  k F H σ S s E ⟨fun F' H' σ' S' env' p s' q => m.nx F' H' σ' S' env' p s' (wb_nil q), m.rt, m.bk, m.ct, m.ex⟩
/-- if .. elif .. : the whole block -/
theorem wb_elif {c : Expr} {x y : List Stmt} (h : TC X c env false) (k : WB X W y D env) : WB X W [.If c x y pos] D env := wb_cons (ws_else h k.nx1)
theorem wb_then {c : Expr} {x y : List Stmt} (h : TC X c env true) (k : WB X W x D env) : WB X W [.If c x y pos] D env := wb_cons (ws_take h k.nx1)
theorem st_ts (h : s.ts[j]? = some t) : (stR s true)[j]? = some (tL t) := by
  show (s.ts.map tL)[j]? = _
  rw [List.getElem?_map, h]
  rfl
theorem st_os (h : s.os[j]? = some o) : (stR s false)[j]? = some (oL o) := by
  show (s.os.map oL)[j]? = _
  rw [List.getElem?_map, h]
  rfl
theorem st_setT : upB (stR s) true ((stR s true).set j (tL t')) = stR ⟨s.os, s.ts.set j t'⟩ := by
  have h := stR_ts s (s.ts.set j t')
  rw [List.map_set] at h
  exact h
theorem st_setO : upB (stR s) false ((stR s false).set j (oL o')) = stR ⟨s.os.set j o', s.ts⟩ := by
  have h := stR_os s (s.os.set j o')
  rw [List.map_set] at h
  exact h
theorem st_appT : upB (stR s) true (stR s true ++ [tL t']) = stR ⟨s.os, s.ts ++ [t']⟩ := by
  have h := stR_ts s (s.ts ++ [t'])
  rw [List.map_append] at h
  exact h
theorem st_appO : upB (stR s) false (stR s false ++ [oL o']) = stR ⟨s.os ++ [o'], s.ts⟩ := by
  have h := stR_os s (s.os ++ [o'])
  rw [List.map_append] at h
  exact h
theorem vs_cellT (i : Nat) (h : env[i]? = some (some (.own (.ref T.rt) (ost X.K T (stR s))))) (he : VC X e env (.pin (refP b))) (hj : (T.ro true)[j]? = some b) (ht : s.ts[j]? = some t) (hk : VC X ix env (.dat (.int (k : Int)))) (hc : (tL t)[k]? = some d) (hs : PlainIx ix := by exact fun _ _ => rfl) : VC X (.Subscript e ix pos) env (.dat d) :=
  vs_cell i true h he hj (st_ts ht) hk hc hs
theorem ws_cellT (i : Nat) (t' : Th) (h : env[i]? = some (some (.own (.ref T.rt) (ost X.K T (stR s))))) (hval : VC X val env (.dat d)) (he : VC X e env (.pin (refP b))) (hk : VC X ix env (.dat (.int (k : Int)))) (hj : (T.ro true)[j]? = some b) (ht : s.ts[j]? = some t) (hl : k < 3) (ht' : (tL t).set k d = tL t')
    (kx : D.nx (env.set i (some (.own (.ref T.rt) (ost X.K T (stR ⟨s.os, s.ts.set j t'⟩))))))
    (hps : ∀ tv te ti, PE X val tv → PE X e te → PE X ix ti → PS X (.Assign [.Subscript e ix p] val pos) (tAsg tv (gSub te ti rSetL)) := by exact fun _ _ _ h1 h2 h3 => ps_asg h1 (pg_sub h2 h3 set_list)) :
    WS X W (.Assign [.Subscript e ix p] val pos) D env :=
  ws_cell i true h hval he hk hj (st_ts ht) hl (by rw [ht', st_setT]; exact kx) hps
theorem ws_cellO (i : Nat) (o' : Ow) (h : env[i]? = some (some (.own (.ref T.rt) (ost X.K T (stR s))))) (hval : VC X val env (.dat d)) (he : VC X e env (.pin (refP b))) (hk : VC X ix env (.dat (.int (k : Int)))) (hj : (T.ro false)[j]? = some b) (ht : s.os[j]? = some o) (hl : k < 2) (ht' : (oL o).set k d = oL o')
    (kx : D.nx (env.set i (some (.own (.ref T.rt) (ost X.K T (stR ⟨s.os.set j o', s.ts⟩))))))
    (hps : ∀ tv te ti, PE X val tv → PE X e te → PE X ix ti → PS X (.Assign [.Subscript e ix p] val pos) (tAsg tv (gSub te ti rSetL)) := by exact fun _ _ _ h1 h2 h3 => ps_asg h1 (pg_sub h2 h3 set_list)) :
    WS X W (.Assign [.Subscript e ix p] val pos) D env :=
  ws_cell i false h hval he hk hj (st_os ht) hl (by rw [ht', st_setO]; exact kx) hps
theorem ws_rowT (i : Nat) (t' : Th) (h : env[i]? = some (some (.own (.ref T.rt) (ost X.K T (stR s))))) (hval : VO X val env (olst X.K (tL t'))) (he : VC X e env (.pin (refP (T.tb true)))) (hk : VC X ix env (.dat (.int (j : Int)))) (hl : j < s.ts.length)
    (kx : ∀ p, D.nx (env.set i (some (.own (.ref T.rt) (ost X.K (T.set true ((T.ro true).set j p)) (stR ⟨s.os, s.ts.set j t'⟩))))))
    (hps : ∀ tv te ti, PE X val tv → PE X e te → PE X ix ti → PS X (.Assign [.Subscript e ix p] val pos) (tAsg tv (gSub te ti rSetL)) := by exact fun _ _ _ h1 h2 h3 => ps_asg h1 (pg_sub h2 h3 set_list)) :
    WS X W (.Assign [.Subscript e ix p] val pos) D env :=
  ws_row i true h hval he hk (by show j < (s.ts.map tL).length; rw [List.length_map]; exact hl) (fun p => by rw [st_setT]; exact kx p) hps
end
end G
namespace Pg
open PySem L2 G M
section
variable {P : Program} {w : World} {K : PySem.W.Frag} {mg : Str → Option Value} {base : Heap} {C : Addr}
def sp_new (K : PySem.W.Frag) : Spec := fun cs R _ => cs = [] ∧ ∀ T : Lay, R (.own (.ref T.rt) (ost K T (stR empty))) []
def sp_copy (K : PySem.W.Frag) : Spec := fun cs R _ => ∃ s : Std, cs = [.dat s.l] ∧ s.Ok ∧ ∀ T : Lay, R (.own (.ref T.rt) (ost K T (stR s))) cs
def sp_sweep (K : PySem.W.Frag) : Spec := fun cs R _ => ∃ (r : Rl) (s : Std) (T : Lay), cs = [.dat (rpD r), .own (.ref T.rt) (ost K T (stR s))] ∧ s.Ok ∧ s.Tidy ∧ ∀ T' : Lay, T'.rt = T.rt → R (.dat .none) [.dat (rpD r), .own (.ref T.rt) (ost K T' (stR (cleared r s)))]
end
end Pg


set_option maxRecDepth 100000
set_option maxHeartbeats 400000
namespace Pg
open PySem L2 G M
theorem ite_some {α : Type} {p : Prop} [Decidable p] {x y : α} (h : (if p then some x else none) = some y) : p ∧ x = y := by
  by_cases q : p
  · rw [if_pos q] at h; exact ⟨q, Option.some.inj h⟩
  · rw [if_neg q] at h; cases h
theorem ite_none {α : Type} {p : Prop} [Decidable p] {x y : α} (h : (if p then none else some x) = some y) : ¬ p ∧ x = y := by
  by_cases q : p
  · rw [if_pos q] at h; cases h
  · rw [if_neg q] at h; exact ⟨q, Option.some.inj h⟩
theorem set_lens {T : Lay} {w : Bool} {j : Nat} {p : Addr} (w' : Bool) : ((T.set w ((T.ro w).set j p)).ro w').length = (T.ro w').length := by
  show (upB T.ro w _ w').length = _
  by_cases e : w' = w
  · subst e; rw [upB_same, List.length_set]
  · rw [upB_ne e]
section
variable {P : Program} {w : World} {K : PySem.W.Frag} {mg : Str → Option Value} {base : Heap} {C : Addr}
def sp_turn (K : PySem.W.Frag) : Spec := fun cs R _ => ∃ (r : Rl) (s : Std) (d : Deed) (T : Lay) (s' : Std), cs = [.dat (rpD r), .own (.ref T.rt) (ost K T (stR s)), .dat d.d] ∧ s.Ok ∧ DeedOk d ∧ s.Tidy ∧ behind r s d = some s' ∧ ∀ T' : Lay, T'.rt = T.rt → R (.dat .none) [.dat (rpD r), .own (.ref T.rt) (ost K T' (stR s')), .dat d.d]
def sp_do (K : PySem.W.Frag) : Spec := fun cs R _ => ∃ (r : Rl) (s : Std) (d : Deed) (T : Lay), cs = [.dat (rpD r), .own (.ref T.rt) (ost K T (stR s)), .dat d.d] ∧ s.Ok ∧ DeedOk d ∧ s.Tidy ∧ ∀ T' : Lay, T'.rt = T.rt → R (.dat (.str (wordD (step r s d).1))) [.dat (rpD r), .own (.ref T.rt) (ost K T' (stR (step r s d).2)), .dat d.d]
end
end Pg


set_option maxRecDepth 100000
set_option maxHeartbeats 4000000
/-! plain: faults by index, standings stay tidy -/
namespace M
open PySem G Pg
theorem mem_addIf' {b : Bool} {x y : Str} {xs : List Str} : x ∈ addIf b y xs ↔ (b = true ∧ x = y) ∨ x ∈ xs := by
  unfold addIf
  cases b <;> simp [or_comm]
section
variable (r : Rl) (s s' : Std) (b : Bool) (d : Deed)
theorem sf_doubled {s0 : Std} : decide (("doubled" : Str) ∈ sfL r s ++ dfL s0 s' b d) = fDoubled s := by
  have h1 : ("doubled" : Str) ≠ "counted" := by decide +kernel
  have h2 : ("doubled" : Str) ≠ "shown" := by decide +kernel
  have h3 : ("doubled" : Str) ≠ "hanging" := by decide +kernel
  have h4 : ("doubled" : Str) ≠ "lost" := by decide +kernel
  have h5 : ("doubled" : Str) ≠ "left" := by decide +kernel
  have h6 : ("doubled" : Str) ≠ "raised" := by decide +kernel
  have h7 : ("doubled" : Str) ≠ "taken" := by decide +kernel
  simp [sfL, sf3, dfL, mem_addIf', h1, h2, h3, h4, h5, h6, h7]
theorem sf_hanging {s0 : Std} : decide (("hanging" : Str) ∈ sfL r s ++ dfL s0 s' b d) = fHanging s := by
  have h1 : ("hanging" : Str) ≠ "counted" := by decide +kernel
  have h2 : ("hanging" : Str) ≠ "shown" := by decide +kernel
  have h3 : ("hanging" : Str) ≠ "doubled" := by decide +kernel
  have h4 : ("hanging" : Str) ≠ "lost" := by decide +kernel
  have h5 : ("hanging" : Str) ≠ "left" := by decide +kernel
  have h6 : ("hanging" : Str) ≠ "raised" := by decide +kernel
  have h7 : ("hanging" : Str) ≠ "taken" := by decide +kernel
  simp [sfL, sf3, dfL, mem_addIf', h1, h2, h3, h4, h5, h6, h7]
theorem sf_shown {s0 : Std} : decide (("shown" : Str) ∈ sfL r s ++ dfL s0 s' b d) = fShown r s := by
  have h1 : ("shown" : Str) ≠ "counted" := by decide +kernel
  have h2 : ("shown" : Str) ≠ "hanging" := by decide +kernel
  have h3 : ("shown" : Str) ≠ "doubled" := by decide +kernel
  have h4 : ("shown" : Str) ≠ "lost" := by decide +kernel
  have h5 : ("shown" : Str) ≠ "left" := by decide +kernel
  have h6 : ("shown" : Str) ≠ "raised" := by decide +kernel
  have h7 : ("shown" : Str) ≠ "taken" := by decide +kernel
  simp [sfL, sf3, dfL, mem_addIf', h1, h2, h3, h4, h5, h6, h7]
theorem sf_counted {s0 : Std} : decide (("counted" : Str) ∈ sfL r s ++ dfL s0 s' b d) = fCounted r s := by
  have h1 : ("counted" : Str) ≠ "shown" := by decide +kernel
  have h2 : ("counted" : Str) ≠ "hanging" := by decide +kernel
  have h3 : ("counted" : Str) ≠ "doubled" := by decide +kernel
  have h4 : ("counted" : Str) ≠ "lost" := by decide +kernel
  have h5 : ("counted" : Str) ≠ "left" := by decide +kernel
  have h6 : ("counted" : Str) ≠ "raised" := by decide +kernel
  have h7 : ("counted" : Str) ≠ "taken" := by decide +kernel
  simp [sfL, sf3, dfL, mem_addIf', h1, h2, h3, h4, h5, h6, h7]
theorem sf_taken {s1 : Std} : decide (("taken" : Str) ∈ sfL r s1 ++ dfL s s' b d) = fTaken s b d := by
  have h1 : ("taken" : Str) ≠ "shown" := by decide +kernel
  have h2 : ("taken" : Str) ≠ "hanging" := by decide +kernel
  have h3 : ("taken" : Str) ≠ "doubled" := by decide +kernel
  have h4 : ("taken" : Str) ≠ "lost" := by decide +kernel
  have h5 : ("taken" : Str) ≠ "left" := by decide +kernel
  have h6 : ("taken" : Str) ≠ "raised" := by decide +kernel
  have h7 : ("taken" : Str) ≠ "counted" := by decide +kernel
  simp [sfL, sf3, dfL, mem_addIf', h1, h2, h3, h4, h5, h6, h7]
theorem sf_raised {s1 : Std} : decide (("raised" : Str) ∈ sfL r s1 ++ dfL s s' b d) = fRaised s s' b d := by
  have h1 : ("raised" : Str) ≠ "shown" := by decide +kernel
  have h2 : ("raised" : Str) ≠ "hanging" := by decide +kernel
  have h3 : ("raised" : Str) ≠ "doubled" := by decide +kernel
  have h4 : ("raised" : Str) ≠ "lost" := by decide +kernel
  have h5 : ("raised" : Str) ≠ "left" := by decide +kernel
  have h6 : ("raised" : Str) ≠ "taken" := by decide +kernel
  have h7 : ("raised" : Str) ≠ "counted" := by decide +kernel
  simp [sfL, sf3, dfL, mem_addIf', h1, h2, h3, h4, h5, h6, h7]
theorem sf_left {s1 : Std} : decide (("left" : Str) ∈ sfL r s1 ++ dfL s s' b d) = fLeft s' b d := by
  have h1 : ("left" : Str) ≠ "shown" := by decide +kernel
  have h2 : ("left" : Str) ≠ "hanging" := by decide +kernel
  have h3 : ("left" : Str) ≠ "doubled" := by decide +kernel
  have h4 : ("left" : Str) ≠ "lost" := by decide +kernel
  have h5 : ("left" : Str) ≠ "raised" := by decide +kernel
  have h6 : ("left" : Str) ≠ "taken" := by decide +kernel
  have h7 : ("left" : Str) ≠ "counted" := by decide +kernel
  simp [sfL, sf3, dfL, mem_addIf', h1, h2, h3, h4, h5, h6, h7]
theorem sf_lost {s1 : Std} : decide (("lost" : Str) ∈ sfL r s1 ++ dfL s s' b d) = fLost s s' d := by
  have h1 : ("lost" : Str) ≠ "shown" := by decide +kernel
  have h2 : ("lost" : Str) ≠ "hanging" := by decide +kernel
  have h3 : ("lost" : Str) ≠ "doubled" := by decide +kernel
  have h4 : ("lost" : Str) ≠ "left" := by decide +kernel
  have h5 : ("lost" : Str) ≠ "raised" := by decide +kernel
  have h6 : ("lost" : Str) ≠ "taken" := by decide +kernel
  have h7 : ("lost" : Str) ≠ "counted" := by decide +kernel
  simp [sfL, sf3, dfL, mem_addIf', h1, h2, h3, h4, h5, h6, h7]
end
/-! ### by index -/
def tAt {α : Type} (ts : List α) (q : α → Bool) (i : Nat) : Bool := match ts[i]? with
  | some t => q t
  | none => false
theorem range_any {α : Type} (ts : List α) (q : α → Bool) : (List.range ts.length).any (tAt ts q) = ts.any q := by
  rw [Bool.eq_iff_iff, List.any_eq_true, List.any_eq_true]
  constructor
  · rintro ⟨i, hi, h⟩
    have hl := List.mem_range.mp hi
    unfold tAt at h
    rw [List.getElem?_eq_getElem hl] at h
    exact ⟨_, List.getElem_mem hl, h⟩
  · rintro ⟨t, ht, h⟩
    obtain ⟨i, hi⟩ := List.mem_iff_getElem?.mp ht
    exact ⟨i, List.mem_range.mpr (List.getElem?_eq_some_iff.mp hi).1, by unfold tAt; rw [hi]; exact h⟩
theorem zip_any {α β : Type} {xs : List α} {ys : List β} (h : xs.length ≤ ys.length) (f : α → Bool) (g : β → Bool) : ((xs.zip ys).any fun p => f p.1 && g p.2) = (List.range xs.length).any fun i => tAt xs f i && tAt ys g i := by
  rw [Bool.eq_iff_iff, List.any_eq_true, List.any_eq_true]
  constructor
  · rintro ⟨p, hp, h1⟩
    obtain ⟨i, hi⟩ := List.mem_iff_getElem?.mp hp
    rw [List.getElem?_zip_eq_some] at hi
    refine ⟨i, List.mem_range.mpr (List.getElem?_eq_some_iff.mp hi.1).1, ?_⟩
    unfold tAt
    rw [hi.1, hi.2]
    exact h1
  · rintro ⟨i, hi, h1⟩
    have hl := List.mem_range.mp hi
    have hl2 : i < ys.length := by omega
    unfold tAt at h1
    rw [List.getElem?_eq_getElem hl, List.getElem?_eq_getElem hl2] at h1
    exact ⟨(xs[i], ys[i]), List.mem_iff_getElem?.mpr ⟨i, by rw [List.getElem?_zip_eq_some]; exact ⟨List.getElem?_eq_getElem hl, List.getElem?_eq_getElem hl2⟩⟩, h1⟩
theorem any_congr {α : Type} {xs : List α} {f g : α → Bool} (h : ∀ x ∈ xs, f x = g x) : xs.any f = xs.any g := by
  rw [Bool.eq_iff_iff, List.any_eq_true, List.any_eq_true]
  exact ⟨fun ⟨x, h1, h2⟩ => ⟨x, h1, by rw [← h x h1]; exact h2⟩, fun ⟨x, h1, h2⟩ => ⟨x, h1, by rw [h x h1]; exact h2⟩⟩
theorem any_filter' {α : Type} (xs : List α) (p q : α → Bool) : (xs.filter p).any q = xs.any fun x => p x && q x := by
  rw [Bool.eq_iff_iff, List.any_eq_true, List.any_eq_true]
  constructor
  · rintro ⟨x, h1, h2⟩
    obtain ⟨h3, h4⟩ := List.mem_filter.mp h1
    exact ⟨x, h3, by rw [h4, h2]; rfl⟩
  · rintro ⟨x, h1, h2⟩
    obtain ⟨h3, h4⟩ := (Bool.and_eq_true _ _).mp h2
    exact ⟨x, List.mem_filter.mpr ⟨h1, h3⟩, h4⟩
def looseT (s : Std) (t : Th) : Bool := decide (t.2.1 = .live) && !decide (oSt s t.1 = some .live)
def looseL (s : Std) : List Nat := (List.range s.ts.length).filter (tAt s.ts (looseT s))
theorem hanging_loose (s : Std) : decide ((0 : Int) < ((looseL s).length : Int)) = fHanging s := by
  unfold looseL
  rw [gt0_any, range_any]
  rfl
theorem shown_live {r : Rl} {s : Std} {n : Nat} (h : n ∈ shown r s) : ∃ t, s.ts[n]? = some t ∧ t.2.1 = .live := by
  unfold shown at h
  obtain ⟨p, hp, rfl⟩ := List.mem_map.mp h
  obtain ⟨h1, h2⟩ := List.mem_filter.mp hp
  exact ⟨p.1, List.mem_zipIdx_iff_getElem?.mp h1, of_decide_eq_true ((Bool.and_eq_true _ _).mp h2).1⟩
theorem shown_loose (r : Rl) (s : Std) : decide ((0 : Int) < (((shown r s).filter fun k => decide (k ∈ looseL s)).length : Int)) = fShown r s := by
  rw [gt0_any]
  unfold fShown
  refine any_congr fun n hn => ?_
  obtain ⟨t, ht, hl⟩ := shown_live hn
  have ho : ownAt s n = t.1 := by
    unfold ownAt
    rw [List.getD_eq_getElem?_getD, ht]
    rfl
  rw [ho, Bool.eq_iff_iff]
  unfold looseL
  simp only [decide_eq_true_eq, List.mem_filter, List.mem_range, tAt, ht, looseT, hl]
  have := (List.getElem?_eq_some_iff.mp ht).1
  simp [this]
/-! ### tidy, and how many -/
theorem tidy_empty : empty.Tidy := fun t ht => by cases ht
theorem tidy_set {s : Std} {os : List Ow} (td : s.Tidy) {n : Nat} {t : Th} (h : t.2.1 ≠ .gone → t.2.2 = .non) : (⟨os, s.ts.set n t⟩ : Std).Tidy := fun u hu hg => by
  rcases List.mem_or_eq_of_mem_set hu with z | z
  · exact td u z hg
  · subst z; exact h hg
theorem behind_tidy {r : Rl} {s s' : Std} {d : Deed} (td : s.Tidy) (e : behind r s d = some s') : s'.Tidy := by
  cases d with
  | own k =>
    obtain ⟨_, rfl⟩ := ite_some (show (if mayOwn r s.os k = true then some ⟨s.os ++ [(k, S3.live)], s.ts⟩ else none) = some s' from e)
    exact td
  | put o =>
    obtain ⟨_, rfl⟩ := ite_some (show (if mayHave r s.os o = true then some ⟨s.os, s.ts ++ [(o, S3.live, Tk.non)]⟩ else none) = some s' from e)
    intro t ht hg
    rcases List.mem_append.mp ht with z | z
    · exact td t z hg
    · rw [List.mem_singleton.mp z]
  | move t o =>
    obtain ⟨_, rfl⟩ := ite_none (show (if tSt s t ≠ some .live ∨ ownAt s t = o ∨ mayHave r s.os o = false then none else some ⟨s.os, s.ts.set t (o, S3.live, Tk.non)⟩) = some s' from e)
    exact tidy_set td fun _ => rfl
  | mark n =>
    have e : marked r s n = some s' := e
    unfold marked at e
    by_cases h : oSt s n = some .live
    · rw [if_neg (by simp [h])] at e
      obtain ⟨_, rfl⟩ := ite_none e
      intro t ht hg
      by_cases ha : r.mark = .along
      · have ht : t ∈ (if r.mark = .along then s.ts.map fun t => if t.1 = n ∧ t.2.1 = .live then (n, S3.gone, Tk.num n) else t else s.ts) := ht
        rw [if_pos ha] at ht
        obtain ⟨u, hu, rfl⟩ := List.mem_map.mp ht
        by_cases q : u.1 = n ∧ u.2.1 = .live
        · rw [if_pos q] at hg; exact absurd rfl hg
        · rw [if_neg q] at hg ⊢; exact td u hu hg
      · have ht : t ∈ (if r.mark = .along then s.ts.map fun t => if t.1 = n ∧ t.2.1 = .live then (n, S3.gone, Tk.num n) else t else s.ts) := ht
        rw [if_neg ha] at ht
        exact td t ht hg
    · rw [if_pos h] at e; cases e
  | take n =>
    obtain ⟨_, rfl⟩ := ite_none (show (if tSt s n ≠ some .live then none else some ⟨s.os, s.ts.set n (ownAt s n, S3.gone, Tk.self)⟩) = some s' from e)
    exact tidy_set td fun z => absurd rfl z
  | fetch n =>
    have e : fetched r s n = some s' := e
    unfold fetched at e
    obtain ⟨_, rfl⟩ := ite_none e
    intro t ht hg
    obtain ⟨u, hu, rfl⟩ := List.mem_map.mp ht
    by_cases q : u.1 = n ∧ u.2.1 = .gone ∧ (r.back = .all ∨ (r.back = .same ∧ u.2.2 = .num n))
    · rw [if_pos q]
    · rw [if_neg q] at hg ⊢; exact td u hu hg
  | raise n =>
    have e : raised r s n = some s' := e
    unfold raised at e
    by_cases h : tSt s n = some .gone
    · rw [if_neg (by simp [h])] at e
      obtain ⟨_, rfl⟩ := ite_none e
      exact tidy_set td fun _ => rfl
    · rw [if_pos h] at e; cases e
  | clear =>
    obtain rfl : cleared r s = s' := Option.some.inj e
    rw [cleared_eq]
    have td1 : ∀ u ∈ s.ts.map clT, u.2.2 = .non := fun u hu => by
      obtain ⟨v, hv, rfl⟩ := List.mem_map.mp hu
      unfold clT
      by_cases q : v.2.1 = .gone
      · rw [if_pos q]
      · rw [if_neg q]; exact td v hv q
    intro t ht hg
    by_cases ha : r.clear = .along
    · have ht : t ∈ (if r.clear = .along then (s.ts.map clT).map fun t => if oSt s t.1 = some .gone then (t.1, S3.cleared, Tk.non) else t else s.ts.map clT) := ht
      rw [if_pos ha] at ht
      obtain ⟨u, hu, rfl⟩ := List.mem_map.mp ht
      by_cases q : oSt s u.1 = some .gone
      · rw [if_pos q]
      · rw [if_neg q]; exact td1 u hu
    · have ht : t ∈ (if r.clear = .along then (s.ts.map clT).map fun t => if oSt s t.1 = some .gone then (t.1, S3.cleared, Tk.non) else t else s.ts.map clT) := ht
      rw [if_neg ha] at ht
      exact td1 t ht
theorem step_tidy {r : Rl} {s : Std} {d : Deed} (td : s.Tidy) : (step r s d).2.Tidy := by
  unfold step
  cases e : behind r s d with
  | none => exact td
  | some s' => exact behind_tidy td e
theorem behind_len {r : Rl} {s s' : Std} {d : Deed} (e : behind r s d = some s') : s.ts.length ≤ s'.ts.length ∧ ∀ n, d = .fetch n → s'.ts.length = s.ts.length := by
  cases d with
  | own k =>
    obtain ⟨_, rfl⟩ := ite_some (show (if mayOwn r s.os k = true then some ⟨s.os ++ [(k, S3.live)], s.ts⟩ else none) = some s' from e)
    exact ⟨Nat.le_refl _, fun _ _ => rfl⟩
  | put o =>
    obtain ⟨_, rfl⟩ := ite_some (show (if mayHave r s.os o = true then some ⟨s.os, s.ts ++ [(o, S3.live, Tk.non)]⟩ else none) = some s' from e)
    exact ⟨by simp, fun _ z => by cases z⟩
  | move t o =>
    obtain ⟨_, rfl⟩ := ite_none (show (if tSt s t ≠ some .live ∨ ownAt s t = o ∨ mayHave r s.os o = false then none else some ⟨s.os, s.ts.set t (o, S3.live, Tk.non)⟩) = some s' from e)
    simp
  | mark n =>
    have e : marked r s n = some s' := e
    unfold marked at e
    by_cases h : oSt s n = some .live
    · rw [if_neg (by simp [h])] at e
      obtain ⟨_, rfl⟩ := ite_none e
      refine ⟨?_, fun _ z => by cases z⟩
      show _ ≤ (if r.mark = .along then _ else s.ts).length
      split <;> simp
    · rw [if_pos h] at e; cases e
  | take n =>
    obtain ⟨_, rfl⟩ := ite_none (show (if tSt s n ≠ some .live then none else some ⟨s.os, s.ts.set n (ownAt s n, S3.gone, Tk.self)⟩) = some s' from e)
    simp
  | fetch n =>
    have e : fetched r s n = some s' := e
    unfold fetched at e
    obtain ⟨_, rfl⟩ := ite_none e
    simp
  | raise n =>
    have e : raised r s n = some s' := e
    unfold raised at e
    by_cases h : tSt s n = some .gone
    · rw [if_neg (by simp [h])] at e
      obtain ⟨_, rfl⟩ := ite_none e
      simp
    · rw [if_pos h] at e; cases e
  | clear =>
    obtain rfl : cleared r s = s' := Option.some.inj e
    rw [cleared_eq]
    refine ⟨?_, fun _ z => by cases z⟩
    show _ ≤ (if r.clear = .along then _ else s.ts.map clT).length
    split <;> simp
theorem step_len {r : Rl} {s : Std} {d : Deed} : s.ts.length ≤ (step r s d).2.ts.length ∧ ∀ n, d = .fetch n → (step r s d).2.ts.length = s.ts.length := by
  unfold step
  cases e : behind r s d with
  | none => exact ⟨Nat.le_refl _, fun _ _ => rfl⟩
  | some s' => exact behind_len e
/-! ### what a dict of flags holds -/
def flagsD (F : Str → Bool) (ks : List Str) : Kd := ks.map fun k => (k, .bool (F k))
theorem getS_flags {F : Str → Bool} {ks : List Str} {k : Str} (h : k ∈ ks) : getS (flagsD F ks) k = some (.bool (F k)) := by
  induction ks with
  | nil => cases h
  | cons x xs ih =>
    unfold getS flagsD
    rw [List.map_cons, List.find?_cons]
    by_cases e : x = k
    · subst e; simp
    · simp only [e, decide_false]
      exact ih ((List.mem_cons.mp h).resolve_left fun z => e z.symm)
theorem putS_app {kvs : Kd} {ks : List Str} {k : Str} {d : PyData} (h : kvs.map (·.1) = ks) (n : k ∉ ks) : putS kvs k d = kvs ++ [(k, d)] := by
  unfold putS
  rw [if_neg]
  intro z
  obtain ⟨x, h1, h2⟩ := List.any_eq_true.mp z
  exact n (by rw [← h, ← of_decide_eq_true h2]; exact List.mem_map.mpr ⟨x, h1, rfl⟩)
end M


set_option maxRecDepth 100000
set_option maxHeartbeats 2000000
namespace M
open PySem G Pg
theorem filter_len {α : Type} (xs : List α) (q : α → Bool) : ((List.range xs.length).filter (tAt xs q)).length = (xs.filter q).length := by
  have : ∀ n, n ≤ xs.length → ((List.range n).filter (tAt xs q)).length = ((xs.take n).filter q).length := by
    intro n
    induction n with
    | zero => intro _; rfl
    | succ n ih =>
      intro h
      have hn : n < xs.length := by omega
      have hg : xs[n]? = some xs[n] := List.getElem?_eq_getElem hn
      rw [List.range_succ, take_snoc hg, List.filter_append, List.filter_append, List.length_append, List.length_append, ih (by omega)]
      congr 1
      have e : tAt xs q n = q xs[n] := by unfold tAt; rw [hg]
      by_cases z : q xs[n] = true
      · simp [List.filter_cons, e, z]
      · simp [List.filter_cons, e, z]
  have h := this xs.length (Nat.le_refl _)
  rw [List.take_length] at h
  exact h
theorem alive_tAt (s : Std) (o : Nat) : aliveL s o = (List.range s.ts.length).filter (tAt s.ts fun t => decide (t.1 = o) && decide (t.2.1 = .live)) := by
  unfold aliveL
  congr 1
  funext i
  unfold aliveAt tAt
  cases s.ts[i]? <;> rfl
theorem alive_len (s : Std) (o : Nat) : (aliveL s o).length = manyLive s o := by
  rw [alive_tAt, filter_len]
  rfl
theorem putS_last {kvs : Kd} {ks : List Str} {k : Str} {d d' : PyData} (h : kvs.map (·.1) = ks) (n : k ∉ ks) : putS (kvs ++ [(k, d)]) k d' = kvs ++ [(k, d')] := by
  unfold putS
  rw [if_pos (by simp), List.map_append]
  congr 1
  · have e : (kvs.map fun x => if x.1 = k then (x.1, d') else x) = kvs.map id := List.map_congr_left fun x hx => if_neg fun z => n (by rw [← h, ← z]; exact List.mem_map.mpr ⟨x, hx, rfl⟩)
    rw [e, List.map_id]
  · simp
def sfK (r : Rl) (s : Std) : Kd := [("doubled", .bool (fDoubled s)), ("hanging", .bool (fHanging s)), ("shown", .bool (fShown r s)), ("counted", .bool (fCounted r s))]
end M
namespace G
open PySem PySem.Spec PyProof.Rows L2 M
section
variable {X : Cx} {W : WX} {env : En} {D : DE} {ix val : Expr} {pos : Pos} {d : PyData} {k : Str} {v : L2.V} {kvs : Kd}
theorem ws_dadd {k0 : Nat} (i : Nat) (ks : List Str) (hr : Room k0 X.A) (hval : VC X val env (.dat d)) (hk : VC X ix env (.dat (.str k))) (kx : D.nx (env.set i (some (.own v (odk X.K (kvs ++ [(k, d)])))))) (hks : kvs.map (·.1) = ks := by rfl) (n : k ∉ ks := by decide +kernel) (hl : kvs.length < 16777216 := by exact Nat.lt_of_lt_of_le (by exact Nat.le_of_ble_eq_true rfl : _ < 1000) (by decide)) (h : env[i]? = some (some (.own v (odk X.K kvs))) := by rfl) {x : Str} {p1 p2 : Pos} (hN : X.N[i]? = some x := by rfl)
    (hv : Vis X.env.scope x := by first | exact Or.inl rfl | exact Or.inr (Or.inl rfl) | exact Or.inr (Or.inr rfl)) (hd : (x == ("__debug__" : Str)) = false := by decide) (hcd : (x == ("__classdict__" : Str)) = false := by decide)
    (hs : swapsWith val (some (.Subscript (.Name x p1) ix p2)) pos.line X.env = pure false := by rfl) : WS X W (.Assign [.Subscript (.Name x p1) ix p2] val pos) D env :=
  ws_dput i hr (.pure hval ⟨d, rfl, kvs, h, hk, hl, by rw [putS_app hks n]; exact kx⟩) hN hv hd hcd hs
end
end G
namespace Pg
open PySem L2 G M
theorem loose_any (s : Std) (k : Nat) : ((natsD (looseL s)).any fun z => PyData.eqv z (.int (k : Int))) = decide (k ∈ looseL s) := by
  unfold natsD
  rw [any_nats (looseL s) (fun n => n) k, Bool.eq_iff_iff, List.any_eq_true]
  simp
section
variable {P : Program} {w : World} {K : PySem.W.Frag} {mg : Str → Option Value} {base : Heap} {C : Addr}
def sp_lsfaults (K : PySem.W.Frag) : Spec := fun cs R _ => ∃ (r : Rl) (s : Std), cs = [.dat (rpD r), .dat s.l] ∧ s.Ok ∧ ∀ v, R (.own v (odk K (sfK r s))) cs
end
end Pg


set_option maxRecDepth 100000
set_option maxHeartbeats 2000000
namespace M
open PySem G Pg
def lkD (s : Std) : Deed → Bool
  | .own k => !hasLive s.os k
  | _ => false
theorem words_ne : ("own" : Str) ≠ "put" ∧ ("own" : Str) ≠ "move" ∧ ("own" : Str) ≠ "mark" ∧ ("own" : Str) ≠ "take" ∧ ("own" : Str) ≠ "fetch" ∧ ("own" : Str) ≠ "raise" ∧ ("own" : Str) ≠ "clear" := by decide +kernel
theorem words_nf : ("fetch" : Str) ≠ "own" ∧ ("fetch" : Str) ≠ "put" ∧ ("fetch" : Str) ≠ "move" ∧ ("fetch" : Str) ≠ "mark" ∧ ("fetch" : Str) ≠ "take" ∧ ("fetch" : Str) ≠ "raise" ∧ ("fetch" : Str) ≠ "clear" := by decide +kernel
theorem words_nc : ("clear" : Str) ≠ "own" ∧ ("clear" : Str) ≠ "put" ∧ ("clear" : Str) ≠ "move" ∧ ("clear" : Str) ≠ "mark" ∧ ("clear" : Str) ≠ "take" ∧ ("clear" : Str) ≠ "raise" ∧ ("clear" : Str) ≠ "fetch" := by decide +kernel
theorem word_own {d : Deed} (h : decide (Deed.word d = "own") = true) : ∃ k, d = .own k := by
  have h := of_decide_eq_true h
  obtain ⟨a, b, c, d', e, f, g⟩ := words_ne
  cases d with
  | own k => exact ⟨k, rfl⟩
  | put _ => exact absurd h.symm a
  | move _ _ => exact absurd h.symm b
  | mark _ => exact absurd h.symm c
  | take _ => exact absurd h.symm d'
  | fetch _ => exact absurd h.symm e
  | raise _ => exact absurd h.symm f
  | clear => exact absurd h.symm g
theorem word_fetch {d : Deed} (h : decide (Deed.word d = "fetch") = true) : ∃ n, d = .fetch n := by
  have h := of_decide_eq_true h
  obtain ⟨a, b, c, d', e, f, g⟩ := words_nf
  cases d with
  | own k => exact absurd h.symm a
  | put _ => exact absurd h.symm b
  | move _ _ => exact absurd h.symm c
  | mark _ => exact absurd h.symm d'
  | take _ => exact absurd h.symm e
  | fetch n => exact ⟨n, rfl⟩
  | raise _ => exact absurd h.symm f
  | clear => exact absurd h.symm g
theorem word_clear {d : Deed} (h : decide (Deed.word d = "clear") = true) : d = .clear := by
  have h := of_decide_eq_true h
  obtain ⟨a, b, c, d', e, f, g⟩ := words_nc
  cases d with
  | own k => exact absurd h.symm a
  | put _ => exact absurd h.symm b
  | move _ _ => exact absurd h.symm c
  | mark _ => exact absurd h.symm d'
  | take _ => exact absurd h.symm e
  | fetch n => exact absurd h.symm g
  | raise _ => exact absurd h.symm f
  | clear => rfl
theorem taken_eq (s : Std) (b : Bool) (d : Deed) : (decide (Deed.word d = "own") && (!b && lkD s d)) = fTaken s b d := by
  by_cases h : decide (Deed.word d = "own") = true
  · obtain ⟨k, rfl⟩ := word_own h
    rw [h]
    rfl
  · have h2 : decide (Deed.word d = "own") = false := by simpa using h
    rw [h2]
    cases d with
    | own k => exact absurd (decide_eq_true (rfl : Deed.word (.own k) = "own")) h
    | _ => rfl
/-- what came back, by place -/
def cameL (s s' : Std) : List Nat := (List.range s.ts.length).filter fun i => tAt s.ts (fun t => decide (t.2.1 = .gone)) i && tAt s'.ts (fun t => decide (t.2.1 = .live)) i
def outL (s s' : Std) : List Nat := (List.range s.ts.length).filter fun i => tAt s.ts (fun t => decide (t.2.1 = .live)) i && tAt s'.ts (fun t => decide (t.2.1 = .cleared)) i
theorem raised_eq {s s' : Std} (b : Bool) (d : Deed) (td : s.Tidy) (hl : s.ts.length ≤ s'.ts.length) : ((decide (Deed.word d = "fetch") && b) && decide ((0 : Int) < (((cameL s s').filter (tAt s.ts fun t => decide (t.2.2 = .self))).length : Int))) = fRaised s s' b d := by
  rw [gt0_any]
  by_cases h : decide (Deed.word d = "fetch") = true
  · obtain ⟨n, rfl⟩ := word_fetch h
    rw [h, Bool.true_and]
    show _ = (b && (s.ts.zip s'.ts).any fun p => decide (p.1.2.2 = .self) && decide (p.2.2.1 = .live))
    congr 1
    rw [zip_any hl (fun t => decide (t.2.2 = .self)) (fun t => decide (t.2.1 = .live))]
    unfold cameL
    rw [any_filter']
    refine any_congr fun i hi => ?_
    have hil := List.mem_range.mp hi
    have hg : s.ts[i]? = some s.ts[i] := List.getElem?_eq_getElem hil
    have ht := td _ (List.getElem_mem hil)
    unfold tAt
    rw [hg]
    generalize s.ts[i] = u at *
    obtain ⟨a, x, y⟩ := u
    simp only at ht ⊢
    by_cases hy : y = .self
    · have hx : x = .gone := Classical.byContradiction fun z => by have := ht z; rw [hy] at this; cases this
      simp [hy, hx]
    · simp [hy]
  · have h2 : decide (Deed.word d = "fetch") = false := by simpa using h
    rw [h2]
    cases d with
    | fetch k => exact absurd (decide_eq_true (rfl : Deed.word (.fetch k) = "fetch")) h
    | _ => rfl
def leftAt (d : Deed) (t : Th) : Bool := match d with
  | .fetch n => decide (t = (n, S3.gone, Tk.num n))
  | _ => false
theorem left_eq {s s' : Std} (b : Bool) (d : Deed) (hl : ∀ n, d = .fetch n → s'.ts.length = s.ts.length) : ((decide (Deed.word d = "fetch") && b) && decide ((0 : Int) < (((List.range s.ts.length).filter (tAt s'.ts (leftAt d))).length : Int))) = fLeft s' b d := by
  rw [gt0_any]
  by_cases h : decide (Deed.word d = "fetch") = true
  · obtain ⟨n, rfl⟩ := word_fetch h
    rw [h, Bool.true_and, ← hl n rfl, range_any]
    rfl
  · have h2 : decide (Deed.word d = "fetch") = false := by simpa using h
    rw [h2]
    cases d with
    | fetch k => exact absurd (decide_eq_true (rfl : Deed.word (.fetch k) = "fetch")) h
    | _ => rfl
theorem lost_eq {s s' : Std} (d : Deed) (hl : s.ts.length ≤ s'.ts.length) : (decide (Deed.word d = "clear") && decide ((0 : Int) < ((outL s s').length : Int))) = fLost s s' d := by
  unfold outL
  rw [gt0_any]
  by_cases h : decide (Deed.word d = "clear") = true
  · obtain rfl := word_clear h
    rw [h, Bool.true_and, ← zip_any hl (fun t => decide (t.2.1 = .live)) (fun t => decide (t.2.1 = .cleared))]
    rfl
  · have h2 : decide (Deed.word d = "clear") = false := by simpa using h
    rw [h2]
    cases d with
    | clear => exact absurd (decide_eq_true (rfl : Deed.word .clear = "clear")) h
    | _ => rfl
theorem row3L_eqv (u : Th) (n : Nat) : PyData.eqv (.list (tL u)) (.list [.int (n : Int), .str S3.gone.str, .int (n : Int)]) = decide (u = (n, S3.gone, Tk.num n)) := by
  refine (?_ : _ = PyData.eqv (tD u) (.tuple [.int (n : Int), .str S3.gone.str, .int (n : Int)])).trans (row3_eqv u n)
  rfl
theorem tL_sh (u : Th) : SeqAt.shaped (.list (tL u)) = true := (shaped_lst (ds := tL u) (n := 0) (by decide) fun d hd => by
  simp only [tL, List.mem_cons, List.not_mem_nil, or_false] at hd
  rcases hd with e | e | e
  · subst e; exact shaped_int
  · subst e; exact shaped_str (S3.ok _)
  · subst e; exact Tk.sh _).1
theorem row3_sh (n : Nat) : SeqAt.shaped (.list [.int (n : Int), .str S3.gone.str, .int (n : Int)]) = true := tL_sh (n, .gone, .num n)
end M
namespace Pg
open PySem L2 G M
section
variable {P : Program} {w : World} {K : PySem.W.Frag} {mg : Str → Option Value} {base : Heap} {C : Addr}
theorem wb_at {X : Cx} {W : WX} {env env' : En} {D : DE} {sts : List Stmt} (e : env = env') (h : WB X W sts D env') : WB X W sts D env := e ▸ h
abbrev enF (K : PySem.W.Frag) (r : Rl) (t t' : Std) (d : Deed) (b : Bool) (v0 : L2.V) (kv : Kd) (x6 x7 x8 x9 : Option Ct) : En := [some (.dat (rpD r)), some (.dat t.l), some (.dat (.tuple (Deed.body d))), some (.dat t'.l), some (.dat (.str (wordD b))), some (.own v0 (odk K kv)), x6, x7, x8, x9, none, none]
def sp_lfaults (K : PySem.W.Frag) : Spec := fun cs R _ => ∃ (r : Rl) (s : Std) (d : Deed) (n : Nat), cs = [.dat (rpD r), .dat s.l, .dat d.d] ∧ s.OkN n ∧ n < 1000 ∧ d.keyOk ∧ s.Tidy ∧ ∀ v, R (.own v (olst K ((faultsOf r s d).map .str))) cs
end
end Pg


set_option maxRecDepth 100000
set_option maxHeartbeats 2000000
namespace M
open PySem G Pg
/-- what the law may compare: lists and tuples down to n levels -/
def okL : Nat → PyData → Prop
  | _, .none => True
  | _, .bool _ => True
  | _, .int _ => True
  | _, .str x => PyData.strOk x = true
  | n + 1, .list ds => ds.length ≤ 100000000 ∧ ∀ d ∈ ds, okL n d
  | n + 1, .tuple ds => ds.length ≤ 100000000 ∧ ∀ d ∈ ds, okL n d
  | _, _ => False
end M
namespace Pg
open PySem L2 G M
theorem kt_bool_bool : L2.kitB "bool" "bool" = some true := by decide +kernel
theorem kt_int_bool : L2.kitB "int" "bool" = some false := by decide +kernel
theorem kt_str_bool : L2.kitB "str" "bool" = some false := by decide +kernel
theorem kt_list_bool : L2.kitB "list" "bool" = some false := by decide +kernel
theorem kt_tuple_bool : L2.kitB "tuple" "bool" = some false := by decide +kernel
theorem kt_int_int : L2.kitB "int" "int" = some true := by decide +kernel
theorem kt_str_int : L2.kitB "str" "int" = some false := by decide +kernel
theorem kt_list_int : L2.kitB "list" "int" = some false := by decide +kernel
theorem kt_tuple_int : L2.kitB "tuple" "int" = some false := by decide +kernel
theorem kt_str_str : L2.kitB "str" "str" = some true := by decide +kernel
theorem kt_list_str : L2.kitB "list" "str" = some false := by decide +kernel
theorem kt_tuple_str : L2.kitB "tuple" "str" = some false := by decide +kernel
theorem kt_tuple_tuple : L2.kitB "tuple" "tuple" = some true := by decide +kernel
theorem kt_list_tuple : L2.kitB "list" "tuple" = some false := by decide +kernel
theorem kt_list_list : L2.kitB "list" "list" = some true := by decide +kernel
section
variable {P : Program} {w : World} {K : PySem.W.Frag} {mg : Str → Option Value} {base : Heap} {C : Addr}
def sp_like (n : Nat) : Spec := fun cs R _ => ∃ d : PyData, cs = [.dat d, .dat d] ∧ okL n d ∧ R (.dat (.bool true)) cs
theorem fn_like (B : Bi mg) (D : Df K mg "_law_like" s__law_like p__law_like) : ∀ n, Fn P w K mg base "_law_like" (n + 1) (sp_like n) := by
  have nd := sc__law_like.nd
  intro n
  induction n with
  | zero => ?_
  | succ n ih => ?_
  · refine fnG D sc__law_like (fun cs R RX h => ?_) (fun f cdv A outer s H E X eX hr tk hp cs R RX h => ?_)
    · obtain ⟨_, rfl, _⟩ := h
      rfl
    subst eX
    obtain ⟨d, rfl, ok, k⟩ := h
    cases d with
    | none =>
      exact wb_cons (ws_take (tc_cmp op_isN (od_isN (d := .none)) (vc_dat 1) vc_non) (wb_cons (ws_ret (.pure (vc_cmp op_isN (od_isN (d := .none)) (vc_dat 0) vc_non) ⟨_, .dat (.dat .nil), k⟩))))
    | dict x => exact ok.elim
    | bool x =>
      refine wb_cons (ws_skip (tc_cmp op_isN (od_isN (d := .bool x)) (vc_dat 1) vc_non) ?_)
      exact wb_cons (ws_take (tc_val (vc_isi (d := .bool x) (T := "bool") B.isinstance B.bool (vc_dat 1) kt_bool_bool)) (wb_cons (ws_ret (.pure (vc_andB (b1 := true) (b2 := true) (vc_isi (d := .bool x) (T := "bool") B.isinstance B.bool (vc_dat 0) kt_bool_bool) fun _ => vc_one (vis (bool_d (eqv_self shaped_bool.1)) (vc_cmp (op_eqD hr.units) (od_eqD shaped_bool.1 shaped_bool.1) (vc_dat 0) (vc_dat 1)))) ⟨_, .dat (.dat .nil), k⟩))))
    | int x =>
      refine wb_cons (ws_skip (tc_cmp op_isN (od_isN (d := .int x)) (vc_dat 1) vc_non) ?_)
      refine wb_cons (ws_skip (tc_val (vc_isi (d := .int x) (T := "bool") B.isinstance B.bool (vc_dat 1) kt_int_bool)) ?_)
      exact wb_cons (ws_take (tc_val (vc_isi (d := .int x) (T := "int") B.isinstance B.int (vc_dat 1) kt_int_int)) (wb_cons (ws_ret (.pure (vc_andB (b1 := true) (b2 := true) (vc_isi (d := .int x) (T := "int") B.isinstance B.int (vc_dat 0) kt_int_int) fun _ => vc_andB (b1 := true) (b2 := true) (vc_not (b' := false) (vc_isi (d := .int x) (T := "bool") B.isinstance B.bool (vc_dat 0) kt_int_bool)) fun _ => vc_one (vis (bool_d (eqv_self shaped_int.1)) (vc_cmp (op_eqD hr.units) (od_eqD shaped_int.1 shaped_int.1) (vc_dat 0) (vc_dat 1)))) ⟨_, .dat (.dat .nil), k⟩))))
    | str x =>
      refine wb_cons (ws_skip (tc_cmp op_isN (od_isN (d := .str x)) (vc_dat 1) vc_non) ?_)
      refine wb_cons (ws_skip (tc_val (vc_isi (d := .str x) (T := "bool") B.isinstance B.bool (vc_dat 1) kt_str_bool)) ?_)
      refine wb_cons (ws_skip (tc_val (vc_isi (d := .str x) (T := "int") B.isinstance B.int (vc_dat 1) kt_str_int)) ?_)
      exact wb_cons (ws_take (tc_val (vc_isi (d := .str x) (T := "str") B.isinstance B.str (vc_dat 1) kt_str_str)) (wb_cons (ws_ret (.pure (vc_andB (b1 := true) (b2 := true) (vc_isi (d := .str x) (T := "str") B.isinstance B.str (vc_dat 0) kt_str_str) fun _ => vc_one (vis (bool_d (eqv_self (shaped_str ok).1)) (vc_cmp (op_eqD hr.units) (od_eqD (shaped_str ok).1 (shaped_str ok).1) (vc_dat 0) (vc_dat 1)))) ⟨_, .dat (.dat .nil), k⟩))))
    | list ds => exact ok.elim
    | tuple ds => exact ok.elim
  · refine fnG D sc__law_like (fun cs R RX h => ?_) (fun f cdv A outer s H E X eX hr tk hp cs R RX h => ?_)
    · obtain ⟨_, rfl, _⟩ := h
      rfl
    subst eX
    obtain ⟨d, rfl, ok, k⟩ := h
    cases d with
    | none =>
      exact wb_cons (ws_take (tc_cmp op_isN (od_isN (d := .none)) (vc_dat 1) vc_non) (wb_cons (ws_ret (.pure (vc_cmp op_isN (od_isN (d := .none)) (vc_dat 0) vc_non) ⟨_, .dat (.dat .nil), k⟩))))
    | dict x => exact ok.elim
    | bool x =>
      refine wb_cons (ws_skip (tc_cmp op_isN (od_isN (d := .bool x)) (vc_dat 1) vc_non) ?_)
      exact wb_cons (ws_take (tc_val (vc_isi (d := .bool x) (T := "bool") B.isinstance B.bool (vc_dat 1) kt_bool_bool)) (wb_cons (ws_ret (.pure (vc_andB (b1 := true) (b2 := true) (vc_isi (d := .bool x) (T := "bool") B.isinstance B.bool (vc_dat 0) kt_bool_bool) fun _ => vc_one (vis (bool_d (eqv_self shaped_bool.1)) (vc_cmp (op_eqD hr.units) (od_eqD shaped_bool.1 shaped_bool.1) (vc_dat 0) (vc_dat 1)))) ⟨_, .dat (.dat .nil), k⟩))))
    | int x =>
      refine wb_cons (ws_skip (tc_cmp op_isN (od_isN (d := .int x)) (vc_dat 1) vc_non) ?_)
      refine wb_cons (ws_skip (tc_val (vc_isi (d := .int x) (T := "bool") B.isinstance B.bool (vc_dat 1) kt_int_bool)) ?_)
      exact wb_cons (ws_take (tc_val (vc_isi (d := .int x) (T := "int") B.isinstance B.int (vc_dat 1) kt_int_int)) (wb_cons (ws_ret (.pure (vc_andB (b1 := true) (b2 := true) (vc_isi (d := .int x) (T := "int") B.isinstance B.int (vc_dat 0) kt_int_int) fun _ => vc_andB (b1 := true) (b2 := true) (vc_not (b' := false) (vc_isi (d := .int x) (T := "bool") B.isinstance B.bool (vc_dat 0) kt_int_bool)) fun _ => vc_one (vis (bool_d (eqv_self shaped_int.1)) (vc_cmp (op_eqD hr.units) (od_eqD shaped_int.1 shaped_int.1) (vc_dat 0) (vc_dat 1)))) ⟨_, .dat (.dat .nil), k⟩))))
    | str x =>
      refine wb_cons (ws_skip (tc_cmp op_isN (od_isN (d := .str x)) (vc_dat 1) vc_non) ?_)
      refine wb_cons (ws_skip (tc_val (vc_isi (d := .str x) (T := "bool") B.isinstance B.bool (vc_dat 1) kt_str_bool)) ?_)
      refine wb_cons (ws_skip (tc_val (vc_isi (d := .str x) (T := "int") B.isinstance B.int (vc_dat 1) kt_str_int)) ?_)
      exact wb_cons (ws_take (tc_val (vc_isi (d := .str x) (T := "str") B.isinstance B.str (vc_dat 1) kt_str_str)) (wb_cons (ws_ret (.pure (vc_andB (b1 := true) (b2 := true) (vc_isi (d := .str x) (T := "str") B.isinstance B.str (vc_dat 0) kt_str_str) fun _ => vc_one (vis (bool_d (eqv_self (shaped_str ok).1)) (vc_cmp (op_eqD hr.units) (od_eqD (shaped_str ok).1 (shaped_str ok).1) (vc_dat 0) (vc_dat 1)))) ⟨_, .dat (.dat .nil), k⟩))))
    | list ds =>
      refine wb_cons (ws_skip (tc_cmp op_isN (od_isN (d := PyData.list ds)) (vc_dat 1) vc_non) ?_)
      refine wb_cons (ws_skip (tc_val (vc_isi (d := .list ds) (T := "bool") B.isinstance B.bool (vc_dat 1) kt_list_bool)) ?_)
      refine wb_cons (ws_skip (tc_val (vc_isi (d := .list ds) (T := "int") B.isinstance B.int (vc_dat 1) kt_list_int)) ?_)
      refine wb_cons (ws_skip (tc_val (vc_isi (d := .list ds) (T := "str") B.isinstance B.str (vc_dat 1) kt_list_str)) ?_)
      refine wb_cons (ws_else (tc_val (vc_isi (d := .list ds) (T := "tuple") B.isinstance B.tuple (vc_dat 1) kt_list_tuple)) (wb_cons (ws_skip (WC.tc (wc_or (b1 := false) (b2 := false) (tc_not (b' := true) (tc_val (vc_isi (d := .list ds) (T := "list") B.isinstance B.list (vc_dat 0) kt_list_list))) fun _ => wc_or1 (tis (b := !PyData.eqv (.int (ds.length : Int)) (.int (ds.length : Int))) (by rw [eqv_int]; simp) (tc_cmp (op_neD hr.units) (od_neD shaped_int.1 shaped_int.1) (vc_len (ds := ds) B.len (vc_dat 0) (Or.inl rfl)) (vc_len (ds := ds) B.len (vc_dat 1) (Or.inl rfl)))))) (wb_nil ?_))))
      refine wb_cons (ws_for hp rfl (vi_range1 (n := ds.length) B.range (vc_len (ds := ds) B.len (vc_dat 1) (Or.inl rfl)) (by have := ok.1; omega)) (fun i env => ∃ x, env = [some (.dat (PyData.list ds)), some (.dat (PyData.list ds)), x]) ⟨none, rfl⟩ ?turn ?fin)
      case turn =>
        rintro i d hd env1 ⟨x, rfl⟩
        obtain ⟨j, hj, rfl⟩ := of_map hd
        have hl : i < ds.length := by have := (List.getElem?_eq_some_iff.mp hj).1; simpa using this
        have ej : i = j := by rw [List.getElem?_range hl] at hj; exact Option.some.inj hj
        subst ej
        have hg : ds[i]? = some ds[i] := List.getElem?_eq_getElem hl
        refine ⟨_, _, gc_name 2 nd, ?_⟩
        exact wb_cons (ws_skip (tc_not (b' := true) (tc_val (vc_call ih hr (ac_cons (vc_ixL (ds := ds) (vc_dat 0) (vc_dat 2) (atI_nat hg)) (ac_cons (vc_ixL (ds := ds) (vc_dat 1) (vc_dat 2) (atI_nat hg)) ac_nil)) ⟨ds[i], rfl, ok.2 _ (List.getElem_mem hl), rfl⟩))) (wb_nil ⟨_, rfl⟩))
      case fin =>
        rintro env1 ⟨x, rfl⟩
        exact wb_cons (ws_ret (.pure vc_bl ⟨_, .dat (.dat .nil), k⟩))
    | tuple ds =>
      refine wb_cons (ws_skip (tc_cmp op_isN (od_isN (d := PyData.tuple ds)) (vc_dat 1) vc_non) ?_)
      refine wb_cons (ws_skip (tc_val (vc_isi (d := .tuple ds) (T := "bool") B.isinstance B.bool (vc_dat 1) kt_tuple_bool)) ?_)
      refine wb_cons (ws_skip (tc_val (vc_isi (d := .tuple ds) (T := "int") B.isinstance B.int (vc_dat 1) kt_tuple_int)) ?_)
      refine wb_cons (ws_skip (tc_val (vc_isi (d := .tuple ds) (T := "str") B.isinstance B.str (vc_dat 1) kt_tuple_str)) ?_)
      refine wb_cons (ws_take (tc_val (vc_isi (d := .tuple ds) (T := "tuple") B.isinstance B.tuple (vc_dat 1) kt_tuple_tuple)) (wb_cons (ws_skip (WC.tc (wc_or (b1 := false) (b2 := false) (tc_not (b' := true) (tc_val (vc_isi (d := .tuple ds) (T := "tuple") B.isinstance B.tuple (vc_dat 0) kt_tuple_tuple))) fun _ => wc_or1 (tis (b := !PyData.eqv (.int (ds.length : Int)) (.int (ds.length : Int))) (by rw [eqv_int]; simp) (tc_cmp (op_neD hr.units) (od_neD shaped_int.1 shaped_int.1) (vc_len (ds := ds) B.len (vc_dat 0) (Or.inr rfl)) (vc_len (ds := ds) B.len (vc_dat 1) (Or.inr rfl)))))) (wb_nil ?_))))
      refine wb_cons (ws_for hp rfl (vi_range1 (n := ds.length) B.range (vc_len (ds := ds) B.len (vc_dat 1) (Or.inr rfl)) (by have := ok.1; omega)) (fun i env => ∃ x, env = [some (.dat (PyData.tuple ds)), some (.dat (PyData.tuple ds)), x]) ⟨none, rfl⟩ ?turn ?fin)
      case turn =>
        rintro i d hd env1 ⟨x, rfl⟩
        obtain ⟨j, hj, rfl⟩ := of_map hd
        have hl : i < ds.length := by have := (List.getElem?_eq_some_iff.mp hj).1; simpa using this
        have ej : i = j := by rw [List.getElem?_range hl] at hj; exact Option.some.inj hj
        subst ej
        have hg : ds[i]? = some ds[i] := List.getElem?_eq_getElem hl
        refine ⟨_, _, gc_name 2 nd, ?_⟩
        exact wb_cons (ws_skip (tc_not (b' := true) (tc_val (vc_call ih hr (ac_cons (vc_ixT (ds := ds) (vc_dat 0) (vc_dat 2) (atI_nat hg)) (ac_cons (vc_ixT (ds := ds) (vc_dat 1) (vc_dat 2) (atI_nat hg)) ac_nil)) ⟨ds[i], rfl, ok.2 _ (List.getElem_mem hl), rfl⟩))) (wb_nil ⟨_, rfl⟩))
      case fin =>
        rintro env1 ⟨x, rfl⟩
        exact wb_cons (ws_ret (.pure vc_bl ⟨_, .dat (.dat .nil), k⟩))
end
end Pg


set_option maxRecDepth 100000
set_option maxHeartbeats 2000000
namespace G
open PySem PySem.Spec PyProof.Rows L2
section
variable {X : Cx} {W : WX} {env : En} {e : Expr} {p pos : Pos} {Q : Ct → En → Prop} {RX : Xc → En → Prop}
/-- int(e), e a truth with effects -/
theorem ec_toInt (hm : X.mg "int" = none) (h : EC X W e (fun c env1 => ∃ b, c = .dat (.bool b) ∧ Q (.dat (.int (if b = true then 1 else 0))) env1) RX env) (hg : Gl X "int" := by rfl) (he : starEach [e] X.env = (false, eval e X.env) :: starEach [] X.env := by rfl) (hpl : (backTo pos (starEach [] X.env)).any (·.1) = false := by rfl) :
    EC X W (.Call (.Name "int" p) [e] [] pos) Q RX env := fun F H σ S s QV kq kx =>
  ⟨_, pe_callTy call_int1 hg hm (by decide +kernel) (pa_cons pwE pa_nil he) (by decide) (by decide) he hpl, h F H σ S s _ (fun v F1 H1 S1 Sv c env1 p1 s1 hv dj ⟨b, ec, q⟩ => by
    subst ec
    have h1 := hv.1
    cases h1
    exact .inr ⟨b, rfl, kq _ F1 H1 S1 (fun _ => False) (.dat (.int (if b = true then 1 else 0))) env1 (p1.weak (fun _ z => z) fun a z => .inl (z.elim (fun y => .inl y) False.elim)) s1 ⟨.int _, fun _ z => z⟩ (fun _ _ _ z => z) q⟩) kx⟩
end
end G
namespace Pg
open PySem L2 G M
section
variable {P : Program} {w : World} {K : PySem.W.Frag} {mg : Str → Option Value} {base : Heap} {C : Addr}
theorem key3 {q : Nat} (h : q < 3) : ∃ key, atI ([.str "a", .str "b", .str "c"] : List PyData) (q : Int) = some (.str key) ∧ PyData.strOk key = true := by
  match q, h with
  | 0, _ => exact ⟨"a", rfl, by decide +kernel⟩
  | 1, _ => exact ⟨"b", rfl, by decide +kernel⟩
  | 2, _ => exact ⟨"c", rfl, by decide +kernel⟩
theorem key2 {q : Nat} (h : q < 2) : ∃ key, atI ([.str "a", .str "b"] : List PyData) (q : Int) = some (.str key) ∧ PyData.strOk key = true := by
  match q, h with
  | 0, _ => exact ⟨"a", rfl, by decide +kernel⟩
  | 1, _ => exact ⟨"b", rfl, by decide +kernel⟩
def sp_any (K : PySem.W.Frag) : Spec := fun cs R _ => ∃ (v : L2.V) (D : Dr) (s : Std) (T : Lay), cs = [.own v (olst K D.ds), .own (.ref T.rt) (ost K T (stR s))] ∧ s.Ok ∧ ∀ (d : Deed) (D' : Dr), d.keyOk → R (.dat d.d) [.own v (olst K D'.ds), .own (.ref T.rt) (ost K T (stR s))]
end
end Pg


set_option maxRecDepth 100000
set_option maxHeartbeats 2000000
namespace M
open PySem G Pg
theorem parts_rule {ps : List PyData} (h : PartsOk 9 ps) : ∃ r : Rl, ps = rp r := by
  obtain ⟨a, b, c, d, e, f, g, i, j, rfl⟩ := nine h.1
  have two : ∀ {x y z : PyData}, z ∈ [x, y] → z = x ∨ z = y := fun h => by simpa using h
  have three : ∀ {x y w z : PyData}, z ∈ [x, y, w] → z = x ∨ z = y ∨ z = w := fun h => by simpa using h
  obtain ⟨_, q0, m0⟩ := h.2 0 _ (by decide) rfl
  obtain ⟨_, q1, m1⟩ := h.2 1 _ (by decide) rfl
  obtain ⟨_, q2, m2⟩ := h.2 2 _ (by decide) rfl
  obtain ⟨_, q3, m3⟩ := h.2 3 _ (by decide) rfl
  obtain ⟨_, q4, m4⟩ := h.2 4 _ (by decide) rfl
  obtain ⟨_, q5, m5⟩ := h.2 5 _ (by decide) rfl
  obtain ⟨_, q6, m6⟩ := h.2 6 _ (by decide) rfl
  obtain ⟨_, q7, m7⟩ := h.2 7 _ (by decide) rfl
  obtain ⟨_, q8, m8⟩ := h.2 8 _ (by decide) rfl
  cases q0; cases q1; cases q2; cases q3; cases q4; cases q5; cases q6; cases q7; cases q8
  obtain ⟨x0, rfl⟩ : ∃ x, a = .str (bstr x "all" "live") := (two m0).elim (fun z => ⟨true, z⟩) fun z => ⟨false, z⟩
  obtain ⟨x1, rfl⟩ : ∃ x, b = .str (bstr x "any" "live") := (two m1).elim (fun z => ⟨true, z⟩) fun z => ⟨false, z⟩
  obtain ⟨x2, rfl⟩ : ∃ x : Mk, c = .str x.str := (three m2).elim (fun z => ⟨.alone, z⟩) fun z => z.elim (fun z => ⟨.along, z⟩) fun z => ⟨.barred, z⟩
  obtain ⟨x3, rfl⟩ : ∃ x, d = .bool x := (two m3).elim (fun z => ⟨true, z⟩) fun z => ⟨false, z⟩
  obtain ⟨x4, rfl⟩ : ∃ x : Bk, e = .str x.str := (three m4).elim (fun z => ⟨.none, z⟩) fun z => z.elim (fun z => ⟨.same, z⟩) fun z => ⟨.all, z⟩
  obtain ⟨x5, rfl⟩ : ∃ x, f = .bool x := (two m5).elim (fun z => ⟨true, z⟩) fun z => ⟨false, z⟩
  obtain ⟨x6, rfl⟩ : ∃ x : Cl, g = .str x.str := (three m6).elim (fun z => ⟨.plain, z⟩) fun z => z.elim (fun z => ⟨.along, z⟩) fun z => ⟨.kept, z⟩
  obtain ⟨x7, rfl⟩ : ∃ x, i = .str (bstr x "all" "live") := (two m7).elim (fun z => ⟨true, z⟩) fun z => ⟨false, z⟩
  obtain ⟨x8, rfl⟩ : ∃ x, j = .str (bstr x "own" "both") := (two m8).elim (fun z => ⟨true, z⟩) fun z => ⟨false, z⟩
  exact ⟨⟨x0, x1, x2, x3, x4, x5, x6, x7, x8⟩, rfl⟩
theorem fine_rp (r : Rl) : badOf (rows9 (rp r)) = none := by
  unfold badOf
  rw [Option.map_eq_none_iff, List.find?_eq_none]
  have h : ∀ p ∈ ([("holding", .str (bstr r.hold "all" "live"), [.str "all", .str "live"]), ("links", .str (bstr r.link "any" "live"), [.str "any", .str "live"]), ("marking", .str r.mark.str, [.str "alone", .str "along", .str "barred"]), ("check", .bool r.check, [.bool true, .bool false]), ("back", .str r.back.str, [.str "none", .str "same", .str "all"]), ("whole", .bool r.whole, [.bool true, .bool false]), ("clearing", .str r.clear.str, [.str "plain", .str "along", .str "kept"]), ("counting", .str (bstr r.count "all" "live"), [.str "all", .str "live"]), ("joining", .str (bstr r.join "own" "both"), [.str "own", .str "both"])] : List Row9), isVal p.2.2 p.2.1 = true := by
    simp only [List.forall_mem_cons]
    refine ⟨?_, ?_, ?_, ?_, ?_, ?_, ?_, ?_, ?_, fun _ z => by cases z⟩
    · cases r.hold <;> decide +kernel
    · cases r.link <;> decide +kernel
    · cases r.mark <;> decide +kernel
    · cases r.check <;> decide +kernel
    · cases r.back <;> decide +kernel
    · cases r.whole <;> decide +kernel
    · cases r.clear <;> decide +kernel
    · cases r.count <;> decide +kernel
    · cases r.join <;> decide +kernel
  intro p hp
  rw [h p hp]
  simp
theorem rl_fs (r : Rl) : fs9 (rp r) = r.fs := (Rl.fs_look r).symm
theorem okL_lst {n : Nat} {ds : List PyData} (h1 : ds.length ≤ 1000000) (h2 : ∀ d ∈ ds, okL n d) : okL (n + 1) (.list ds) := ⟨Nat.le_trans h1 (by decide), h2⟩
theorem okL_big {n : Nat} {ds : List PyData} (h1 : ds.length ≤ 100000000) (h2 : ∀ d ∈ ds, okL n d) : okL (n + 1) (.list ds) := ⟨h1, h2⟩
theorem okL_tup {n : Nat} {ds : List PyData} (h1 : ds.length ≤ 1000000) (h2 : ∀ d ∈ ds, okL n d) : okL (n + 1) (.tuple ds) := ⟨Nat.le_trans h1 (by decide), h2⟩
theorem okL_int {n : Nat} {i : Int} : okL n (.int i) := by cases n <;> trivial
theorem okL_none {n : Nat} : okL n .none := by cases n <;> trivial
theorem okL_bool {n : Nat} {i : Bool} : okL n (.bool i) := by cases n <;> trivial
theorem okL_str {n : Nat} {x : Str} (h : PyData.strOk x = true) : okL n (.str x) := by cases n <;> exact h
theorem okL_nats {n : Nat} {xs : List Nat} (h : xs.length ≤ 1000000) : okL (n + 1) (.list (natsD xs)) := okL_lst (by unfold natsD; rw [List.length_map]; exact h) fun d hd => by
  obtain ⟨x, _, rfl⟩ := List.mem_map.mp hd
  exact okL_int
theorem okL_strs {n : Nat} {xs : List Str} (h : xs.length ≤ 1000000) (hs : ∀ x ∈ xs, PyData.strOk x = true) : okL (n + 1) (.list (xs.map .str)) := okL_lst (by rw [List.length_map]; exact h) fun d hd => by
  obtain ⟨x, hx, rfl⟩ := List.mem_map.mp hd
  exact okL_str (hs x hx)
theorem okL_mem2 {n : Nat} {a b : PyData} (ha : okL n a) (hb : okL n b) : ∀ d ∈ [a, b], okL n d := fun d hd => by
  simp only [List.mem_cons, List.not_mem_nil, or_false] at hd
  rcases hd with e | e
  · rw [e]; exact ha
  · rw [e]; exact hb
theorem okL_oD {n : Nat} {o : Ow} (h : PyData.strOk o.1 = true) : okL (n + 1) (oD o) := okL_tup (Nat.le_of_ble_eq_true rfl) (okL_mem2 (okL_str h) (okL_str (S3.ok _)))
theorem okL_tk {n : Nat} (t : Tk) : okL n t.d := by
  cases t with
  | non => exact okL_none
  | self => exact okL_str (by decide +kernel)
  | num k => exact okL_int
theorem okL_tD {n : Nat} (t : Th) : okL (n + 1) (tD t) := okL_tup (Nat.le_of_ble_eq_true rfl) fun d hd => by
  simp only [List.mem_cons, List.not_mem_nil, or_false] at hd
  rcases hd with e | e | e
  · rw [e]; exact okL_int
  · rw [e]; exact okL_str (S3.ok _)
  · rw [e]; exact okL_tk _
theorem okL_std {n : Nat} {s : Std} (h : s.Ok) : okL (n + 3) s.d := by
  refine okL_tup (Nat.le_of_ble_eq_true rfl) (okL_mem2 (okL_tup (by rw [List.length_map]; have := h.ol; omega) fun d hd => ?_) (okL_tup (by rw [List.length_map]; have := h.tl; omega) fun d hd => ?_))
  · obtain ⟨o, ho, rfl⟩ := List.mem_map.mp hd
    exact okL_oD (h.key o ho)
  · obtain ⟨t, ht, rfl⟩ := List.mem_map.mp hd
    exact okL_tD t
theorem faultsL_ok : ∀ x ∈ faultsL, PyData.strOk x = true := by decide +kernel
theorem faultsOf_ok {r : Rl} {s : Std} {d : Deed} : (faultsOf r s d).length ≤ 8 ∧ ∀ x ∈ faultsOf r s d, PyData.strOk x = true :=
  ⟨List.length_filter_le _ faultsL, fun x hx => faultsL_ok x (List.mem_filter.mp hx).1⟩
theorem hist_words (r : Rl) (ds : List Deed) : ∀ x ∈ (hist r ds).2, PyData.strOk x = true := by
  have : ∀ (ds : List Deed) (p : Std × List Str), (∀ x ∈ p.2, PyData.strOk x = true) → ∀ x ∈ (ds.foldl (fun p d => ((step r p.1 d).2, p.2 ++ [wordD (step r p.1 d).1])) p).2, PyData.strOk x = true := by
    intro ds
    induction ds with
    | nil => exact fun p h => h
    | cons d ds ih =>
      intro p h
      refine ih _ fun x hx => ?_
      rcases List.mem_append.mp hx with z | z
      · exact h x z
      · rw [List.mem_singleton.mp z]; exact wordD_ok _
  exact this ds _ fun x hx => by cases hx
theorem hist_tidy (r : Rl) (ds : List Deed) : (hist r ds).1.Tidy := by
  have : ∀ (ds : List Deed) (p : Std × List Str), p.1.Tidy → (ds.foldl (fun p d => ((step r p.1 d).2, p.2 ++ [wordD (step r p.1 d).1])) p).1.Tidy := by
    intro ds
    induction ds with
    | nil => exact fun p h => h
    | cons d ds ih => exact fun p h => ih _ (step_tidy h)
  exact this ds _ tidy_empty
theorem hist_okN {r : Rl} {ds : List Deed} (h : ∀ d ∈ ds, d.keyOk) : (hist r ds).1.OkN ds.length ∧ (hist r ds).2.length = ds.length := by
  have := hist_ok (r := r) ds.length ds h (Nat.le_refl _)
  rw [List.take_length] at this
  exact this
end M
namespace G
open PySem PySem.Spec PyProof.Rows L2 M
section
variable {X : Cx} {W : WX} {env : En} {p pos : Pos} {x : Str} {k : Nat}
/-- f(), pure, its value told by what the def promises -/
theorem ec_call0 {spec : Spec} {Q : Ct → En → Prop} {RX : Xc → En → Prop} (hF : Fn X.prog X.w X.K X.mg X.base x k spec) (hr : Room k X.A) (hs : spec [] (fun c' _ => Q c' env) (fun _ _ => False)) (hg : Gl X x := by rfl) (hdb : (x == ("__debug__" : Str)) = false := by decide) : EC X W (.Call (.Name x p) [] [] pos) Q RX env := fun F H σ S s QV kq _ => by
  obtain ⟨f, fd, ps, ok, hm, hk, hb⟩ := hF.ex
  exact ⟨_, pe_call0 ok hr hg hm hk hb .nil passL hdb, call_pure s.sub .nil hs fun v F' H' Sv c' g hv fr q => kq v F' H' S Sv c' env
    ⟨g.f, fun a o e _ => g.h a o e, fun a o e => (g.new a o e).elim .inl fun z => .inr (.inl z), fun a z => z.elim .inl fun z => .inr (fr a z)⟩ (s.grow g) hv (fun i a z y => by obtain ⟨_, o, ho⟩ := s.no z; rw [fr a y] at ho; cases ho) q⟩
end
end G


set_option maxRecDepth 100000
set_option maxHeartbeats 2000000
/-! a comprehension of two clauses; exceptions of no fields -/
namespace G
open PySem PySem.Spec PyProof.Rows L2
/-- an object that is nobody's changes -/
theorem Sit.poke {K : PySem.W.Frag} {F H : Hp} {σ : St} {S : Foot} {env : En} {D : Addr} {o : HO} (s : Sit K F H σ S env) (nF : F D = none) (nS : ¬ tot S D) : Sit K F (upd H D o) σ S env :=
  ⟨fun b u e => by rw [upd_ne (ne_of_none e nF)]; exact s.sub b u e, fun i c e => by
    obtain ⟨v, e1, h1⟩ := s.slot i c e
    exact ⟨v, e1, h1.keep (Same.refl F) (fun a z => upd_ne fun q => nS (q ▸ ⟨i, z⟩)) fun a z => (h1.no z).1⟩, s.dis, s.len, s.emp⟩
section
variable {X : Cx} {env : En} {tg iter elt tg1 iter1 : Expr} {scope : Scope} {own : List (Str × Nat)} {pos : Pos} {α β : Type}
def bI (X : Cx) (scope : Scope) (tg e : Expr) : TI := fun σ H R => Blk X scope fun X' => wI X' tg e σ H R
theorem pbI : Blk X scope fun X' => PI X' tg1 iter1 (bI X scope tg1 iter1) := fun s H C cl fp => ⟨fun pins s' σ H' R I h => by
  obtain ⟨t, p, q⟩ := h s H C cl fp
  exact p.run pins s' σ H' R I q⟩
/-- [elt for tg in iter for tg1 in iter1] -/
theorem vo_lc2 (xs : List α) (f : α → PyData) (ys : α → List β) (f1 : β → PyData) (g : α → β → PyData) {js js1 vs1 : List Nat} {bnd : α → En} {bnd1 : α → β → En} (hN : X.N.Nodup) (hi : VI X tg iter env (xs.map f))
    (hb : ∀ x, x ∈ xs → Blk X scope fun X' => GC X' tg (f x) (wipE env (own.map (·.2))) js (bnd x)) (hi1 : ∀ x, x ∈ xs → Blk X scope fun X' => VI X' tg1 iter1 (bnd x) ((ys x).map f1))
    (hb1 : ∀ x, x ∈ xs → ∀ y, y ∈ ys x → Blk X scope fun X' => GC X' tg1 (f1 y) (wipE (bnd x) vs1) js1 (bnd1 x y)) (he : ∀ x, x ∈ xs → ∀ y, y ∈ ys x → Blk X scope fun X' => VC X' elt (bnd1 x y) (.dat (g x y)))
    (hz : (xs.flatMap fun x => (ys x).map (g x)).length < 16777216) (hv1 : ∀ i ∈ vs1, i ∈ own.map (·.2))
    (ok : BlkOk X.N X.env.scope scope own := by exact blkOk_by (by rfl)) (hj : ∀ j ∈ js, j ∈ own.map (·.2) := by decide) (hj1 : ∀ j ∈ js1, j ∈ vs1 := by decide) (hc : X.calm = true := by rfl)
    (hs : ∀ x, foldedSetIterable iter X.env x = pure x := by intro _; rfl) (hs1 : ∀ env x, foldedSetIterable iter1 env x = pure x := by intro _ _; rfl) :
    VO X (.ListComp elt [⟨tg, iter, [], 0⟩, ⟨tg1, iter1, [], 0⟩] scope pos) env (olst X.K (xs.flatMap fun x => (ys x).map (g x))) := fun F H σ S s Q k => by
  refine ⟨_, pe_lc2 (own := own) (tt := tYes) (tt1 := tYes) hc hN (⟨fun pins s σ H R I ⟨t, h, q⟩ => h.run pins s σ H R I q⟩ : PI X tg iter (wI X tg iter)) ok hv1 pbG (fun _ _ _ _ _ => pts_nil) pbI pbG (fun _ _ _ _ _ => pts_nil) pbE hs hs1, ?_⟩
  refine hi F H σ S s _ fun J F1 H1 g1 y D hD => ?_
  have s1 := s.grow g1
  obtain ⟨Sw, sw, tw⟩ := s1.wipe (own.map (·.2))
  have hl : (xs.map f).length = xs.length := List.length_map ..
  let Tot : List PyData := xs.flatMap fun x => (ys x).map (g x)
  let pre : Nat → List PyData := fun i => (xs.take i).flatMap fun x => (ys x).map (g x)
  let Pv : Nat → Hp → Prop := fun i H' => ∃ F' acc, H' D = some (.lst acc) ∧ DpAll X.K F' acc (pre i) ∧ F' D = none ∧ Grow F1 H1 F' H'
  have hP0 : Pv 0 (upd H1 D (.lst [])) := ⟨F1, [], upd_same, .nil, g1.sub.free hD, Grow.made g1.sub hD⟩
  refine ⟨fun i m H' => m = xs.length - i ∧ i ≤ xs.length ∧ Pv i H', ⟨xs.length, rfl, Nat.zero_le _, hP0⟩, ?_⟩
  rintro i m H' ⟨rfl, hi', F', acc, hacc, hds, nF, g2⟩
  by_cases hlt : i < xs.length
  · refine .inr ⟨y.go i F' H' (by omega) g2.f g2.sub, Pv (i + 1), fun H'' p' => ⟨xs.length - (i + 1), by omega, rfl, hlt, p'⟩, fun x H'' hy => ?_⟩
    obtain ⟨d, F2, hd, g3, hx⟩ := y.yld i F' H' x H'' (by omega) g2.f g2.sub hy
    have hxi : xs[i]? = some xs[i] := List.getElem?_eq_getElem hlt
    have hmem : xs[i] ∈ xs := List.getElem_mem hlt
    have htk : xs.take (i + 1) = xs.take i ++ [xs[i]] := by rw [List.take_succ, hxi] <;> rfl
    have hd' : d = f xs[i] := by
      rw [List.getElem?_map, hxi] at hd
      exact (Option.some.inj hd).symm
    subst hd'
    have htot : (pre (i + 1)).length ≤ Tot.length := by
      show ((xs.take (i + 1)).flatMap _).length ≤ (xs.flatMap _).length
      have e : xs.flatMap (fun x => (ys x).map (g x)) = (xs.take (i + 1) ++ xs.drop (i + 1)).flatMap fun x => (ys x).map (g x) := by rw [List.take_append_drop]
      rw [e, List.flatMap_append, List.length_append]
      omega
    have hpre : pre (i + 1) = pre i ++ (ys xs[i]).map (g xs[i]) := by
      show (xs.take (i + 1)).flatMap _ = _
      rw [htk, List.flatMap_append]
      simp [pre]
    generalize hxx : xs[i] = a at *
    have s2 : Sit X.K F2 H'' (L2.wipe σ (own.map (·.2))) Sw (wipE env (own.map (·.2))) := sw.grow (g2.trans g3)
    intro sS sH sC scl sfp
    refine hb a hmem sS sH sC scl sfp F2 H'' _ Sw x s2 hx _ fun σ2 S2 s3 t2 o2 => ⟨wipe_of o2 hj, ?_⟩
    simp only [tYes, if_true]
    intro sS sH sC scl sfp
    refine hi1 a hmem sS sH sC scl sfp F2 H'' σ2 S2 s3 _ fun J1 F3 H3 g4 y1 => ?_
    have s4 := s3.grow g4
    obtain ⟨Sw1, sw1, tw1⟩ := s4.wipe vs1
    have g5 := (g2.trans g3).trans g4
    have hD3 : H3 D = some (.lst acc) := g4.h _ _ (g3.h _ _ hacc)
    have nF3 : F3 D = none := (g3.trans g4).noF nF hacc
    have hl1 : ((ys a).map f1).length = (ys a).length := List.length_map ..
    have nS2 : ¬ tot S2 D := fun z => by
      obtain ⟨j, z⟩ := t2 D z
      obtain ⟨_, o, ho⟩ := sw.no z
      rw [hD] at ho; cases ho
    have hl1 : ((ys a).map f1).length = (ys a).length := List.length_map ..
    let Qv : Nat → Hp → Prop := fun j H' => ∃ F' acc, H' D = some (.lst acc) ∧ DpAll X.K F' acc (pre i ++ ((ys a).take j).map (g a)) ∧ F' D = none ∧ Same F3 F' ∧ Sit X.K F' H' σ2 S2 (bnd a) ∧ Grow F1 H1 F' H'
    refine ⟨fun j m H' => m = (ys a).length - j ∧ j ≤ (ys a).length ∧ Qv j H', ⟨(ys a).length, rfl, Nat.zero_le _, F3, acc, hD3, by rw [List.take_zero, List.map_nil, List.append_nil]; exact dps_mono (g3.f.trans g4.f) hds, nF3, Same.refl _, s4, g5⟩, ?_⟩
    rintro j m H5 ⟨rfl, hj', F5, acc5, hacc5, hds5, nF5, sf5, s5, g6⟩
    by_cases hlt1 : j < (ys a).length
    · refine .inr ⟨y1.go j F5 H5 (by omega) sf5 s5.sub, Qv (j + 1), fun H6 p' => ⟨(ys a).length - (j + 1), by omega, rfl, hlt1, p'⟩, fun x1 H6 hy1 => ?_⟩
      obtain ⟨d1, F6, hd1, g7, hx1⟩ := y1.yld j F5 H5 x1 H6 (by omega) sf5 s5.sub hy1
      have hyj : (ys a)[j]? = some (ys a)[j] := List.getElem?_eq_getElem hlt1
      have hmem1 : (ys a)[j] ∈ ys a := List.getElem_mem hlt1
      have htk1 : (ys a).take (j + 1) = (ys a).take j ++ [(ys a)[j]] := by rw [List.take_succ, hyj] <;> rfl
      have hd1' : d1 = f1 (ys a)[j] := by
        rw [List.getElem?_map, hyj] at hd1
        exact (Option.some.inj hd1).symm
      subst hd1'
      generalize (ys a)[j] = b at *
      have s6 := s5.grow g7
      obtain ⟨Sw1, sw1, tw1⟩ := s6.wipe vs1
      intro sS sH sC scl sfp
      refine hb1 a hmem b hmem1 sS sH sC scl sfp F6 H6 _ Sw1 x1 sw1 hx1 _ fun σ3 S3' s7 t3 o3 => ⟨wipe_of o3 hj1, ?_⟩
      intro sS sH sC scl sfp
      refine he a hmem b hmem1 sS sH sC scl sfp F6 H6 σ3 S3' s7 _ fun v F7 H7 Sv g8 hv fr => ?_
      have hD7 : H7 D = some (.lst acc5) := g8.h _ _ (g7.h _ _ hacc5)
      have nF7 : F7 D = none := (g7.trans g8).noF nF5 hacc5
      have g9 := (g6.trans g7).trans g8
      have hlen : acc5.length < 16777216 := by
        rw [dps_length hds5]
        have h1 : (pre i ++ ((ys a).take j).map (g a)).length < (pre (i + 1)).length := by
          rw [hpre, List.length_append, List.length_append, List.length_map, List.length_map, List.length_take]
          omega
        have h2 : Tot.length < 16777216 := hz
        omega
      refine ⟨acc5, hD7, by rw [sizeLine_eq]; exact hlen, F7, acc5 ++ [v], upd_same, ?_, nF7, (sf5.trans g7.f).trans g8.f, (s6.grow g8).poke nF7 nS2, ?_⟩
      · rw [htk1, List.map_append, ← List.append_assoc]
        exact dps_append (dps_mono (g7.f.trans g8.f) hds5) (.cons hv.1 .nil)
      · exact ⟨g9.f, fun b o e => by rw [upd_ne (ne_of_none e hD)]; exact g9.h b o e, fun b o e => by rw [upd_ne (ne_of_none e nF7)]; exact g9.sub b o e, g9.new⟩
    · have e : j = (ys a).length := by omega
      subst e
      refine .inl ⟨by have z := y1.stop F5 H5 sf5 s5.sub; rw [hl1] at z; exact z, F5, acc5, hacc5, ?_, nF5, g6⟩
      rw [hpre]
      rw [List.take_length] at hds5
      exact hds5
  · have e : i = xs.length := by omega
    subst e
    refine .inl ⟨by have z := y.stop F' H' g2.f g2.sub; rw [hl] at z; exact z, ?_⟩
    have hds : DpAll X.K F' acc Tot := by
      have : pre xs.length = Tot := by show (xs.take xs.length).flatMap _ = _; rw [List.take_length]
      rw [← this]; exact hds
    exact k (.ref D) F' H' (fun b => b = D) (g1.trans g2) ⟨rfl, ⟨D, acc, rfl, hacc, hds, fun _ => Iff.rfl⟩, fun b z => by subst z; exact ⟨nF, _, hacc⟩⟩ fun b z => by subst z; exact g1.h.free hD
variable {W : WX} {D : DE} {x : Str} {p : Pos} {C : Addr}
/-- X(), X an own exception class without own __init__ -/
theorem pmk_own0 {bmB : List Value} {B newId initId : String} (F : ExcBaseFacts B newId initId bmB) (q : PySem.W.excIn X.K C bmB newId = true) (gC : X.mg x = some (.ref C)) (kC : PySem.W.keepIn X.K (.ref C) = true) (r : Raises X (.ref C)) (hg : Gl X x) (hdb : (x == ("__debug__" : Str)) = false := by decide) :
    PMk X (.Call (.Name x p) [] [] pos) (fun _ H Q => Q (.ref C) none H) := fun pins s σ H Q I h => by
  refine wpAny_Call_Name_kw (ld_glob I hg gC ?_ hdb)
  refine PySem.W.callWith_K0 I.kIn kC ?_
  show wpAny _ _ (call (.ref C) []) _ _ _
  obtain ⟨bm, N, nm, qn, bs, hdct, sn, sub, ab, col, dd, k0, k1, k2, k3, k5, mN, hC, hN, hni, T⟩ := exc_obj I.kIn q
  exact wpAny_call_exc_subT F T hC hN hni (fun h' e hm => mk_of I hm r h (I.hok.gone hm.new)) (Nat.zero_le _)
def bmVE : List Value := [.type "ValueError", .type "Exception", .type "BaseException", .type "object"]
/-- an own exception class without own __init__ -/
structure Ex0 (K : PySem.W.Frag) (mg : Str → Option Value) (x : Str) (C : Addr) : Prop where
  q : PySem.W.excIn K C bmVE "ValueError.__new__" = true
  gm : mg x = some (.ref C)
  kp : PySem.W.keepIn K (.ref C) = true
  sb : PySem.W.subIn K (.ref C) (.type "BaseException") = some true
  ty : PySem.W.typeIn K (.ref C) = some (.type "type")
  me : PySem.W.exmOne K (.ref C) (.ref C) = some true
/-- raise x() -/
theorem ws_raise0 {pos2 : Pos} (T : Ex0 X.K X.mg x C) (tk : Takes X W) (k : D.ex ⟨C, none⟩ env) (hc : X.calm = true := by rfl) (hg : Gl X x := by rfl) (hdb : (x == ("__debug__" : Str)) = false := by decide) : WS X W (.Raise (some (.Call (.Name x p) [] [] pos)) none pos2) D env := fun F H σ S s E m =>
  ⟨_, ps_raise hc tk (pmk_own0 PySem.F.excBase_ValueError T.q T.gm T.kp (raises_own T.sb T.ty) hg hdb), m.ex (.ref C) none F H σ S ⟨C, none⟩ env Prog.refl s ⟨rfl, rfl⟩ k⟩
end
end G


set_option maxRecDepth 100000
set_option maxHeartbeats 2000000
namespace G
open PySem PySem.Spec PyProof.Rows L2
section
variable {X : Cx} {W : WX} {env : En} {e : Expr} {p p2 pos q : Pos} {n : Nat}
theorem zadd (i : Nat) : (0 : Int) + ((i : Nat) : Int) = (i : Int) := Int.zero_add _
/-- list(range(n)) -/
theorem vo_listRg (hml : X.mg "list" = none) (hmr : X.mg "range" = none) (h : VC X e env (.dat (.int (n : Int)))) (hn : n ≤ 16777216) (hc : X.calm = true := by rfl) (hgl : Gl X "list" := by rfl) (hgr : Gl X "range" := by rfl)
    (na : starEach [e] X.env = (false, eval e X.env) :: starEach [] X.env := by rfl) (na2 : starEach [.Call (.Name "range" p2) [e] [] q] X.env = (false, eval (.Call (.Name "range" p2) [e] [] q) X.env) :: starEach [] X.env := by rfl) :
    VO X (.Call (.Name "list" p) [.Call (.Name "range" p2) [e] [] q] [] pos) env (olst X.K ((List.range n).map fun (i : Nat) => .int (i : Int))) := fun F H σ S s Q k =>
  ⟨_, pe_listRg hc hgl hml (prg_1 hgr hmr pwE na) na2, h F H σ S s _ fun v F1 H1 Sv g hv _ => by
    have h1 := hv.1
    cases h1
    refine ⟨(n : Int), rfl, RgOk.of_le (by omega) (by omega) (by omega) (by omega), fun q hq => ?_⟩
    have e : rgV 0 (n : Int) = (List.range n).map fun (i : Nat) => V.int (i : Int) := by
      unfold rgV
      rw [show ((n : Int) - 0).toNat = n by omega]
      exact List.map_congr_left fun i _ => by rw [zadd]
    rw [e]
    refine k (.ref q) F1 _ (fun b => b = q) (g.trans (Grow.made g.sub hq)) (olst_new g.sub hq ?_) fun a z => by subst z; exact g.h.free hq
    have : ∀ xs : List Nat, DpAll X.K F1 (xs.map fun (i : Nat) => V.int (i : Int)) (xs.map fun (i : Nat) => .int (i : Int)) := fun xs => by
      induction xs with
      | nil => exact .nil
      | cons x xs ih => exact .cons (.int _) ih
    exact this _⟩
/-- not e, e with effects -/
theorem tec_not {QB : Bool → En → Prop} {RX : Xc → En → Prop} (h : TEC X W e (fun b env1 => QB (!b) env1) RX env) : TEC X W (.UnaryOp .Not e pos) QB RX env := fun F H σ S s QV kq kx =>
  ⟨_, pt_not pwT, h F H σ S s _ (fun b F' H' S' env' p s' q => kq (!b) F' H' S' env' p s' q) kx⟩
end
end G
namespace M
open PySem G Pg
structure Wd where
  keys : List Str
  no : Nat
  nt : Nat
def Wd.d (w : Wd) : PyData := .tuple [.tuple (w.keys.map .str), .int (w.no : Int), .int (w.nt : Int)]
structure Wd.Ok (w : Wd) : Prop where
  k : (∃ a, w.keys = [a]) ∨ ∃ a b, w.keys = [a, b] ∧ a ≠ b
  s : ∀ x ∈ w.keys, PyData.strOk x = true
  o : 1 ≤ w.no ∧ w.no ≤ 3
  t : w.nt ≤ 2
def isI : PyData → Bool
  | .int _ => true
  | .bool _ => true
  | _ => false
def isT : PyData → Bool
  | .tuple _ => true
  | _ => false
def whl (d : PyData) (lo hi : Int) : Bool := match d with
  | .int i => decide (lo ≤ i) && decide (i ≤ hi)
  | _ => false
def isW : PyData → Bool
  | .tuple [.tuple ks, a, b] => (decide (ks.length = 1) || decide (ks.length = 2)) && (ks.all isS && ((decide (ks.length = 1) || !PyData.eqv (ks.getD 0 .none) (ks.getD 1 .none)) && (whl a 1 3 && whl b 0 2)))
  | _ => false
theorem isW_len {ds : List PyData} (h : ds.length ≠ 3) : isW (.tuple ds) = false := by
  unfold isW
  split
  · rename_i ks a b e
    injection e with e
    subst e
    exact absurd rfl h
  · rfl
def WSh (d : PyData) : Prop := ∀ ks a b, d = .tuple [.tuple ks, a, b] → ∀ x, PyData.str x ∈ ks → PyData.strOk x = true
theorem Wd.Ok.isW {w : Wd} (h : w.Ok) : M.isW w.d = true := by
  obtain ⟨ks, no, nt⟩ := w
  have h1 : 1 ≤ no ∧ no ≤ 3 := h.o
  have h2 : nt ≤ 2 := h.t
  have w1 : whl (.int (no : Int)) 1 3 = true := by unfold whl; simp; omega
  have w2 : whl (.int (nt : Int)) 0 2 = true := by unfold whl; simp; omega
  show ((decide ((ks.map PyData.str).length = 1) || decide ((ks.map PyData.str).length = 2)) && ((ks.map PyData.str).all isS && ((decide ((ks.map PyData.str).length = 1) || !PyData.eqv ((ks.map PyData.str).getD 0 .none) ((ks.map PyData.str).getD 1 .none)) && (whl (.int (no : Int)) 1 3 && whl (.int (nt : Int)) 0 2)))) = true
  rw [w1, w2]
  rcases h.k with ⟨a, e⟩ | ⟨a, b, e, ne⟩
  · have e : ks = [a] := e
    subst e
    rfl
  · have e : ks = [a, b] := e
    subst e
    show ((false || true) && ((true && (true && true)) && ((false || !PyData.eqv (.str a) (.str b)) && (true && true)))) = true
    rw [eqv_str, decide_eq_false ne]
    rfl
theorem Wd.Ok.sh {w : Wd} (h : w.Ok) : WSh w.d := fun ks a b e x hx => by
  have e : PyData.tuple [.tuple (w.keys.map .str), .int (w.no : Int), .int (w.nt : Int)] = .tuple [.tuple ks, a, b] := e
  injection e with e
  injection e with e1 e2
  injection e1 with e1
  rw [← e1] at hx
  obtain ⟨y, hy, ey⟩ := List.mem_map.mp hx
  injection ey with ey
  rw [← ey]
  exact h.s y hy
theorem kit_int (d : PyData) : L2.kitB (tyD d) "int" = some (isI d) := by
  cases d
  · show L2.kitB "NoneType" "int" = some false; decide +kernel
  · show L2.kitB "bool" "int" = some true; decide +kernel
  · show L2.kitB "int" "int" = some true; decide +kernel
  · show L2.kitB "str" "int" = some false; decide +kernel
  · show L2.kitB "list" "int" = some false; decide +kernel
  · show L2.kitB "tuple" "int" = some false; decide +kernel
  · show L2.kitB "dict" "int" = some false; decide +kernel
theorem kit_tup (d : PyData) : L2.kitB (tyD d) "tuple" = some (isT d) := by
  cases d
  · show L2.kitB "NoneType" "tuple" = some false; decide +kernel
  · show L2.kitB "bool" "tuple" = some false; decide +kernel
  · show L2.kitB "int" "tuple" = some false; decide +kernel
  · show L2.kitB "str" "tuple" = some false; decide +kernel
  · show L2.kitB "list" "tuple" = some false; decide +kernel
  · show L2.kitB "tuple" "tuple" = some true; decide +kernel
  · show L2.kitB "dict" "tuple" = some false; decide +kernel
/-- the deeds of a world there, in their order -/
def deedsL (w : Wd) (s : Std) : List Deed :=
  (if s.os.length < w.no then w.keys.map .own else []) ++ (if s.ts.length < w.nt then (List.range s.os.length).map .put else []) ++ ((List.range s.ts.length).flatMap fun j => (List.range s.os.length).map fun k => .move j k) ++
    (List.range s.os.length).map .mark ++ (List.range s.ts.length).map .take ++ (List.range s.os.length).map .fetch ++ (List.range s.ts.length).map .raise ++ [.clear]
theorem filter_const {α : Type} (xs : List α) (b : Bool) : xs.filter (fun _ => b) = if b = true then xs else [] := by
  cases b
  · simp
  · simp
end M
namespace Pg
open PySem L2 G M
section
variable {P : Program} {w : World} {K : PySem.W.Frag} {mg : Str → Option Value} {base : Heap} {C : Addr}
def sp_is_whole : Spec := fun cs R _ => ∃ (d : PyData) (lo hi : Int), cs = [.dat d, .dat (.int lo), .dat (.int hi)] ∧ R (.dat (.bool (whl d lo hi))) cs
theorem fn_is_whole (B : Bi mg) (D : Df K mg "is_whole" s_is_whole p_is_whole) : Fn P w K mg base "is_whole" 1 sp_is_whole := by
  refine fnG D sc_is_whole (fun cs R RX h => ?_) (fun f cdv A outer s H E X eX hr tk hp cs R RX h => ?_)
  · obtain ⟨_, _, _, rfl, _⟩ := h
    rfl
  · subst eX
    obtain ⟨d, lo, hi, rfl, k⟩ := h
    refine wb_cons (ws_ret (.pure (vis (d := .bool (isI d && (!isB d && whl d lo hi))) (bool_d (by cases d <;> simp [isI, isB, whl])) (vc_andB (b1 := isI d) (b2 := !isB d && whl d lo hi) (vc_isi B.isinstance B.int (vc_dat 0) (kit_int d)) fun h1 => vc_andB (b1 := !isB d) (b2 := whl d lo hi) (vc_not (vc_isi B.isinstance B.bool (vc_dat 0) (kit_bool d))) fun h2 => ?_)) ⟨_, .dat (.dat (.dat .nil)), k⟩))
    cases d with
    | int i => exact vc_one (vc_chain op_le op_le od_le od_le (vc_dat 1) (vc_dat 0) (vc_dat 2) rfl)
    | bool _ => cases h2
    | _ => cases h1
def sp_is_world : Spec := fun cs R _ => ∃ d : PyData, cs = [.dat d] ∧ WSh d ∧ R (.dat (.bool (isW d))) cs
theorem fn_is_world (B : Bi mg) (D : Df K mg "is_world" s_is_world p_is_world) (IW : Fn P w K mg base "is_whole" 1 sp_is_whole) : Fn P w K mg base "is_world" 2 sp_is_world := by
  have nd := sc_is_world.nd
  refine fnG D sc_is_world (fun cs R RX h => ?_) (fun f cdv A outer s H E X eX hr tk hp cs R RX h => ?_)
  · obtain ⟨_, rfl, _⟩ := h
    rfl
  · subst eX
    obtain ⟨d, rfl, sh, k⟩ := h
    by_cases hT : isT d = true
    · obtain ⟨ds, rfl⟩ : ∃ ds, d = .tuple ds := by cases d <;> first | exact ⟨_, rfl⟩ | cases hT
      by_cases h3 : ds.length = 3
      · obtain ⟨x, a, b, rfl⟩ : ∃ x a b, ds = [x, a, b] := by
          match ds, h3 with
          | [x, a, b], _ => exact ⟨x, a, b, rfl⟩
        refine wb_cons (ws_ifP (b' := false || (false || !isT x)) (WC.tc (wc_or (b1 := false) (tc_not (b' := true) (tc_val (vc_isi B.isinstance B.tuple (vc_dat 0) (kit_tup (.tuple [x, a, b]))))) fun _ => wc_or (b1 := false) (tis (b := !PyData.eqv (.int 3) (.int 3)) rfl (tc_cmp (op_neD hr.units) (od_neD shaped_int.1 shaped_int.1) (vc_len (ds := [x, a, b]) B.len (vc_dat 0) (Or.inr rfl)) vc_int))
          fun _ => wc_or1 (tc_not (tc_val (vc_isi B.isinstance B.tuple (vc_ixT (ds := [x, a, b]) (i := 0) (vc_dat 0) vc_int rfl) (kit_tup x)))))) (fun h => ?_) fun h => wb_nil ?_)
        · have hx : isT x = false := by simpa using h
          have e : isW (.tuple [x, a, b]) = false := by cases x <;> first | rfl | cases hx
          rw [e] at k
          exact wb_cons (ws_ret (.pure vc_bl ⟨_, .dat .nil, k⟩))
        · have hx : isT x = true := by simpa using h
          obtain ⟨ks, rfl⟩ : ∃ ks, x = .tuple ks := by cases x <;> first | exact ⟨_, rfl⟩ | cases hx
          have hks := sh ks a b rfl
          refine wb_cons (ws_set 1 (.pure (vc_ixT (ds := [.tuple ks, a, b]) (i := 0) (vc_dat 0) vc_int rfl) ?_) nd)
          refine wb_cons (ws_ifP (b' := !(decide ((1 : Int) ≤ (ks.length : Int)) && decide ((ks.length : Int) ≤ 2)) || !(ks.map isS).all id) (WC.tc (wc_or (tc_not (tc_chain op_le op_le od_le od_le vc_int (vc_len (ds := ks) B.len (vc_dat 1) (Or.inr rfl)) vc_int rfl))
            fun hc => wc_or1 (tc_not (tc_val (vc_all (bs := ks.map isS) rfl B.all (vis (by rw [List.map_map]; rfl) (VO.dat (vo_map (own := [("key", 2)]) ks id (fun k => .bool (isS k)) nd (vi_eq (List.map_id ks).symm (vi_tup (vc_dat 1))) (fun x hx _ _ _ _ _ => gc_name 2 nd) (fun x hx _ _ _ _ _ => vc_isi B.isinstance B.str (vc_dat 2) (kit_str x)) ?len)))))))) (fun h => ?_) fun h => wb_nil ?_)
          case len =>
            simp at hc
            omega
          · have e : isW (.tuple [.tuple ks, a, b]) = false := by
              show ((decide (ks.length = 1) || decide (ks.length = 2)) && (ks.all isS && _)) = false
              rcases (Bool.or_eq_true _ _).mp h with z | z
              · have : (decide (ks.length = 1) || decide (ks.length = 2)) = false := by
                  simp at z
                  simp
                  omega
                rw [this]; rfl
              · have : ks.all isS = false := by
                  rw [List.all_map] at z
                  simpa using z
                rw [this]
                simp
            rw [e] at k
            exact wb_cons (ws_ret (.pure vc_bl ⟨_, .dat .nil, k⟩))
          · obtain ⟨z1, z2⟩ := Bool.or_eq_false_iff.mp h
            have hl : ks.length = 1 ∨ ks.length = 2 := by simp at z1; omega
            have hall : ks.all isS = true := by
              rw [List.all_map] at z2
              simpa using z2
            have e : isW (.tuple [.tuple ks, a, b]) = ((decide (ks.length = 1) || !PyData.eqv (ks.getD 0 .none) (ks.getD 1 .none)) && (whl a 1 3 && whl b 0 2)) := by
              show ((decide (ks.length = 1) || decide (ks.length = 2)) && (ks.all isS && _)) = _
              rw [hall, show (decide (ks.length = 1) || decide (ks.length = 2)) = true by simpa using hl]
              rfl
            rw [e] at k
            refine wb_cons (ws_ret (.pure (vc_andB (b1 := decide (ks.length = 1) || !PyData.eqv (ks.getD 0 .none) (ks.getD 1 .none)) (b2 := whl a 1 3 && whl b 0 2) (vc_orB (vis (bool_d (by rw [eqv_int]; congr 1; apply propext; omega)) (vc_cmp (op_eqD hr.units) (od_eqD shaped_int.1 shaped_int.1) (vc_len (ds := ks) B.len (vc_dat 1) (Or.inr rfl)) vc_int)) fun h1 => vc_one ?neq)
              fun _ => vc_andB (vc_call IW hr (ac_cons (vc_ixT (ds := [.tuple ks, a, b]) (i := 1) (vc_dat 0) vc_int rfl) (ac_cons vc_int (ac_cons vc_int ac_nil))) ⟨a, 1, 3, rfl, rfl⟩) fun _ => vc_one (vc_call IW hr (ac_cons (vc_ixT (ds := [.tuple ks, a, b]) (i := 2) (vc_dat 0) vc_int rfl) (ac_cons vc_int (ac_cons vc_int ac_nil))) ⟨b, 0, 2, rfl, rfl⟩)) ⟨_, .dat .nil, k⟩))
            have h2 : ks.length = 2 := hl.resolve_left (of_decide_eq_false h1)
            obtain ⟨x, y, rfl⟩ : ∃ x y, ks = [x, y] := by
              match ks, h2 with
              | [x, y], _ => exact ⟨x, y, rfl⟩
            have st : ∀ z ∈ [x, y], SeqAt.shaped z = true := fun z hz => by
              have := List.all_eq_true.mp hall z hz
              cases z with
              | str s => exact (shaped_str (hks s hz)).1
              | _ => cases this
            exact vc_cmp (op_neD hr.units) (od_neD (st x (by simp)) (st y (by simp))) (vc_ixT (ds := [x, y]) (i := 0) (vc_dat 1) vc_int rfl) (vc_ixT (ds := [x, y]) (i := 1) (vc_dat 1) vc_int rfl)
      · have e := isW_len h3
        rw [e] at k
        refine wb_cons (ws_take (WC.tc (wc_or (b1 := false) (b2 := true) (tc_not (b' := true) (tc_val (vc_isi B.isinstance B.tuple (vc_dat 0) (kit_tup (.tuple ds))))) fun _ => wc_or (b1 := true) (b2 := true) (tis (b := !PyData.eqv (.int (ds.length : Int)) (.int 3)) (by rw [eqv_int]; simp; omega) (tc_cmp (op_neD hr.units) (od_neD shaped_int.1 shaped_int.1) (vc_len (ds := ds) B.len (vc_dat 0) (Or.inr rfl)) vc_int)) fun z => Bool.noConfusion z)) ?_)
        exact wb_cons (ws_ret (.pure vc_bl ⟨_, .dat .nil, k⟩))
    · have hT : isT d = false := by simpa using hT
      have e : isW d = false := by cases d <;> first | rfl | cases hT
      rw [e] at k
      refine wb_cons (ws_take (WC.tc (wc_or (b1 := true) (b2 := true) (tc_not (b' := false) (tc_val (vis (bool_d hT) (vc_isi B.isinstance B.tuple (vc_dat 0) (kit_tup d))))) fun z => Bool.noConfusion z)) ?_)
      exact wb_cons (ws_ret (.pure vc_bl ⟨_, .dat .nil, k⟩))
def sp_check_world (CW : Addr) : Spec := fun cs R RX => ∃ d : PyData, cs = [.dat d] ∧ WSh d ∧ (isW d = true → R (.dat .none) cs) ∧ (isW d = false → RX ⟨CW, none⟩ cs)
theorem fn_check_world {CW : Addr} (T : Ex0 K mg "BadWorld" CW) (D : Df K mg "check_world" s_check_world p_check_world) (IW : Fn P w K mg base "is_world" 2 sp_is_world) : Fn P w K mg base "check_world" 3 (sp_check_world CW) := by
  refine fnG D sc_check_world (fun cs R RX h => ?_) (fun f cdv A outer s H E X eX hr tk hp cs R RX h => ?_)
  · obtain ⟨_, rfl, _⟩ := h
    rfl
  · subst eX
    obtain ⟨d, rfl, sh, k1, k2⟩ := h
    refine wb_cons (ws_ifP (tc_not (tc_val (vc_call IW hr (ac_cons (vc_dat 0) ac_nil) ⟨d, rfl, sh, rfl⟩))) (fun h => ?_) fun h => wb_nil (wb_nil ⟨_, .dat .nil, k1 (by simpa using h)⟩))
    exact wb_cons (ws_raise0 T tk ⟨_, .dat .nil, k2 (by simpa using h)⟩)
end
end Pg


set_option maxRecDepth 100000
set_option maxHeartbeats 2000000
namespace M
open PySem G Pg
def ownsL (w : Wd) (s : Std) : List Deed := if s.os.length < w.no then w.keys.map .own else []
def putsL (w : Wd) (s : Std) : List Deed := if s.ts.length < w.nt then (List.range s.os.length).map .put else []
def movesL (s : Std) (j : Nat) : List Deed := (List.range s.os.length).map fun k => .move j k
theorem deedsL_eq (w : Wd) (s : Std) : deedsL w s = (((((((ownsL w s ++ putsL w s) ++ (List.range s.ts.length).flatMap (movesL s)) ++ (List.range s.os.length).map .mark) ++ (List.range s.ts.length).map .take) ++ (List.range s.os.length).map .fetch) ++ (List.range s.ts.length).map .raise) ++ [.clear]) := rfl
theorem flat_len (n m : Nat) (f : Nat → Nat → Deed) : ((List.range n).flatMap fun j => (List.range m).map (f j)).length = n * m := by
  induction n with
  | zero => simp
  | succ n ih => rw [List.range_succ, List.flatMap_append, List.length_append, ih, List.flatMap_cons]; simp [Nat.succ_mul]
def SmallW (w : Wd) : Prop := w.keys.length ≤ 1000
theorem owns_len {w : Wd} {s : Std} (h : SmallW w) : (ownsL w s).length ≤ 1000 := by unfold ownsL; split <;> simp; exact h
theorem puts_len {w : Wd} {s : Std} (h : s.Ok) : (putsL w s).length ≤ 1000 := by unfold putsL; split <;> simp; exact h.ol
theorem moves_len {s : Std} (h : s.Ok) : ((List.range s.ts.length).flatMap (movesL s)).length ≤ 1000000 := by
  show ((List.range s.ts.length).flatMap fun j => (List.range s.os.length).map fun k => Deed.move j k).length ≤ _
  rw [flat_len]
  exact Nat.mul_le_mul h.tl h.ol
end M
namespace Pg
open PySem L2 G M
abbrev dsD (xs : List Deed) : List PyData := xs.map Deed.d
theorem cat_dsD (a b : List Deed) : dsD a ++ dsD b = dsD (a ++ b) := (List.map_append ..).symm
section
variable {P : Program} {w : World} {K : PySem.W.Frag} {mg : Str → Option Value} {base : Heap} {C : Addr}
theorem vo_eq {X : Cx} {e : Expr} {env : En} {a b : List PyData} (h : VO X e env (olst X.K a)) (q : a = b) : VO X e env (olst X.K b) := q ▸ h
def sp_all_deeds (K : PySem.W.Frag) : Spec := fun cs R _ => ∃ (w : Wd) (s : Std), cs = [.dat w.d, .dat s.d] ∧ s.Ok ∧ SmallW w ∧ ∀ v, R (.own v (olst K (dsD (deedsL w s)))) cs
theorem fn_all_deeds (B : Bi mg) (D : Df K mg "all_deeds" s_all_deeds p_all_deeds) : Fn P w K mg base "all_deeds" 1 (sp_all_deeds K) := by
  have nd := sc_all_deeds.nd
  refine fnG D sc_all_deeds (fun cs R RX h => ?_) (fun f cdv A outer s H E X eX hr tk hp cs R RX h => ?_)
  · obtain ⟨_, _, rfl, _⟩ := h
    rfl
  · subst eX
    obtain ⟨w, t, rfl, ok, sw, k⟩ := h
    have ol := ok.ol
    have tl := ok.tl
    have l1 := owns_len (s := t) sw
    have l2 := puts_len (w := w) ok
    have l3 := moves_len ok
    have lk : (w.keys.map PyData.str).length ≤ 1000 := by rw [List.length_map]; exact sw
    let no := t.os.length
    let nt := t.ts.length
    let x0 : Option Ct := some (.dat w.d)
    let x1 : Option Ct := some (.dat t.d)
    let x2 : Option Ct := some (.dat (.tuple (w.keys.map .str)))
    let x3 : Option Ct := some (.dat (.int (w.no : Int)))
    let x4 : Option Ct := some (.dat (.int (w.nt : Int)))
    let x5 : Option Ct := some (.dat (.list (natsD (List.range no))))
    let x6 : Option Ct := some (.dat (.list (natsD (List.range nt))))
    refine wb_cons (ws_asg (vc_dat 0) (gc_tup rfl (gcs_cons (gc_name 2 nd) (gcs_cons (gc_name 3 nd) (gcs_cons (gc_name 4 nd) gcs_nil)))) ?_)
    refine wb_cons (ws_asg (vc_tup (ds := [.list (natsD (List.range no)), .list (natsD (List.range nt))]) (dc_cons (VO.dat (vo_listRg (n := no) B.list B.range (vis (by rw [List.length_map]) (vc_len (ds := t.os.map oD) B.len (vc_ixT (ds := [osD t.os, tsD t.ts]) (i := 0) (vc_dat 1) vc_int rfl) (Or.inr rfl))) (by omega))) (dc_cons (VO.dat (vo_listRg (n := nt) B.list B.range (vis (by rw [List.length_map]) (vc_len (ds := t.ts.map tD) B.len (vc_ixT (ds := [osD t.os, tsD t.ts]) (i := 1) (vc_dat 1) vc_int rfl) (Or.inr rfl))) (by omega))) dc_nil)))
      (gc_tup rfl (gcs_cons (gc_name 5 nd) (gcs_cons (gc_name 6 nd) gcs_nil))) ?_)
    refine wb_at (env' := [x0, x1, x2, x3, x4, x5, x6, none, none, none, none]) rfl ?_
    have rl (n : Nat) : (natsD (List.range n)).length = n := by unfold natsD; rw [List.length_map, List.length_range]
    refine wb_cons (ws_filt (own := [("key", 8)]) 7 w.keys .str (fun _ => decide (no < w.no)) (fun k => (Deed.own k).d) nd (vi_tup (vc_dat 2)) (fun x hx _ _ _ _ _ => gc_name 8 nd)
      (fun x hx _ _ _ _ _ => tis (b := decide (((natsD (List.range no)).length : Int) < (w.no : Int))) (by rw [rl]; simp) (tc_cmp op_lt od_lt (vc_len (ds := natsD (List.range no)) B.len (vc_dat 5) (Or.inl rfl)) (vc_dat 3))) (fun x hx hp _ _ _ _ _ => vc_tup (ds := [.str "own", .str x]) (dc_cons vc_str (dc_cons (vc_dat 8) dc_nil))) (by have : w.keys.length ≤ 1000 := sw; omega) fun v7 => ?_)
    have e1 : ((w.keys.filter fun _ => decide (no < w.no)).map fun k => (Deed.own k).d) = dsD (ownsL w t) := by
      rw [filter_const]
      unfold ownsL dsD
      by_cases h : t.os.length < w.no
      · rw [if_pos (decide_eq_true h), if_pos h, List.map_map]; rfl
      · rw [if_neg (by simpa using h), if_neg h]; rfl
    refine wb_frz 7 frz_olst rfl ?_
    refine wb_at (env' := [x0, x1, x2, x3, x4, x5, x6, some (.dat (.list (dsD (ownsL w t)))), none, none, none]) (by rw [← e1]; rfl) ?_
    refine wb_cons (ws_set 7 (VO.eff (vo_eq (vo_cat (es1 := dsD (ownsL w t)) (es2 := dsD (putsL w t)) (vc_dat 7) (VO.dat (vo_eq (vo_filt (own := [("owner", 9)]) (List.range no) (fun i => .int (i : Int)) (fun _ => decide (nt < w.nt)) (fun k => (Deed.put k).d) nd (vi_list (vc_dat 5)) (fun x hx _ _ _ _ _ => gc_name 9 nd)
      (fun x hx _ _ _ _ _ => tis (b := decide (((natsD (List.range nt)).length : Int) < (w.nt : Int))) (by rw [rl]; simp) (tc_cmp op_lt od_lt (vc_len (ds := natsD (List.range nt)) B.len (vc_dat 6) (Or.inl rfl)) (vc_dat 4))) (fun x hx hp _ _ _ _ _ => vc_tup (ds := [.str "put", .int (x : Int)]) (dc_cons vc_str (dc_cons (vc_dat 9) dc_nil))) (by rw [List.length_range]; omega)) (b := dsD (putsL w t)) ?e2)) (by unfold dsD; rw [List.length_map, List.length_map]; omega)) (cat_dsD _ _)) fun v7 => ?_) nd)
    case e2 =>
      rw [filter_const]
      unfold putsL dsD
      by_cases h : t.ts.length < w.nt
      · rw [if_pos (decide_eq_true h), if_pos h, List.map_map]; rfl
      · rw [if_neg (by simpa using h), if_neg h]; rfl
    refine wb_frz 7 frz_olst rfl ?_
    let f2 := ownsL w t ++ putsL w t
    have lf2 : f2.length ≤ 2000 := by show (ownsL w t ++ putsL w t).length ≤ _; rw [List.length_append]; omega
    refine wb_at (env' := [x0, x1, x2, x3, x4, x5, x6, some (.dat (.list (dsD f2))), none, none, none]) rfl ?_
    let mv := (List.range nt).flatMap (movesL t)
    have lmv : mv.length ≤ 1000000 := l3
    refine wb_cons (ws_set 7 (VO.eff (vo_eq (vo_cat (es1 := dsD f2) (es2 := dsD mv) (vc_dat 7) (VO.dat (vo_eq (vo_lc2 (own := [("thing", 10), ("owner", 9)]) (vs1 := [9]) (List.range nt) (fun i => .int (i : Int)) (fun _ => List.range no) (fun i => .int (i : Int)) (fun j k => (Deed.move j k).d) nd (vi_list (vc_dat 6)) (fun x hx _ _ _ _ _ => gc_name 10 nd)
      (fun x hx _ _ _ _ _ => vi_list (vc_dat 5)) (fun x hx y hy _ _ _ _ _ => gc_name 9 nd) (fun x hx y hy _ _ _ _ _ => vc_tup (ds := [.str "move", .int (x : Int), .int (y : Int)]) (dc_cons vc_str (dc_cons (vc_dat 10) (dc_cons (vc_dat 9) dc_nil)))) ?e4 (by decide)) (b := dsD mv) ?e3)) (by unfold dsD; rw [List.length_map, List.length_map]; omega)) (cat_dsD _ _)) fun v7 => ?_) nd)
    case e3 =>
      show _ = ((List.range nt).flatMap (movesL t)).map Deed.d
      rw [List.map_flatMap]
      congr 1
      funext j
      unfold movesL
      rw [List.map_map]
      rfl
    case e4 =>
      have : ((List.range nt).flatMap fun x => (List.range no).map fun k => (Deed.move x k).d) = dsD mv := by
        show _ = ((List.range nt).flatMap (movesL t)).map Deed.d
        rw [List.map_flatMap]
        congr 1
        funext j
        unfold movesL
        rw [List.map_map]
        rfl
      rw [this]
      unfold dsD
      rw [List.length_map]
      omega
    refine wb_frz 7 frz_olst rfl ?_
    let f3 := f2 ++ mv
    have lf3 : f3.length ≤ 1002000 := by show (f2 ++ mv).length ≤ _; rw [List.length_append]; omega
    refine wb_at (env' := [x0, x1, x2, x3, x4, x5, x6, some (.dat (.list (dsD f3))), none, none, none]) rfl ?_
    let mk : List Deed := (List.range no).map .mark
    let tk' : List Deed := (List.range nt).map .take
    let fe : List Deed := (List.range no).map .fetch
    let ra : List Deed := (List.range nt).map .raise
    have lmk : mk.length ≤ 1000 := by simp [mk, no]; exact ol
    have ltk : tk'.length ≤ 1000 := by simp [tk', nt]; exact tl
    have lfe : fe.length ≤ 1000 := by simp [fe, no]; exact ol
    have lra : ra.length ≤ 1000 := by simp [ra, nt]; exact tl
    have dl (xs : List Deed) : (dsD xs).length = xs.length := List.length_map ..
    refine wb_cons (ws_set 7 (VO.eff (vo_eq (vo_cat (es1 := dsD (f3 ++ mk)) (es2 := dsD tk') (VO.dat (vo_eq (vo_cat (es1 := dsD f3) (es2 := dsD mk) (vc_dat 7) (VO.dat (vo_eq (vo_map (own := [("owner", 9)]) (List.range no) (fun i => .int (i : Int)) (fun k => (Deed.mark k).d) nd (vi_list (vc_dat 5)) (fun x hx _ _ _ _ _ => gc_name 9 nd)
      (fun x hx _ _ _ _ _ => vc_tup (ds := [.str "mark", .int (x : Int)]) (dc_cons vc_str (dc_cons (vc_dat 9) dc_nil))) (by rw [List.length_range]; omega)) (b := dsD mk) (by unfold dsD; rw [List.map_map]; rfl))) (by rw [dl, dl]; omega)) (cat_dsD _ _)))
      (VO.dat (vo_eq (vo_map (own := [("thing", 10)]) (List.range nt) (fun i => .int (i : Int)) (fun k => (Deed.take k).d) nd (vi_list (vc_dat 6)) (fun x hx _ _ _ _ _ => gc_name 10 nd)
      (fun x hx _ _ _ _ _ => vc_tup (ds := [.str "take", .int (x : Int)]) (dc_cons vc_str (dc_cons (vc_dat 10) dc_nil))) (by rw [List.length_range]; omega)) (b := dsD tk') (by unfold dsD; rw [List.map_map]; rfl))) (by rw [dl, dl, List.length_append]; omega)) (cat_dsD _ _)) fun v7 => ?_) nd)
    refine wb_frz 7 frz_olst rfl ?_
    let f4 := (f3 ++ mk) ++ tk'
    have lf4 : f4.length ≤ 1004000 := by show ((f3 ++ mk) ++ tk').length ≤ _; rw [List.length_append, List.length_append]; omega
    refine wb_at (env' := [x0, x1, x2, x3, x4, x5, x6, some (.dat (.list (dsD f4))), none, none, none]) rfl ?_
    refine wb_cons (ws_ret (VO.eff (vo_eq (vo_cat (es1 := dsD ((f4 ++ fe) ++ ra)) (es2 := dsD [.clear]) (VO.dat (vo_eq (vo_cat (es1 := dsD (f4 ++ fe)) (es2 := dsD ra) (VO.dat (vo_eq (vo_cat (es1 := dsD f4) (es2 := dsD fe) (vc_dat 7) (VO.dat (vo_eq (vo_map (own := [("owner", 9)]) (List.range no) (fun i => .int (i : Int)) (fun k => (Deed.fetch k).d) nd (vi_list (vc_dat 5)) (fun x hx _ _ _ _ _ => gc_name 9 nd)
      (fun x hx _ _ _ _ _ => vc_tup (ds := [.str "fetch", .int (x : Int)]) (dc_cons vc_str (dc_cons (vc_dat 9) dc_nil))) (by rw [List.length_range]; omega)) (b := dsD fe) (by unfold dsD; rw [List.map_map]; rfl))) (by rw [dl, dl]; omega)) (cat_dsD _ _)))
      (VO.dat (vo_eq (vo_map (own := [("thing", 10)]) (List.range nt) (fun i => .int (i : Int)) (fun k => (Deed.raise k).d) nd (vi_list (vc_dat 6)) (fun x hx _ _ _ _ _ => gc_name 10 nd)
      (fun x hx _ _ _ _ _ => vc_tup (ds := [.str "raise", .int (x : Int)]) (dc_cons vc_str (dc_cons (vc_dat 10) dc_nil))) (by rw [List.length_range]; omega)) (b := dsD ra) (by unfold dsD; rw [List.map_map]; rfl))) (by rw [dl, dl, List.length_append]; omega)) (cat_dsD _ _)))
      (vc_lst (ds := dsD [.clear]) (dc_cons (vc_tup (ds := [.str "clear"]) (dc_cons vc_str dc_nil)) dc_nil)) (by rw [dl, dl, List.length_append, List.length_append]; simp; omega)) (cat_dsD _ _)) fun v => ⟨_, .dat (.dat .nil), ?_⟩))
    exact k v
def sp_deeds_of (K : PySem.W.Frag) (CW : Addr) : Spec := fun cs R RX => (∃ (w : Wd) (s : Std), cs = [.dat w.d, .dat s.d] ∧ s.Ok ∧ w.Ok ∧ ∀ v, R (.own v (olst K (dsD (deedsL w s)))) cs) ∨ ∃ d e : PyData, cs = [.dat d, .dat e] ∧ WSh d ∧ isW d = false ∧ RX ⟨CW, none⟩ cs
end
end Pg


set_option maxRecDepth 100000
set_option maxHeartbeats 2000000
namespace G
open PySem PySem.Spec PyProof.Rows L2
section
variable {X : Cx} {env : En} {a : Expr} {i : Int} {pos : Pos}
theorem vc_neg (h : VC X a env (.dat (.int i))) : VC X (.UnaryOp .USub a pos) env (.dat (.int (-i))) := fun F H σ S s Q k =>
  ⟨_, pe_un un_neg pwE, h F H σ S s _ fun v F1 H1 Sv g hv _ => by
    have h1 := hv.1
    cases h1
    exact ⟨i, rfl, k _ F1 H1 (fun _ => False) g ⟨.int _, fun _ z => z⟩ fun _ z => z.elim⟩⟩
end
end G
namespace M
open PySem G Pg
theorem thins_ds (xs : List Deed) : thins (dsD xs) = true := by
  induction xs with
  | nil => rfl
  | cons d xs ih =>
    show (thin d.d && thins (dsD xs)) = true
    rw [ih]
    cases d <;> rfl
theorem okL_deed {n : Nat} {d : Deed} (h : d.keyOk) : okL (n + 1) d.d := by
  have w : ∀ x ∈ (["own", "put", "move", "mark", "take", "fetch", "raise", "clear"] : List Str), PyData.strOk x = true := by decide +kernel
  cases d with
  | own k => exact okL_tup (Nat.le_of_ble_eq_true rfl) (okL_mem2 (okL_str (w _ (by simp))) (okL_str h))
  | put o => exact okL_tup (Nat.le_of_ble_eq_true rfl) (okL_mem2 (okL_str (w _ (by simp))) okL_int)
  | move t o =>
      refine okL_tup (Nat.le_of_ble_eq_true rfl) fun d hd => ?_
      simp only [List.mem_cons, List.not_mem_nil, or_false] at hd
      rcases hd with e | e | e
      · rw [e]; exact okL_str (w _ (by simp))
      · rw [e]; exact okL_int
      · rw [e]; exact okL_int
  | mark o => exact okL_tup (Nat.le_of_ble_eq_true rfl) (okL_mem2 (okL_str (w _ (by simp))) okL_int)
  | take o => exact okL_tup (Nat.le_of_ble_eq_true rfl) (okL_mem2 (okL_str (w _ (by simp))) okL_int)
  | fetch o => exact okL_tup (Nat.le_of_ble_eq_true rfl) (okL_mem2 (okL_str (w _ (by simp))) okL_int)
  | raise o => exact okL_tup (Nat.le_of_ble_eq_true rfl) (okL_mem2 (okL_str (w _ (by simp))) okL_int)
  | clear =>
      refine okL_tup (Nat.le_of_ble_eq_true rfl) fun d hd => ?_
      rw [List.mem_singleton.mp hd]
      exact okL_str (w _ (by simp))
theorem okL_deeds {n : Nat} {xs : List Deed} (hl : xs.length ≤ 1000000) (h : ∀ d ∈ xs, d.keyOk) : okL (n + 2) (.list (dsD xs)) := okL_lst (by unfold dsD; rw [List.length_map]; exact hl) fun d hd => by
  obtain ⟨x, hx, rfl⟩ := List.mem_map.mp hd
  exact okL_deed (h x hx)
theorem deedsL_key {w : Wd} {s : Std} (h : ∀ x ∈ w.keys, PyData.strOk x = true) : ∀ d ∈ deedsL w s, d.keyOk := by
  intro d hd
  rw [deedsL_eq] at hd
  simp only [List.mem_append, List.mem_singleton] at hd
  rcases hd with ((((((hd | hd) | hd) | hd) | hd) | hd) | hd) | hd
  · unfold ownsL at hd
    split at hd
    · obtain ⟨k, hk, rfl⟩ := List.mem_map.mp hd
      exact h k hk
    · cases hd
  · unfold putsL at hd
    split at hd
    · obtain ⟨k, hk, rfl⟩ := List.mem_map.mp hd
      trivial
    · cases hd
  · obtain ⟨j, _, hj⟩ := List.mem_flatMap.mp hd
    obtain ⟨k, hk, rfl⟩ := List.mem_map.mp hj
    trivial
  all_goals first | (obtain ⟨k, hk, rfl⟩ := List.mem_map.mp hd; trivial) | (subst hd; trivial)
theorem deedsL_len {w : Wd} {s : Std} (ok : s.Ok) (sw : SmallW w) (n : Nat) (ho : s.os.length ≤ n) (ht : s.ts.length ≤ n) (hk : w.keys.length ≤ n) : 0 < (deedsL w s).length ∧ (deedsL w s).length ≤ 6 * n + n * n + 1 := by
  rw [deedsL_eq]
  simp only [List.length_append, List.length_map, List.length_range, List.length_singleton]
  have l1 : (ownsL w s).length ≤ n := by unfold ownsL; split <;> simp; exact hk
  have l2 : (putsL w s).length ≤ n := by unfold putsL; split <;> simp; exact ho
  have l3 : ((List.range s.ts.length).flatMap (movesL s)).length ≤ n * n := by
    show ((List.range s.ts.length).flatMap fun j => (List.range s.os.length).map fun k => Deed.move j k).length ≤ _
    rw [flat_len]
    exact Nat.mul_le_mul ht ho
  omega
end M
namespace Pg
open PySem L2 G M
section
variable {P : Program} {w : World} {K : PySem.W.Frag} {mg : Str → Option Value} {base : Heap} {C : Addr}
def sp_ldeeds (K : PySem.W.Frag) : Spec := fun cs R _ => ∃ (w : Wd) (s : Std), cs = [.dat w.d, .dat s.l] ∧ s.Ok ∧ SmallW w ∧ ∀ v, R (.own v (olst K (dsD (deedsL w s)))) cs
def sp_afterL (K : PySem.W.Frag) (C : Addr) : Spec := fun cs R _ => ∃ (r : Rl) (ds : List Deed), cs = [rl K C r, .dat (.list (dsD ds))] ∧ ds.length ≤ 1000 ∧ (∀ d ∈ ds, d.keyOk) ∧ R (.dat (hist r ds).1.d) cs
def sp_badW (K : PySem.W.Frag) (C CW : Addr) : Spec := fun cs _ RX => ∃ (r : Rl) (d : PyData), cs = [rl K C r, .dat d] ∧ WSh d ∧ isW d = false ∧ RX ⟨CW, none⟩ cs
theorem fn_can_bad {CW : Addr} (D : Df K mg "can" s_can p_can) (FW : Fn P w K mg base "check_world" 3 (sp_check_world CW)) : Fn P w K mg base "can" 4 (sp_badW K C CW) := by
  refine fnG D sc_can (fun cs R RX h => ?_) (fun f cdv A outer s H E X eX hr tk hp cs R RX h => ?_)
  · obtain ⟨_, _, rfl, _⟩ := h
    rfl
  · subst eX
    obtain ⟨r, d, rfl, sh, hw, k⟩ := h
    exact wb_cons (ws_expr (ec_call FW hr tk (ea_dat (vc_dat 1) (ea_nil ⟨trivial, by simp [slotsA], d, rfl, sh, (fun h => by rw [hw] at h; cases h), fun _ => ⟨_, .pin (.dat .nil), k⟩⟩))))
end
end Pg


set_option maxRecDepth 100000
set_option maxHeartbeats 4000000
/-! dicts of one's own (or known), their keys nested tuples -/
namespace G
open PySem PySem.Spec PyProof.Rows L2
abbrev Nkd := List (NestedKey × PyData)
abbrev Nkx := List (NestedKey × Addr × Value)
def NdR (P : Program) (w : World) (a : Addr) (xs : Nkx) (ep : Nat) (h : Heap) : Prop :=
  ∃ o es, h.get? a = some o ∧ o.ExactDict ∧ o.data = .dict es ep ∧ es.toList = xs.map (entryOfKey (nestedKind P w)) ∧ (xs.map (·.1)).Nodup ∧ (a == sysModules) = false ∧ xs.length ≤ sizeLine
def NdO (P : Program) (w : World) (a : Addr) (xs : Nkx) (ep : Nat) : HO := .ext (NdR P w a xs ep)
def NkAt (K : PySem.W.Frag) (F : Hp) : Nkx → Nkd → Prop := Paired (fun x y => x.1 = y.1 ∧ x.1.depth ≤ 8 ∧ Dp K F (.ref x.2.1) x.1.data ∧ ∃ v, RelV v x.2.2 ∧ Dp K F v y.2)
def getN (kvs : Nkd) (k : NestedKey) : Option PyData := (kvs.find? fun x => decide (x.1 = k)).map (·.2)
section
variable {K : PySem.W.Frag} {F F' H : Hp} {k : NestedKey} {a b : Addr}
theorem NkAt.mono (e : Same F F') {xs : Nkx} {kvs : Nkd} (h : NkAt K F xs kvs) : NkAt K F' xs kvs := Paired.mapP h fun _ _ z => ⟨z.1, z.2.1, dp_mono e z.2.2.1, by obtain ⟨v, h1, h2⟩ := z.2.2.2; exact ⟨v, h1, dp_mono e h2⟩⟩
theorem nk_get : ∀ {xs : Nkx} {kvs : Nkd}, NkAt K F xs kvs → (getN kvs k = none ∧ atKey xs k = none) ∨ ∃ d c u v, getN kvs k = some d ∧ atKey xs k = some (c, u) ∧ RelV v u ∧ Dp K F v d
  | _, _, .nil => .inl ⟨rfl, rfl⟩
  | x :: xs, y :: kvs, .cons h hs => by
    by_cases e : y.1 = k
    · obtain ⟨v, h1, h2⟩ := h.2.2.2
      refine .inr ⟨y.2, x.2.1, x.2.2, v, ?_, ?_, h1, h2⟩
      · simp [getN, List.find?_cons, e]
      · have e2 : x.1 = k := h.1.trans e
        simp [atKey, List.find?_cons, e2]
    · have e2 : ¬ x.1 = k := fun z => e (h.1.symm.trans z)
      have q1 : getN (y :: kvs) k = getN kvs k := by simp [getN, List.find?_cons, e]
      have q2 : atKey (x :: xs) k = atKey xs k := by simp [atKey, List.find?_cons, e2]
      rw [q1, q2]
      exact nk_get hs
theorem nk_mem {xs : Nkx} {kvs : Nkd} (h : NkAt K F xs kvs) : ∀ x ∈ xs, x.1.depth ≤ 8 ∧ Dp K F (.ref x.2.1) x.1.data := by
  unfold NkAt at h
  induction h with
  | nil => intro x hx; cases hx
  | cons h t ih =>
    intro x hx
    rcases List.mem_cons.mp hx with e | e
    · subst e; exact ⟨h.2.1, h.2.2.1⟩
    · exact ih x e
theorem nk_at {xs : Nkx} {kvs : Nkd} (h : NkAt K F xs kvs) : ∀ {i : Nat} {x : NestedKey × Addr × Value}, xs[i]? = some x → (kvs.map fun y => y.1.data)[i]? = some x.1.data := by
  intro i x e
  obtain ⟨y, h1, h2⟩ := paired_get h e
  rw [List.getElem?_map, h1, Option.map_some, h2.1]
end
section
variable {X : Cx} {pins : List (Addr × Obj)} {σ : St} {H F : Hp} {s : Shared} {a b : Addr} {xs : Nkx} {kvs : Nkd} {ep : Nat}
mutual
theorem nest_of (I : Inv X pins σ H s) : ∀ (k : NestedKey) (v : V) (u : Value), Dp X.K H v k.data → RelV v u → NestedIs s.heap k u
  | .none, _, _, h, r => by
    simp only [NestedKey.data] at h
    cases h
    cases r
    exact .none
  | .num i, _, _, h, r => by
    simp only [NestedKey.data] at h
    cases h
    obtain ⟨t, rfl⟩ := r
    exact .int i t
  | .text x, _, _, h, r => by
    simp only [NestedKey.data] at h
    cases h
    obtain ⟨t, rfl⟩ := r
    exact .text x t
  | .tup ks, _, _, h, r => by
    simp only [NestedKey.data] at h
    cases h with
    | tup hs ha =>
      cases r
      obtain ⟨its, rv, ⟨o, ho, hc, n, hd⟩, _⟩ := I.tuple hs
      exact .tup ho hc hd (by simpa using nests_of I ks _ its ha rv)
theorem nests_of (I : Inv X pins σ H s) : ∀ (ks : List NestedKey) (vs : List V) (us : List Value), DpAll X.K H vs (NestedKey.datas ks) → Vals vs us → NestedAll s.heap ks us
  | [], _, _, h, r => by
    simp only [NestedKey.datas] at h
    cases h
    cases r
    exact .nil
  | k :: ks, _, _, h, r => by
    simp only [NestedKey.datas] at h
    cases h with
    | cons h1 h2 =>
      cases r with
      | cons r1 r2 => exact .cons (nest_of I k _ _ h1 r1) (nests_of I ks _ _ h2 r2)
end
theorem key_nest (I : Inv X pins σ H s) (e : Same F H) {k : NestedKey} (h : Dp X.K F (.ref b) k.data) (h8 : k.depth ≤ 8) : (nestedKind X.prog X.w).is s.heap k b := ⟨nest_of I k (.ref b) (.ref b) (dp_mono e h) rfl, h8⟩
theorem nd_dict (I : Inv X pins σ H s) (e : Same F H) (h : H a = some (NdO X.prog X.w a xs ep)) (n : NkAt X.K F xs kvs) : (a == sysModules) = false ∧ xs.length ≤ sizeLine ∧ s.heap.DictOfH (nestedKind X.prog X.w) a xs := by
  obtain ⟨o, es, h1, h2, h3, h4, h5, h6, h7⟩ := (show NdR X.prog X.w a xs ep s.heap from (I.hok a _ h).1)
  exact ⟨h6, h7, o, es, ep, h1, h2, h3, h4, fun x hx => key_nest I e (nk_mem n x hx).2 (nk_mem n x hx).1, h5⟩
theorem nd_new {P : Program} {w : World} {H' : Hp} {h' : Heap} (R : NdR P w a xs ep h') : ObjOk P w H' h' a (NdO P w a xs ep) := by
  have ⟨o, _, ho, _⟩ := R
  exact ⟨R, ⟨o, ho⟩, fun h1 h2 ⟨o, es, p, r⟩ k => ⟨o, es, k o p, r⟩⟩
theorem room_nest {k : Nat} (hr : Room k X.A) : (nestedKind X.prog X.w).room X.A.in1 := by
  show X.A.units + 1 + 8 < cLine
  have := hr.un
  omega
theorem room_nest0 {k : Nat} (hr : Room k X.A) : (nestedKind X.prog X.w).room X.A := by
  show X.A.units + 8 < cLine
  have := hr.un
  omega
end
/-- a dict's object and its key -/
def NdK (X : Cx) (F H : Hp) (a b : Addr) (xs : Nkx) (k : NestedKey) : Prop := Same F H ∧ (∃ ep, H a = some (NdO X.prog X.w a xs ep)) ∧ (∃ kvs, NkAt X.K F xs kvs) ∧ Dp X.K F (.ref b) k.data ∧ k.depth ≤ 8
def tNGet (X : Cx) (td ty : TE) : TE := fun σ H Q => td σ H fun x H1 => ty σ H1 fun y H2 => ∃ a b F xs k c u v, x = .ref a ∧ y = .ref b ∧ NdK X F H2 a b xs k ∧ atKey xs k = some (c, u) ∧ RelV v u ∧ Q v H2
def tNIn (X : Cx) (neg : Bool) (ty td : TE) : TE := fun σ H Q => ty σ H fun y H1 => td σ H1 fun x H2 => ∃ a b F xs k, x = .ref a ∧ y = .ref b ∧ NdK X F H2 a b xs k ∧ Q (.bl (neg != (atKey xs k).isSome)) H2
def sNPut (X : Cx) (td ty tv : TE) : TS := fun D σ H => tv σ H fun v H1 => td σ H1 fun x H2 => ty σ H2 fun y H3 => ∃ a b F xs k, x = .ref a ∧ y = .ref b ∧ NdK X F H3 a b xs k ∧ xs.length < sizeLine ∧ atKey xs k = none ∧
  ∀ ep u, RelV v u → D.nx σ (upd H3 a (NdO X.prog X.w a (xs ++ [(k, b, u)]) ep))
def tNDisp (X : Cx) (tk tv : TE) : TE := fun σ H Q => ∀ p, H p = none → tk σ (upd H p (NdO X.prog X.w p [] 0)) fun x H1 => tv σ H1 fun y H2 => ∃ b F k, x = .ref b ∧ H2 p = some (NdO X.prog X.w p [] 0) ∧ Same F H2 ∧ Dp X.K F (.ref b) k.data ∧ k.depth ≤ 8 ∧
  ∀ ep u, RelV y u → Q (.ref p) (upd H2 p (NdO X.prog X.w p [(k, b, u)] ep))
section
variable {X : Cx} {o i e value : Expr} {pos pos' : Pos} {td ty tv tk : TE} {k0 : Nat}
theorem NdK.dict {pins : List (Addr × Obj)} {σ : St} {s : Shared} {F H : Hp} {a b : Addr} {xs : Nkx} {k : NestedKey} (I : Inv X pins σ H s) (n : NdK X F H a b xs k) : (nestedKind X.prog X.w).is s.heap k b ∧ (a == sysModules) = false ∧ xs.length ≤ sizeLine ∧ s.heap.DictOfH (nestedKind X.prog X.w) a xs := by
  obtain ⟨e, ⟨ep, h⟩, ⟨kvs, n⟩, hb, h8⟩ := n
  exact ⟨key_nest I e hb h8, nd_dict I e h n⟩
theorem pe_nget (hr : Room k0 X.A) (ho : PE X o td) (hi : PE X i ty) (hs : NoSl i) : PE X (.Subscript o i pos) (tNGet X td ty) := by
  refine ⟨fun pins s σ H Q I h => ?_⟩
  refine subD_of PySem.F.slot_dict_getitem.lookup hs (thn (ho.run pins s σ H _ I h) fun u s1 ⟨x, H1, I1, rx, q1⟩ => thn (hi.run pins s1 σ H1 _ I1 q1) fun iv s2 ⟨y, H2, I2, ry, a, b, F, xs, k, c, u', v, ex, ey, n, hg, rv, q2⟩ => ?_)
  subst ex
  subst ey
  obtain rfl : u = Value.ref a := rx
  obtain rfl : iv = Value.ref b := ry
  obtain ⟨h1, h2, h3, h4⟩ := n.dict I2
  exact ⟨h4.typeIs, wpAny_getItem_heap (room_nest hr) h1 h4 hg ⟨v, H2, I2.tok _, rv, q2⟩⟩
theorem pc_nin (hr : Room k0 X.A) (hi : PE X i ty) (ho : PE X o td) : PC X .In i o (tNIn X false ty td) := by
  refine ⟨fun pins s σ H Q I h => ?_⟩
  refine thn (hi.run pins s σ H _ I h) fun iv s1 ⟨y, H1, I1, ry, q1⟩ => thn (ho.run pins s1 σ H1 _ I1 q1) fun u s2 ⟨x, H2, I2, rx, a, b, F, xs, k, ex, ey, n, q2⟩ => ?_
  subst ex
  subst ey
  obtain rfl : u = Value.ref a := rx
  obtain rfl : iv = Value.ref b := ry
  obtain ⟨h1, h2, h3, h4⟩ := n.dict I2
  refine wpAny_in_heap (room_nest hr) h1 h2 h4 ⟨_, H2, I2.tok _, ?_, q2⟩
  cases (atKey xs k).isSome <;> rfl
theorem pc_nnotin (hr : Room k0 X.A) (hi : PE X i ty) (ho : PE X o td) : PC X .NotIn i o (tNIn X true ty td) := by
  refine ⟨fun pins s σ H Q I h => ?_⟩
  refine thn (hi.run pins s σ H _ I h) fun iv s1 ⟨y, H1, I1, ry, q1⟩ => thn (ho.run pins s1 σ H1 _ I1 q1) fun u s2 ⟨x, H2, I2, rx, a, b, F, xs, k, ex, ey, n, q2⟩ => ?_
  subst ex
  subst ey
  obtain rfl : u = Value.ref a := rx
  obtain rfl : iv = Value.ref b := ry
  obtain ⟨h1, h2, h3, h4⟩ := n.dict I2
  refine wpAny_notIn_heap (room_nest hr) h1 h2 h4 ⟨_, H2, I2.tok _, ?_, q2⟩
  cases (atKey xs k).isSome <;> rfl
theorem ndR_of {P : Program} {w : World} {h' : Heap} {a : Addr} {xs : Nkx} (dd : h'.DictOfH (nestedKind P w) a xs) (hs : (a == sysModules) = false) (hz : xs.length ≤ sizeLine) : ∃ ep, NdR P w a xs ep h' := by
  obtain ⟨o, es, ep, h1, h2, h3, h4, _, h5⟩ := dd
  exact ⟨ep, o, es, h1, h2, h3, h4, h5, hs, hz⟩
theorem ps_nput (hr : Room k0 X.A) (ho : PE X o td) (hi : PE X i ty) (hv : PE X value tv) (hs : swapsWith value (some (.Subscript o i pos')) pos.line X.env = pure false) :
    PS X (.Assign [.Subscript o i pos'] value pos) (sNPut X td ty tv) := by
  refine ⟨fun pins s σ H D I h => ?_⟩
  refine wpAny_Assign_Subscript (thn (hv.run pins s σ H _ I h) fun r s1 ⟨v, H1, I1, rv, q1⟩ => thn (ho.run pins s1 σ H1 _ I1 q1) fun u s2 ⟨x, H2, I2, rx, q2⟩ => thn (hi.run pins s2 σ H2 _ I2 q2) fun iv s3 ⟨y, H3, I3, ry, a, b, F, xs, k, ex, ey, n, hl, hn, q3⟩ => ?_) hs
  subst ex
  subst ey
  obtain rfl : u = Value.ref a := rx
  obtain rfl : iv = Value.ref b := ry
  obtain ⟨h1, h2, h3, h4⟩ := n.dict I3
  refine wpAny_setItem_heap (hsz := h3) (room_nest hr) h1 h4 fun h' dd' hs => ?_
  rw [storedH_new hn] at dd'
  obtain ⟨ep, R⟩ := ndR_of dd' h2 (by rw [List.length_append, List.length_singleton]; omega)
  obtain ⟨_, ⟨ep0, hH⟩, _⟩ := n
  have he : ∃ q, h'.get? a = some q := let ⟨q, _, hq, _⟩ := R; ⟨q, hq⟩
  exact ⟨σ, _, d_write I3 (by rw [hH]; exact True.intro) hs he (nd_new R), q3 ep r rv⟩
theorem nd_empty {P : Program} {w : World} {H : Hp} (h : Heap) (hb : sysModules < h.objs.size) : ObjOk P w H (h.push { cls := .type "dict", data := .dict #[] }) h.objs.size (NdO P w h.objs.size [] 0) :=
  nd_new ⟨_, #[], Heap.get?_push_size _ rfl, ⟨rfl, rfl, rfl⟩, rfl, rfl, List.nodup_nil, beq_eq_false_iff_ne.mpr (Ne.symm (Nat.ne_of_lt hb)), Nat.zero_le _⟩
theorem pe_ndisp (hr : Room k0 X.A) (hk : PE X i tk) (hv : PE X value tv) : PE X (.Dict [some i] [value] pos) (tNDisp X tk tv) := by
  refine ⟨fun pins s σ H Q I q => ?_⟩
  have hn := I.hok.fresh (Nat.le_refl s.heap.objs.size)
  have I1 := I.laid (a := s.heap.objs.size) (o := NdO X.prog X.w s.heap.objs.size [] 0) (h' := s.heap.push { cls := .type "dict", data := .dict #[] }) (t' := s.toks) (fun _ _ q => Heap.get?_push_of_some _ q) (Nat.le_refl _) (nd_empty s.heap I.big)
  have hshape := zip_pairTrees [some i] [value] X.env pos (by rfl) (by rfl)
  have hlen : (pairTrees [some i] [value] X.env pos).length = 1 := pairTrees_length [some i] [value] X.env pos (by rfl) (by rfl)
  rw [arm_eval_Dict, hshape, dictDisplay_pairs _ (by intro z; rw [z] at hlen; cases hlen) (by rw [hlen]; decide)]
  refine wpAny_bind (wpAny_standAt (wpAny_bind (wpAny_subDictH (knd := nestedKind X.prog X.w) (Q := fun d s' => wpAny (model X.prog X.w) X.A (pure (Value.ref d)) (EP X pins σ Q) X.xe s') (room_nest0 hr) (by rw [hlen]; decide) ?_)))
  refine pairTrees_cons_walk (thn (hk.run pins _ σ _ _ I1 (q _ hn)) fun u s1 ⟨x, H1, I2, rx, q1⟩ => thn (hv.run pins s1 σ H1 _ I2 q1) fun w2 s2 ⟨y, H2, I3, ry, b, F, k, ex, hp, e, hb, h8, q2⟩ => pairTrees_nil_walk ?_)
  subst ex
  obtain rfl : u = Value.ref b := rx
  obtain ⟨h6, h7, dd⟩ := nd_dict (kvs := []) I3 e hp .nil
  refine ⟨[(k, b, w2)], ⟨rfl, rfl, key_nest I3 e hb h8, trivial⟩, dd, fun h' tk dd' hs => ?_⟩
  have e1 : storedAllH [] [(k, b, w2)] = [(k, b, w2)] := rfl
  rw [e1] at dd'
  obtain ⟨ep, R⟩ := ndR_of dd' h6 (by show 1 ≤ sizeLine; decide)
  have he : ∃ q, h'.get? s.heap.objs.size = some q := let ⟨q, _, hq, _⟩ := R; ⟨q, hq⟩
  exact wpAny_pure ⟨.ref s.heap.objs.size, _, d_write (t' := tk) I3 (by rw [hp]; exact True.intro) hs he (nd_new R), rfl, q2 ep w2 ry⟩
end
end G


set_option maxRecDepth 100000
set_option maxHeartbeats 4000000
namespace G
open PySem PySem.Spec PyProof.Rows L2
def odn (P : Program) (w : World) (K : PySem.W.Frag) (kvs : Nkd) : Rs where
  At F H v S := ∃ a xs ep, v = .ref a ∧ H a = some (NdO P w a xs ep) ∧ NkAt K F xs kvs ∧ ∀ b, S b ↔ b = a
  mono := fun e eH ⟨a, xs, ep, h1, h2, h3, h4⟩ => ⟨a, xs, ep, h1, by rw [eH a ((h4 a).mpr rfl)]; exact h2, h3.mono e, h4⟩
def pdn (P : Program) (w : World) (K : PySem.W.Frag) (kvs : Nkd) : Ps where
  At F v := ∃ a xs ep, v = .ref a ∧ F a = some (NdO P w a xs ep) ∧ NkAt K F xs kvs
  mono := fun e ⟨a, xs, ep, h1, h2, h3⟩ => ⟨a, xs, ep, h1, e _ _ h2, h3.mono e⟩
def NdHas (X : Cx) (c : Ct) (kvs : Nkd) : Prop := ∀ (F H : Hp) (v : V) (S : Addr → Prop), Same F H → Hold X.K F H v S c → ∃ a xs ep, v = .ref a ∧ H a = some (NdO X.prog X.w a xs ep) ∧ NkAt X.K F xs kvs
section
variable {X : Cx} {W : WX} {env : En} {D : DE} {e ix val : Expr} {pos p : Pos} {d : PyData} {k : NestedKey} {v : V} {kvs : Nkd} {c : Ct} {k0 : Nat} {sts : List Stmt}
theorem has_own {v : V} : NdHas X (.own v (odn X.prog X.w X.K kvs)) kvs := fun F H v' S s ⟨ev, ⟨a, xs, ep, h1, h2, h3, _⟩, _⟩ => ⟨a, xs, ep, h1, h2, h3⟩
theorem has_pin : NdHas X (.pin (pdn X.prog X.w X.K kvs)) kvs := fun F H v' S s ⟨⟨a, xs, ep, h1, h2, h3⟩, _⟩ => ⟨a, xs, ep, h1, s _ _ h2, h3⟩
def IsTp (k : NestedKey) : Prop := ∃ ks, k = .tup ks
theorem dp_ref {K : PySem.W.Frag} {F : Hp} {u : V} (h : Dp K F u k.data) (ht : IsTp k) : ∃ b, u = .ref b := by
  obtain ⟨ks, rfl⟩ := ht
  simp only [NestedKey.data] at h
  cases h
  exact ⟨_, rfl⟩
theorem slot_nd {F H : Hp} {σ : St} {S : Foot} (s : Sit X.K F H σ S env) {i : Nat} (h : env[i]? = some (some c)) (hc : NdHas X c kvs) {v' : V} (e1 : σ[i]? = some (some v')) : ∃ a xs ep, v' = .ref a ∧ H a = some (NdO X.prog X.w a xs ep) ∧ NkAt X.K F xs kvs := by
  obtain ⟨v'', e2, h2⟩ := s.slot i _ h
  rw [e1] at e2
  cases e2
  exact hc F H _ _ s.sub h2
/-- d[k] -/
theorem vc_nget (i : Nat) (hr : Room k0 X.A) (hk : VC X ix env (.dat k.data)) (ht : IsTp k) (h8 : k.depth ≤ 8) (hg : getN kvs k = some d) (hc : NdHas X c kvs) (h : env[i]? = some (some c) := by rfl) {x : Str} {p1 : Pos} (hN : X.N[i]? = some x := by rfl)
    (hv : Vis X.env.scope x := by first | exact Or.inl rfl | exact Or.inr (Or.inl rfl) | exact Or.inr (Or.inr rfl)) (hd : (x == ("__debug__" : Str)) = false := by decide) (hcd : (x == ("__classdict__" : Str)) = false := by decide)
    (hs : NoSl ix := by exact fun _ _ => rfl) : VC X (.Subscript (.Name x p1) ix pos) env (.dat d) := fun F H σ S s Q q => by
  obtain ⟨v', e1, _⟩ := s.slot i _ h
  refine ⟨_, pe_nget hr (pe_var hN hv hd hcd) pwE hs, v', e1, hk F H σ S s _ fun u F1 H1 _ g1 hu _ => ?_⟩
  obtain ⟨b, rfl⟩ := dp_ref hu.1 ht
  obtain ⟨a, xs, ep, rfl, h3, h4⟩ := slot_nd (s.grow g1) h hc e1
  rcases nk_get (k := k) h4 with ⟨z, _⟩ | ⟨d', c', u, w, z, y, hw, hdw⟩
  · rw [z] at hg; cases hg
  · rw [z] at hg
    cases hg
    exact ⟨a, b, F1, xs, k, c', u, w, rfl, rfl, ⟨g1.sub, ⟨ep, h3⟩, ⟨kvs, h4⟩, hu.1, h8⟩, y, hw, q w F1 H1 (fun _ => False) g1 ⟨hdw, fun _ z => z⟩ fun _ z => z.elim⟩
theorem nk_some {K : PySem.W.Frag} {F : Hp} {xs : Nkx} (h : NkAt K F xs kvs) : (atKey xs k).isSome = (getN kvs k).isSome := by
  rcases nk_get (k := k) h with ⟨z, y⟩ | ⟨d', c', u, w, z, y, _⟩ <;> rw [z, y] <;> rfl
/-- k in d -/
theorem tc_nin (i : Nat) (hr : Room k0 X.A) (hk : VC X e env (.dat k.data)) (ht : IsTp k) (h8 : k.depth ≤ 8) (hc : NdHas X c kvs) (h : env[i]? = some (some c) := by rfl) {x : Str} {p1 : Pos} (hN : X.N[i]? = some x := by rfl)
    (hv : Vis X.env.scope x := by first | exact Or.inl rfl | exact Or.inr (Or.inl rfl) | exact Or.inr (Or.inr rfl)) (hd : (x == ("__debug__" : Str)) = false := by decide) (hcd : (x == ("__classdict__" : Str)) = false := by decide)
    (hm : behindInMarks .In (.Name x p1) = false := by rfl) : TC X (.Compare e [.In] [.Name x p1] pos) env (getN kvs k).isSome := fun F H σ S s Q q => by
  obtain ⟨v', e1, _⟩ := s.slot i _ h
  refine ⟨_, pt_cmp (pc_nin hr pwE (pe_var hN hv hd hcd)) hm, hk F H σ S s _ fun u F1 H1 _ g1 hu _ => ⟨v', e1, ?_⟩⟩
  obtain ⟨b, rfl⟩ := dp_ref hu.1 ht
  obtain ⟨a, xs, ep, rfl, h3, h4⟩ := slot_nd (s.grow g1) h hc e1
  refine ⟨a, b, F1, xs, k, rfl, rfl, ⟨g1.sub, ⟨ep, h3⟩, ⟨kvs, h4⟩, hu.1, h8⟩, (getN kvs k).isSome, ?_, q F1 H1 g1⟩
  rw [nk_some h4]
  cases (getN kvs k).isSome <;> rfl
theorem tc_nnotin (i : Nat) (hr : Room k0 X.A) (hk : VC X e env (.dat k.data)) (ht : IsTp k) (h8 : k.depth ≤ 8) (hc : NdHas X c kvs) (h : env[i]? = some (some c) := by rfl) {x : Str} {p1 : Pos} (hN : X.N[i]? = some x := by rfl)
    (hv : Vis X.env.scope x := by first | exact Or.inl rfl | exact Or.inr (Or.inl rfl) | exact Or.inr (Or.inr rfl)) (hd : (x == ("__debug__" : Str)) = false := by decide) (hcd : (x == ("__classdict__" : Str)) = false := by decide)
    (hm : behindInMarks .NotIn (.Name x p1) = false := by rfl) : TC X (.Compare e [.NotIn] [.Name x p1] pos) env (!(getN kvs k).isSome) := fun F H σ S s Q q => by
  obtain ⟨v', e1, _⟩ := s.slot i _ h
  refine ⟨_, pt_cmp (pc_nnotin hr pwE (pe_var hN hv hd hcd)) hm, hk F H σ S s _ fun u F1 H1 _ g1 hu _ => ⟨v', e1, ?_⟩⟩
  obtain ⟨b, rfl⟩ := dp_ref hu.1 ht
  obtain ⟨a, xs, ep, rfl, h3, h4⟩ := slot_nd (s.grow g1) h hc e1
  refine ⟨a, b, F1, xs, k, rfl, rfl, ⟨g1.sub, ⟨ep, h3⟩, ⟨kvs, h4⟩, hu.1, h8⟩, !(getN kvs k).isSome, ?_, q F1 H1 g1⟩
  rw [nk_some h4]
  cases (getN kvs k).isSome <;> rfl
/-- d[k] = e, k not there yet -/
theorem ws_nput (i : Nat) (hr : Room k0 X.A) (hval : VC X val env (.dat d)) (hk : VC X ix env (.dat k.data)) (ht : IsTp k) (h8 : k.depth ≤ 8) (hn : getN kvs k = none) (hl : kvs.length < 16777216) (kx : D.nx (env.set i (some (.own v (odn X.prog X.w X.K (kvs ++ [(k, d)])))))) (h : env[i]? = some (some (.own v (odn X.prog X.w X.K kvs))) := by rfl) {x : Str} {p1 p2 : Pos} (hN : X.N[i]? = some x := by rfl)
    (hv : Vis X.env.scope x := by first | exact Or.inl rfl | exact Or.inr (Or.inl rfl) | exact Or.inr (Or.inr rfl)) (hd : (x == ("__debug__" : Str)) = false := by decide) (hcd : (x == ("__classdict__" : Str)) = false := by decide)
    (hs : swapsWith val (some (.Subscript (.Name x p1) ix p2)) pos.line X.env = pure false := by rfl) :
    WS X W (.Assign [.Subscript (.Name x p1) ix p2] val pos) D env := fun F H σ S s E m => by
  refine ⟨_, ps_nput hr (pe_var hN hv hd hcd) pwE pwE hs, hval F H σ S s _ fun w F1 H1 _ g1 hw _ => ?_⟩
  have s1 := s.grow g1
  obtain ⟨v', e1, ev, _⟩ := s1.slot i _ h
  have ev : v' = v := ev
  subst ev
  refine ⟨v', e1, hk F1 H1 σ S s1 _ fun u F2 H2 _ g2 hu _ => ?_⟩
  obtain ⟨b, rfl⟩ := dp_ref hu.1 ht
  have s2 := s1.grow g2
  obtain ⟨v'', _, ev2, ⟨a, xs, ep, ea, h3, h4, h5⟩, hn2⟩ := s2.slot i _ h
  have ev2 : v'' = v' := ev2
  subst ev2
  subst ea
  have hz := Paired.length h4
  have hat : atKey xs k = none := by
    rcases nk_get (k := k) h4 with ⟨z, y⟩ | ⟨d', c', u, w, z, y, _⟩
    · exact y
    · rw [z] at hn; cases hn
  refine ⟨a, b, F2, xs, k, rfl, rfl, ⟨g2.sub, ⟨ep, h3⟩, ⟨kvs, h4⟩, hu.1, h8⟩, by rw [sizeLine_eq]; omega, hat, fun ep' u' ru => ?_⟩
  have k1 : ∀ c o, H2 c = some o → ¬ S i c → upd H2 a (NdO X.prog X.w a (xs ++ [(k, b, u')]) ep') c = some o := fun c o e nb => by
    rw [upd_ne (fun z => nb (by rw [z]; exact (h5 a).mpr rfl))]
    exact e
  obtain ⟨S3, s3, t3⟩ := s2.renew (R' := odn X.prog X.w X.K (kvs ++ [(k, d)])) (Si := S i) h k1 ⟨a, _, ep', rfl, upd_same, Paired.snoc h4 ⟨rfl, h8, hu.1, w, ru, dp_mono g2.f hw.1⟩, h5⟩ (fun b z => .inl z) fun b z => by rw [(h5 b).mp z]; exact ⟨_, upd_same⟩
  have gg := g1.trans g2
  exact m.nx F2 _ σ S3 _ (gg.prog.trans (prog_renew (Grow.refl g2.sub) k1 fun b z => .inl ((t3 b z).elim id fun y => ⟨i, y⟩))) s3 kx
/-- {k: e} -/
theorem vo_ndisp (hr : Room k0 X.A) (hk : VC X ix env (.dat k.data)) (hval : VC X val env (.dat d)) (ht : IsTp k) (h8 : k.depth ≤ 8) : VO X (.Dict [some ix] [val] pos) env (odn X.prog X.w X.K [(k, d)]) := fun F H σ S s Q kq => by
  refine ⟨_, pe_ndisp hr pwE pwE, fun p hp => ?_⟩
  have g0 : Grow F H F (upd H p (NdO X.prog X.w p [] 0)) := Grow.made s.sub hp
  have s0 := s.grow g0
  refine hk F _ σ S s0 _ fun u F1 H1 _ g1 hu _ => hval F1 H1 σ S (s0.grow g1) _ fun u2 F2 H2 _ g2 hu2 _ => ?_
  obtain ⟨b, rfl⟩ := dp_ref hu.1 ht
  have p0 : upd H p (NdO X.prog X.w p [] 0) p = some (NdO X.prog X.w p [] 0) := upd_same
  have p2 := g2.h _ _ (g1.h _ _ p0)
  have nF : F p = none := s.sub.free hp
  have nF2 : F2 p = none := by
    cases q : F2 p with
    | none => rfl
    | some o =>
      rcases g2.new p o q with z | z
      · rcases g1.new p o z with y | y
        · rw [nF] at y; cases y
        · rw [p0] at y; cases y
      · rw [g1.h _ _ p0] at z; cases z
  refine ⟨b, F2, k, rfl, p2, g2.sub, dp_mono g2.f hu.1, h8, fun ep u' ru => kq (.ref p) F2 _ (fun c => c = p) ?_ ⟨rfl, ⟨p, _, ep, rfl, upd_same, .cons ⟨rfl, h8, dp_mono g2.f hu.1, u2, ru, hu2.1⟩ .nil, fun _ => Iff.rfl⟩, fun c z => by subst z; exact ⟨nF2, _, upd_same⟩⟩ fun c z => by subst z; exact hp⟩
  have gg := g1.trans g2
  refine ⟨gg.f, fun c o e => ?_, fun c o e => ?_, fun c o e => ?_⟩
  · rw [upd_ne (ne_of_none e hp)]
    exact gg.h c o (by rw [upd_ne (ne_of_none e hp)]; exact e)
  · rw [upd_ne (ne_of_none e nF2)]
    exact gg.sub c o e
  · rcases gg.new c o e with z | z
    · exact .inl z
    · by_cases y : c = p
      · subst y; exact .inr hp
      · rw [upd_ne y] at z; exact .inr z
/-- len(d) -/
theorem call_len_nd {X : Cx} : CallR X (.builtin "len") (fun xs H Q => ∃ F a ys kvs ep, xs = [.ref a] ∧ Same F H ∧ H a = some (NdO X.prog X.w a ys ep) ∧ NkAt X.K F ys kvs ∧ Q (.int ((kvs.length : Nat) : Int)) H) := by
  intro pins s σ H xs us Q I r h
  obtain ⟨F, p, ys, kvs, ep, rfl, e, hp, n, q⟩ := h
  obtain ⟨u, rfl, rx⟩ := vals1 r
  obtain rfl : u = .ref p := rx
  obtain ⟨hd, z, dd⟩ := nd_dict I e hp n
  have hl : ys.length = kvs.length := Paired.length n
  refine call_len_dictH hd dd (by rw [sizeLine_eq] at z; omega) ?_
  rw [hl]
  exact ⟨.int ((kvs.length : Nat) : Int), H, I.tok _, ⟨_, rfl⟩, q⟩
/-! ### known from now on -/
theorem Sit.pin {P : Program} {w : World} {K : PySem.W.Frag} {F H : Hp} {σ : St} {S : Foot} {i : Nat} (s : Sit K F H σ S env) (h : env[i]? = some (some (.own v (odn P w K kvs)))) :
    ∃ F' S', Sit K F' H σ S' (env.set i (some (.pin (pdn P w K kvs)))) ∧ Same F F' ∧ (∀ a o, F' a = some o → F a = some o ∨ S i a) ∧ (∀ a, tot S' a → tot S a) := by
  obtain ⟨v', e1, ev, ⟨a, xs, ep, ea, h2, h3, h4⟩, hn⟩ := s.slot i _ h
  have ev : v' = v := ev
  subst ev
  subst ea
  have hi : i < env.length := (List.getElem?_eq_some_iff.mp h).1
  have ia : S i a := (h4 a).mpr rfl
  have nF : F a = none := (hn a ia).1
  have a1 : Same F (upd F a (NdO P w a xs ep)) := fun b o e => by rw [upd_ne (ne_of_none e nF)]; exact e
  have a2 : Same (upd F a (NdO P w a xs ep)) H := fun b o e => by
    by_cases hb : b = a
    · subst hb
      rw [upd_same] at e
      rw [h2]
      exact e
    · rw [upd_ne hb] at e
      exact s.sub b o e
  have a3 : ∀ b o, upd F a (NdO P w a xs ep) b = some o → F b = some o ∨ S i b := fun b o e => by
    by_cases hb : b = a
    · subst hb; exact .inr ia
    · rw [upd_ne hb] at e
      exact .inl e
  refine ⟨upd F a (NdO P w a xs ep), fun j => if j = i then fun _ => False else S j, ⟨a2, fun j c' e => ?_, fun j k a hj hk => ?_, by simp [s.len], fun j hj a z => ?_⟩, a1, a3, fun a z => ?_⟩
  · by_cases hji : j = i
    · subst hji
      rw [List.getElem?_set_self hi] at e
      cases e
      exact ⟨_, e1, ⟨a, xs, ep, rfl, upd_same, h3.mono a1⟩, by simp⟩
    · rw [List.getElem?_set_ne (Ne.symm hji)] at e
      obtain ⟨w, w1, w2⟩ := s.slot j c' e
      refine ⟨w, w1, ?_⟩
      simp only [hji, if_false]
      refine w2.keep a1 (fun _ _ => rfl) fun b z => ?_
      rw [upd_ne (fun y => by subst y; exact hji (s.dis j i _ z ia))]
      exact (w2.no z).1
  · by_cases hji : j = i
    · simp only [hji, if_true] at hj
    · by_cases hki : k = i
      · simp only [hki, if_true] at hk
      · simp only [hji, hki, if_false] at hj hk
        exact s.dis j k a hj hk
  · by_cases hji : j = i
    · simp only [hji, if_true] at z
    · simp only [hji, if_false] at z
      exact s.emp j (fun c' e => hj c' (by rw [List.getElem?_set_ne (Ne.symm hji)]; exact e)) a z
  · obtain ⟨j, z⟩ := z
    by_cases hji : j = i
    · simp only [hji, if_true] at z
    · simp only [hji, if_false] at z
      exact ⟨j, z⟩
theorem wb_pin (i : Nat) (h : env[i]? = some (some (.own v (odn X.prog X.w X.K kvs)))) (k : WB X W sts D (env.set i (some (.pin (pdn X.prog X.w X.K kvs))))) : WB X W sts D env := fun F H σ S s E m => by
  obtain ⟨F', S', s', a1, a3, t⟩ := s.pin h
  exact k F' H σ S' s' E (m.from ⟨a1, fun _ _ e _ => e, fun a o e => (a3 a o e).elim .inl fun z => .inr (.inr ⟨i, z⟩), fun a z => .inl (t a z)⟩)
/-! ### for k in d -/
def Itn (P : Program) (w : World) (d : Addr) (xs : Nkx) (ep : Nat) : It :=
  ⟨fun i H => H d = some (NdO P w d xs ep) ∧ i < xs.length, fun i H x H' => H' = H ∧ ∃ y, xs[i]? = some y ∧ x = .ref y.2.1, fun i H => H d = some (NdO P w d xs ep) ∧ xs.length ≤ i⟩
theorem turn_keysN {P : Program} {w : World} {K : PySem.W.Frag} {tg : Expr} {d : Addr} {xs : Nkx} {ep : Nat} (it : Addr) : Turn P w K tg (Itn P w d xs ep) [it] it (fun i h => h.IsKeyIter it d i xs.length ep) where
  mem := by simp
  obj := fun i h st b hb => by
    have e : b = it := by simpa using hb
    subst e
    obtain ⟨oi, e, c, dd⟩ := st
    exact ⟨oi, e, fun v z => by rw [dd] at z; cases z⟩
  keep := fun i h h' st k => st.at fun oi e => k it (by simp) oi e
  item := by
    intro X hP hw hK hc i pins s σ H E I hf st hg
    subst hP hw hK
    obtain ⟨hd, hi⟩ := hg
    obtain ⟨f0, f1, f2, f3, f4, f5⟩ := hf it (by simp)
    obtain ⟨o, es, h1, h2, h3, h4, h5, h6, h7⟩ := (show NdR X.prog X.w d xs ep s.heap from (I.hok d _ hd).1)
    have hsz : es.size = xs.length := size_of_entries h4
    have hx : xs[i]? = some xs[i] := List.getElem?_eq_getElem hi
    have hen : es[i]? = some (entryOfKey (nestedKind X.prog X.w) xs[i]) := by rw [entry_at h4, hx]; rfl
    refine next_key_item st h1 h3 hsz hen fun h' st' sb => ?_
    have I1 : Inv X pins σ H { s with heap := h' } := I.turned (t' := s.toks) (fun b ob hb e => (sb.2 b hb).trans e) f0 f1 f3 f4 f5
    obtain ⟨oi, e, c, dd⟩ := id st'
    exact ⟨_, rfl, go_of (s := { s with heap := h' }) e c dd (by decide) ⟨.ref xs[i].2.1, H, I1, rfl, ⟨rfl, _, hx, rfl⟩, st', fun b hb => (hf b hb).1⟩⟩
  done := by
    intro X hP hw hK hc i pins s σ H E I hf st hg
    subst hP hw hK
    obtain ⟨hd, hi⟩ := hg
    obtain ⟨f0, f1, f2, f3, f4, f5⟩ := hf it (by simp)
    obtain ⟨o, es, h1, h2, h3, h4, h5, h6, h7⟩ := (show NdR X.prog X.w d xs ep s.heap from (I.hok d _ hd).1)
    have hsz : es.size = xs.length := size_of_entries h4
    exact next_key_end (I.ok.hd hc) st h1 h3 hsz hi fun h' eb => ⟨rfl, I.turned (t' := s.toks) (fun b ob hb e => eb b ob hb e) f0 f1 f3 f4 f5⟩
  self := fun A i s Q E st h => by
    refine wpAny_pyIter_slot st.typeIs PySem.F.slot_dict_keyiterator_iter (wpAny_call_entry PySem.F.slot_dict_keyiterator_iter st.typeIs PySem.F.entry_dict_keyiterator_iter ?_ (PySem.F.args_dict_keyiterator_iter_1 _))
    show wpAny _ _ (ret (.ref it)) _ _ s
    exact wpAny_pure ⟨_, rfl, "dict_keyiterator", _, st.typeIs, PySem.F.slot_dict_keyiterator_next.lookup, h⟩
def iKeysN (X : Cx) (td : TE) : TI := fun σ H R => td σ H fun x H1 => ∃ d xs ep, x = .ref d ∧ H1 d = some (NdO X.prog X.w d xs ep) ∧ R (Itn X.prog X.w d xs ep) H1
theorem pi_keysN {tg : Expr} {td : TE} (he : PE X e td) : PI X tg e (iKeysN X td) := by
  refine ⟨fun pins s σ H R I h => ?_⟩
  refine thn (he.run pins s σ H _ I h) fun u s1 ⟨x, H1, I1, rx, d, xs, ep, ex, hd, q⟩ => ?_
  subst ex
  obtain rfl : u = Value.ref d := rx
  obtain ⟨o, es, h1, h2, h3, h4, h5, h6, h7⟩ := (show NdR X.prog X.w d xs ep s1.heap from (I1.hok d _ hd).1)
  have hsz : es.size = xs.length := size_of_entries h4
  refine iter_keys h6 h1 h2 h3 (pi_one (tk := s1.toks) I1 _ (turn_keysN _) ⟨_, Heap.get?_push_size _ rfl, rfl, ?_⟩ q)
  rw [hsz] <;> rfl
theorem vi_keysN {tg : Expr} (i : Nat) (h : env[i]? = some (some (.pin (pdn X.prog X.w X.K kvs))) := by rfl) {x : Str} {p1 : Pos} (hN : X.N[i]? = some x := by rfl)
    (hv : Vis X.env.scope x := by first | exact Or.inl rfl | exact Or.inr (Or.inl rfl) | exact Or.inr (Or.inr rfl)) (hd : (x == ("__debug__" : Str)) = false := by decide) (hcd : (x == ("__classdict__" : Str)) = false := by decide) :
    VI X tg (.Name x p1) env (kvs.map fun y => y.1.data) := fun F H σ S s R k => by
  obtain ⟨v', e1, ⟨a, xs, ep, ea, h2, h3⟩, _⟩ := s.slot i _ h
  subst ea
  have hl : xs.length = kvs.length := Paired.length h3
  refine ⟨_, pi_keysN (pe_var hN hv hd hcd), .ref a, e1, a, xs, ep, rfl, s.sub _ _ h2, k _ F H (Grow.refl s.sub) ⟨fun i F' H' hi e e2 => ⟨e2 _ _ (e _ _ h2), by rw [List.length_map] at hi; omega⟩, fun i F' H' x H'' hi e e2 ⟨eh, y, hy, ex⟩ => ?_, fun F' H' e e2 => ⟨e2 _ _ (e _ _ h2), by rw [List.length_map]; omega⟩⟩⟩
  subst eh
  subst ex
  exact ⟨y.1.data, F', nk_at h3 hy, Grow.refl e2, dp_mono e (nk_mem h3 y (List.mem_of_getElem? hy)).2⟩
end
end G


set_option maxRecDepth 100000
set_option maxHeartbeats 4000000
/-! the walk through all standings, plain -/
namespace M
open PySem
def tkOk (n : Nat) : Tk → Prop
  | .num k => k < n
  | _ => True
structure InW (w : Wd) (s : Std) : Prop where
  os : s.os.length ≤ w.no
  ts : s.ts.length ≤ w.nt
  ky : ∀ o ∈ s.os, o.1 ∈ w.keys
  th : ∀ t ∈ s.ts, t.1 < s.os.length ∧ tkOk s.os.length t.2.2
theorem inw_empty (w : Wd) : InW w empty := ⟨Nat.zero_le _, Nat.zero_le _, fun _ h => (by cases h), fun _ h => (by cases h)⟩
section
variable {w : Wd} {s s' : Std} {r : Rl} {d : Deed}
theorem inw_mk (h : InW w s) {os' : List Ow} {ts' : List Th} (hl : os'.length = s.os.length) (hk : ∀ o ∈ os', o.1 ∈ w.keys) (tl : ts'.length = s.ts.length) (ht : ∀ t ∈ ts', t.1 < s.os.length ∧ tkOk s.os.length t.2.2) : InW w ⟨os', ts'⟩ :=
  ⟨by show os'.length ≤ _; rw [hl]; exact h.os, by show ts'.length ≤ _; rw [tl]; exact h.ts, hk, fun t z => by show t.1 < os'.length ∧ tkOk os'.length t.2.2; rw [hl]; exact ht t z⟩
theorem key_mem (h : InW w s) {n : Nat} (hn : n < s.os.length) : keyAt s n ∈ w.keys := by
  unfold keyAt
  rw [List.getD_eq_getElem?_getD, List.getElem?_eq_getElem hn]
  exact h.ky _ (List.getElem_mem hn)
theorem own_lt (h : InW w s) {n : Nat} (hn : n < s.ts.length) : ownAt s n < s.os.length := by
  unfold ownAt
  rw [List.getD_eq_getElem?_getD, List.getElem?_eq_getElem hn]
  exact (h.th _ (List.getElem_mem hn)).1
theorem mem_setK (h : InW w s) {n : Nat} {x : S3} (hn : n < s.os.length) : ∀ o ∈ s.os.set n (keyAt s n, x), o.1 ∈ w.keys := fun o ho => by
  rcases List.mem_or_eq_of_mem_set ho with h1 | h1
  · exact h.ky o h1
  · rw [h1]; exact key_mem h hn
theorem mem_setT (h : InW w s) {n : Nat} {t : Th} (ht : t.1 < s.os.length ∧ tkOk s.os.length t.2.2) : ∀ u ∈ s.ts.set n t, u.1 < s.os.length ∧ tkOk s.os.length u.2.2 := fun u hu => by
  rcases List.mem_or_eq_of_mem_set hu with h1 | h1
  · exact h.th u h1
  · rw [h1]; exact ht
theorem own_in {k : Str} (h : Deed.own k ∈ deedsL w s) : s.os.length < w.no ∧ k ∈ w.keys := by
  unfold deedsL at h
  simp only [List.mem_append, List.mem_map, List.mem_flatMap, List.mem_singleton] at h
  rcases h with ((((((h | h) | h) | h) | h) | h) | h) | h
  · split at h
    · rename_i hl
      obtain ⟨a, ha, e⟩ := List.mem_map.mp h
      cases e
      exact ⟨hl, ha⟩
    · cases h
  · split at h
    · obtain ⟨a, ha, e⟩ := List.mem_map.mp h
      cases e
    · cases h
  · obtain ⟨a, _, b, _, e⟩ := h
    cases e
  all_goals first | (obtain ⟨a, _, e⟩ := h; cases e) | cases h
theorem put_in {o : Nat} (h : Deed.put o ∈ deedsL w s) : s.ts.length < w.nt := by
  unfold deedsL at h
  simp only [List.mem_append, List.mem_map, List.mem_flatMap, List.mem_singleton] at h
  rcases h with ((((((h | h) | h) | h) | h) | h) | h) | h
  · split at h
    · obtain ⟨a, ha, e⟩ := List.mem_map.mp h
      cases e
    · cases h
  · split at h
    · rename_i hl
      exact hl
    · cases h
  · obtain ⟨a, _, b, _, e⟩ := h
    cases e
  all_goals first | (obtain ⟨a, _, e⟩ := h; cases e) | cases h
theorem inw_behind (h : InW w s) (hd : d ∈ deedsL w s) (e : behind r s d = some s') : InW w s' := by
  cases d with
  | own k =>
    obtain ⟨h1, h2⟩ := own_in hd
    simp only [behind] at e
    split at e
    · cases e
      refine ⟨by show (s.os ++ [(k, S3.live)]).length ≤ _; rw [List.length_append, List.length_singleton]; omega, h.ts, fun o ho => ?_, fun t ht => ?_⟩
      · rcases List.mem_append.mp ho with z | z
        · exact h.ky o z
        · rw [List.mem_singleton.mp z]; exact h2
      · show t.1 < (s.os ++ [(k, S3.live)]).length ∧ tkOk (s.os ++ [(k, S3.live)]).length t.2.2
        rw [List.length_append, List.length_singleton]
        obtain ⟨q1, q2⟩ := h.th t ht
        refine ⟨by omega, ?_⟩
        cases q : t.2.2 with
        | num n => rw [q] at q2; exact Nat.lt_succ_of_lt q2
        | non => trivial
        | self => trivial
    · cases e
  | put o =>
    have h1 := put_in hd
    simp only [behind] at e
    split at e
    · rename_i hm
      cases e
      have hlt := mayHave_lt hm
      refine ⟨h.os, by show (s.ts ++ [(o, S3.live, Tk.non)]).length ≤ _; rw [List.length_append, List.length_singleton]; omega, h.ky, fun t ht => ?_⟩
      rcases List.mem_append.mp ht with z | z
      · exact h.th t z
      · rw [List.mem_singleton.mp z]; exact ⟨hlt, trivial⟩
    · cases e
  | move t o =>
    simp only [behind] at e
    split at e
    · cases e
    · rename_i hm
      cases e
      have hh : mayHave r s.os o = true := by
        cases q : mayHave r s.os o with
        | true => rfl
        | false => exact absurd (.inr (.inr q)) hm
      exact inw_mk h rfl h.ky (List.length_set ..) (mem_setT h ⟨mayHave_lt hh, trivial⟩)
  | mark o =>
    simp only [behind, marked] at e
    split at e
    · cases e
    · rename_i hs
      split at e
      · cases e
      · cases e
        have hlt : o < s.os.length := oSt_lt (Decidable.of_not_not hs)
        refine inw_mk h (List.length_set ..) (mem_setK h hlt) (by split <;> simp) fun t ht => ?_
        split at ht
        · obtain ⟨u, hu, rfl⟩ := List.mem_map.mp ht
          split
          · exact ⟨hlt, hlt⟩
          · exact h.th u hu
        · exact h.th t ht
  | take t =>
    simp only [behind] at e
    split at e
    · cases e
    · rename_i hs
      cases e
      exact inw_mk h rfl h.ky (List.length_set ..) (mem_setT h ⟨own_lt h (tSt_lt (Decidable.of_not_not hs)), trivial⟩)
  | fetch o =>
    simp only [behind, fetched] at e
    split at e
    · cases e
    · rename_i hs
      cases e
      have hlt : o < s.os.length := oSt_lt (x := .gone) (Decidable.of_not_not fun z => hs (.inl z))
      refine inw_mk h (List.length_set ..) (mem_setK h hlt) (by simp) fun t ht => ?_
      obtain ⟨u, hu, rfl⟩ := List.mem_map.mp ht
      split
      · exact ⟨(h.th u hu).1, trivial⟩
      · exact h.th u hu
  | raise t =>
    simp only [behind, raised] at e
    split at e
    · cases e
    · rename_i hs
      split at e
      · cases e
      · cases e
        exact inw_mk h rfl h.ky (List.length_set ..) (mem_setT h ⟨own_lt h (tSt_lt (Decidable.of_not_not hs)), trivial⟩)
  | clear =>
    simp only [behind, cleared] at e
    cases e
    have hts : ∀ t ∈ s.ts.map fun t => if t.2.1 = .gone then (t.1, S3.cleared, Tk.non) else t, t.1 < s.os.length ∧ tkOk s.os.length t.2.2 := fun t ht => by
      obtain ⟨u, hu, rfl⟩ := List.mem_map.mp ht
      split
      · exact ⟨(h.th u hu).1, trivial⟩
      · exact h.th u hu
    refine inw_mk h (by simp) (fun o ho => ?_) (by split <;> simp) fun t ht => ?_
    · obtain ⟨p, hp, rfl⟩ := List.mem_map.mp ho
      have hm : p.1 ∈ s.os := List.fst_mem_of_mem_zipIdx hp
      split
      · exact h.ky p.1 hm
      · exact h.ky _ hm
    · split at ht
      · obtain ⟨u, hu, rfl⟩ := List.mem_map.mp ht
        split
        · exact ⟨(hts u hu).1, trivial⟩
        · exact hts u hu
      · exact hts t ht
theorem inw_step (h : InW w s) (hd : d ∈ deedsL w s) : InW w (step r s d).2 := by
  unfold step
  cases e : behind r s d with
  | none => exact h
  | some s' => exact inw_behind h hd e
/-! ### how many standings there are -/
def listsUp {α : Type} (A : List α) : Nat → List (List α)
  | 0 => [[]]
  | n + 1 => [] :: A.flatMap fun a => (listsUp A n).map (a :: ·)
theorem flat_le {α β : Type} (f : α → List β) (m : Nat) : ∀ xs : List α, (∀ x ∈ xs, (f x).length ≤ m) → (xs.flatMap f).length ≤ xs.length * m
  | [], _ => by simp
  | x :: xs, h => by
    rw [List.flatMap_cons, List.length_append, List.length_cons, Nat.succ_mul]
    have := h x List.mem_cons_self
    have := flat_le f m xs fun y hy => h y (List.mem_cons_of_mem _ hy)
    omega
theorem listsUp_len {α : Type} (A : List α) : ∀ n, (listsUp A n).length ≤ (A.length + 1) ^ n
  | 0 => by simp [listsUp]
  | n + 1 => by
    have ih := listsUp_len A n
    rw [listsUp, List.length_cons, Nat.pow_succ, Nat.mul_comm, Nat.succ_mul]
    have h1 := flat_le (fun a => (listsUp A n).map (a :: ·)) ((A.length + 1) ^ n) A fun a _ => by rw [List.length_map]; exact ih
    have h2 : 1 ≤ (A.length + 1) ^ n := Nat.pow_pos (by omega)
    omega
theorem mem_listsUp {α : Type} {A : List α} : ∀ {n : Nat} {l : List α}, l.length ≤ n → (∀ x ∈ l, x ∈ A) → l ∈ listsUp A n
  | 0, [], _, _ => by simp [listsUp]
  | n + 1, [], _, _ => by simp [listsUp]
  | 0, _ :: _, h, _ => by simp at h
  | n + 1, a :: l, h, hA => by
    rw [listsUp]
    refine List.mem_cons_of_mem _ (List.mem_flatMap.mpr ⟨a, hA a List.mem_cons_self, List.mem_map.mpr ⟨l, mem_listsUp (by simpa using h) fun x hx => hA x (List.mem_cons_of_mem _ hx), rfl⟩⟩)
theorem nodup_len {α : Type} [DecidableEq α] : ∀ {l u : List α}, l.Nodup → (∀ x ∈ l, x ∈ u) → l.length ≤ u.length
  | [], _, _, _ => Nat.zero_le _
  | x :: l, u, hn, h => by
    rw [List.nodup_cons] at hn
    have hx := h x List.mem_cons_self
    have h2 := nodup_len (l := l) (u := u.erase x) hn.2 fun y hy => (List.mem_erase_of_ne (fun z => hn.1 (by rw [← z]; exact hy))).mpr (h y (List.mem_cons_of_mem _ hy))
    rw [List.length_erase_of_mem hx] at h2
    have : 0 < u.length := List.length_pos_of_mem hx
    rw [List.length_cons]
    omega
def s3s : List S3 := [.live, .gone, .cleared]
def tks : List Tk := [.non, .self, .num 0, .num 1, .num 2]
def owsU (w : Wd) : List Ow := w.keys.flatMap fun k => s3s.map fun x => (k, x)
def thsU : List Th := [0, 1, 2].flatMap fun n => s3s.flatMap fun x => tks.map fun t => (n, x, t)
def stdsU (w : Wd) : List Std := (listsUp (owsU w) 3).flatMap fun os => (listsUp thsU 2).map fun ts => ⟨os, ts⟩
theorem s3s_mem (x : S3) : x ∈ s3s := by cases x <;> decide
theorem stdsU_mem (wo : w.Ok) (h : InW w s) : s ∈ stdsU w := by
  refine List.mem_flatMap.mpr ⟨s.os, mem_listsUp (Nat.le_trans h.os wo.o.2) fun o ho => List.mem_flatMap.mpr ⟨o.1, h.ky o ho, List.mem_map.mpr ⟨o.2, s3s_mem _, rfl⟩⟩, List.mem_map.mpr ⟨s.ts, mem_listsUp (Nat.le_trans h.ts wo.t) fun t ht => ?_, rfl⟩⟩
  obtain ⟨h1, h2⟩ := h.th t ht
  have ho := Nat.le_trans h.os wo.o.2
  refine List.mem_flatMap.mpr ⟨t.1, ?_, List.mem_flatMap.mpr ⟨t.2.1, s3s_mem _, List.mem_map.mpr ⟨t.2.2, ?_, rfl⟩⟩⟩
  · have : t.1 = 0 ∨ t.1 = 1 ∨ t.1 = 2 := by omega
    rcases this with e | e | e <;> rw [e] <;> decide
  · cases q : t.2.2 with
    | non => decide
    | self => decide
    | num k =>
      rw [q] at h2
      have h3 : k < s.os.length := h2
      have : k = 0 ∨ k = 1 ∨ k = 2 := by omega
      rcases this with e | e | e <;> rw [e] <;> decide
def capN : Nat := 725788
theorem stdsU_len (wo : w.Ok) : (stdsU w).length ≤ capN := by
  have hk : w.keys.length ≤ 2 := by
    rcases wo.k with ⟨a, e⟩ | ⟨a, b, e, _⟩ <;> rw [e] <;> simp
  have h1 : (owsU w).length ≤ 6 := by
    have := flat_le (fun k => s3s.map fun x => ((k, x) : Ow)) 3 w.keys fun k _ => by simp [s3s]
    unfold owsU
    omega
  have h2 : (listsUp (owsU w) 3).length ≤ 343 := Nat.le_trans (listsUp_len _ 3) (Nat.le_trans (Nat.pow_le_pow_left (Nat.succ_le_succ h1) 3) (by decide))
  have h3 : (listsUp thsU 2).length ≤ 2116 := Nat.le_trans (listsUp_len _ 2) (by decide)
  have h4 := flat_le (fun os => (listsUp thsU 2).map fun ts => (⟨os, ts⟩ : Std)) 2116 (listsUp (owsU w) 3) fun os _ => by rw [List.length_map]; exact h3
  have h5 : (listsUp (owsU w) 3).length * 2116 ≤ 343 * 2116 := Nat.mul_le_mul_right _ h2
  unfold stdsU capN
  omega
/-- a bound that the kernel does not unfold -/
theorem capEx (w : Wd) : ∃ n, (stdsU w).length ≤ n ∧ (w.Ok → n ≤ capN) := ⟨_, Nat.le_refl _, stdsU_len⟩
noncomputable def capW (w : Wd) : Nat := Classical.choose (capEx w)
theorem capW_le (wo : w.Ok) : capW w ≤ capN := (Classical.choose_spec (capEx w)).2 wo
/-! ### the rows -/
abbrev Row := Std × List Deed
def visit (r : Rl) (p : Row) (rows : List Row) (d : Deed) : List Row := if (step r p.1 d).2 ∈ rows.map (·.1) then rows else rows ++ [((step r p.1 d).2, p.2 ++ [d])]
def visits (r : Rl) (w : Wd) (p : Row) (rows : List Row) (n : Nat) : List Row := ((deedsL w p.1).take n).foldl (visit r p) rows
def turnAt (r : Rl) (w : Wd) (rows : List Row) (n : Nat) : List Row := match rows[n]? with
  | none => rows
  | some p => (deedsL w p.1).foldl (visit r p) rows
def rowsAt (r : Rl) (w : Wd) : Nat → List Row
  | 0 => [(empty, [])]
  | n + 1 => turnAt r w (rowsAt r w n) n
structure RowsOk (w : Wd) (rows : List Row) : Prop where
  nd : (rows.map (·.1)).Nodup
  inw : ∀ p ∈ rows, InW w p.1
  tidy : ∀ p ∈ rows, p.1.Tidy
  hk : ∀ p ∈ rows, ∀ d ∈ p.2, d.keyOk
  hl : ∀ (i : Nat) (p : Row), rows[i]? = some p → p.2.length ≤ i
theorem RowsOk.lenW (wo : w.Ok) {rows : List Row} (h : RowsOk w rows) : rows.length ≤ capW w := by
  have := nodup_len (u := stdsU w) h.nd fun x hx => by
    obtain ⟨p, hp, rfl⟩ := List.mem_map.mp hx
    exact stdsU_mem wo (h.inw p hp)
  rw [List.length_map] at this
  exact Nat.le_trans this (Classical.choose_spec (capEx w)).1
theorem RowsOk.len (wo : w.Ok) {rows : List Row} (h : RowsOk w rows) : rows.length ≤ capN := Nat.le_trans (h.lenW wo) (capW_le wo)
theorem rowsOk_0 (w : Wd) : RowsOk w [(empty, [])] where
  nd := by simp
  inw := fun p hp => by rw [List.mem_singleton.mp hp]; exact inw_empty w
  tidy := fun p hp => by rw [List.mem_singleton.mp hp]; exact tidy_empty
  hk := fun p hp => by rw [List.mem_singleton.mp hp]; intro d hd; cases hd
  hl := fun i p e => by
    cases i with
    | zero => simp at e; subst e; exact Nat.le_refl _
    | succ i => simp at e
theorem rowsOk_visit (wo : w.Ok) {rows : List Row} (h : RowsOk w rows) {n : Nat} {p : Row} (hp : rows[n]? = some p) {d : Deed} (hd : d ∈ deedsL w p.1) : RowsOk w (visit r p rows d) := by
  unfold visit
  split
  · exact h
  · rename_i hn
    have hm := List.mem_of_getElem? hp
    refine ⟨?_, fun q hq => ?_, fun q hq => ?_, fun q hq => ?_, fun i q e => ?_⟩
    · rw [List.map_append, List.nodup_append]
      refine ⟨h.nd, by simp, fun a ha b hb e => ?_⟩
      simp at hb
      subst e
      exact hn (hb ▸ ha)
    · rcases List.mem_append.mp hq with z | z
      · exact h.inw q z
      · rw [List.mem_singleton.mp z]; exact inw_step (h.inw p hm) hd
    · rcases List.mem_append.mp hq with z | z
      · exact h.tidy q z
      · rw [List.mem_singleton.mp z]; exact step_tidy (h.tidy p hm)
    · rcases List.mem_append.mp hq with z | z
      · exact h.hk q z
      · rw [List.mem_singleton.mp z]
        intro x hx
        rcases List.mem_append.mp hx with y | y
        · exact h.hk p hm x y
        · rw [List.mem_singleton.mp y]; exact deedsL_key wo.s d hd
    · by_cases hi : i < rows.length
      · rw [List.getElem?_append_left hi] at e
        exact h.hl i q e
      · rw [List.getElem?_append_right (by omega)] at e
        have hn' := (List.getElem?_eq_some_iff.mp hp).1
        have := h.hl n p hp
        cases q' : i - rows.length with
        | zero =>
          rw [q'] at e
          simp at e
          subst e
          simp
          omega
        | succ j => rw [q'] at e; simp at e
theorem visit_get {rows : List Row} {n : Nat} {p q : Row} (hp : rows[n]? = some q) : (visit r p rows d)[n]? = some q := by
  unfold visit
  split
  · exact hp
  · rw [List.getElem?_append_left (List.getElem?_eq_some_iff.mp hp).1]; exact hp
theorem visits_ok (wo : w.Ok) {rows : List Row} (h : RowsOk w rows) {n : Nat} {p : Row} (hp : rows[n]? = some p) : ∀ ds : List Deed, (∀ d ∈ ds, d ∈ deedsL w p.1) → RowsOk w (ds.foldl (visit r p) rows) ∧ (ds.foldl (visit r p) rows)[n]? = some p ∧ rows.length ≤ (ds.foldl (visit r p) rows).length := by
  intro ds
  induction ds generalizing rows with
  | nil => exact fun _ => ⟨h, hp, Nat.le_refl _⟩
  | cons d ds ih =>
    intro hd
    rw [List.foldl_cons]
    obtain ⟨h1, h2, h3⟩ := ih (rowsOk_visit (r := r) wo h hp (hd d List.mem_cons_self)) (visit_get hp) fun x hx => hd x (List.mem_cons_of_mem _ hx)
    refine ⟨h1, h2, Nat.le_trans ?_ h3⟩
    unfold visit
    split
    · exact Nat.le_refl _
    · simp
theorem rowsAt_ok (wo : w.Ok) (r : Rl) : ∀ n, RowsOk w (rowsAt r w n)
  | 0 => rowsOk_0 w
  | n + 1 => by
    rw [rowsAt, turnAt]
    split
    · exact rowsAt_ok wo r n
    · rename_i p hp
      exact (visits_ok wo (rowsAt_ok wo r n) hp _ fun _ h => h).1
/-- the rows at the end -/
noncomputable def rowsF (r : Rl) (w : Wd) : List Row := rowsAt r w (capW w)
theorem rows_stay (r : Rl) (w : Wd) {n : Nat} (h : (rowsAt r w n).length ≤ n) : ∀ k, rowsAt r w (n + k) = rowsAt r w n
  | 0 => rfl
  | k + 1 => by
    have ih := rows_stay r w h k
    rw [← Nat.add_assoc, rowsAt, turnAt, ih, List.getElem?_eq_none (by omega)]
theorem rows_end {r : Rl} {n : Nat} (h : (rowsAt r w n).length ≤ n) (hn : n ≤ capW w) : rowsAt r w n = rowsF r w := by
  have := rows_stay r w h (capW w - n)
  rw [show n + (capW w - n) = capW w by omega] at this
  exact this.symm
theorem rowsF_ok (wo : w.Ok) (r : Rl) : RowsOk w (rowsF r w) := rowsAt_ok wo r _
end
end M


set_option maxRecDepth 100000
set_option maxHeartbeats 4000000
namespace M
open PySem G Pg L2
def oK (o : Ow) : NestedKey := .tup [.text o.1, .text o.2.str]
def tkK : Tk → NestedKey
  | .non => .none
  | .self => .text "self"
  | .num n => .num (n : Int)
def tK (t : Th) : NestedKey := .tup [.num (t.1 : Int), .text t.2.1.str, tkK t.2.2]
def Std.k (s : Std) : NestedKey := .tup [.tup (s.os.map oK), .tup (s.ts.map tK)]
theorem oK_data (o : Ow) : (oK o).data = oD o := rfl
theorem tK_data (t : Th) : (tK t).data = tD t := by
  unfold tK tD
  cases h : t.2.2 <;> rfl
theorem datas_map {α : Type} (f : α → NestedKey) (g : α → PyData) (h : ∀ a, (f a).data = g a) : ∀ xs : List α, NestedKey.datas (xs.map f) = xs.map g
  | [] => rfl
  | x :: xs => by
    rw [List.map_cons, List.map_cons, NestedKey.datas, h x, datas_map f g h xs]
theorem Std.k_data (s : Std) : s.k.data = s.d := by
  unfold Std.k Std.d
  simp only [NestedKey.data, NestedKey.datas]
  rw [datas_map oK oD oK_data, datas_map tK tD tK_data]
theorem depth_map {α : Type} (f : α → NestedKey) (n : Nat) (h : ∀ a, (f a).depth ≤ n) : ∀ xs : List α, NestedKey.depthAll (xs.map f) ≤ n
  | [] => Nat.zero_le _
  | x :: xs => by
    rw [List.map_cons, NestedKey.depthAll]
    have := h x
    have := depth_map f n h xs
    omega
theorem oK_depth (o : Ow) : (oK o).depth ≤ 1 := Nat.le_refl _
theorem tK_depth (t : Th) : (tK t).depth ≤ 1 := by
  unfold tK
  cases t.2.2 <;> exact Nat.le_refl _
theorem Std.k_depth (s : Std) : s.k.depth ≤ 8 := by
  unfold Std.k
  simp only [NestedKey.depth, NestedKey.depthAll]
  have := depth_map oK 1 oK_depth s.os
  have := depth_map tK 1 tK_depth s.ts
  omega
theorem Std.k_tp (s : Std) : IsTp s.k := ⟨_, rfl⟩
theorem map_inj {α β : Type} {f : α → β} (h : ∀ a b, f a = f b → a = b) : ∀ {xs ys : List α}, xs.map f = ys.map f → xs = ys
  | [], [], _ => rfl
  | [], _ :: _, e => by simp at e
  | _ :: _, [], e => by simp at e
  | x :: xs, y :: ys, e => by
    rw [List.map_cons, List.map_cons] at e
    injection e with e1 e2
    rw [h _ _ e1, map_inj h e2]
theorem S3.str_inj {a b : S3} (h : a.str = b.str) : a = b := by
  have e := S3.eqv a b
  rw [h, eqv_str] at e
  simp at e
  exact e
theorem oK_inj (a b : Ow) (h : oK a = oK b) : a = b := by
  unfold oK at h
  injection h with h
  injection h with h1 h2
  injection h2 with h2 _
  injection h1 with h1
  injection h2 with h2
  exact Prod.ext h1 (S3.str_inj h2)
theorem tkK_inj (a b : Tk) (h : tkK a = tkK b) : a = b := by
  cases a <;> cases b <;> simp only [tkK] at h <;> first | rfl | (cases h; done) | (injection h with h; have := Int.ofNat.inj h; rw [this])
theorem tK_inj (a b : Th) (h : tK a = tK b) : a = b := by
  unfold tK at h
  injection h with h
  injection h with h1 h2
  injection h2 with h2 h3
  injection h3 with h3 _
  injection h1 with h1
  injection h2 with h2
  have h1 : a.1 = b.1 := Int.ofNat.inj h1
  exact Prod.ext h1 (Prod.ext (S3.str_inj h2) (tkK_inj _ _ h3))
theorem Std.k_inj {s t : Std} (h : s.k = t.k) : s = t := by
  unfold Std.k at h
  injection h with h
  injection h with h1 h2
  injection h2 with h2 _
  injection h1 with h1
  injection h2 with h2
  cases s
  cases t
  congr
  · exact map_inj oK_inj h1
  · exact map_inj tK_inj h2
def kvsOf (rows : List Row) : Nkd := rows.map fun p => (p.1.k, .tuple (dsD p.2))
theorem kvs_none {s : Std} : ∀ {rows : List Row}, s ∉ rows.map (·.1) → getN (kvsOf rows) s.k = none
  | [], _ => rfl
  | p :: rows, h => by
    rw [List.map_cons, List.mem_cons, not_or] at h
    have e : ¬ p.1.k = s.k := fun z => h.1 (Std.k_inj z).symm
    have : getN (kvsOf (p :: rows)) s.k = getN (kvsOf rows) s.k := by simp [getN, kvsOf, List.find?_cons, e]
    rw [this]
    exact kvs_none h.2
theorem kvs_get {p : Row} : ∀ {rows : List Row} {n : Nat}, (rows.map (·.1)).Nodup → rows[n]? = some p → getN (kvsOf rows) p.1.k = some (.tuple (dsD p.2))
  | [], n, _, h => by simp at h
  | q :: rows, 0, _, h => by
    simp at h
    subst h
    simp [getN, kvsOf]
  | q :: rows, n + 1, hn, h => by
    rw [List.map_cons, List.nodup_cons] at hn
    simp at h
    have hm : p.1 ∈ rows.map (·.1) := List.mem_map.mpr ⟨p, List.mem_of_getElem? h, rfl⟩
    have e : ¬ q.1.k = p.1.k := fun z => hn.1 (by rw [Std.k_inj z]; exact hm)
    have : getN (kvsOf (q :: rows)) p.1.k = getN (kvsOf rows) p.1.k := by simp [getN, kvsOf, List.find?_cons, e]
    rw [this]
    exact kvs_get hn.2 h
theorem kvs_some {s : Std} {rows : List Row} (hn : (rows.map (·.1)).Nodup) (h : s ∈ rows.map (·.1)) : (getN (kvsOf rows) s.k).isSome = true := by
  obtain ⟨p, hp, rfl⟩ := List.mem_map.mp h
  obtain ⟨n, hn'⟩ := List.mem_iff_getElem?.mp hp
  rw [kvs_get hn hn']
  rfl
theorem kvs_app (rows : List Row) (s : Std) (h : List Deed) : kvsOf (rows ++ [(s, h)]) = kvsOf rows ++ [(s.k, .tuple (dsD h))] := by simp [kvsOf]
theorem thin_oDs (xs : List Ow) : thins (xs.map oD) = true := by
  induction xs with
  | nil => rfl
  | cons x xs ih => rw [List.map_cons, thins, ih]; rfl
theorem thin_tDs (xs : List Th) : thins (xs.map tD) = true := by
  induction xs with
  | nil => rfl
  | cons x xs ih =>
    rw [List.map_cons, thins, ih]
    obtain ⟨a, b, c⟩ := x
    cases c <;> rfl
theorem thin_d (s : Std) : thin s.d = true := by
  unfold Std.d
  simp only [thin, thins, thin_oDs, thin_tDs, Bool.and_self]
def stsD (rows : List Row) : List PyData := rows.map (·.1.d)
theorem thins_sts (rows : List Row) : thins (stsD rows) = true := by
  induction rows with
  | nil => rfl
  | cons p rows ih => rw [stsD, List.map_cons, thins, Bool.and_eq_true]; exact ⟨thin_d p.1, ih⟩
theorem take_fold {α β : Type} (f : β → α → β) {b : β} {xs : List α} {i : Nat} {x : α} (h : xs[i]? = some x) : (xs.take (i + 1)).foldl f b = f ((xs.take i).foldl f b) x := by
  have hlt := (List.getElem?_eq_some_iff.mp h).1
  have e : xs[i] = x := by rw [List.getElem?_eq_getElem hlt] at h; exact Option.some.inj h
  rw [List.take_succ_eq_append_getElem hlt, List.foldl_append, e]
  rfl
end M
namespace G
open PySem PySem.Spec PyProof.Rows L2
section
variable {X : Cx} {W : WX} {env : En} {D : DE} {e : Expr} {pos p' : Pos} {a b : Int}
/-- name += e -/
theorem ws_augI (i : Nat) (h : VC X e env (.dat (.int b))) (k : D.nx (env.set i (some (.dat (.int (a + b)))))) (hN : X.N.Nodup) (h0 : env[i]? = some (some (.dat (.int a))) := by rfl) {x : Str} (hi : X.N[i]? = some x := by rfl) (hx : Loc X.env.scope x := by first | exact Or.inl rfl | exact Or.inr rfl)
    (hf : X.fn x = true ∨ X.env.scope.names.lookup x = some .local := by first | exact .inl rfl | exact .inr rfl | assumption) : WS X W (.AugAssign (.Name x p') .Add e pos) D env := fun F H σ S s E m => by
  obtain ⟨v, e1, h1, _⟩ := s.slot i _ h0
  cases h1
  refine ⟨_, ps_aug hN hi hx pwE ip_add hf, .int a, e1, h F H σ S s _ fun w F1 H1 _ g hw _ => ?_⟩
  cases hw.1
  obtain ⟨S2, s2, t2⟩ := (s.grow g).put (i := i) (c := .dat (.int (a + b))) (v := .int (a + b)) (Sv := fun _ => False) ⟨.int _, fun _ z => z⟩ (fun _ _ _ z => z)
  exact ⟨a, b, rfl, rfl, m.nx F1 H1 _ S2 _ (g.prog.trans ⟨Same.refl _, fun _ _ e _ => e, fun _ _ e => .inl e, fun a z => .inl ((t2 a z).elim id False.elim)⟩) s2 k⟩
/-- len(e), e a dict with nested keys made there -/
theorem ec_lenN {Q : Ct → En → Prop} {RX : Xc → En → Prop} {p : Pos} (hm : X.mg "len" = none) (h : EC X W e (fun c env1 => ∃ v kvs, c = .own v (odn X.prog X.w X.K kvs) ∧ Q (.dat (.int ((kvs.length : Nat) : Int))) env1) RX env) (hg : Gl X "len" := by rfl) (he : starEach [e] X.env = (false, eval e X.env) :: starEach [] X.env := by rfl) (hpl : (backTo pos (starEach [] X.env)).any (·.1) = false := by rfl) :
    EC X W (.Call (.Name "len" p) [e] [] pos) Q RX env := fun F H σ S s QV kq kx =>
  ⟨_, pe_callB call_len_nd hg hm PySem.boot_len (pa_cons pwE pa_nil he) (by decide) (by decide) he hpl, h F H σ S s _ (fun v F1 H1 S1 Sv c env1 p1 s1 hv dj ⟨w, kvs, ec, q⟩ => by
    subst ec
    obtain ⟨_, ⟨a, xs, ep, ea, h2, h3, _⟩, _⟩ := hv
    subst ea
    exact ⟨F1, a, xs, kvs, ep, rfl, s1.sub, h2, h3, kq _ F1 H1 S1 (fun _ => False) (.dat (.int ((kvs.length : Nat) : Int))) env1 (p1.weak (fun _ z => z) fun a z => .inl (z.elim .inl False.elim)) s1 ⟨.int _, fun _ z => z⟩ (fun _ _ _ z => z) q⟩) kx⟩
end
end G
namespace Pg
open PySem L2 G M
section
variable {P : Program} {w : World} {K : PySem.W.Frag} {mg : Str → Option Value} {base : Heap} {C : Addr}
def sp_walked (P : Program) (w : World) (K : PySem.W.Frag) (C : Addr) : Spec := fun cs R _ => ∃ (r : Rl) (wd : Wd), cs = [rl K C r, .dat wd.d] ∧ wd.Ok ∧ ∀ v, R (.own v (odn P w K (kvsOf (rowsF r wd)))) cs
theorem vck {X : Cx} {env : En} {e : Expr} {s : Std} (h : VC X e env (.dat s.d)) : VC X e env (.dat s.k.data) := by rw [Std.k_data]; exact h
theorem fn_walked (B : Bi mg) (D : Df K mg "walked" s_walked p_walked) (GE : GlobD K mg "EMPTY" emptyD) (FS : Fn P w K mg base "step" 4 (sp_step K C)) (FA : Fn P w K mg base "all_deeds" 1 (sp_all_deeds K)) : Fn P w K mg base "walked" 5 (sp_walked P w K C) := by
  have nd := sc_walked.nd
  obtain ⟨ve, ue, me, re, de⟩ := GE
  refine fnG D sc_walked (fun cs R RX h => ?_) (fun f cdv A outer s H E X eX hr tk hp cs R RX h => ?_)
  · obtain ⟨_, _, rfl, _⟩ := h
    rfl
  · subst eX
    obtain ⟨r, wd, rfl, wo, k⟩ := h
    have hr1 := hr.mono (show 1 ≤ 4 by decide)
    have hsw : SmallW wd := by rcases wo.k with ⟨a, e⟩ | ⟨a, b, e, _⟩ <;> (unfold SmallW; rw [e]; simp)
    have hcap : capN < 16777216 := by decide
    refine wb_cons (ws_set 2 (VO.eff (vo_ndisp hr (vck (s := empty) (vc_glob me re de)) (vc_tup (ds := []) dc_nil) (Std.k_tp _) (Std.k_depth _)) fun v1 => ?_) nd)
    refine wb_cons (ws_set 3 (VO.eff (vo_lst (dc_cons (vc_glob me re de) dc_nil)) fun v2 => ?_) nd)
    refine wb_cons (ws_set 4 (.pure vc_int ?_) nd)
    refine wb_cons (ws_while hp (fun m env => ∃ n oh od oa, m = capW wd - n ∧ n ≤ (rowsAt r wd n).length ∧ env = [some (rl K C r), some (.dat wd.d), some (.own v1 (odn P w K (kvsOf (rowsAt r wd n)))), some (.own v2 (olst K (stsD (rowsAt r wd n)))), some (.dat (.int (n : Int))), oh, od, oa])
      (capW wd) ⟨0, none, none, none, rfl, Nat.zero_le _, rfl⟩ ?turn)
    case turn =>
      rintro m env1 ⟨n, oh, od, oa, rfl, hn, rfl⟩
      have ok := rowsAt_ok wo r n
      have hlen := ok.len wo
      have hlenW := ok.lenW wo
      refine ⟨decide (n < (rowsAt r wd n).length), ?test, fun hb => ?body, fun hb => ?fin⟩
      case test =>
        refine tc_lend 3 (d := .list (stsD (rowsAt r wd n))) frz_olst (tis ?_ (tc_cmp op_lt od_lt (vc_dat 4) (vc_len (ds := stsD (rowsAt r wd n)) B.len (vc_dat 3))))
        rw [show (stsD (rowsAt r wd n)).length = (rowsAt r wd n).length from List.length_map ..]; exact decide_eq_decide.mpr (by omega)
      case fin =>
        have hb' : (rowsAt r wd n).length ≤ n := by simpa using hb
        have he : rowsAt r wd n = rowsF r wd := rows_end hb' (Nat.le_trans hn hlenW)
        refine wb_cons (ws_ret (ec_name_own 2 rfl ⟨_, .pin (.dat .nil), ?_⟩))
        rw [he]
        exact k v1
      case body =>
        have hlt : n < (rowsAt r wd n).length := of_decide_eq_true hb
        obtain ⟨p, hp'⟩ : ∃ p, (rowsAt r wd n)[n]? = some p := ⟨_, List.getElem?_eq_getElem hlt⟩
        have hpm := List.mem_of_getElem? hp'
        have inw := ok.inw p hpm
        have hio : p.1.os.length ≤ 3 := Nat.le_trans inw.os wo.o.2
        have hit : p.1.ts.length ≤ 2 := Nat.le_trans inw.ts wo.t
        have okp : p.1.Ok := ⟨fun o ho => wo.s _ (inw.ky o ho), fun t ht => (inw.th t ht).1, by omega, by omega⟩
        have hds : ∀ d ∈ deedsL wd p.1, d.keyOk := deedsL_key wo.s
        refine wb_cons (ws_set 5 (.pure (vc_lend (c := .dat p.1.d) (d := .list (stsD (rowsAt r wd n))) 3 frz_olst (thin_d p.1) ?here) ?rest) nd)
        case here => exact vc_ixL (ds := stsD (rowsAt r wd n)) (i := (n : Int)) (vc_dat 3) (vc_dat 4) (atI_nat (by rw [stsD, List.getElem?_map, hp']; rfl))
        refine wb_cons (ws_augI 4 (a := (n : Int)) (b := 1) vc_int ?_ nd)
        refine wb_at (env' := [some (rl K C r), some (.dat wd.d), some (.own v1 (odn P w K (kvsOf (rowsAt r wd n)))), some (.own v2 (olst K (stsD (rowsAt r wd n)))), some (.dat (.int ((n + 1 : Nat) : Int))), some (.dat p.1.d), od, oa]) rfl ?_
        refine wb_cons (ws_for hp rfl (vi_list (VO.dat (vo_call FA hr1 (ac_cons (vc_dat 1) (ac_cons (vc_dat 5) ac_nil)) ⟨wd, p.1, rfl, okp, hsw, fun v => ⟨v, rfl⟩⟩)))
          (fun i env => ∃ od oa, env = [some (rl K C r), some (.dat wd.d), some (.own v1 (odn P w K (kvsOf (((deedsL wd p.1).take i).foldl (visit r p) (rowsAt r wd n))))), some (.own v2 (olst K (stsD (((deedsL wd p.1).take i).foldl (visit r p) (rowsAt r wd n))))), some (.dat (.int ((n + 1 : Nat) : Int))), some (.dat p.1.d), od, oa])
          ⟨od, oa, rfl⟩ ?turn2 ?fin2)
        case turn2 =>
          rintro i d hd env1 ⟨od, oa, rfl⟩
          obtain ⟨q, hq, rfl⟩ := of_map hd
          have hqm := List.mem_of_getElem? hq
          obtain ⟨ok2, hp2, _⟩ := visits_ok (r := r) wo ok hp' ((deedsL wd p.1).take i) fun x hx => List.mem_of_mem_take hx
          have tf := take_fold (visit r p) (b := rowsAt r wd n) hq
          generalize hg : ((deedsL wd p.1).take i).foldl (visit r p) (rowsAt r wd n) = rows at ok2 hp2 tf ⊢
          have hl2 := ok2.len wo
          refine ⟨_, _, gc_name 6 nd, ?_⟩
          refine wb_cons (ws_set 7 (.pure (vc_ixT (ds := [.str (wordD (step r p.1 q).1), (step r p.1 q).2.d]) (i := 1) (vc_call FS hr (ac_pin (vc_pin 0) (ac_cons (vc_dat 5) (ac_cons (vc_dat 6) ac_nil))) ⟨r, p.1, q, rfl, okp, keyOk_deedOk (hds q hqm), rfl⟩) vc_int rfl) ?_) nd)
          refine wb_at (env' := [some (rl K C r), some (.dat wd.d), some (.own v1 (odn P w K (kvsOf rows))), some (.own v2 (olst K (stsD rows))), some (.dat (.int ((n + 1 : Nat) : Int))), some (.dat p.1.d), some (.dat q.d), some (.dat (step r p.1 q).2.d)]) rfl ?_
          by_cases hin : (step r p.1 q).2 ∈ rows.map (·.1)
          · refine wb_cons (ws_skip (tis ?_ (tc_nnotin 2 hr (vck (vc_dat 7)) (Std.k_tp _) (Std.k_depth _) has_own)) ?_)
            · rw [kvs_some ok2.nd hin]; rfl
            · refine wb_nil ⟨some (.dat q.d), some (.dat (step r p.1 q).2.d), ?_⟩
              rw [tf, visit, if_pos hin]
          · have hno := kvs_none hin
            refine wb_cons (ws_take (tis ?_ (tc_nnotin 2 hr (vck (vc_dat 7)) (Std.k_tp _) (Std.k_depth _) has_own)) ?_)
            · rw [hno]; rfl
            · have hh := ok2.hl n p hp2
              have hnl := (List.getElem?_eq_some_iff.mp hp2).1
              refine wb_cons (ws_nput (k := (step r p.1 q).2.k) (d := .tuple (dsD (p.2 ++ [q]))) 2 hr (vis (by rw [← cat_dsD]; rfl) (vc_op op_catA (od_catT (ds := dsD p.2) (es := [q.d]) (by unfold dsD; rw [List.length_map, List.length_singleton]; omega)) (vc_nget (k := p.1.k) (d := .tuple (dsD p.2)) 2 hr (vck (vc_dat 5)) (Std.k_tp _) (Std.k_depth _) (kvs_get ok2.nd hp2) has_own) (vc_tup (dc_cons (vc_dat 6) dc_nil)))) (vck (vc_dat 7)) (Std.k_tp _) (Std.k_depth _) hno (by unfold kvsOf; rw [List.length_map]; omega) ?_)
              refine wb_cons (ws_app (ds := stsD rows) (d := (step r p.1 q).2.d) 3 (vc_dat 7) (by unfold stsD; rw [List.length_map]; omega) ?_)
              refine wb_nil (wb_nil ⟨some (.dat q.d), some (.dat (step r p.1 q).2.d), ?_⟩)
              rw [tf, visit, if_neg hin, kvs_app, show stsD (rows ++ [((step r p.1 q).2, p.2 ++ [q])]) = stsD rows ++ [(step r p.1 q).2.d] from List.map_append ..]
              rfl
        case fin2 =>
          rintro env1 ⟨od, oa, rfl⟩
          have e2 : ((deedsL wd p.1).take (dsD (deedsL wd p.1)).length).foldl (visit r p) (rowsAt r wd n) = rowsAt r wd (n + 1) := by
            rw [show (dsD (deedsL wd p.1)).length = (deedsL wd p.1).length from List.length_map .., List.take_length, rowsAt, turnAt, hp']
          rw [e2]
          refine wb_nil ⟨capW wd - (n + 1), by omega, n + 1, _, _, _, rfl, ?_, rfl⟩
          have := (visits_ok (r := r) wo ok hp' (deedsL wd p.1) fun _ h => h).2.2
          have e3 : rowsAt r wd (n + 1) = (deedsL wd p.1).foldl (visit r p) (rowsAt r wd n) := by rw [rowsAt, turnAt, hp']
          rw [e3]
          omega
end
end Pg


set_option maxRecDepth 100000
set_option maxHeartbeats 4000000
namespace G
open PySem PySem.Spec PyProof.Rows L2
section
variable {X : Cx} {env : En} {tg iter kx vx cnd : Expr} {scope : Scope} {own : List (Str × Nat)} {pos p2 : Pos} {α : Type}
theorem KdAt.len {K : PySem.W.Frag} {F : Hp} {us : List (Key × V)} {kvs : Kd} (h : KdAt K F us kvs) : us.length = kvs.length := Paired.length h
/-- {k: v for .. in .. if ..}, the keys texts -/
theorem vo_dc (xs : List α) (f : α → PyData) (p : α → Bool) (key : α → Str) (val : α → PyData) {js : List Nat} {bnd : α → En} (hN : X.N.Nodup) (hi : VI X tg iter env (xs.map f))
    (hb : ∀ x, x ∈ xs → Blk X scope fun X' => GC X' tg (f x) (wipE env (own.map (·.2))) js (bnd x)) (ht : ∀ x, x ∈ xs → Blk X scope fun X' => TC X' cnd (bnd x) (p x))
    (hk : ∀ x, x ∈ xs → p x = true → Blk X scope fun X' => VC X' kx (bnd x) (.dat (.str (key x)))) (hv : ∀ x, x ∈ xs → p x = true → Blk X scope fun X' => VC X' vx (bnd x) (.dat (val x))) (hz : xs.length ≤ 1000)
    (ok : BlkOk X.N X.env.scope scope own := by exact blkOk_by (by rfl)) (hj : ∀ j ∈ js, j ∈ own.map (·.2) := by decide) (hc : X.calm = true := by rfl)
    (hs : ∀ x, foldedSetIterable iter X.env x = pure x := by intro _; rfl) :
    VO X (.DictComp kx vx [⟨tg, iter, [cnd], 0⟩] scope pos) env (odk X.K ((xs.filter p).foldl (fun acc x => putS acc (key x) (val x)) [])) := fun F H σ S s Q k => by
  refine ⟨_, pe_dc (own := own) hc hN (⟨fun pins s σ H R I ⟨t, h, q⟩ => h.run pins s σ H R I q⟩ : PI X tg iter (wI X tg iter)) ok pbG pbT pbE pbE hs, ?_⟩
  refine hi F H σ S s _ fun J F1 H1 g1 y D hD => ?_
  have s1 := s.grow g1
  obtain ⟨Sw, sw, tw⟩ := s1.wipe (own.map (·.2))
  have hl : (xs.map f).length = xs.length := List.length_map ..
  let Pv : Nat → Hp → Prop := fun i H' => ∃ F' kvs, H' D = some (.dK kvs) ∧ kvs.length ≤ i ∧ KdAt X.K F' kvs (((xs.take i).filter p).foldl (fun acc x => putS acc (key x) (val x)) []) ∧ F' D = none ∧ Grow F1 H1 F' H'
  refine ⟨fun i m H' => m = xs.length - i ∧ i ≤ xs.length ∧ Pv i H', ⟨xs.length, rfl, Nat.zero_le _, F1, [], upd_same, Nat.le_refl _, .nil, g1.sub.free hD, Grow.made g1.sub hD⟩, ?_⟩
  rintro i m H' ⟨rfl, hi', F', kvs, hkv, hlen, hks, nF, g2⟩
  by_cases hlt : i < xs.length
  · refine .inr ⟨y.go i F' H' (by omega) g2.f g2.sub, Pv (i + 1), fun H'' p' => ⟨xs.length - (i + 1), by omega, rfl, hlt, p'⟩, fun x H'' hy => ?_⟩
    obtain ⟨d, F2, hd, g3, hx⟩ := y.yld i F' H' x H'' (by omega) g2.f g2.sub hy
    have hxi : xs[i]? = some xs[i] := List.getElem?_eq_getElem hlt
    have hmem : xs[i] ∈ xs := List.getElem_mem hlt
    have htk : xs.take (i + 1) = xs.take i ++ [xs[i]] := by rw [List.take_succ, hxi] <;> rfl
    have hd' : d = f xs[i] := by
      rw [List.getElem?_map, hxi] at hd
      exact (Option.some.inj hd).symm
    subst hd'
    have s2 : Sit X.K F2 H'' (L2.wipe σ (own.map (·.2))) Sw (wipE env (own.map (·.2))) := sw.grow (g2.trans g3)
    intro sS sH sC scl sfp
    refine hb _ hmem sS sH sC scl sfp F2 H'' _ Sw x s2 hx _ fun σ2 S2 s3 t2 o2 => ⟨wipe_of o2 hj, ?_⟩
    intro sS sH sC scl sfp
    refine ts_one (ht _ hmem sS sH sC scl sfp) F2 H'' σ2 S2 s3 _ fun F3 H3 g4 => ?_
    have nD : ∀ {Fa Ha Fb Hb : Hp}, Fa D = none → Ha D = some (.dK kvs) → Grow Fa Ha Fb Hb → Fb D = none := fun {Fa Ha Fb Hb} h1 h2 g => by
      cases q : Fb D with
      | none => rfl
      | some o =>
        rcases g.new D o q with z | z
        · rw [h1] at z; cases z
        · rw [h2] at z; cases z
    have q2 := g3.h _ _ hkv
    have q3 := g4.h _ _ q2
    have n3 : F3 D = none := nD (nD nF hkv g3) q2 g4
    cases hp : p xs[i] with
    | false =>
      rw [if_neg Bool.false_ne_true]
      refine ⟨F3, kvs, q3, by omega, ?_, n3, (g2.trans g3).trans g4⟩
      rw [htk, List.filter_append]
      have e : [xs[i]].filter p = [] := by rw [List.filter_cons, hp] <;> rfl
      rw [e, List.append_nil]
      exact hks.mono (g3.f.trans g4.f)
    | true =>
      rw [if_pos rfl]
      intro sS sH sC scl sfp
      refine hk _ hmem hp sS sH sC scl sfp F3 H3 σ2 S2 (s3.grow g4) _ fun kv F4 H4 _ g5 hkv' _ => ?_
      intro sS sH sC scl sfp
      refine hv _ hmem hp sS sH sC scl sfp F4 H4 σ2 S2 ((s3.grow g4).grow g5) _ fun vv F5 H5 _ g6 hvv _ => ?_
      cases hkv'.1
      have q4 := g5.h _ _ q3
      have q5 := g6.h _ _ q4
      have n5 : F5 D = none := nD (nD n3 q3 g5) q4 g6
      have gg := (((g2.trans g3).trans g4).trans g5).trans g6
      refine ⟨kvs, Sum.inr (key xs[i]), rfl, q5, by rw [sizeLine_eq]; omega, F5, _, upd_same, Nat.le_trans (length_putK _ _ _) (by omega), ?_, n5, ?_⟩
      · rw [htk, List.filter_append]
        have e : [xs[i]].filter p = [xs[i]] := by rw [List.filter_cons, hp] <;> rfl
        rw [e, List.foldl_append]
        exact kd_put (hks.mono (((g3.f.trans g4.f).trans g5.f).trans g6.f)) hvv.1
      · exact ⟨gg.f, fun b o e => by rw [upd_ne (ne_of_none e hD)]; exact gg.h b o e, fun b o e => by rw [upd_ne (ne_of_none e n5)]; exact gg.sub b o e, gg.new⟩
  · have e : i = xs.length := by omega
    subst e
    refine .inl ⟨by have z := y.stop F' H' g2.f g2.sub; rw [hl] at z; exact z, ?_⟩
    rw [List.take_length] at hks
    exact k (.ref D) F' H' (fun b => b = D) (g1.trans g2) ⟨rfl, ⟨D, kvs, rfl, hkv, hks, fun _ => Iff.rfl⟩, fun b z => by subst z; exact ⟨nF, _, hkv⟩⟩ fun b z => by subst z; exact g1.h.free hD
end
end G


set_option maxRecDepth 100000
set_option maxHeartbeats 4000000
namespace M
open PySem G Pg L2
def addF (h : List Deed) (kvs : Kd) (x : Str) : Kd := if (getS kvs x).isSome = true then kvs else putS kvs x (.list (dsD h))
def addFs (r : Rl) (p : Row) (kvs : Kd) (d : Deed) : Kd := (faultsOf r p.1 d).foldl (addF (p.2 ++ [d])) kvs
def addRow (r : Rl) (w : Wd) (kvs : Kd) (p : Row) : Kd := (deedsL w p.1).foldl (addFs r p) kvs
noncomputable def leastL (r : Rl) (w : Wd) : Kd := (rowsF r w).foldl (addRow r w) []
def FdOk (kvs : Kd) : Prop := (kvs.map (·.1)).Nodup ∧ ∀ x ∈ kvs, x.1 ∈ faultsL
theorem FdOk.len {kvs : Kd} (h : FdOk kvs) : kvs.length ≤ 8 := by
  have := nodup_len (u := faultsL) h.1 fun x hx => by
    obtain ⟨p, hp, rfl⟩ := List.mem_map.mp hx
    exact h.2 p hp
  rw [List.length_map] at this
  exact this
theorem getS_none {kvs : Kd} {x : Str} (h : (getS kvs x).isSome = false) : x ∉ kvs.map (·.1) := fun hm => by
  obtain ⟨p, hp, e⟩ := List.mem_map.mp hm
  unfold getS at h
  rw [Option.isSome_map] at h
  have := List.find?_eq_none.mp (Option.not_isSome_iff_eq_none.mp (by rw [h]; decide)) p hp
  simp [e] at this
theorem putS_new {kvs : Kd} {x : Str} {d : PyData} (h : (getS kvs x).isSome = false) : putS kvs x d = kvs ++ [(x, d)] := by
  have hn := getS_none h
  unfold putS
  rw [if_neg]
  intro z
  obtain ⟨p, hp, e⟩ := List.any_eq_true.mp z
  exact hn (List.mem_map.mpr ⟨p, hp, of_decide_eq_true e⟩)
theorem fdOk_add {h : List Deed} {kvs : Kd} {x : Str} (ok : FdOk kvs) (hx : x ∈ faultsL) : FdOk (addF h kvs x) := by
  unfold addF
  split
  · exact ok
  · rename_i hs
    have hs' : (getS kvs x).isSome = false := by simpa using hs
    rw [putS_new hs']
    refine ⟨?_, fun y hy => ?_⟩
    · rw [List.map_append, List.nodup_append]
      refine ⟨ok.1, by simp, fun a ha b hb e => ?_⟩
      simp at hb
      rw [hb] at e
      exact getS_none hs' (e ▸ ha)
    · rcases List.mem_append.mp hy with z | z
      · exact ok.2 y z
      · rw [List.mem_singleton.mp z]; exact hx
theorem fdOk_fold {α : Type} {f : Kd → α → Kd} (hf : ∀ kvs a, FdOk kvs → FdOk (f kvs a)) : ∀ (xs : List α) {kvs : Kd}, FdOk kvs → FdOk (xs.foldl f kvs)
  | [], _, h => h
  | x :: xs, _, h => fdOk_fold hf xs (hf _ _ h)
theorem fdOk_adds {h : List Deed} : ∀ (xs : List Str) (kvs : Kd), FdOk kvs → (∀ x ∈ xs, x ∈ faultsL) → FdOk (xs.foldl (addF h) kvs)
  | [], _, ok, _ => ok
  | x :: xs, kvs, ok, hx => fdOk_adds xs (addF h kvs x) (fdOk_add ok (hx x (List.mem_cons_self))) fun y hy => hx y (List.mem_cons_of_mem _ hy)
theorem faultsOf_sub {r : Rl} {s : Std} {d : Deed} : ∀ x ∈ faultsOf r s d, x ∈ faultsL := fun x hx => (List.mem_filter.mp hx).1
theorem fdOk_addFs {r : Rl} {p : Row} (kvs : Kd) (d : Deed) (ok : FdOk kvs) : FdOk (addFs r p kvs d) := fdOk_adds _ _ ok faultsOf_sub
theorem fdOk_addRow {r : Rl} {w : Wd} (kvs : Kd) (p : Row) (ok : FdOk kvs) : FdOk (addRow r w kvs p) := fdOk_fold fdOk_addFs _ ok
theorem fdOk_nil : FdOk [] := ⟨by simp, fun _ h => by cases h⟩
theorem leastL_ok (r : Rl) (w : Wd) : FdOk (leastL r w) := fdOk_fold fdOk_addRow _ fdOk_nil
noncomputable def canL (r : Rl) (w : Wd) : Kd := (faultsL.filter fun x => (getS (leastL r w) x).isSome).foldl (fun acc x => putS acc x ((getS (leastL r w) x).getD .none)) []
noncomputable def neverL (r : Rl) (w : Wd) : List Str := faultsL.filter fun x => !(getS (leastL r w) x).isSome
theorem inw_okN {w : Wd} {s : Std} (wo : w.Ok) (h : InW w s) : s.OkN 3 := ⟨fun o ho => wo.s _ (h.ky o ho), fun t ht => (h.th t ht).1, Nat.le_trans h.os wo.o.2, Nat.le_trans (Nat.le_trans h.ts wo.t) (by decide)⟩
theorem wok_small {w : Wd} (wo : w.Ok) : SmallW w := by rcases wo.k with ⟨a, e⟩ | ⟨a, b, e, _⟩ <;> (unfold SmallW; rw [e]; simp)
theorem kvs_data (rows : List Row) : (kvsOf rows).map (fun y => y.1.data) = rows.map fun p => p.1.d := by
  unfold kvsOf
  rw [List.map_map]
  exact List.map_congr_left fun p _ => Std.k_data p.1
end M
namespace Pg
open PySem L2 G M
section
variable {P : Program} {w : World} {K : PySem.W.Frag} {mg : Str → Option Value} {base : Heap} {C CW : Addr}
def sp_least (K : PySem.W.Frag) (C : Addr) : Spec := fun cs R _ => ∃ (r : Rl) (wd : Wd), cs = [rl K C r, .dat wd.d] ∧ wd.Ok ∧ ∀ v, R (.own v (odk K (leastL r wd))) cs
theorem fn_least_faults (B : Bi mg) (D : Df K mg "least_faults" s_least_faults p_least_faults) (FW : Fn P w K mg base "walked" 5 (sp_walked P w K C)) (FA : Fn P w K mg base "all_deeds" 1 (sp_all_deeds K)) (FF : Fn P w K mg base "faults_of" 5 (sp_faults_of K C)) : Fn P w K mg base "least_faults" 6 (sp_least K C) := by
  have nd := sc_least_faults.nd
  refine fnG D sc_least_faults (fun cs R RX h => ?_) (fun f cdv A outer s H E X eX hr tk hp cs R RX h => ?_)
  · obtain ⟨_, _, rfl, _⟩ := h
    rfl
  · subst eX
    obtain ⟨r, wd, rfl, wo, k⟩ := h
    have hr1 := hr.mono (show 1 ≤ 5 by decide)
    have ok := rowsF_ok wo r
    refine wb_cons (ws_set 2 (VO.eff (vo_call FW hr (ac_pin (vc_pin 0) (ac_cons (vc_dat 1) ac_nil)) ⟨r, wd, rfl, wo, fun v => ⟨v, rfl⟩⟩) fun v1 => ?_) nd)
    refine wb_pin 2 rfl ?_
    refine wb_cons (ws_set 3 (VO.eff vo_dnew fun v2 => ?_) nd)
    refine wb_at (env' := [some (rl K C r), some (.dat wd.d), some (.pin (pdn P w K (kvsOf (rowsF r wd)))), some (.own v2 (odk K [])), none, none, none]) rfl ?_
    refine wb_cons (ws_for hp rfl (vi_eq (kvs_data (rowsF r wd)) (vi_keysN 2)) (fun i env => ∃ a b c, env = [some (rl K C r), some (.dat wd.d), some (.pin (pdn P w K (kvsOf (rowsF r wd)))), some (.own v2 (odk K (((rowsF r wd).take i).foldl (addRow r wd) []))), a, b, c])
      ⟨none, none, none, rfl⟩ ?turn ?fin)
    case fin =>
      rintro env1 ⟨a, b, c, rfl⟩
      rw [List.length_map, List.take_length]
      refine wb_cons (ws_ret (ec_name_own 3 rfl ⟨_, .pin (.dat .nil), ?_⟩))
      exact k v2
    case turn =>
      rintro i d hd env1 ⟨a, b, c, rfl⟩
      obtain ⟨p, hp', rfl⟩ := of_map hd
      have hpm := List.mem_of_getElem? hp'
      have inw := ok.inw p hpm
      have okN := inw_okN wo inw
      have okp : p.1.Ok := okN.ok (by omega)
      have tf := take_fold (addRow r wd) (b := []) hp'
      have fd0 : FdOk (((rowsF r wd).take i).foldl (addRow r wd) []) := fdOk_fold fdOk_addRow _ fdOk_nil
      generalize hg : ((rowsF r wd).take i).foldl (addRow r wd) [] = kvs0 at tf fd0 ⊢
      refine ⟨_, _, gc_name 4 nd, ?_⟩
      refine wb_at (env' := [some (rl K C r), some (.dat wd.d), some (.pin (pdn P w K (kvsOf (rowsF r wd)))), some (.own v2 (odk K kvs0)), some (.dat p.1.d), b, c]) rfl ?_
      refine wb_cons (ws_for hp rfl (vi_list (VO.dat (vo_call FA hr1 (ac_cons (vc_dat 1) (ac_cons (vc_dat 4) ac_nil)) ⟨wd, p.1, rfl, okp, wok_small wo, fun v => ⟨v, rfl⟩⟩)))
        (fun i env => ∃ b c, env = [some (rl K C r), some (.dat wd.d), some (.pin (pdn P w K (kvsOf (rowsF r wd)))), some (.own v2 (odk K (((deedsL wd p.1).take i).foldl (addFs r p) kvs0))), some (.dat p.1.d), b, c])
        ⟨b, c, rfl⟩ ?turn2 ?fin2)
      case fin2 =>
        rintro env1 ⟨b, c, rfl⟩
        refine wb_nil ⟨some (.dat p.1.d), b, c, ?_⟩
        rw [tf, List.length_map, List.take_length]
        rfl
      case turn2 =>
        rintro j d hd env1 ⟨b, c, rfl⟩
        obtain ⟨q, hq, rfl⟩ := of_map hd
        have hqk := deedsL_key wo.s (s := p.1) q (List.mem_of_getElem? hq)
        have tf2 := take_fold (addFs r p) (b := kvs0) hq
        have fd1 : FdOk (((deedsL wd p.1).take j).foldl (addFs r p) kvs0) := fdOk_fold fdOk_addFs _ fd0
        generalize hg2 : ((deedsL wd p.1).take j).foldl (addFs r p) kvs0 = kvs1 at tf2 fd1 ⊢
        refine ⟨_, _, gc_name 5 nd, ?_⟩
        refine wb_at (env' := [some (rl K C r), some (.dat wd.d), some (.pin (pdn P w K (kvsOf (rowsF r wd)))), some (.own v2 (odk K kvs1)), some (.dat p.1.d), some (.dat q.d), c]) rfl ?_
        refine wb_cons (ws_for hp rfl (vi_list (VO.dat (vo_call FF hr (ac_pin (vc_pin 0) (ac_cons (vc_dat 4) (ac_cons (vc_dat 5) ac_nil))) ⟨r, p.1, q, 3, rfl, okN, by omega, hqk, fun v => ⟨v, rfl⟩⟩)))
          (fun i env => ∃ c, env = [some (rl K C r), some (.dat wd.d), some (.pin (pdn P w K (kvsOf (rowsF r wd)))), some (.own v2 (odk K (((faultsOf r p.1 q).take i).foldl (addF (p.2 ++ [q])) kvs1))), some (.dat p.1.d), some (.dat q.d), c])
          ⟨c, rfl⟩ ?turn3 ?fin3)
        case fin3 =>
          rintro env1 ⟨c, rfl⟩
          refine wb_nil ⟨some (.dat q.d), c, ?_⟩
          rw [tf2, List.length_map, List.take_length]
          rfl
        case turn3 =>
          rintro m d hd env1 ⟨c, rfl⟩
          obtain ⟨x, hx, rfl⟩ := of_map hd
          have tf3 := take_fold (addF (p.2 ++ [q])) (b := kvs1) hx
          have fd2 : FdOk (((faultsOf r p.1 q).take m).foldl (addF (p.2 ++ [q])) kvs1) := fdOk_adds _ _ fd1 fun y hy => faultsOf_sub y (List.mem_of_mem_take hy)
          generalize hg3 : ((faultsOf r p.1 q).take m).foldl (addF (p.2 ++ [q])) kvs1 = kvs2 at tf3 fd2 ⊢
          have hl2 := fd2.len
          refine ⟨_, _, gc_name 6 nd, ?_⟩
          refine wb_at (env' := [some (rl K C r), some (.dat wd.d), some (.pin (pdn P w K (kvsOf (rowsF r wd)))), some (.own v2 (odk K kvs2)), some (.dat p.1.d), some (.dat q.d), some (.dat (.str x))]) rfl ?_
          cases hs : (getS kvs2 x).isSome with
          | true =>
            refine wb_cons (ws_skip (tis ?_ (tc_dnotin 3 hr (vc_dat 6))) ?_)
            · rw [hs]; rfl
            · refine wb_nil ⟨some (.dat (.str x)), ?_⟩
              rw [tf3, addF, if_pos hs]
          | false =>
            refine wb_cons (ws_take (tis ?_ (tc_dnotin 3 hr (vc_dat 6))) ?_)
            · rw [hs]; rfl
            · have hl := ok.hl i p hp'
              have hi := (List.getElem?_eq_some_iff.mp hp').1
              have hcap := ok.len wo
              have hc2 : capN < 16777216 := by decide
              refine wb_cons (ws_dput 3 hr (.pure (VO.dat (vo_list (ds := dsD (p.2 ++ [q])) B.list (vis ?eq (vc_op op_catA (od_catT (ds := dsD p.2) (es := [q.d]) (by unfold dsD; rw [List.length_map, List.length_singleton]; omega)) (vc_nget (k := p.1.k) (d := .tuple (dsD p.2)) 2 hr (vck (vc_dat 4)) (Std.k_tp _) (Std.k_depth _) (kvs_get ok.nd hp') has_pin) (vc_tup (dc_cons (vc_dat 5) dc_nil)))) (.inr rfl))) ⟨_, rfl, kvs2, rfl, vc_dat 6, by omega, ?put⟩))
              case eq => rw [← cat_dsD]; rfl
              case put =>
                refine wb_nil (wb_nil ⟨some (.dat (.str x)), ?_⟩)
                rw [tf3, addF, if_neg (by rw [hs]; decide)]
                rfl
def sp_can (K : PySem.W.Frag) (C : Addr) : Spec := fun cs R _ => ∃ (r : Rl) (wd : Wd), cs = [rl K C r, .dat wd.d] ∧ wd.Ok ∧ ∀ v, R (.own v (odk K (canL r wd))) cs
theorem getS_eq {kvs : Kd} {x : Str} (h : (getS kvs x).isSome = true) : getS kvs x = some ((getS kvs x).getD .none) := by
  cases e : getS kvs x with
  | none => rw [e] at h; cases h
  | some d => rfl
theorem fn_can (D : Df K mg "can" s_can p_can) (GF : GlobD K mg "FAULTS" faultsD) (FW : Fn P w K mg base "check_world" 3 (sp_check_world CW)) (FL : Fn P w K mg base "least_faults" 6 (sp_least K C)) : Fn P w K mg base "can" 7 (sp_can K C) := by
  have nd := sc_can.nd
  obtain ⟨vf, uf, mf, rf, df⟩ := GF
  refine fnG D sc_can (fun cs R RX h => ?_) (fun f cdv A outer s H E X eX hr tk hp cs R RX h => ?_)
  · obtain ⟨_, _, rfl, _⟩ := h
    rfl
  · subst eX
    obtain ⟨r, wd, rfl, wo, k⟩ := h
    have hr3 := hr.mono (show 3 ≤ 6 by decide)
    refine wb_cons (ws_expr (ec_call FW hr3 tk (ea_dat (vc_dat 1) (ea_nil ⟨trivial, by simp [slotsA], wd.d, rfl, wo.sh, fun _ => ?_, fun h => by rw [wo.isW] at h; cases h⟩))))
    refine wb_cons (ws_set 2 (VO.eff (vo_call FL hr (ac_pin (vc_pin 0) (ac_cons (vc_dat 1) ac_nil)) ⟨r, wd, rfl, wo, fun v => ⟨v, rfl⟩⟩) fun v1 => ?_) nd)
    refine wb_at (env' := [some (rl K C r), some (.dat wd.d), some (.own v1 (odk K (leastL r wd))), none]) rfl ?_
    exact wb_cons (ws_ret (VO.eff (vo_dc (own := [("fault", 3)]) faultsL .str (fun x => (getS (leastL r wd) x).isSome) id (fun x => (getS (leastL r wd) x).getD .none) nd (vi_tup (vc_glob mf rf df)) (fun x hx _ _ _ _ _ => gc_name 3 nd)
      (fun x hx _ _ _ _ _ => tc_din 2 (by exact hr) (vc_dat 3)) (fun x hx hp _ _ _ _ _ => vc_dat 3) (fun x hx hp _ _ _ _ _ => vc_dget 2 (by exact hr) (vc_dat 3) (getS_eq hp)) (by decide)) fun v => ⟨_, .pin (.dat .nil), k v⟩))
def sp_never (K : PySem.W.Frag) (C : Addr) : Spec := fun cs R _ => ∃ (r : Rl) (wd : Wd), cs = [rl K C r, .dat wd.d] ∧ wd.Ok ∧ ∀ v, R (.own v (olst K ((neverL r wd).map .str))) cs
def sp_many (K : PySem.W.Frag) (C : Addr) : Spec := fun cs R _ => ∃ (r : Rl) (wd : Wd), cs = [rl K C r, .dat wd.d] ∧ wd.Ok ∧ R (.dat (.int (((rowsF r wd).length : Nat) : Int))) cs
end
end Pg


set_option maxRecDepth 100000
set_option maxHeartbeats 4000000
namespace G
open PySem PySem.Spec PyProof.Rows L2
section
variable {X : Cx} {W : WX} {env : En} {D : DE} {e ix : Expr} {es : List Expr} {pos : Pos} {d : PyData} {ds : List PyData} {j : Int}
/-- an item of a list of one's own that holds known data -/
theorem vc_oix (i : Nat) {v : V} (hix : VC X ix env (.dat (.int j))) (hj : atI ds j = some d) (h : env[i]? = some (some (.own v (olst X.K ds))) := by rfl) {x : Str} {p1 : Pos} (hN : X.N[i]? = some x := by rfl)
    (hv : Vis X.env.scope x := by first | exact Or.inl rfl | exact Or.inr (Or.inl rfl) | exact Or.inr (Or.inr rfl)) (hd : (x == ("__debug__" : Str)) = false := by decide) (hcd : (x == ("__classdict__" : Str)) = false := by decide)
    (hs : PlainIx ix := by exact fun _ _ => rfl) : VC X (.Subscript (.Name x p1) ix pos) env (.dat d) := fun F H σ S s Q k => by
  obtain ⟨v', e1, ev, _⟩ := s.slot i _ h
  have ev : v' = v := ev
  subst ev
  refine ⟨_, pe_ix ix_list (pe_var hN hv hd hcd) pwE hs, v', e1, hix F H σ S s _ fun u F1 H1 _ g1 hu _ => ?_⟩
  have q1 := hu.1
  cases q1
  have s1 := s.grow g1
  obtain ⟨v'', e2, ev2, ⟨a, xs, ea, h2, h3, h4⟩, _⟩ := s1.slot i _ h
  have ev2 : v'' = v' := ev2
  subst ev2
  subst ea
  obtain ⟨w, hw, hd'⟩ := atI_dps h3 hj
  exact ⟨a, xs, j, w, rfl, rfl, SqL.of h2, hw, k w F1 H1 (fun _ => False) g1 ⟨hd', fun _ z => z⟩ fun _ z => z.elim⟩
/-- what is made there is known from now on -/
theorem ec_frz {Q : Ct → En → Prop} {RX : Xc → En → Prop} (h : EC X W e (fun c env1 => ∃ v R d, c = .own v R ∧ Frz X.K R d ∧ Q (.dat d) env1) RX env) : EC X W e Q RX env := fun F H σ S s QV kq kx =>
  h F H σ S s QV (fun v F' H' S' Sv c env' p s' hv dj ⟨w, R, d, ec, f, q⟩ => by
    subst ec
    obtain ⟨ev, hA, hn⟩ := hv
    obtain ⟨F2, a1, a2, a3, a4⟩ := f.frz s'.sub hA (fun a z => (hn a z).1)
    have s2 : Sit X.K F2 H' σ S' env' := ⟨a2, fun j c e => by
      obtain ⟨w, w1, w2⟩ := s'.slot j c e
      refine ⟨w, w1, w2.keep a1 (fun _ _ => rfl) fun a z => ?_⟩
      cases q : F2 a with
      | none => rfl
      | some u =>
        rcases a3 a u q with y | y
        · rw [(w2.no z).1] at y; cases y
        · exact absurd y (dj j a z), s'.dis, s'.len, s'.emp⟩
    refine kq v F2 H' S' (fun _ => False) (.dat d) env' ⟨p.f.trans a1, p.keep, fun a o e => ?_, fun a z => p.s a (z.elim .inl False.elim)⟩ s2 ⟨a4, fun _ z => z⟩ (fun _ _ _ z => z) q
    rcases a3 a o e with y | y
    · exact p.new a o y
    · rcases p.s a (.inr y) with z | z
      · exact .inr (.inr z)
      · exact .inr (.inl z)) kx
/-- a list display, all of its items data -/
theorem ec_lst {Q : Ct → En → Prop} {RX : Xc → En → Prop} (h : EA X W es (fun as env' => ∃ ds, as = ds.map (fun d => .c (.dat d)) ∧ ds.length ≤ 1000 ∧ ∀ v, Q (.own v (olst X.K ds)) env') RX env) : EC X W (.List es pos) Q RX env := fun F H σ S s QV kq kx => by
  have key : ∀ {F : Hp} {ds : List PyData} {vs : List V}, HoldA X.K F vs (ds.map fun d => .c (.dat d)) → DpAll X.K F vs ds := by
    intro F ds
    induction ds with
    | nil => intro vs h; cases h; exact .nil
    | cons d ds ih => intro vs h; cases h with | dat h1 h2 => exact .cons h1 (ih h2)
  refine ⟨_, pe_lst pwA, h F H σ S s _ (fun vs F1 H1 S1 as env1 p1 s1 hA ⟨ds, ea, hl, q⟩ => ?_) kx⟩
  subst ea
  have hd := key hA
  have ln := dps_length hd
  refine ⟨by rw [ln]; exact Nat.le_of_lt (small1000 hl), fun pp hp => ?_⟩
  have g2 := Grow.made (F := F1) (o := .lst vs) s1.sub hp
  have p3 := p1.trans g2.prog
  exact kq (.ref pp) _ _ S1 _ (.own (.ref pp) (olst X.K ds)) env1 ⟨p3.f, p3.keep, p3.new, fun a z => z.elim (p3.s a) fun y => by subst y; exact (p1.none hp).symm⟩ (s1.grow g2) (olst_new s1.sub hp hd) (fun i a z y => by subst y; obtain ⟨_, o, ho⟩ := s1.no z; rw [hp] at ho; cases ho) (q _)
end
end G
namespace M
open PySem G Pg L2
def rwD (p : Row) : PyData := .list [p.1.l, .list (dsD p.2)]
def rwsD (rows : List Row) : List PyData := rows.map rwD
theorem rwsD_app (rows : List Row) (p : Row) : rwsD (rows ++ [p]) = rwsD rows ++ [rwD p] := List.map_append ..
theorem rwsD_get {rows : List Row} {n : Nat} {p : Row} (h : rows[n]? = some p) : atI (rwsD rows) (n : Int) = some (rwD p) := L2.atI_nat (by unfold rwsD; rw [List.getElem?_map, h]; rfl)
/-- the law's keys and True -/
def seenOf (rows : List Row) : Nkd := rows.map fun p => (p.1.k, .bool true)
theorem seen_app (rows : List Row) (s : Std) (h : List Deed) : seenOf (rows ++ [(s, h)]) = seenOf rows ++ [(s.k, .bool true)] := by simp [seenOf]
theorem seen_none {s : Std} : ∀ {rows : List Row}, s ∉ rows.map (·.1) → getN (seenOf rows) s.k = none
  | [], _ => rfl
  | p :: rows, h => by
    rw [List.map_cons, List.mem_cons, not_or] at h
    have e : ¬ p.1.k = s.k := fun z => h.1 (Std.k_inj z).symm
    have : getN (seenOf (p :: rows)) s.k = getN (seenOf rows) s.k := by simp [getN, seenOf, List.find?_cons, e]
    rw [this]
    exact seen_none h.2
theorem seen_some {s : Std} : ∀ {rows : List Row}, s ∈ rows.map (·.1) → (getN (seenOf rows) s.k).isSome = true
  | [], h => by simp at h
  | p :: rows, h => by
    by_cases e : p.1 = s
    · subst e
      simp [getN, seenOf]
    · have e2 : ¬ p.1.k = s.k := fun z => e (Std.k_inj z)
      have : getN (seenOf (p :: rows)) s.k = getN (seenOf rows) s.k := by simp [getN, seenOf, List.find?_cons, e2]
      rw [this]
      rw [List.map_cons, List.mem_cons] at h
      exact seen_some (h.resolve_left (fun z => e z.symm))
end M
namespace Pg
open PySem L2 G M
section
variable {P : Program} {w : World} {K : PySem.W.Frag} {mg : Str → Option Value} {base : Heap}
def sp_lwalk (K : PySem.W.Frag) : Spec := fun cs R _ => ∃ (r : Rl) (wd : Wd), cs = [.dat (rpD r), .dat wd.d] ∧ wd.Ok ∧ ∀ v, R (.own v (olst K (rwsD (rowsF r wd)))) cs
end
end Pg


set_option maxRecDepth 100000
set_option maxHeartbeats 4000000
/-! a dict with text keys, known from now on; _law_can, _law_world -/
namespace G
open PySem PySem.Spec PyProof.Rows L2
def pdk (K : PySem.W.Frag) (kvs : Kd) : Ps where
  At F v := ∃ a o us, v = .ref a ∧ F a = some (.frz o (.dK us)) ∧ KdAt K F us kvs
  mono := fun e ⟨a, o, us, h1, h2, h3⟩ => ⟨a, o, us, h1, e _ _ h2, h3.mono e⟩
section
variable {X : Cx} {W : WX} {env : En} {D : DE} {sts : List Stmt} {v : V} {kvs : Kd} {e ix tg : Expr} {pos p : Pos} {k : Str} {d : PyData} {k0 : Nat}
theorem pss_lock {ss : List Stmt} : PSs X ss (fun D σ H => ∃ a us, H a = some (.dK us) ∧ ∀ o, wB X ss D σ (upd H a (.frz o (.dK us)))) := ⟨fun pins s σ H D I ⟨a, us, h, k⟩ => by
  obtain ⟨od, I2⟩ := I.lock h trivial
  obtain ⟨t, hp, q⟩ := k od
  exact hp.run pins s σ _ D I2 q⟩
theorem wb_lock (i : Nat) (h : env[i]? = some (some (.own v (odk X.K kvs)))) (k : WB X W sts D (env.set i (some (.pin (pdk X.K kvs))))) : WB X W sts D env := fun F H σ S s E m => by
  obtain ⟨v', e1, ev, ⟨a, us, ea, h2, h3, h4⟩, hn⟩ := s.slot i _ h
  have ev : v' = v := ev
  subst ev
  subst ea
  have hi : i < env.length := (List.getElem?_eq_some_iff.mp h).1
  have ia : S i a := (h4 a).mpr rfl
  have nF : F a = none := (hn a ia).1
  refine ⟨_, pss_lock, a, us, h2, fun o => ?_⟩
  have a1 : Same F (upd F a (.frz o (.dK us))) := fun b u e => by rw [upd_ne (ne_of_none e nF)]; exact e
  have a2 : Same (upd F a (.frz o (.dK us))) (upd H a (.frz o (.dK us))) := fun b u e => by
    by_cases hb : b = a
    · subst hb
      rw [upd_same] at e ⊢
      exact e
    · rw [upd_ne hb] at e ⊢
      exact s.sub b u e
  have s' : Sit X.K (upd F a (.frz o (.dK us))) (upd H a (.frz o (.dK us))) σ (fun j => if j = i then fun _ => False else S j) (env.set i (some (.pin (pdk X.K kvs)))) := by
    refine ⟨a2, fun j c' e => ?_, fun j k a hj hk => ?_, by simp [s.len], fun j hj a z => ?_⟩
    · by_cases hji : j = i
      · subst hji
        rw [List.getElem?_set_self hi] at e
        cases e
        exact ⟨_, e1, ⟨a, o, us, rfl, upd_same, h3.mono a1⟩, by simp⟩
      · rw [List.getElem?_set_ne (Ne.symm hji)] at e
        obtain ⟨w, w1, w2⟩ := s.slot j c' e
        refine ⟨w, w1, ?_⟩
        simp only [hji, if_false]
        refine w2.keep a1 (fun b z => ?_) fun b z => ?_
        · rw [upd_ne (fun y => by subst y; exact hji (s.dis j i _ z ia))]
        · rw [upd_ne (fun y => by subst y; exact hji (s.dis j i _ z ia))]
          exact (w2.no z).1
    · by_cases hji : j = i
      · simp only [hji, if_true] at hj
      · by_cases hki : k = i
        · simp only [hki, if_true] at hk
        · simp only [hji, hki, if_false] at hj hk
          exact s.dis j k a hj hk
    · by_cases hji : j = i
      · simp only [hji, if_true] at z
      · simp only [hji, if_false] at z
        exact s.emp j (fun c' e => hj c' (by rw [List.getElem?_set_ne (Ne.symm hji)]; exact e)) a z
  refine k _ _ σ _ s' E (m.from ⟨a1, fun b u e nb => ?_, fun b u e => ?_, fun b z => ?_⟩)
  · rw [upd_ne (fun y => by subst y; exact nb ⟨i, ia⟩)]
    exact e
  · by_cases hb : b = a
    · subst hb; exact .inr (.inr ⟨i, ia⟩)
    · rw [upd_ne hb] at e; exact .inl e
  · obtain ⟨j, z⟩ := z
    by_cases hji : j = i
    · simp only [hji, if_true] at z
    · simp only [hji, if_false] at z
      exact .inl ⟨j, z⟩
theorem pin_dget {F H : Hp} {σ : St} {S : Foot} (s : Sit X.K F H σ S env) {i : Nat} (h : env[i]? = some (some (.pin (pdk X.K kvs)))) {v' : V} (e1 : σ[i]? = some (some v')) : ∃ a o us, v' = .ref a ∧ F a = some (.frz o (.dK us)) ∧ KdAt X.K F us kvs := by
  obtain ⟨v'', e2, ⟨a, o, us, ea, h3, h4⟩, _⟩ := s.slot i _ h
  rw [e1] at e2
  cases e2
  exact ⟨a, o, us, ea, h3, h4⟩
/-- d[k] -/
theorem vc_pget (i : Nat) (hr : Room k0 X.A) (hk : VC X ix env (.dat (.str k))) (hg : getS kvs k = some d) (h : env[i]? = some (some (.pin (pdk X.K kvs))) := by rfl) {x : Str} {p1 : Pos} (hN : X.N[i]? = some x := by rfl)
    (hv : Vis X.env.scope x := by first | exact Or.inl rfl | exact Or.inr (Or.inl rfl) | exact Or.inr (Or.inr rfl)) (hd : (x == ("__debug__" : Str)) = false := by decide) (hcd : (x == ("__classdict__" : Str)) = false := by decide)
    (hs : NoSl ix := by exact fun _ _ => rfl) : VC X (.Subscript (.Name x p1) ix pos) env (.dat d) := fun F H σ S s Q q => by
  obtain ⟨v', e1, _⟩ := s.slot i _ h
  refine ⟨_, pe_dget (L2.hu_of hr) (pe_var hN hv hd hcd) pwE hs, v', e1, hk F H σ S s _ fun u F1 H1 _ g1 h1 _ => ?_⟩
  have q1 := h1.1
  cases q1
  obtain ⟨a, o, us, ea, h3, h4⟩ := pin_dget (s.grow g1) h e1
  rcases kd_get (k := k) h4 with ⟨z, _⟩ | ⟨d', w, z, y, hw⟩
  · rw [z] at hg; cases hg
  · rw [z] at hg
    cases hg
    exact ⟨a, w, ea, .inl ⟨us, .inr k, .inr ⟨o, g1.sub _ _ h3⟩, rfl, y.symm⟩, q w F1 H1 (fun _ => False) g1 ⟨hw, fun _ z => z⟩ fun _ z => z.elim⟩
theorem kd_keys {K : PySem.W.Frag} {F : Hp} {us : List (Key × V)} {kvs : Kd} (h : KdAt K F us kvs) : us.map (fun kv => kV kv.1) = kvs.map fun y => V.str y.1 := by
  unfold KdAt at h
  induction h with
  | nil => rfl
  | cons h t ih => rw [List.map_cons, List.map_cons, ih, h.1]; rfl
theorem dp_strs {K : PySem.W.Frag} {F : Hp} : ∀ xs : List Str, DpAll K F (xs.map V.str) (xs.map PyData.str)
  | [] => .nil
  | x :: xs => .cons (.str x) (dp_strs xs)
/-- list(d) -/
theorem vo_pkeys (i : Nat) (hm : X.mg "list" = none) (h : env[i]? = some (some (.pin (pdk X.K kvs))) := by rfl) {x : Str} {p1 : Pos} (hN : X.N[i]? = some x := by rfl)
    (hv : Vis X.env.scope x := by first | exact Or.inl rfl | exact Or.inr (Or.inl rfl) | exact Or.inr (Or.inr rfl)) (hd : (x == ("__debug__" : Str)) = false := by decide) (hcd : (x == ("__classdict__" : Str)) = false := by decide)
    (hc : X.calm = true := by rfl) (hg : Gl X "list" := by rfl) (he : starEach [.Name x p1] X.env = (false, eval (.Name x p1) X.env) :: starEach [] X.env := by rfl) (hpl : (backTo pos (starEach [] X.env)).any (·.1) = false := by rfl) :
    VO X (.Call (.Name "list" p) [.Name x p1] [] pos) env (olst X.K ((kvs.map (·.1)).map .str)) := fun F H σ S s Q q => by
  obtain ⟨v', e1, _⟩ := s.slot i _ h
  obtain ⟨a, o, us, ea, h3, h4⟩ := pin_dget s h e1
  subst ea
  refine ⟨_, pe_callTy (call_listD hc) hg hm (by decide +kernel) (pa_cons (pe_var hN hv hd hcd) pa_nil he) (by decide) (by decide) he hpl, .ref a, e1, a, us, rfl, .inr ⟨o, s.sub _ _ h3⟩, fun pp hp => ?_⟩
  rw [kd_keys h4, show (kvs.map fun y => V.str y.1) = (kvs.map (·.1)).map V.str by rw [List.map_map]; rfl]
  exact q (.ref pp) F _ _ (Grow.made s.sub hp) (olst_new s.sub hp (dp_strs _)) fun b z => by subst z; exact hp
/-- for k in d -/
theorem vi_pkeys (i : Nat) (h : env[i]? = some (some (.pin (pdk X.K kvs))) := by rfl) {x : Str} {p1 : Pos} (hN : X.N[i]? = some x := by rfl)
    (hv : Vis X.env.scope x := by first | exact Or.inl rfl | exact Or.inr (Or.inl rfl) | exact Or.inr (Or.inr rfl)) (hd : (x == ("__debug__" : Str)) = false := by decide) (hcd : (x == ("__classdict__" : Str)) = false := by decide) :
    VI X tg (.Name x p1) env ((kvs.map (·.1)).map .str) := fun F H σ S s R k => by
  obtain ⟨v', e1, _⟩ := s.slot i _ h
  obtain ⟨a, o, us, ea, h3, h4⟩ := pin_dget s h e1
  subst ea
  have hl : us.length = kvs.length := Paired.length h4
  refine ⟨_, pi_keys (pe_var hN hv hd hcd), .ref a, e1, a, o, rfl, .inl ⟨us, s.sub _ _ h3, k _ F H (Grow.refl s.sub) ⟨fun i F' H' hi e e2 => ⟨e2 _ _ (e _ _ h3), by rw [List.length_map, List.length_map] at hi; omega⟩, fun i F' H' x H'' hi e e2 ⟨eh, kk, w, hy, ex⟩ => ?_, fun F' H' e e2 => ⟨e2 _ _ (e _ _ h3), by rw [List.length_map, List.length_map]; omega⟩⟩⟩⟩
  subst eh
  subst ex
  obtain ⟨y, hy2, h5, _⟩ := paired_get h4 hy
  have h5 : kk = .inr y.1 := h5
  subst h5
  exact ⟨.str y.1, F', by rw [List.getElem?_map, List.getElem?_map, hy2]; rfl, Grow.refl e2, .str _⟩
end
end G
namespace M
open PySem G Pg L2
def keysL2 : List (List Str) := [["a"], ["a", "b"]]
def sizesL : List (Nat × Nat) := [(1, 1), (2, 0), (2, 1), (1, 2), (2, 1), (1, 0)]
theorem lworld_ok {ks : List Str} (hk : ks ∈ keysL2) {z : Nat × Nat} (hz : z ∈ sizesL) : (⟨ks, z.1, z.2⟩ : Wd).Ok := by
  have hs : ∀ ks ∈ keysL2, ∀ x ∈ ks, PyData.strOk x = true := by decide +kernel
  have h2 : ∀ z ∈ sizesL, (1 ≤ z.1 ∧ z.1 ≤ 3) ∧ z.2 ≤ 2 := by decide
  refine ⟨?_, hs ks hk, (h2 z hz).1, (h2 z hz).2⟩
  simp only [keysL2, List.mem_cons, List.not_mem_nil, or_false] at hk
  rcases hk with e | e
  · exact .inl ⟨_, e⟩
  · exact .inr ⟨_, _, e, by decide +kernel⟩
/-- what the law's worlds are no larger than -/
def LwOk (w : Wd) : Prop := (w.no ≤ 2 ∧ w.nt ≤ 1) ∨ (w.no ≤ 1 ∧ w.nt ≤ 2)
theorem lworld_few (ks : List Str) {z : Nat × Nat} (hz : z ∈ sizesL) : LwOk ⟨ks, z.1, z.2⟩ := (show ∀ z ∈ sizesL, (z.1 ≤ 2 ∧ z.2 ≤ 1) ∨ (z.1 ≤ 1 ∧ z.2 ≤ 2) by decide) z hz
end M
namespace Pg
open PySem L2 G M
section
variable {P : Program} {w : World} {K : PySem.W.Frag} {mg : Str → Option Value} {base : Heap}
def sp_lworld (K : PySem.W.Frag) : G.Spec := fun cs R _ => ∃ (v : L2.V) (D : Dr), cs = [.own v (olst K D.ds)] ∧ ∀ (wd : Wd) (D' : Dr), wd.Ok → LwOk wd → R (.dat wd.d) [.own v (olst K D'.ds)]
def sp_lcan (K : PySem.W.Frag) : Spec := fun cs R _ => ∃ (r : Rl) (wd : Wd), cs = [.dat (rpD r), .dat wd.d] ∧ wd.Ok ∧ ∀ v, R (.own v (odk K (leastL r wd))) cs
end
end Pg


set_option maxRecDepth 100000
set_option maxHeartbeats 4000000
/-! equality of standings and deeds; both_ways, order, _law_both -/
namespace G
open PySem PySem.Spec PyProof.Rows L2
mutual
theorem eqv_key : ∀ k k' : NestedKey, PyData.eqv k.data k'.data = NestedKey.beq k k'
  | .none, .none => rfl
  | .num a, .num b => by
    simp only [NestedKey.data, PyData.eqv, NestedKey.beq]
    rw [Bool.eq_iff_iff]
    simp
  | .text a, .text b => by
    simp only [NestedKey.data, NestedKey.beq]
    rw [eqv_str]
  | .tup a, .tup b => by
    simp only [NestedKey.data, PyData.eqv, NestedKey.beq]
    exact eqv_keys a b
  | .none, .num _ | .none, .text _ | .none, .tup _ => by simp [NestedKey.data, PyData.eqv, NestedKey.beq]
  | .num _, .none | .num _, .text _ | .num _, .tup _ => by simp [NestedKey.data, PyData.eqv, NestedKey.beq]
  | .text _, .none | .text _, .num _ | .text _, .tup _ => by simp [NestedKey.data, PyData.eqv, NestedKey.beq]
  | .tup _, .none | .tup _, .num _ | .tup _, .text _ => by simp [NestedKey.data, PyData.eqv, NestedKey.beq]
theorem eqv_keys : ∀ a b : List NestedKey, PyData.eqvAll (NestedKey.datas a) (NestedKey.datas b) = NestedKey.beqAll a b
  | [], [] => rfl
  | a :: as, b :: bs => by
    simp only [NestedKey.datas, PyData.eqvAll, NestedKey.beqAll]
    rw [eqv_key a b, eqv_keys as bs]
  | [], _ :: _ => by simp [NestedKey.datas, PyData.eqvAll, NestedKey.beqAll]
  | _ :: _, [] => by simp [NestedKey.datas, PyData.eqvAll, NestedKey.beqAll]
end
theorem eqv_nest (k k' : NestedKey) : PyData.eqv k.data k'.data = decide (k = k') := by rw [eqv_key, NestedKey.decide_eq]
section
variable {X : Cx} {W : WX} {env : En} {a b : Expr} {pos : Pos} {Q : Ct → En → Prop} {RX : Xc → En → Prop}
theorem hu65 {A : Around} {k : Nat} (hr : Room k A) : A.units + 65 < cLine := by have := hr.un; omega
/-- xs[i], xs with effects -/
theorem ec_ixLa (h : EC X W a (fun c1 env1 => ∃ (ds : List PyData) (i : Int) (d : PyData), c1 = .dat (.list ds) ∧ VC X b env1 (.dat (.int i)) ∧ atI ds i = some d ∧ Q (.dat d) env1) RX env) (hs : PlainIx b := by exact fun _ _ => rfl) : EC X W (.Subscript a b pos) Q RX env :=
  ec_two (a := a) (b := b) (t := wE X (.Subscript a b pos)) (fun z => ⟨_, pe_ix ix_list pwE pwE hs, z⟩) fun F H σ S s QV kq kx => h F H σ S s QV (fun v F' H' S' Sv c env' p s' hv dj ⟨ds, i, d, ec, hb, hd, q⟩ => kq v F' H' S' Sv c env' p s' hv dj ⟨_, ec, EC.pure hb ⟨.int i, d, rfl, od_ixL hd, q⟩⟩) kx
end
end G
namespace M
open PySem G Pg L2
def Deed.k : Deed → NestedKey
  | .own k => .tup [.text "own", .text k]
  | .put o => .tup [.text "put", .num (o : Int)]
  | .move t o => .tup [.text "move", .num (t : Int), .num (o : Int)]
  | .mark o => .tup [.text "mark", .num (o : Int)]
  | .take t => .tup [.text "take", .num (t : Int)]
  | .fetch o => .tup [.text "fetch", .num (o : Int)]
  | .raise t => .tup [.text "raise", .num (t : Int)]
  | .clear => .tup [.text "clear"]
theorem Deed.k_data (d : Deed) : d.k.data = d.d := by cases d <;> rfl
def Deed.num : Deed → Nat
  | .own _ => 0 | .put _ => 1 | .move _ _ => 2 | .mark _ => 3 | .take _ => 4 | .fetch _ => 5 | .raise _ => 6 | .clear => 7
def headK : NestedKey → NestedKey
  | .tup (k :: _) => k
  | k => k
theorem head_word (d : Deed) : headK d.k = .text ((["own", "put", "move", "mark", "take", "fetch", "raise", "clear"] : List Str).getD d.num "") := by cases d <;> rfl
theorem Deed.num_lt (d : Deed) : d.num < 8 := by cases d <;> simp [Deed.num]
theorem words_inj : ∀ i < 8, ∀ j < 8, (["own", "put", "move", "mark", "take", "fetch", "raise", "clear"] : List Str).getD i "" = (["own", "put", "move", "mark", "take", "fetch", "raise", "clear"] : List Str).getD j "" → i = j := by decide +kernel
theorem Deed.k_inj {a b : Deed} (h : a.k = b.k) : a = b := by
  have hn : a.num = b.num := by
    have := congrArg headK h
    rw [head_word, head_word] at this
    injection this with this
    exact words_inj _ a.num_lt _ b.num_lt this
  cases a <;> cases b <;> first | (simp [Deed.num] at hn; done) | rfl | skip
  all_goals
    simp only [Deed.k] at h
    injection h with h
    injection h with _ h
    injection h with h1 h2
    injection h1 with h1
  · rw [h1]
  · rw [Int.ofNat.inj h1]
  · injection h2 with h2 _
    injection h2 with h2
    rw [Int.ofNat.inj h1, Int.ofNat.inj h2]
  · rw [Int.ofNat.inj h1]
  · rw [Int.ofNat.inj h1]
  · rw [Int.ofNat.inj h1]
  · rw [Int.ofNat.inj h1]
theorem std_eqv (s t : Std) : PyData.eqv s.d t.d = decide (s = t) := by
  rw [← Std.k_data, ← Std.k_data, eqv_nest]
  exact decide_eq_decide.mpr ⟨Std.k_inj, fun e => by rw [e]⟩
theorem deed_eqv (s t : Deed) : PyData.eqv s.d t.d = decide (s = t) := by
  rw [← Deed.k_data, ← Deed.k_data, eqv_nest]
  exact decide_eq_decide.mpr ⟨Deed.k_inj, fun e => by rw [e]⟩
theorem word_eqv (a b : Bool) : PyData.eqv (.str (wordD a)) (.str (wordD b)) = decide (a = b) := by
  rw [eqv_str]
  cases a <;> cases b <;> decide +kernel
theorem deeds_any (a : Deed) (ds : List Deed) : ((dsD ds).any fun z => PyData.eqv z a.d) = decide (a ∈ ds) := by
  rw [List.any_map, Bool.eq_iff_iff, List.any_eq_true]
  simp only [Function.comp_def, deed_eqv, decide_eq_true_eq]
  exact ⟨fun ⟨x, h1, h2⟩ => h2 ▸ h1, fun h => ⟨a, h, rfl⟩⟩
/-- what the law may compare is small -/
theorem sh_okL : ∀ (n : Nat) (d : PyData), n < 64 → okL n d → SeqAt.shaped d = true ∧ d.depth ≤ n
  | n, .none, _, _ => ⟨rfl, by simp [PyData.depth]⟩
  | n, .bool b, _, _ => ⟨by cases b <;> rfl, by simp [PyData.depth]⟩
  | n, .int i, _, _ => ⟨shaped_int.1, Nat.le_trans shaped_int.2 (Nat.zero_le _)⟩
  | n, .str x, _, h => ⟨(shaped_str (by cases n <;> exact h)).1, Nat.le_trans (shaped_str (x := x) (by cases n <;> exact h)).2 (Nat.zero_le _)⟩
  | n + 1, .list ds, hn, h => shaped_lst (by omega) fun d hd => sh_okL n d (by omega) (h.2 d hd)
  | n + 1, .tuple ds, hn, h => shaped_tup (by omega) fun d hd => sh_okL n d (by omega) (h.2 d hd)
  | 0, .list ds, _, h => h.elim
  | 0, .tuple ds, _, h => h.elim
  | 0, .dict _, _, h => h.elim
  | n + 1, .dict _, _, h => h.elim
theorem std_sh {s : Std} (h : s.Ok) : SeqAt.shaped s.d = true := (sh_okL 3 _ (by decide) (okL_std (n := 0) h)).1
theorem deed_sh {d : Deed} (h : d.keyOk) : SeqAt.shaped d.d = true := (sh_okL 1 _ (by decide) (okL_deed (n := 0) h)).1
theorem deeds_sh {ds : List Deed} (hl : ds.length ≤ 1000000) (h : ∀ d ∈ ds, d.keyOk) : SeqAt.shaped (.list (dsD ds)) = true := (sh_okL 2 _ (by decide) (okL_deeds (n := 0) hl h)).1
theorem word_sh (b : Bool) : SeqAt.shaped (.str (wordD b)) = true := (shaped_str (wordD_ok b)).1
def bothL (r : Rl) (s : Std) (a b : Deed) : Bool :=
  decide ((step r s a).1 = (step r (step r s b).2 a).1) && (decide ((step r s b).1 = (step r (step r s a).2 b).1) && decide ((step r (step r s a).2 b).2 = (step r (step r s b).2 a).2))
def hitL (r : Rl) (w : Wd) (a b : Deed) (p : Row) : Bool := decide (a ∈ deedsL w p.1) && (decide (b ∈ deedsL w p.1) && !bothL r p.1 a b)
noncomputable def orderL (r : Rl) (w : Wd) (a b : Deed) : Option (List Deed) := ((rowsF r w).find? (hitL r w a b)).map (·.2)
theorem find_hit {α : Type} {f : α → Bool} : ∀ {xs : List α} {i : Nat} {x : α}, (∀ y ∈ xs.take i, f y = false) → xs[i]? = some x → f x = true → xs.find? f = some x
  | [], _, _, _, h, _ => by simp at h
  | y :: ys, 0, x, _, h, hf => by
    simp at h
    subst h
    simp [hf]
  | y :: ys, i + 1, x, hn, h, hf => by
    have hy : f y = false := hn y (by simp)
    rw [List.find?_cons, hy]
    exact find_hit (i := i) (fun z hz => hn z (by rw [List.take_succ_cons]; exact List.mem_cons_of_mem _ hz)) (by simpa using h) hf
theorem find_no {α : Type} {f : α → Bool} {xs : List α} (h : ∀ y ∈ xs, f y = false) : xs.find? f = none := List.find?_eq_none.mpr fun y hy z => by rw [h y hy] at z; cases z
theorem mem_take_succ {α : Type} {xs : List α} {i : Nat} {x y : α} (h : xs[i]? = some x) (hy : y ∈ xs.take (i + 1)) : y ∈ xs.take i ∨ y = x := by
  have hlt := (List.getElem?_eq_some_iff.mp h).1
  have e : xs[i] = x := by rw [List.getElem?_eq_getElem hlt] at h; exact Option.some.inj h
  rw [List.take_succ_eq_append_getElem hlt, e] at hy
  exact (List.mem_append.mp hy).imp id List.mem_singleton.mp
theorem deedsL_le {w : Wd} {s : Std} (wo : w.Ok) (h : InW w s) : (deedsL w s).length ≤ 1000000 := by
  have okN := inw_okN wo h
  have := (deedsL_len (okN.ok (by omega)) (wok_small wo) 3 okN.ol okN.tl (by rcases wo.k with ⟨a, e⟩ | ⟨a, b, e, _⟩ <;> rw [e] <;> simp)).2
  omega
end M
namespace Pg
open PySem L2 G M
section
variable {P : Program} {w : World} {K : PySem.W.Frag} {mg : Str → Option Value} {base : Heap} {C CW : Addr}
def sp_both (K : PySem.W.Frag) (C : Addr) : Spec := fun cs R _ => ∃ (r : Rl) (s : Std) (a b : Deed) (n : Nat), cs = [rl K C r, .dat s.d, .dat a.d, .dat b.d] ∧ s.OkN n ∧ n < 900 ∧ a.keyOk ∧ b.keyOk ∧ R (.dat (.bool (bothL r s a b))) cs
def sp_order (K : PySem.W.Frag) (C : Addr) : Spec := fun cs R _ => ∃ (r : Rl) (wd : Wd) (a b : Deed), cs = [rl K C r, .dat wd.d, .dat a.d, .dat b.d] ∧ wd.Ok ∧ a.keyOk ∧ b.keyOk ∧ (∀ h, orderL r wd a b = some h → ∀ v, R (.own v (olst K (dsD h))) cs) ∧ (orderL r wd a b = none → R (.dat .none) cs)
def sp_lboth (K : PySem.W.Frag) : Spec := fun cs R _ => ∃ (r : Rl) (s : Std) (a b : Deed) (n : Nat), cs = [.dat (rpD r), .dat s.l, .dat a.d, .dat b.d] ∧ s.OkN n ∧ n < 900 ∧ s.Tidy ∧ a.keyOk ∧ b.keyOk ∧ R (.dat (.bool (bothL r s a b))) cs
theorem words_eqv (a b c d : Bool) : PyData.eqv (.list [.str (wordD a), .str (wordD b)]) (.list [.str (wordD c), .str (wordD d)]) = (decide (a = c) && decide (b = d)) := by
  simp only [PyData.eqv, PyData.eqvAll, Bool.and_true]
  rw [show (wordD a == wordD c) = decide (a = c) from word_eqv a c, show (wordD b == wordD d) = decide (b = d) from word_eqv b d]
theorem words_sh (a b : Bool) : SeqAt.shaped (.list [.str (wordD a), .str (wordD b)]) = true := (sh_okL 1 _ (by decide) (okL_lst (n := 0) (ds := [.str (wordD a), .str (wordD b)]) (Nat.le_of_ble_eq_true rfl) (okL_mem2 (okL_str (wordD_ok a)) (okL_str (wordD_ok b))))).1
end
end Pg


set_option maxRecDepth 100000
set_option maxHeartbeats 4000000
/-! two rules beside one another, plain -/
namespace M
open PySem G Pg L2
section
variable {w : Wd} {s t : Std} {one two : Rl} {d : Deed}
/-! how many pairs there are, told by the world's own sizes -/
def owsU2 (w : Wd) : List Ow := w.keys.flatMap fun k => s3s.map fun x => (k, x)
def tksU2 (w : Wd) : List Tk := [.non, .self] ++ (List.range w.no).map .num
def thsU2 (w : Wd) : List Th := (List.range w.no).flatMap fun n => s3s.flatMap fun x => (tksU2 w).map fun t => (n, x, t)
def stdsU2 (w : Wd) : List Std := (listsUp (owsU2 w) w.no).flatMap fun os => (listsUp (thsU2 w) w.nt).map fun ts => ⟨os, ts⟩
theorem stdsU2_mem (h : InW w s) : s ∈ stdsU2 w := by
  refine List.mem_flatMap.mpr ⟨s.os, mem_listsUp h.os fun o ho => List.mem_flatMap.mpr ⟨o.1, h.ky o ho, List.mem_map.mpr ⟨o.2, s3s_mem _, rfl⟩⟩, List.mem_map.mpr ⟨s.ts, mem_listsUp h.ts fun t ht => ?_, rfl⟩⟩
  obtain ⟨h1, h2⟩ := h.th t ht
  have ho := h.os
  refine List.mem_flatMap.mpr ⟨t.1, List.mem_range.mpr (by omega), List.mem_flatMap.mpr ⟨t.2.1, s3s_mem _, List.mem_map.mpr ⟨t.2.2, ?_, rfl⟩⟩⟩
  unfold tksU2
  cases q : t.2.2 with
  | non => simp
  | self => simp
  | num k =>
    rw [q] at h2
    have h3 : k < s.os.length := h2
    refine List.mem_append.mpr (.inr (List.mem_map.mpr ⟨k, List.mem_range.mpr (by omega), rfl⟩))
def bndW (w : Wd) : Nat := (3 * w.keys.length + 1) ^ w.no * (w.no * (3 * (w.no + 2)) + 1) ^ w.nt
theorem stdsU2_len (w : Wd) : (stdsU2 w).length ≤ bndW w := by
  have h1 : (owsU2 w).length ≤ 3 * w.keys.length := by
    have := flat_le (fun k => s3s.map fun x => ((k, x) : Ow)) 3 w.keys fun k _ => by simp [s3s]
    unfold owsU2
    omega
  have ht : (tksU2 w).length = w.no + 2 := by unfold tksU2; rw [List.length_append, List.length_map, List.length_range]; simp; omega
  have h2 : (thsU2 w).length ≤ w.no * (3 * (w.no + 2)) := by
    have := flat_le (fun n => s3s.flatMap fun x => (tksU2 w).map fun t => ((n, x, t) : Th)) (3 * (w.no + 2)) (List.range w.no) fun n _ => flat_le (fun x => (tksU2 w).map fun t => ((n, x, t) : Th)) (w.no + 2) s3s fun x _ => by rw [List.length_map, ht]; exact Nat.le_refl _
    rw [List.length_range] at this
    exact this
  have h3 : (listsUp (owsU2 w) w.no).length ≤ (3 * w.keys.length + 1) ^ w.no := Nat.le_trans (listsUp_len _ _) (Nat.pow_le_pow_left (Nat.succ_le_succ h1) _)
  have h4 : (listsUp (thsU2 w) w.nt).length ≤ (w.no * (3 * (w.no + 2)) + 1) ^ w.nt := Nat.le_trans (listsUp_len _ _) (Nat.pow_le_pow_left (Nat.succ_le_succ h2) _)
  have h5 := flat_le (fun os => (listsUp (thsU2 w) w.nt).map fun ts => (⟨os, ts⟩ : Std)) ((w.no * (3 * (w.no + 2)) + 1) ^ w.nt) (listsUp (owsU2 w) w.no) fun os _ => by rw [List.length_map]; exact h4
  exact Nat.le_trans h5 (Nat.mul_le_mul_right _ h3)
/-- a world in which all pairs of standings are few enough -/
def Few (w : Wd) : Prop := bndW w * bndW w ≤ 16000000
def prsU (w : Wd) : List (Std × Std) := (stdsU2 w).flatMap fun s => (stdsU2 w).map fun t => (s, t)
theorem prsU_len (w : Wd) : (prsU w).length ≤ bndW w * bndW w :=
  Nat.le_trans (flat_le (fun s => (stdsU2 w).map fun t => (s, t)) (bndW w) (stdsU2 w) fun s _ => by rw [List.length_map]; exact stdsU2_len w) (Nat.mul_le_mul_right _ (stdsU2_len w))
theorem prsU_mem (h1 : InW w s) (h2 : InW w t) : (s, t) ∈ prsU w := List.mem_flatMap.mpr ⟨s, stdsU2_mem h1, List.mem_map.mpr ⟨t, stdsU2_mem h2, rfl⟩⟩
theorem capPEx (w : Wd) : ∃ n, (prsU w).length ≤ n ∧ (Few w → n ≤ 16000000) := ⟨_, Nat.le_refl _, fun h => Nat.le_trans (prsU_len w) h⟩
noncomputable def capP (w : Wd) : Nat := Classical.choose (capPEx w)
theorem capP_le (fw : Few w) : capP w ≤ 16000000 := (Classical.choose_spec (capPEx w)).2 fw
/-! what is told of a standing -/
def toldN (r : Rl) (s : Std) : List Nat × List Nat := ((List.range s.os.length).map (counted r s), shown r s)
def unlike (one two : Rl) (s t : Std) (d : Deed) : Bool := decide ((step one s d).1 ≠ (step two t d).1) || decide (toldN one (step one s d).2 ≠ toldN two (step two t d).2)
abbrev PRow := (Std × Std) × List Deed
def nextP (one two : Rl) (p : PRow) (d : Deed) : Std × Std := ((step one p.1.1 d).2, (step two p.1.2 d).2)
def pvisit (one two : Rl) (p : PRow) (rows : List PRow) (d : Deed) : List PRow := if nextP one two p d ∈ rows.map (·.1) then rows else rows ++ [(nextP one two p d, p.2 ++ [d])]
def pturn (one two : Rl) (p : PRow) : List Deed → List PRow → List Deed ⊕ List PRow
  | [], rows => .inr rows
  | d :: ds, rows => if unlike one two p.1.1 p.1.2 d = true then .inl (p.2 ++ [d]) else pturn one two p ds (pvisit one two p rows d)
def pAt (one two : Rl) (w : Wd) : Nat → List Deed ⊕ List PRow
  | 0 => .inr [((empty, empty), [])]
  | n + 1 => match pAt one two w n with
    | .inl h => .inl h
    | .inr rows => match rows[n]? with
      | none => .inr rows
      | some p => pturn one two p (deedsL w p.1.1) rows
noncomputable def partL (one two : Rl) (w : Wd) : Option (List Deed) := match pAt one two w (capP w) with
  | .inl h => some h
  | .inr _ => none
theorem pturn_app (p : PRow) : ∀ (a b : List Deed) (rows : List PRow), pturn one two p (a ++ b) rows = match pturn one two p a rows with
    | .inl h => .inl h
    | .inr rows' => pturn one two p b rows'
  | [], b, rows => rfl
  | d :: a, b, rows => by
    rw [List.cons_append, pturn, pturn]
    split
    · rfl
    · exact pturn_app p a b _
/-- the first i deeds -/
theorem pturn_succ {p : PRow} {ds : List Deed} {i : Nat} {d : Deed} (h : ds[i]? = some d) {rows rows' : List PRow} (e : pturn one two p (ds.take i) rows = .inr rows') :
    pturn one two p (ds.take (i + 1)) rows = if unlike one two p.1.1 p.1.2 d = true then .inl (p.2 ++ [d]) else .inr (pvisit one two p rows' d) := by
  have hlt := (List.getElem?_eq_some_iff.mp h).1
  have ed : ds[i] = d := by rw [List.getElem?_eq_getElem hlt] at h; exact Option.some.inj h
  rw [List.take_succ_eq_append_getElem hlt, ed, pturn_app, e]
  show pturn one two p [d] rows' = _
  rw [pturn]
  rfl
theorem pturn_hit {p : PRow} {ds : List Deed} {i : Nat} {rows : List PRow} {h : List Deed} (e : pturn one two p (ds.take i) rows = .inl h) : pturn one two p ds rows = .inl h := by
  have := pturn_app (one := one) (two := two) p (ds.take i) (ds.drop i) rows
  rw [List.take_append_drop, e] at this
  exact this
structure POk (w : Wd) (rows : List PRow) : Prop where
  nd : (rows.map (·.1)).Nodup
  in1 : ∀ p ∈ rows, InW w p.1.1
  in2 : ∀ p ∈ rows, InW w p.1.2
  ln : ∀ p ∈ rows, p.1.1.os.length = p.1.2.os.length ∧ p.1.1.ts.length = p.1.2.ts.length
  td : ∀ p ∈ rows, p.1.1.Tidy ∧ p.1.2.Tidy
  hk : ∀ p ∈ rows, ∀ d ∈ p.2, d.keyOk
  hl : ∀ (i : Nat) (p : PRow), rows[i]? = some p → p.2.length ≤ i
theorem POk.lenP {rows : List PRow} (h : POk w rows) : rows.length ≤ capP w := by
  have := nodup_len (u := prsU w) h.nd fun x hx => by
    obtain ⟨p, hp, rfl⟩ := List.mem_map.mp hx
    exact prsU_mem (h.in1 p hp) (h.in2 p hp)
  rw [List.length_map] at this
  exact Nat.le_trans this (Classical.choose_spec (capPEx w)).1
theorem pok_0 (w : Wd) : POk w [((empty, empty), [])] where
  nd := by simp
  in1 := fun p hp => by rw [List.mem_singleton.mp hp]; exact inw_empty w
  in2 := fun p hp => by rw [List.mem_singleton.mp hp]; exact inw_empty w
  ln := fun p hp => by rw [List.mem_singleton.mp hp]; exact ⟨rfl, rfl⟩
  td := fun p hp => by rw [List.mem_singleton.mp hp]; exact ⟨tidy_empty, tidy_empty⟩
  hk := fun p hp => by rw [List.mem_singleton.mp hp]; intro d hd; cases hd
  hl := fun i p e => by
    cases i with
    | zero => simp at e; subst e; exact Nat.le_refl _
    | succ i => simp at e
theorem deedsL_len2 (h : s.os.length = t.os.length) (h2 : s.ts.length = t.ts.length) : deedsL w s = deedsL w t := by
  unfold deedsL
  rw [h, h2]
/-- what a deed that is done does to the sizes -/
def grow (d : Deed) (s : Std) : Nat × Nat := match d with
  | .own _ => (s.os.length + 1, s.ts.length)
  | .put _ => (s.os.length, s.ts.length + 1)
  | _ => (s.os.length, s.ts.length)
theorem behind_sizes {r : Rl} {s s' : Std} (e : behind r s d = some s') : (s'.os.length, s'.ts.length) = grow d s := by
  cases d with
  | own k => simp only [behind] at e; split at e <;> cases e; simp [grow]
  | put o => simp only [behind] at e; split at e <;> cases e; simp [grow]
  | move t o => simp only [behind] at e; split at e <;> cases e; simp [grow]
  | mark o =>
    simp only [behind, marked] at e
    split at e
    · cases e
    · split at e
      · cases e
      · cases e
        simp only [grow, List.length_set]
        split <;> simp
  | take t => simp only [behind] at e; split at e <;> cases e; simp [grow]
  | fetch o => simp only [behind, fetched] at e; split at e <;> cases e; simp [grow]
  | raise t =>
    simp only [behind, raised] at e
    split at e
    · cases e
    · split at e <;> cases e
      simp [grow]
  | clear =>
    simp only [behind, cleared] at e
    cases e
    simp only [grow]
    split <;> simp
theorem step_sizes {s t : Std} (ho : s.os.length = t.os.length) (ht : s.ts.length = t.ts.length) (hw : (step one s d).1 = (step two t d).1) : (step one s d).2.os.length = (step two t d).2.os.length ∧ (step one s d).2.ts.length = (step two t d).2.ts.length := by
  unfold step at hw ⊢
  cases e1 : behind one s d with
  | none =>
    rw [e1] at hw
    cases e2 : behind two t d with
    | none => exact ⟨ho, ht⟩
    | some t' => rw [e2] at hw; cases hw
  | some s' =>
    rw [e1] at hw
    cases e2 : behind two t d with
    | none => rw [e2] at hw; cases hw
    | some t' =>
      have h1 := behind_sizes e1
      have h2 := behind_sizes e2
      have h3 : grow d s = grow d t := by unfold grow; cases d <;> simp [ho, ht]
      rw [← h1, ← h2] at h3
      exact ⟨congrArg Prod.fst h3, congrArg Prod.snd h3⟩
theorem unlike_no {d : Deed} (h : unlike one two s t d = false) : (step one s d).1 = (step two t d).1 ∧ toldN one (step one s d).2 = toldN two (step two t d).2 := by
  unfold unlike at h
  simp only [Bool.or_eq_false_iff, decide_eq_false_iff_not, Decidable.not_not] at h
  exact h
theorem pok_visit (wo : w.Ok) {rows : List PRow} (h : POk w rows) {n : Nat} {p : PRow} (hp : rows[n]? = some p) (hd : d ∈ deedsL w p.1.1) (hu : unlike one two p.1.1 p.1.2 d = false) : POk w (pvisit one two p rows d) := by
  unfold pvisit
  split
  · exact h
  · rename_i hn
    have hm := List.mem_of_getElem? hp
    obtain ⟨l1, l2⟩ := h.ln p hm
    have hd2 : d ∈ deedsL w p.1.2 := by rw [← deedsL_len2 l1 l2]; exact hd
    have hs := step_sizes (one := one) (two := two) l1 l2 (unlike_no hu).1
    refine ⟨?_, fun q hq => ?_, fun q hq => ?_, fun q hq => ?_, fun q hq => ?_, fun q hq => ?_, fun i q e => ?_⟩
    · rw [List.map_append, List.nodup_append]
      refine ⟨h.nd, by simp, fun a ha b hb e => ?_⟩
      simp at hb
      subst e
      exact hn (hb ▸ ha)
    · rcases List.mem_append.mp hq with z | z
      · exact h.in1 q z
      · rw [List.mem_singleton.mp z]; exact inw_step (h.in1 p hm) hd
    · rcases List.mem_append.mp hq with z | z
      · exact h.in2 q z
      · rw [List.mem_singleton.mp z]; exact inw_step (h.in2 p hm) hd2
    · rcases List.mem_append.mp hq with z | z
      · exact h.ln q z
      · rw [List.mem_singleton.mp z]; exact hs
    · rcases List.mem_append.mp hq with z | z
      · exact h.td q z
      · rw [List.mem_singleton.mp z]; exact ⟨step_tidy (h.td p hm).1, step_tidy (h.td p hm).2⟩
    · rcases List.mem_append.mp hq with z | z
      · exact h.hk q z
      · rw [List.mem_singleton.mp z]
        intro x hx
        rcases List.mem_append.mp hx with y | y
        · exact h.hk p hm x y
        · rw [List.mem_singleton.mp y]; exact deedsL_key wo.s d hd
    · by_cases hi : i < rows.length
      · rw [List.getElem?_append_left hi] at e
        exact h.hl i q e
      · rw [List.getElem?_append_right (by omega)] at e
        have hn' := (List.getElem?_eq_some_iff.mp hp).1
        have := h.hl n p hp
        cases q' : i - rows.length with
        | zero =>
          rw [q'] at e
          simp at e
          subst e
          simp
          omega
        | succ j => rw [q'] at e; simp at e
theorem pvisit_get {rows : List PRow} {n : Nat} {p q : PRow} (hp : rows[n]? = some q) : (pvisit one two p rows d)[n]? = some q := by
  unfold pvisit
  split
  · exact hp
  · rw [List.getElem?_append_left (List.getElem?_eq_some_iff.mp hp).1]; exact hp
theorem pturn_ok (wo : w.Ok) {n : Nat} {p : PRow} : ∀ (ds : List Deed) {rows rows' : List PRow}, POk w rows → rows[n]? = some p → (∀ d ∈ ds, d ∈ deedsL w p.1.1) → pturn one two p ds rows = .inr rows' → POk w rows' ∧ rows'[n]? = some p ∧ rows.length ≤ rows'.length
  | [], rows, rows', h, hp, _, e => by
    cases e
    exact ⟨h, hp, Nat.le_refl _⟩
  | d :: ds, rows, rows', h, hp, hd, e => by
    rw [pturn] at e
    split at e
    · cases e
    · rename_i hu
      have hu' : unlike one two p.1.1 p.1.2 d = false := by simpa using hu
      obtain ⟨h1, h2, h3⟩ := pturn_ok wo ds (pok_visit wo h hp (hd d List.mem_cons_self) hu') (pvisit_get hp) (fun x hx => hd x (List.mem_cons_of_mem _ hx)) e
      refine ⟨h1, h2, Nat.le_trans ?_ h3⟩
      unfold pvisit
      split
      · exact Nat.le_refl _
      · simp
theorem pAt_ok (wo : w.Ok) : ∀ (n : Nat) {rows : List PRow}, pAt one two w n = .inr rows → POk w rows
  | 0, rows, e => by
    cases e
    exact pok_0 w
  | n + 1, rows, e => by
    rw [pAt] at e
    cases q : pAt one two w n with
    | inl h => rw [q] at e; cases e
    | inr rows0 =>
      rw [q] at e
      have ok := pAt_ok wo n q
      cases hp : rows0[n]? with
      | none =>
        simp only [hp] at e
        cases e
        exact ok
      | some p =>
        simp only [hp] at e
        exact (pturn_ok wo _ ok hp (fun _ h => h) e).1
theorem pAt_inl {n : Nat} {h : List Deed} (e : pAt one two w n = .inl h) : ∀ k, pAt one two w (n + k) = .inl h
  | 0 => e
  | k + 1 => by rw [← Nat.add_assoc, pAt, pAt_inl e k]
theorem pAt_stay {n : Nat} {rows : List PRow} (e : pAt one two w n = .inr rows) (h : rows.length ≤ n) : ∀ k, pAt one two w (n + k) = .inr rows
  | 0 => e
  | k + 1 => by
    rw [← Nat.add_assoc, pAt, pAt_stay e h k]
    have : rows[n + k]? = none := List.getElem?_eq_none (by omega)
    simp only [this]
theorem part_hit {n : Nat} {h : List Deed} (e : pAt one two w n = .inl h) (hn : n ≤ capP w) : partL one two w = some h := by
  unfold partL
  have := pAt_inl e (capP w - n)
  rw [show n + (capP w - n) = capP w by omega] at this
  rw [this]
theorem part_none {n : Nat} {rows : List PRow} (e : pAt one two w n = .inr rows) (h : rows.length ≤ n) (hn : n ≤ capP w) : partL one two w = none := by
  unfold partL
  have := pAt_stay e h (capP w - n)
  rw [show n + (capP w - n) = capP w by omega] at this
  rw [this]
end
end M


set_option maxRecDepth 100000
set_option maxHeartbeats 4000000
/-! two rules beside one another: the program's walk -/
namespace M
open PySem G Pg L2
section
variable {α : Type} {key : α → NestedKey}
def kvsG (key : α → NestedKey) (rows : List (α × List Deed)) : Nkd := rows.map fun p => (key p.1, .tuple (dsD p.2))
def seenG (key : α → NestedKey) (rows : List (α × List Deed)) : Nkd := rows.map fun p => (key p.1, .bool true)
theorem gmap_none (inj : ∀ a b, key a = key b → a = b) (val : α × List Deed → PyData) {x : α} : ∀ {rows : List (α × List Deed)}, x ∉ rows.map (·.1) → getN (rows.map fun p => (key p.1, val p)) (key x) = none
  | [], _ => rfl
  | p :: rows, h => by
    rw [List.map_cons, List.mem_cons, not_or] at h
    have e : ¬ key p.1 = key x := fun z => h.1 (inj _ _ z).symm
    have : getN ((p :: rows).map fun p => (key p.1, val p)) (key x) = getN (rows.map fun p => (key p.1, val p)) (key x) := by simp [getN, List.find?_cons, e]
    rw [this]
    exact gmap_none inj val h.2
theorem gmap_get (inj : ∀ a b, key a = key b → a = b) (val : α × List Deed → PyData) {p : α × List Deed} : ∀ {rows : List (α × List Deed)} {n : Nat}, (rows.map (·.1)).Nodup → rows[n]? = some p → getN (rows.map fun p => (key p.1, val p)) (key p.1) = some (val p)
  | [], n, _, h => by simp at h
  | q :: rows, 0, _, h => by
    simp at h
    subst h
    simp [getN]
  | q :: rows, n + 1, hn, h => by
    rw [List.map_cons, List.nodup_cons] at hn
    simp at h
    have hm : p.1 ∈ rows.map (·.1) := List.mem_map.mpr ⟨p, List.mem_of_getElem? h, rfl⟩
    have e : ¬ key q.1 = key p.1 := fun z => hn.1 (by rw [inj _ _ z]; exact hm)
    have : getN ((q :: rows).map fun p => (key p.1, val p)) (key p.1) = getN (rows.map fun p => (key p.1, val p)) (key p.1) := by simp [getN, List.find?_cons, e]
    rw [this]
    exact gmap_get inj val hn.2 h
theorem gmap_some (inj : ∀ a b, key a = key b → a = b) (val : α × List Deed → PyData) {x : α} {rows : List (α × List Deed)} (hn : (rows.map (·.1)).Nodup) (h : x ∈ rows.map (·.1)) : (getN (rows.map fun p => (key p.1, val p)) (key x)).isSome = true := by
  obtain ⟨p, hp, rfl⟩ := List.mem_map.mp h
  obtain ⟨n, hn'⟩ := List.mem_iff_getElem?.mp hp
  rw [gmap_get inj val hn hn']
  rfl
end
def pk (p : Std × Std) : NestedKey := .tup [p.1.k, p.2.k]
theorem pk_inj (a b : Std × Std) (h : pk a = pk b) : a = b := by
  unfold pk at h
  injection h with h
  injection h with h1 h2
  injection h2 with h2 _
  exact Prod.ext (Std.k_inj h1) (Std.k_inj h2)
def pD (p : Std × Std) : PyData := .tuple [p.1.d, p.2.d]
theorem pk_data (p : Std × Std) : (pk p).data = pD p := by
  unfold pk pD
  simp only [NestedKey.data, NestedKey.datas, Std.k_data]
theorem pk_depth (p : Std × Std) : (pk p).depth ≤ 8 := by
  have h1 : ∀ s : Std, s.k.depth ≤ 4 := fun s => by
    unfold Std.k
    simp only [NestedKey.depth, NestedKey.depthAll]
    have := depth_map oK 1 oK_depth s.os
    have := depth_map tK 1 tK_depth s.ts
    omega
  unfold pk
  simp only [NestedKey.depth, NestedKey.depthAll]
  have := h1 p.1
  have := h1 p.2
  omega
theorem pk_tp (p : Std × Std) : IsTp (pk p) := ⟨_, rfl⟩
def prsD (rows : List PRow) : List PyData := rows.map fun p => pD p.1
theorem prsD_get {rows : List PRow} {n : Nat} {p : PRow} (h : rows[n]? = some p) : atI (prsD rows) (n : Int) = some (pD p.1) := L2.atI_nat (by unfold prsD; rw [List.getElem?_map, h]; rfl)
/-! what is told, as data -/
def cntD (r : Rl) (s : Std) : List PyData := (List.range s.os.length).map fun (i : Nat) => .int ((counted r s i : Nat) : Int)
def toldD (r : Rl) (s : Std) : PyData := .tuple [.list (cntD r s), .list ((shown r s).map fun (n : Nat) => .int (n : Int))]
theorem eqvAll_nats : ∀ xs ys : List Nat, PyData.eqvAll (xs.map fun (n : Nat) => .int (n : Int)) (ys.map fun (n : Nat) => .int (n : Int)) = decide (xs = ys)
  | [], [] => rfl
  | x :: xs, y :: ys => by
    rw [List.map_cons, List.map_cons, PyData.eqvAll, eqvAll_nats xs ys, eqv_nat, Bool.eq_iff_iff]
    simp
  | [], _ :: _ => by simp [PyData.eqvAll]
  | _ :: _, [] => by simp [PyData.eqvAll]
theorem cntD_eq (r : Rl) (s : Std) : cntD r s = ((List.range s.os.length).map (counted r s)).map fun (n : Nat) => .int (n : Int) := by
  unfold cntD
  rw [List.map_map]
  rfl
theorem told_eqv (r r' : Rl) (s s' : Std) : PyData.eqv (toldD r s) (toldD r' s') = decide (toldN r s = toldN r' s') := by
  unfold toldD toldN
  rw [eqv_tup2, cntD_eq, cntD_eq]
  simp only [PyData.eqv, eqvAll_nats]
  rw [Bool.eq_iff_iff]
  simp
theorem toldL_eqv (r r' : Rl) (s s' : Std) : PyData.eqv (.list [.list (cntD r s), .list ((shown r s).map fun (n : Nat) => .int (n : Int))]) (.list [.list (cntD r' s'), .list ((shown r' s').map fun (n : Nat) => .int (n : Int))]) = decide (toldN r s = toldN r' s') := by
  rw [← told_eqv]
  unfold toldD
  simp only [PyData.eqv]
theorem shown_len (r : Rl) (s : Std) : (shown r s).length ≤ s.ts.length := by rw [← shownT_all]; exact shownT_len r s _
theorem told_okL {r : Rl} {s : Std} (h : s.Ok) : (∀ d ∈ [PyData.list (cntD r s), .list ((shown r s).map fun (n : Nat) => .int (n : Int))], okL 1 d) := by
  have h1 := h.ol
  have h2 := h.tl
  have h3 := shown_len r s
  exact okL_mem2 (by rw [cntD_eq]; exact okL_nats (by rw [List.length_map, List.length_range]; omega)) (okL_nats (by omega))
theorem told_sh {r : Rl} {s : Std} (h : s.Ok) : SeqAt.shaped (toldD r s) = true := (sh_okL 2 _ (by decide) (okL_tup (n := 1) (Nat.le_of_ble_eq_true rfl) (told_okL h))).1
theorem toldL_sh {r : Rl} {s : Std} (h : s.Ok) : SeqAt.shaped (.list [.list (cntD r s), .list ((shown r s).map fun (n : Nat) => .int (n : Int))]) = true := (sh_okL 2 _ (by decide) (okL_lst (n := 1) (Nat.le_of_ble_eq_true rfl) (told_okL h))).1
end M
namespace Pg
open PySem L2 G M
section
variable {P : Program} {w : World} {K : PySem.W.Frag} {mg : Str → Option Value} {base : Heap} {C CW : Addr}
theorem vpk {X : Cx} {env : En} {e : Expr} {p : Std × Std} (h : VC X e env (.dat (pD p))) : VC X e env (.dat (pk p).data) := by rw [pk_data]; exact h
def sp_told (K : PySem.W.Frag) (C : Addr) : Spec := fun cs R _ => ∃ (r : Rl) (s : Std), cs = [rl K C r, .dat s.d] ∧ s.Ok ∧ R (.dat (toldD r s)) cs
end
end Pg


set_option maxRecDepth 100000
set_option maxHeartbeats 4000000
namespace Pg
open PySem L2 G M
section
variable {P : Program} {w : World} {K : PySem.W.Frag} {mg : Str → Option Value} {base : Heap} {C CW : Addr}
theorem pok_std {wd : Wd} (wo : wd.Ok) {rows : List PRow} (h : POk wd rows) {p : PRow} (hp : p ∈ rows) : p.1.1.OkN 3 ∧ p.1.2.OkN 3 := ⟨inw_okN wo (h.in1 p hp), inw_okN wo (h.in2 p hp)⟩
def sp_unlike (K : PySem.W.Frag) (C : Addr) : Spec := fun cs R _ => ∃ (one two : Rl) (wd : Wd), cs = [rl K C one, rl K C two, .dat wd.d] ∧ wd.Ok ∧ Few wd ∧ (∀ h, partL one two wd = some h → ∀ v, R (.own v (olst K (dsD h))) cs) ∧ (partL one two wd = none → R (.dat .none) cs)
def sp_parting (K : PySem.W.Frag) (C : Addr) : Spec := fun cs R _ => ∃ (one two : Rl) (wd : Wd), cs = [rl K C one, rl K C two, .dat wd.d] ∧ wd.Ok ∧ Few wd ∧ (∀ h, partL one two wd = some h → ∀ v, R (.own v (olst K (dsD h))) cs) ∧ (partL one two wd = none → R (.dat .none) cs)
def sp_alike (K : PySem.W.Frag) (C : Addr) : Spec := fun cs R _ => ∃ (one two : Rl) (wd : Wd), cs = [rl K C one, rl K C two, .dat wd.d] ∧ wd.Ok ∧ Few wd ∧ R (.dat (.bool (partL one two wd).isNone)) cs
end
end Pg


set_option maxRecDepth 100000
set_option maxHeartbeats 4000000
/-! two rules beside one another: the law's walk -/
namespace M
open PySem G Pg L2
def optH : Option (List Deed) → PyData
  | none => .none
  | some h => .list (dsD h)
theorem okL_optH {o : Option (List Deed)} (h : ∀ ds, o = some ds → ds.length ≤ 16000001 → ds.length ≤ 1000000 ∧ ∀ d ∈ ds, d.keyOk) (h2 : ∀ ds, o = some ds → ds.length ≤ 16000001) : okL 2 (optH o) := by
  cases o with
  | none => exact okL_none
  | some ds => exact okL_deeds (n := 0) (h ds rfl (h2 ds rfl)).1 (h ds rfl (h2 ds rfl)).2
section
variable {w : Wd} {one two : Rl}
/-! the other way about -/
def sw (p : PRow) : PRow := ((p.1.2, p.1.1), p.2)
theorem sw_mem {x : Std × Std} {rows : List PRow} : ((x.2, x.1) ∈ (rows.map sw).map (·.1)) ↔ x ∈ rows.map (·.1) := by
  rw [List.map_map]
  simp only [List.mem_map, Function.comp]
  constructor
  · rintro ⟨p, hp, e⟩
    refine ⟨p, hp, ?_⟩
    have e : (p.1.2, p.1.1) = (x.2, x.1) := e
    injection e with e1 e2
    exact Prod.ext e2 e1
  · rintro ⟨p, hp, rfl⟩
    exact ⟨p, hp, rfl⟩
theorem unlike_sw (s t : Std) (d : Deed) : unlike two one t s d = unlike one two s t d := by
  unfold unlike
  rw [Bool.eq_iff_iff]
  simp only [Bool.or_eq_true, decide_eq_true_eq]
  constructor
  · rintro (h | h)
    · exact .inl (Ne.symm h)
    · exact .inr (Ne.symm h)
  · rintro (h | h)
    · exact .inl (Ne.symm h)
    · exact .inr (Ne.symm h)
theorem pvisit_sw (p : PRow) (rows : List PRow) (d : Deed) : pvisit two one (sw p) (rows.map sw) d = (pvisit one two p rows d).map sw := by
  unfold pvisit
  have e : nextP two one (sw p) d = ((nextP one two p d).2, (nextP one two p d).1) := rfl
  by_cases h : nextP one two p d ∈ rows.map (·.1)
  · rw [if_pos h, if_pos (by rw [e]; exact sw_mem.mpr h)]
  · rw [if_neg h, if_neg (by rw [e]; exact fun z => h (sw_mem.mp z)), List.map_append]
    rfl
def swS : List Deed ⊕ List PRow → List Deed ⊕ List PRow
  | .inl h => .inl h
  | .inr rows => .inr (rows.map sw)
theorem pturn_sw (p : PRow) : ∀ (ds : List Deed) (rows : List PRow), pturn two one (sw p) ds (rows.map sw) = swS (pturn one two p ds rows)
  | [], rows => rfl
  | d :: ds, rows => by
    rw [pturn, pturn, show unlike two one (sw p).1.1 (sw p).1.2 d = unlike one two p.1.1 p.1.2 d from unlike_sw _ _ d]
    by_cases h : unlike one two p.1.1 p.1.2 d = true
    · rw [if_pos h, if_pos h]
      rfl
    · rw [if_neg h, if_neg h, pvisit_sw]
      exact pturn_sw p ds _
theorem pAt_sw (wo : w.Ok) : ∀ n, pAt two one w n = swS (pAt one two w n)
  | 0 => rfl
  | n + 1 => by
    rw [pAt, pAt, pAt_sw wo n]
    cases e : pAt one two w n with
    | inl h => rfl
    | inr rows =>
      have ok := pAt_ok wo n e
      simp only [swS]
      rw [List.getElem?_map]
      cases hp : rows[n]? with
      | none => rfl
      | some p =>
        simp only [Option.map_some]
        obtain ⟨l1, l2⟩ := ok.ln p (List.mem_of_getElem? hp)
        rw [show deedsL w (sw p).1.1 = deedsL w p.1.1 from (deedsL_len2 l1 l2).symm]
        exact pturn_sw p _ rows
theorem part_sw (wo : w.Ok) : partL two one w = partL one two w := by
  unfold partL
  rw [pAt_sw wo]
  cases pAt one two w (capP w) <;> rfl
/-! the history that parts them is a history -/
theorem pturn_inl (wo : w.Ok) {n : Nat} {p : PRow} : ∀ (ds : List Deed) {rows : List PRow} {h : List Deed}, (∀ d ∈ ds, d ∈ deedsL w p.1.1) → pturn one two p ds rows = .inl h → ∃ d ∈ deedsL w p.1.1, h = p.2 ++ [d]
  | [], rows, h, _, e => by cases e
  | d :: ds, rows, h, hd, e => by
    rw [pturn] at e
    split at e
    · cases e
      exact ⟨d, hd d List.mem_cons_self, rfl⟩
    · exact pturn_inl (n := n) wo ds (fun x hx => hd x (List.mem_cons_of_mem _ hx)) e
theorem pAt_inl_ok (wo : w.Ok) : ∀ (n : Nat) {h : List Deed}, pAt one two w n = .inl h → h.length ≤ capP w + 1 ∧ ∀ d ∈ h, d.keyOk
  | 0, h, e => by cases e
  | n + 1, h, e => by
    rw [pAt] at e
    cases q : pAt one two w n with
    | inl h' => rw [q] at e; cases e; exact pAt_inl_ok wo n q
    | inr rows =>
      rw [q] at e
      have ok := pAt_ok wo n q
      cases hp : rows[n]? with
      | none => simp only [hp] at e; cases e
      | some p =>
        simp only [hp] at e
        obtain ⟨d, hd, rfl⟩ := pturn_inl (n := n) wo _ (fun _ h => h) e
        have h1 := ok.hl n p hp
        have h2 := (List.getElem?_eq_some_iff.mp hp).1
        have h3 := ok.lenP
        refine ⟨by rw [List.length_append, List.length_singleton]; omega, fun x hx => ?_⟩
        rcases List.mem_append.mp hx with y | y
        · exact ok.hk p (List.mem_of_getElem? hp) x y
        · rw [List.mem_singleton.mp y]; exact deedsL_key wo.s d hd
theorem part_ok (wo : w.Ok) {h : List Deed} (e : partL one two w = some h) : h.length ≤ capP w + 1 ∧ ∀ d ∈ h, d.keyOk := by
  unfold partL at e
  split at e
  · rename_i h' q
    cases e
    exact pAt_inl_ok wo _ q
  · cases e
end
def prD (p : PRow) : PyData := .list [p.1.1.l, p.1.2.l, .list (dsD p.2)]
def prwsD (rows : List PRow) : List PyData := rows.map prD
theorem prwsD_get {rows : List PRow} {n : Nat} {p : PRow} (h : rows[n]? = some p) : atI (prwsD rows) (n : Int) = some (prD p) := L2.atI_nat (by unfold prwsD; rw [List.getElem?_map, h]; rfl)
theorem partsOk_set {ps vs : List PyData} {i : Nat} {p : PyData} (h : PartsOk 9 ps) (hv : valsL[i]? = some vs) (hp : p ∈ vs) : PartsOk 9 (ps.set i p) := by
  refine ⟨by rw [List.length_set]; exact h.1, fun j ws hj hw => ?_⟩
  by_cases e : i = j
  · subst e
    rw [hv] at hw
    cases hw
    exact ⟨p, List.getElem?_set_self (by rw [h.1]; exact hj), hp⟩
  · obtain ⟨q, h1, h2⟩ := h.2 j ws hj hw
    exact ⟨q, by rw [List.getElem?_set_ne e]; exact h1, h2⟩
end M
namespace Pg
open PySem L2 G M
section
variable {P : Program} {w : World} {K : PySem.W.Frag} {mg : Str → Option Value} {base : Heap}
def sp_ltold : Spec := fun cs R _ => ∃ (r : Rl) (s : Std), cs = [.dat (rpD r), .dat s.l] ∧ s.Ok ∧ R (.dat (.list [.list (cntD r s), .list ((shown r s).map fun (n : Nat) => .int (n : Int))])) cs
def sp_near (K : PySem.W.Frag) : G.Spec := fun cs R _ => ∃ (v : L2.V) (D : Dr) (ps : List PyData), cs = [.own v (olst K D.ds), .dat (.list ps)] ∧ PartsOk 9 ps ∧ ∀ (w : L2.V) (ps' : List PyData) (D' : Dr), PartsOk 9 ps' → R (.own w (olst K ps')) [.own v (olst K D'.ds), .dat (.list ps)]
end
end Pg


set_option maxRecDepth 100000
set_option maxHeartbeats 4000000
namespace Pg
open PySem L2 G M
section
variable {P : Program} {w : World} {K : PySem.W.Frag} {mg : Str → Option Value} {base : Heap}
def sp_lparted (K : PySem.W.Frag) : Spec := fun cs R _ => ∃ (one two : Rl) (wd : Wd), cs = [.dat (rpD one), .dat (rpD two), .dat wd.d] ∧ wd.Ok ∧ Few wd ∧ R (.dat (optH (partL one two wd))) cs
end
end Pg


set_option maxRecDepth 100000
set_option maxHeartbeats 4000000
/-! the dict of can, plain; rules that walk alike -/
namespace M
open PySem G Pg L2
theorem getS_app {kvs : Kd} {x y : Str} {d : PyData} : getS (kvs ++ [(x, d)]) y = match getS kvs y with
    | some e => some e
    | none => if x = y then some d else none := by
  unfold getS
  rw [List.find?_append]
  cases kvs.find? fun z => decide (z.1 = y) with
  | some e => rfl
  | none =>
    by_cases h : x = y
    · simp [h]
    · simp [h]
theorem put_fold (f : Str → PyData) : ∀ (xs : List Str) (acc : Kd), xs.Nodup → (∀ x ∈ xs, (getS acc x).isSome = false) → xs.foldl (fun acc x => putS acc x (f x)) acc = acc ++ xs.map fun x => (x, f x)
  | [], acc, _, _ => by simp
  | x :: xs, acc, hn, h => by
    rw [List.nodup_cons] at hn
    rw [List.foldl_cons, putS_new (h x List.mem_cons_self), put_fold f xs _ hn.2 fun y hy => ?_, List.map_cons, List.append_assoc]
    · rfl
    · have hx : ¬ x = y := fun e => hn.1 (e ▸ hy)
      have h0 := h y (List.mem_cons_of_mem _ hy)
      rw [getS_app]
      cases e : getS acc y with
      | some z => rw [e] at h0; cases h0
      | none => simp [hx]
theorem faultsL_nodup : faultsL.Nodup := by decide +kernel
theorem faultsL_str : ∀ x ∈ faultsL, PyData.strOk x = true := by decide +kernel
section
variable {r : Rl} {w : Wd}
noncomputable def comeL (r : Rl) (w : Wd) : List Str := faultsL.filter fun x => (getS (leastL r w) x).isSome
theorem canL_eq : canL r w = (comeL r w).map fun x => (x, (getS (leastL r w) x).getD .none) := by
  unfold canL comeL
  rw [put_fold _ _ _ (faultsL_nodup.sublist List.filter_sublist) fun x _ => rfl]
  rfl
theorem canL_keys : (canL r w).map (·.1) = comeL r w := by
  rw [canL_eq, List.map_map]
  exact List.map_id _
theorem canL_get {x : Str} (h : x ∈ comeL r w) : getS (canL r w) x = getS (leastL r w) x := by
  rw [canL_eq]
  have key : ∀ xs : List Str, x ∈ xs → getS (xs.map fun x => (x, (getS (leastL r w) x).getD .none)) x = some ((getS (leastL r w) x).getD .none) := by
    intro xs
    induction xs with
    | nil => intro z; cases z
    | cons y ys ih =>
      intro z
      by_cases e : y = x
      · subst e
        simp [getS]
      · have := ih ((List.mem_cons.mp z).resolve_left (fun q => e q.symm))
        unfold getS at this ⊢
        rw [List.map_cons, List.find?_cons]
        simp [e]
        simpa using this
  rw [key _ h]
  exact (getS_eq (List.mem_filter.mp h).2).symm
def VlOk (kvs : Kd) : Prop := ∀ x ∈ kvs, ∃ h : List Deed, x.2 = .list (dsD h) ∧ h.length ≤ capN + 1 ∧ ∀ d ∈ h, d.keyOk
theorem vlOk_add {h : List Deed} {kvs : Kd} {x : Str} (ok : VlOk kvs) (hl : h.length ≤ capN + 1) (hk : ∀ d ∈ h, d.keyOk) : VlOk (addF h kvs x) := by
  unfold addF
  split
  · exact ok
  · rename_i hs
    rw [putS_new (by simpa using hs)]
    intro y hy
    rcases List.mem_append.mp hy with z | z
    · exact ok y z
    · rw [List.mem_singleton.mp z]; exact ⟨h, rfl, hl, hk⟩
theorem fold_ok {α : Type} {Pr : Kd → Prop} {f : Kd → α → Kd} : ∀ (xs : List α) {kvs : Kd}, (∀ kvs, ∀ a ∈ xs, Pr kvs → Pr (f kvs a)) → Pr kvs → Pr (xs.foldl f kvs)
  | [], _, _, h => h
  | x :: xs, _, hf, h => fold_ok xs (fun kvs a ha => hf kvs a (List.mem_cons_of_mem _ ha)) (hf _ x List.mem_cons_self h)
theorem leastL_vl (wo : w.Ok) : VlOk (leastL r w) := by
  have ok := rowsF_ok wo r
  refine fold_ok (Pr := VlOk) _ (fun kvs p hp h => ?_) fun _ z => by cases z
  obtain ⟨i, hi⟩ := List.mem_iff_getElem?.mp hp
  have hl := ok.hl i p hi
  have hi2 := (List.getElem?_eq_some_iff.mp hi).1
  have hc := ok.len wo
  refine fold_ok (Pr := VlOk) _ (fun kvs d hd h => ?_) h
  refine fold_ok (Pr := VlOk) _ (fun kvs x hx h => vlOk_add h (by rw [List.length_append, List.length_singleton]; omega) fun e he => ?_) h
  rcases List.mem_append.mp he with z | z
  · exact ok.hk p hp e z
  · rw [List.mem_singleton.mp z]; exact deedsL_key wo.s d hd
theorem least_list (wo : w.Ok) {x : Str} {d : PyData} (h : getS (leastL r w) x = some d) : okL 2 d := by
  unfold getS at h
  obtain ⟨p, hp, rfl⟩ := Option.map_eq_some_iff.mp h
  obtain ⟨hs, e, hl, hk⟩ := leastL_vl (r := r) wo p (List.mem_of_find?_eq_some hp)
  rw [e]
  exact okL_deeds (n := 0) (Nat.le_trans hl (by decide)) hk
end
theorem getS_addF {h : List Deed} {kvs : Kd} {x y : Str} : getS (addF h kvs x) y = if (getS kvs y).isSome = true then getS kvs y else if x = y then some (.list (dsD h)) else none := by
  unfold addF
  by_cases hs : (getS kvs x).isSome = true
  · rw [if_pos hs]
    by_cases hy : (getS kvs y).isSome = true
    · rw [if_pos hy]
    · rw [if_neg hy, if_neg (fun e => hy (by rw [← e]; exact hs))]
      exact Option.not_isSome_iff_eq_none.mp hy
  · rw [if_neg hs, putS_new (by simpa using hs), getS_app]
    cases e : getS kvs y with
    | some z => simp
    | none => simp
theorem getS_adds {h : List Deed} {y : Str} : ∀ (xs : List Str) (kvs : Kd), getS (xs.foldl (addF h) kvs) y = if (getS kvs y).isSome = true then getS kvs y else if y ∈ xs then some (.list (dsD h)) else none
  | [], kvs => by
    by_cases hy : (getS kvs y).isSome = true
    · simp [hy]
    · simp only [List.foldl_nil]
      rw [if_neg hy]
      simpa using hy
  | x :: xs, kvs => by
    rw [List.foldl_cons, getS_adds xs, getS_addF]
    by_cases hy : (getS kvs y).isSome = true
    · simp [hy]
    · simp only [hy, if_false]
      by_cases e : x = y
      · simp [e]
      · have e' : ¬ y = x := fun z => e z.symm
        simp [e, e']
/-- what is kept of one word -/
def seeD (r : Rl) (p : Row) (y : Str) (o : Option PyData) (d : Deed) : Option PyData := if o.isSome = true then o else if y ∈ faultsOf r p.1 d then some (.list (dsD (p.2 ++ [d]))) else none
def seeR (r : Rl) (w : Wd) (y : Str) (o : Option PyData) (p : Row) : Option PyData := (deedsL w p.1).foldl (seeD r p y) o
theorem getS_addFs {r : Rl} {p : Row} {kvs : Kd} {d : Deed} {y : Str} : getS (addFs r p kvs d) y = seeD r p y (getS kvs y) d := getS_adds _ _
theorem see_fold {α : Type} {y : Str} {f : Kd → α → Kd} {g : Option PyData → α → Option PyData} (h : ∀ kvs a, getS (f kvs a) y = g (getS kvs y) a) : ∀ (xs : List α) (kvs : Kd), getS (xs.foldl f kvs) y = xs.foldl g (getS kvs y)
  | [], _ => rfl
  | x :: xs, kvs => by rw [List.foldl_cons, List.foldl_cons, see_fold h xs, h]
theorem getS_addRow {r : Rl} {w : Wd} {p : Row} {kvs : Kd} {y : Str} : getS (addRow r w kvs p) y = seeR r w y (getS kvs y) p := see_fold (fun _ _ => getS_addFs) _ _
theorem getS_least (r : Rl) (w : Wd) (y : Str) : getS (leastL r w) y = (rowsF r w).foldl (seeR r w y) none := see_fold (fun _ _ => getS_addRow) _ _
theorem see_some {r : Rl} {p : Row} {y : Str} : ∀ (ds : List Deed) (o : Option PyData), (ds.foldl (seeD r p y) o).isSome = true ↔ o.isSome = true ∨ ∃ d ∈ ds, y ∈ faultsOf r p.1 d
  | [], o => by simp
  | d :: ds, o => by
    rw [List.foldl_cons, see_some ds]
    unfold seeD
    by_cases ho : o.isSome = true
    · simp [ho]
    · by_cases hy : y ∈ faultsOf r p.1 d
      · simp [ho, hy]
      · simp [ho, hy]
theorem seeR_some {r : Rl} {w : Wd} {y : Str} : ∀ (ps : List Row) (o : Option PyData), (ps.foldl (seeR r w y) o).isSome = true ↔ o.isSome = true ∨ ∃ p ∈ ps, ∃ d ∈ deedsL w p.1, y ∈ faultsOf r p.1 d
  | [], o => by simp
  | p :: ps, o => by
    rw [List.foldl_cons, seeR_some ps]
    unfold seeR
    rw [see_some]
    simp [or_assoc]
theorem least_some {r : Rl} {w : Wd} {y : Str} : (getS (leastL r w) y).isSome = true ↔ ∃ p ∈ rowsF r w, ∃ d ∈ deedsL w p.1, y ∈ faultsOf r p.1 d := by
  rw [getS_least, seeR_some]
  simp
/-! ### rules that walk alike -/
structure Twin (a b : Rl) : Prop where
  st : ∀ s d, step a s d = step b s d
section
variable {a b : Rl} {w : Wd}
theorem twin_visit (h : Twin a b) : visit a = visit b := by
  funext p rows d
  unfold visit
  rw [h.st]
theorem twin_rowsAt (h : Twin a b) : ∀ n, rowsAt a w n = rowsAt b w n
  | 0 => rfl
  | n + 1 => by rw [rowsAt, rowsAt, twin_rowsAt h n, turnAt, turnAt, twin_visit h]
theorem twin_rows (h : Twin a b) : rowsF a w = rowsF b w := twin_rowsAt h _
theorem twin_least (h : Twin a b) {y : Str} (hy : ∀ s d, y ∈ faultsOf a s d ↔ y ∈ faultsOf b s d) : getS (leastL a w) y = getS (leastL b w) y := by
  rw [getS_least, getS_least, twin_rows h]
  congr 1
  funext o p
  unfold seeR
  congr 1
  funext o d
  unfold seeD
  simp only [hy]
/-! ### what is found -/
theorem mem_addIf2 {c : Bool} {x y : Str} {xs : List Str} : x ∈ addIf c y xs ↔ (c = true ∧ x = y) ∨ x ∈ xs := by
  unfold addIf
  cases c <;> simp [or_comm]
theorem mem_found {r : Rl} {s : Std} {d : Deed} {x : Str} : x ∈ foundL r s d ↔ (fCounted r (step r s d).2 = true ∧ x = "counted") ∨ (fShown r (step r s d).2 = true ∧ x = "shown") ∨ (fHanging (step r s d).2 = true ∧ x = "hanging") ∨ (fDoubled (step r s d).2 = true ∧ x = "doubled") ∨ x ∈ dfL s (step r s d).2 (step r s d).1 d := by
  unfold foundL sfL sf3
  rw [List.mem_append, mem_addIf2, mem_addIf2, mem_addIf2, mem_addIf2]
  simp [or_assoc]
theorem mem_dfL {s s' : Std} {b : Bool} {d : Deed} {x : Str} (h : x ∈ dfL s s' b d) : x = "lost" ∨ x = "left" ∨ x = "raised" ∨ x = "taken" := by
  unfold dfL at h
  rw [mem_addIf2, mem_addIf2, mem_addIf2, mem_addIf2] at h
  rcases h with h | h | h | h | h
  · exact .inl h.2
  · exact .inr (.inl h.2)
  · exact .inr (.inr (.inl h.2))
  · exact .inr (.inr (.inr h.2))
  · cases h
theorem twin_faults (h : Twin a b) {y : Str} (h1 : y = "counted" → ∀ s, fCounted a s = fCounted b s) (h2 : y = "shown" → ∀ s, fShown a s = fShown b s) (s : Std) (d : Deed) : y ∈ faultsOf a s d ↔ y ∈ faultsOf b s d := by
  unfold faultsOf
  simp only [List.mem_filter, decide_eq_true_eq, mem_found, h.st]
  have e1 : (fCounted a (step b s d).2 = true ∧ y = "counted") ↔ (fCounted b (step b s d).2 = true ∧ y = "counted") := by
    constructor
    · rintro ⟨p, q⟩; exact ⟨by rw [← h1 q]; exact p, q⟩
    · rintro ⟨p, q⟩; exact ⟨by rw [h1 q]; exact p, q⟩
  have e2 : (fShown a (step b s d).2 = true ∧ y = "shown") ↔ (fShown b (step b s d).2 = true ∧ y = "shown") := by
    constructor
    · rintro ⟨p, q⟩; exact ⟨by rw [← h2 q]; exact p, q⟩
    · rintro ⟨p, q⟩; exact ⟨by rw [h2 q]; exact p, q⟩
  rw [e1, e2]
theorem mem_hanging {r : Rl} {s : Std} {d : Deed} : ("hanging" : Str) ∈ faultsOf r s d ↔ fHanging (step r s d).2 = true := by
  unfold faultsOf
  simp only [List.mem_filter, decide_eq_true_eq, mem_found]
  have m : ("hanging" : Str) ∈ faultsL := by decide +kernel
  have e1 : ¬ ("hanging" : Str) = "counted" := by decide +kernel
  have e2 : ¬ ("hanging" : Str) = "shown" := by decide +kernel
  have e3 : ¬ ("hanging" : Str) = "doubled" := by decide +kernel
  have e4 : ¬ ("hanging" : Str) ∈ dfL s (step r s d).2 (step r s d).1 d := fun z => by
    rcases mem_dfL z with z | z | z | z <;> revert z <;> decide +kernel
  simp [m, e1, e2, e3, e4]
theorem mem_shown {r : Rl} {s : Std} {d : Deed} : ("shown" : Str) ∈ faultsOf r s d ↔ fShown r (step r s d).2 = true := by
  unfold faultsOf
  simp only [List.mem_filter, decide_eq_true_eq, mem_found]
  have m : ("shown" : Str) ∈ faultsL := by decide +kernel
  have e1 : ¬ ("shown" : Str) = "counted" := by decide +kernel
  have e2 : ¬ ("shown" : Str) = "hanging" := by decide +kernel
  have e3 : ¬ ("shown" : Str) = "doubled" := by decide +kernel
  have e4 : ¬ ("shown" : Str) ∈ dfL s (step r s d).2 (step r s d).1 d := fun z => by
    rcases mem_dfL z with z | z | z | z <;> revert z <;> decide +kernel
  simp [m, e1, e2, e3, e4]
/-! ### the first standing of a kind -/
def hitD (r : Rl) (P : Std → Bool) (p : Row) : List Deed → Option (List Deed)
  | [] => none
  | d :: ds => if P (step r p.1 d).2 = true then some (p.2 ++ [d]) else hitD r P p ds
def hitR (r : Rl) (w : Wd) (P : Std → Bool) : List Row → Option (List Deed)
  | [] => none
  | p :: ps => match hitD r P p (deedsL w p.1) with
    | some h => some h
    | none => hitR r w P ps
variable {P : Std → Bool}
theorem hitD_app (p : Row) : ∀ (xs ys : List Deed), hitD a P p (xs ++ ys) = match hitD a P p xs with
    | some h => some h
    | none => hitD a P p ys
  | [], ys => rfl
  | d :: xs, ys => by
    rw [List.cons_append, hitD, hitD]
    split
    · rfl
    · exact hitD_app p xs ys
theorem hitR_app : ∀ (xs ys : List Row), hitR a w P (xs ++ ys) = match hitR a w P xs with
    | some h => some h
    | none => hitR a w P ys
  | [], ys => rfl
  | p :: xs, ys => by
    rw [List.cons_append, hitR, hitR]
    cases hitD a P p (deedsL w p.1) with
    | some h => rfl
    | none => exact hitR_app xs ys
theorem hitD_some (p : Row) : ∀ ds : List Deed, (hitD a P p ds).isSome = true ↔ ∃ d ∈ ds, P (step a p.1 d).2 = true
  | [] => by simp [hitD]
  | d :: ds => by
    rw [hitD]
    by_cases h : P (step a p.1 d).2 = true
    · simp [h]
    · rw [if_neg h, hitD_some p ds]
      simp [h]
theorem hitR_some : ∀ ps : List Row, (hitR a w P ps).isSome = true ↔ ∃ p ∈ ps, ∃ d ∈ deedsL w p.1, P (step a p.1 d).2 = true
  | [] => by simp [hitR]
  | p :: ps => by
    rw [hitR]
    have h1 := hitD_some (a := a) (P := P) p (deedsL w p.1)
    cases e : hitD a P p (deedsL w p.1) with
    | some h =>
      rw [e] at h1
      have := h1.mp rfl
      simp [this]
    | none =>
      rw [e] at h1
      have h2 : ¬ ∃ d ∈ deedsL w p.1, P (step a p.1 d).2 = true := fun z => by have := h1.mpr z; cases this
      simp only [hitR_some ps, List.mem_cons]
      constructor
      · rintro ⟨q, hq, z⟩; exact ⟨q, .inr hq, z⟩
      · rintro ⟨q, rfl | hq, z⟩
        · exact absurd z h2
        · exact ⟨q, hq, z⟩
/-! two rules that walk alike, beside one another -/
def diag (rows : List Row) : List PRow := rows.map fun p => ((p.1, p.1), p.2)
theorem diag_mem {t : Std} {rows : List Row} : (t, t) ∈ (diag rows).map (·.1) ↔ t ∈ rows.map (·.1) := by
  unfold diag
  rw [List.map_map]
  simp only [List.mem_map, Function.comp]
  constructor
  · rintro ⟨p, hp, e⟩
    injection e with e1 e2
    exact ⟨p, hp, e1⟩
  · rintro ⟨p, hp, rfl⟩
    exact ⟨p, hp, rfl⟩
theorem pturn_diag (h : Twin a b) (p : Row) : ∀ (ds : List Deed) (rows : List Row), (∀ d ∈ ds, unlike a b p.1 p.1 d = P (step a p.1 d).2) → pturn a b ((p.1, p.1), p.2) ds (diag rows) = match hitD a P p ds with
    | some h => .inl h
    | none => .inr (diag (ds.foldl (visit a p) rows))
  | [], rows, _ => rfl
  | d :: ds, rows, hu => by
    rw [pturn, hitD, show unlike a b ((p.1, p.1), p.2).1.1 ((p.1, p.1), p.2).1.2 d = P (step a p.1 d).2 from hu d List.mem_cons_self]
    by_cases hp : P (step a p.1 d).2 = true
    · rw [if_pos hp, if_pos hp]
    · rw [if_neg hp, if_neg hp, List.foldl_cons, show pvisit a b ((p.1, p.1), p.2) (diag rows) d = diag (visit a p rows d) from ?_]
      · exact pturn_diag h p ds _ fun x hx => hu x (List.mem_cons_of_mem _ hx)
      · unfold pvisit visit
        have e : nextP a b ((p.1, p.1), p.2) d = ((step a p.1 d).2, (step a p.1 d).2) := by unfold nextP; rw [h.st]
        rw [e]
        by_cases hm : (step a p.1 d).2 ∈ rows.map (·.1)
        · rw [if_pos hm, if_pos (diag_mem.mpr hm)]
        · rw [if_neg hm, if_neg (fun z => hm (diag_mem.mp z))]
          unfold diag
          rw [List.map_append]
          rfl
theorem visit_pre (p : Row) (rows : List Row) (d : Deed) : rows <+: visit a p rows d := by
  unfold visit
  split
  · exact List.prefix_refl _
  · exact List.prefix_append ..
theorem visits_pre (p : Row) : ∀ (ds : List Deed) (rows : List Row), rows <+: ds.foldl (visit a p) rows
  | [], rows => List.prefix_refl _
  | d :: ds, rows => (visit_pre p rows d).trans (visits_pre p ds _)
theorem rowsAt_pre (n : Nat) : rowsAt a w n <+: rowsAt a w (n + 1) := by
  rw [rowsAt, turnAt]
  split
  · exact List.prefix_refl _
  · exact visits_pre _ _ _
theorem rowsAt_pres (n : Nat) : ∀ k, rowsAt a w n <+: rowsAt a w (n + k)
  | 0 => List.prefix_refl _
  | k + 1 => (rowsAt_pres n k).trans (rowsAt_pre (n + k))
theorem hit_pre {xs ys : List Row} {h : List Deed} (hp : xs <+: ys) (e : hitR a w P xs = some h) : hitR a w P ys = some h := by
  obtain ⟨t, rfl⟩ := hp
  rw [hitR_app, e]
theorem take_pre {xs ys : List Row} {n m : Nat} (hp : xs <+: ys) (hn : n ≤ m) : xs.take n <+: ys.take m := by
  obtain ⟨t, rfl⟩ := hp
  rw [List.take_append]
  exact (List.take_prefix_take_left hn).trans (List.prefix_append ..)
theorem pAt_diag (wo : w.Ok) (h : Twin a b) (hu : ∀ s, InW w s → ∀ d ∈ deedsL w s, unlike a b s s d = P (step a s d).2) : ∀ n, pAt a b w n = match hitR a w P ((rowsAt a w n).take n) with
    | some h => .inl h
    | none => .inr (diag (rowsAt a w n))
  | 0 => rfl
  | n + 1 => by
    have ih := pAt_diag wo h hu n
    rw [pAt, ih]
    cases e : hitR a w P ((rowsAt a w n).take n) with
    | some h =>
      rw [hit_pre (take_pre (rowsAt_pre n) (Nat.le_succ n)) e]
    | none =>
      simp only
      have ok := rowsAt_ok wo a n
      rw [show (diag (rowsAt a w n))[n]? = ((rowsAt a w n)[n]?).map (fun p => ((p.1, p.1), p.2)) from List.getElem?_map ..]
      cases hp : (rowsAt a w n)[n]? with
      | none =>
        have hl : (rowsAt a w n).length ≤ n := List.getElem?_eq_none_iff.mp hp
        have e2 : rowsAt a w (n + 1) = rowsAt a w n := by rw [rowsAt, turnAt, hp]
        simp only [Option.map_none]
        rw [e2, List.take_of_length_le (Nat.le_succ_of_le hl)]
        rw [List.take_of_length_le hl] at e
        rw [e]
      | some p =>
        simp only [Option.map_some]
        have hlt := (List.getElem?_eq_some_iff.mp hp).1
        have e2 : rowsAt a w (n + 1) = (deedsL w p.1).foldl (visit a p) (rowsAt a w n) := by rw [rowsAt, turnAt, hp]
        have e3 : (rowsAt a w (n + 1)).take (n + 1) = (rowsAt a w n).take n ++ [p] := by
          obtain ⟨t, ht⟩ := rowsAt_pre (a := a) (w := w) n
          rw [← ht, List.take_append_of_le_length (by omega), List.take_succ, hp]
          rfl
        rw [e3, hitR_app, e]
        simp only
        rw [pturn_diag h p (deedsL w p.1) (rowsAt a w n) fun d hd => hu p.1 (ok.inw p (List.mem_of_getElem? hp)) d hd, hitR]
        cases hitD a P p (deedsL w p.1) with
        | some h => rfl
        | none => rw [e2]; rfl
theorem part_diag (wo : w.Ok) (h : Twin a b) (hu : ∀ s, InW w s → ∀ d ∈ deedsL w s, unlike a b s s d = P (step a s d).2) : partL a b w = hitR a w P (rowsF a w) := by
  have hF : rowsAt a w (capP w + capW w) = rowsF a w := by
    rw [Nat.add_comm]
    exact rows_stay a w ((rowsAt_ok wo a _).lenW wo) _
  have hd := pAt_diag wo h hu (capP w)
  unfold partL
  rw [hd]
  cases e : hitR a w P ((rowsAt a w (capP w)).take (capP w)) with
  | some h =>
    simp only
    refine (hit_pre ?_ e).symm
    rw [← hF]
    exact (List.take_prefix ..).trans (rowsAt_pres _ _)
  | none =>
    simp only
    rw [e] at hd
    have hl := (pAt_ok wo _ hd).lenP
    unfold diag at hl
    rw [List.length_map] at hl
    have e2 := rows_stay a w hl (capW w)
    rw [hF] at e2
    rw [e2, ← e, List.take_of_length_le hl]
end
end M


set_option maxRecDepth 100000
set_option maxHeartbeats 4000000
/-! a, b = e, f over any contents; list.index; k in a locked dict -/
namespace G
open PySem PySem.Spec PyProof.Rows L2
section
variable {X : Cx} {W : WX} {env : En} {D : DE} {v : V} {kvs : Kd} {a b e o : Expr} {pos p : Pos} {k : Str} {d : PyData} {k0 : Nat}
/-- fresh results of any content -/
def VX (X : Cx) (e : Expr) (env : En) (Pc : Ct → Prop) : Prop := ∀ (F H : Hp) (σ : St) (S : Foot), Sit X.K F H σ S env → ∀ Q : VK,
  (∀ v F' H' Sv c, Grow F H F' H' → Hold X.K F' H' v Sv c → (∀ a, Sv a → H a = none) → Pc c → Q v H') → wE X e σ H Q
theorem VC.vx {c : Ct} (h : VC X e env c) : VX X e env (fun c' => c' = c) := fun F H σ S s Q k => h F H σ S s Q fun v F' H' Sv g hv fr => k v F' H' Sv c g hv fr rfl
theorem VO.vx {R : Rs} (h : VO X e env R) : VX X e env (fun c' => ∃ v, c' = .own v R) := fun F H σ S s Q k => h F H σ S s Q fun v F' H' Sv g hv fr => k v F' H' Sv _ g hv fr ⟨v, rfl⟩
theorem ws_parX {i j : Nat} {x y : Str} {P1 P2 : Ct → Prop} {px py pt : Pos} {kt k2 pt2} (hc : X.calm = true) (hN : X.N.Nodup) (h1 : VX X a env P1) (h2 : VX X b env P2) (k : ∀ c1 c2, P1 c1 → P2 c2 → D.nx ((env.set i (some c1)).set j (some c2)))
    (hps : ∀ ta, PA X [a, b] ta → PS X (.Assign [.Tuple [.Name x px, .Name y py] kt pt] (.Tuple [a, b] k2 pt2) pos) (tPar i j ta) := by exact fun _ h => ps_par (by rfl) (by assumption) rfl rfl (by decide) rfl rfl h (by rfl)) (hs : starEach [a, b] X.env = (false, eval a X.env) :: starEach [b] X.env := by rfl) (hs2 : starEach [b] X.env = (false, eval b X.env) :: starEach [] X.env := by rfl) :
    WS X W (.Assign [.Tuple [.Name x px, .Name y py] kt pt] (.Tuple [a, b] k2 pt2) pos) D env := fun F H σ S s E m =>
  ⟨_, hps _ (pa_cons pwE (pa_cons pwE pa_nil hs2) hs), h1 F H σ S s _ fun v1 F1 H1 Sv1 c1 g1 q1 fr1 p1 => h2 F1 H1 σ S (s.grow g1) _ fun v2 F2 H2 Sv2 c2 g2 q2 fr2 p2 => by
    have s1 := s.grow g1
    have s2 := s1.grow g2
    have g := g1.trans g2
    have q1' : Hold X.K F2 H2 v1 Sv1 c1 := q1.keep g2.f (fun z hz => by
      obtain ⟨_, ob, ho⟩ := q1.no hz
      rw [g2.h _ _ ho, ho]) (fun z hz => by
      obtain ⟨n, ob, ho⟩ := q1.no hz
      exact g2.noF n ho)
    obtain ⟨S2, s2', t2⟩ := s2.put (i := i) q1' (fun j z hj hz => by
      obtain ⟨_, ob, ho⟩ := s.no hj
      rw [fr1 z hz] at ho
      cases ho)
    have t2' : ∀ z, tot S2 z → ∃ ob, H1 z = some ob := fun z hz => by
      rcases t2 z hz with ⟨l, y⟩ | y
      · exact (s1.no y).2
      · exact (q1.no y).2
    obtain ⟨S3, s3, t3⟩ := s2'.put (i := j) q2 (fun l z hl hz => by
      obtain ⟨ob, ho⟩ := t2' z ⟨l, hl⟩
      rw [fr2 z hz] at ho
      cases ho)
    refine ⟨v1, v2, rfl, m.nx F2 H2 _ S3 _ ⟨g.f, fun z o e _ => g.h z o e, fun z o e => (g.new z o e).elim .inl fun y => .inr (.inl y), fun z hz => ?_⟩ s3 (k c1 c2 p1 p2)⟩
    rcases t3 z hz with y | y
    · rcases t2 z y with u | u
      · exact .inl u
      · exact .inr (fr1 z u)
    · exact .inr (g1.h.free (fr2 z y))⟩
/-- l.index(x), of an item that is there -/
theorem vc_index {ds : List PyData} {z : PyData} {j : Nat} {apos : Pos} (ha : VC X o env (.dat (.list ds))) (hb : VC X e env (.dat d)) (hfd : flatD d = true) (hfs : ds.all flatD = true) (hj : ds[j]? = some z) (hz : PyData.eqv z d = true) (hno : ∀ (m : Nat) (z' : PyData), m < j → ds[m]? = some z' → PyData.eqv z' d = false)
    (hbm : PE X (.Call (.Attribute o (Str.ofString "index") apos) [e] [] pos) (tBM X.K "list" (rIndex X.K) (wE X o) (tCons (wE X e) tNil)) := by exact pe_bm PySem.F.plainAttrs_list PySem.F.slot_list_index PySem.F.type_list_index mt_index pwE (pa_cons pwE pa_nil)) :
    VC X (.Call (.Attribute o (Str.ofString "index") apos) [e] [] pos) env (.dat (.int (j : Int))) := fun F H σ S s Q k =>
  ⟨_, hbm, ha F H σ S s _ fun v F1 H1 _ g1 hv _ => by
    have hd1 : Dp X.K H1 v (.list ds) := dp_ext g1.sub hv.1
    have hv1 := hv.1
    cases hd1 with
    | @lst l xs _ hs hds =>
      refine ⟨.inl ⟨rfl, _, hs⟩, hb F1 H1 σ S (s.grow g1) _ fun y F2 H2 _ g2 hy _ => ?_⟩
      have hd2 : Dp X.K H2 (.ref l) (.list ds) := dp_ext g2.sub (dp_mono g2.f hv1)
      cases hd2 with
      | @lst _ ys _ hs2 hds2 =>
        have hy2 : Dp X.K H2 y d := dp_ext g2.sub hy.1
        obtain ⟨w, w1, w2⟩ := dps_get hds2 hj
        have hfz : flatD z = true := List.all_eq_true.mp hfs z (List.mem_of_getElem? hj)
        refine ⟨l, ys, y, j, w, rfl, rfl, hs2, flat_dp hy2 hfd, flats_dp hds2 hfs, w1, by rw [eqV_dp w2 hy2 hfz hfd]; exact hz, fun m z' hm hz' => ?_, k (.int (j : Int)) F2 H2 (fun _ => False) (g1.trans g2) ⟨.int _, fun _ z => z⟩ fun _ z => z.elim⟩
        obtain ⟨d', d1, d2⟩ := dps_getv hds2 hz'
        rw [eqV_dp d2 hy2 (List.all_eq_true.mp hfs d' (List.mem_of_getElem? d1)) hfd]
        exact hno m d' hm d1⟩
theorem tc_pin (i : Nat) (hr : Room k0 X.A) (hk : VC X e env (.dat (.str k))) (h : env[i]? = some (some (.pin (pdk X.K kvs))) := by rfl) {x : Str} {p1 : Pos} (hN : X.N[i]? = some x := by rfl)
    (hv : Vis X.env.scope x := by first | exact Or.inl rfl | exact Or.inr (Or.inl rfl) | exact Or.inr (Or.inr rfl)) (hd : (x == ("__debug__" : Str)) = false := by decide) (hcd : (x == ("__classdict__" : Str)) = false := by decide)
    (hm : behindInMarks .In (.Name x p1) = false := by rfl) : TC X (.Compare e [.In] [.Name x p1] pos) env (getS kvs k).isSome := fun F H σ S s Q q => by
  obtain ⟨v', e1, _⟩ := s.slot i _ h
  refine ⟨_, pt_cmp (pc_din (L2.hu_of hr) pwE (pe_var hN hv hd hcd)) hm, hk F H σ S s _ fun u F1 H1 _ g1 h1 _ => ⟨v', e1, ?_⟩⟩
  have q1 := h1.1
  cases q1
  obtain ⟨a, o, us, ea, h3, h4⟩ := pin_dget (s.grow g1) h e1
  refine ⟨a, _, ea, .inl ⟨us, .inr k, .inr ⟨o, g1.sub _ _ h3⟩, rfl, rfl⟩, (getS kvs k).isSome, ?_, q F1 H1 g1⟩
  rcases kd_get (k := k) h4 with ⟨z, y⟩ | ⟨d', w, z, y, hw⟩
  · rw [z, y]; rfl
  · rw [z, y]; rfl
theorem vc_pinB (i : Nat) (hr : Room k0 X.A) (hk : VC X e env (.dat (.str k))) (h : env[i]? = some (some (.pin (pdk X.K kvs))) := by rfl) {x : Str} {p1 : Pos} (hN : X.N[i]? = some x := by rfl)
    (hv : Vis X.env.scope x := by first | exact Or.inl rfl | exact Or.inr (Or.inl rfl) | exact Or.inr (Or.inr rfl)) (hd : (x == ("__debug__" : Str)) = false := by decide) (hcd : (x == ("__classdict__" : Str)) = false := by decide)
    (hm : behindInMarks .In (.Name x p1) = false := by rfl) : VC X (.Compare e [.In] [.Name x p1] pos) env (.dat (.bool (getS kvs k).isSome)) := fun F H σ S s Q q => by
  obtain ⟨v', e1, _⟩ := s.slot i _ h
  refine ⟨_, pe_cmp (pc_din (L2.hu_of hr) pwE (pe_var hN hv hd hcd)) hm, hk F H σ S s _ fun u F1 H1 _ g1 h1 _ => ⟨v', e1, ?_⟩⟩
  have q1 := h1.1
  cases q1
  obtain ⟨a, o, us, ea, h3, h4⟩ := pin_dget (s.grow g1) h e1
  refine ⟨a, _, ea, .inl ⟨us, .inr k, .inr ⟨o, g1.sub _ _ h3⟩, rfl, rfl⟩, ?_⟩
  have ek : (valV us (.inr k)).isSome = (getS kvs k).isSome := by
    rcases kd_get (k := k) h4 with ⟨z, y⟩ | ⟨d', w, z, y, hw⟩
    · rw [z, y]; rfl
    · rw [z, y]; rfl
  rw [ek]
  exact q (.bl _) F1 H1 (fun _ => False) g1 ⟨.bl _, fun _ z => z⟩ fun _ z => z.elim
end
end G
/-! counting and joining, plain -/
namespace M
open PySem G Pg L2
section
variable {r : Rl} {w : Wd} {s : Std} {d : Deed}
theorem filter_lt {α : Type} {p q : α → Bool} (hpq : ∀ x, p x = true → q x = true) : ∀ {xs : List α} {x : α}, x ∈ xs → q x = true → p x = false → (xs.filter p).length < (xs.filter q).length
  | y :: xs, x, hx, hq, hp => by
    have hle : (xs.filter p).length ≤ (xs.filter q).length := by
      clear hx hq hp
      induction xs with
      | nil => exact Nat.le_refl _
      | cons z zs ih =>
        rw [List.filter_cons, List.filter_cons]
        by_cases h1 : p z = true
        · rw [if_pos h1, if_pos (hpq z h1)]; simpa using ih
        · rw [if_neg h1]
          split
          · exact Nat.le_succ_of_le ih
          · exact ih
    rw [List.filter_cons, List.filter_cons]
    rcases List.mem_cons.mp hx with rfl | hx
    · rw [if_pos hq, if_neg (by rw [hp]; decide)]
      exact Nat.lt_succ_of_le hle
    · have ih := filter_lt hpq hx hq hp
      by_cases h1 : p y = true
      · rw [if_pos h1, if_pos (hpq y h1)]; simpa using ih
      · rw [if_neg h1]
        split
        · exact Nat.lt_succ_of_lt ih
        · exact ih
def flipC (r : Rl) : Rl := { r with count := !r.count }
def flipJ (r : Rl) : Rl := { r with join := !r.join }
theorem twin_flipC (r : Rl) : Twin r (flipC r) := ⟨fun s d => by cases d <;> rfl⟩
theorem twin_flipJ (r : Rl) : Twin r (flipJ r) := ⟨fun s d => by cases d <;> rfl⟩
def fGone (s : Std) : Bool := s.ts.any fun t => decide (t.2.1 = .gone)
def cntB (b : Bool) (s : Std) (o : Nat) : Nat := (s.ts.filter fun t => decide (t.1 = o) && (decide (t.2.1 = .live) || (b && decide (t.2.1 = .gone)))).length
theorem cntB_eq (h : fGone s = false) (b : Bool) (o : Nat) : cntB b s o = cntB false s o := by
  unfold cntB
  congr 1
  refine List.filter_congr fun t ht => ?_
  have : decide (t.2.1 = S3.gone) = false := by
    unfold fGone at h
    rw [List.any_eq_false] at h
    simpa using h t ht
  rw [this]
  simp
theorem cntB_ne {t : Th} (ht : t ∈ s.ts) (hg : t.2.1 = .gone) : cntB false s t.1 < cntB true s t.1 := by
  unfold cntB
  exact filter_lt (fun x hx => by simp only [Bool.and_eq_true, Bool.or_eq_true, Bool.false_and] at hx ⊢; exact ⟨hx.1, hx.2.elim .inl fun z => by cases z⟩) ht (by simp [hg]) (by simp [hg])
theorem unlike_twin {a b : Rl} (h : Twin a b) : unlike a b s s d = decide (toldN a (step a s d).2 ≠ toldN b (step a s d).2) := by
  unfold unlike
  rw [h.st s d]
  simp
theorem unlike_flipC (h : InW w s) (hd : d ∈ deedsL w s) : unlike r (flipC r) s s d = fGone (step r s d).2 := by
  rw [unlike_twin (twin_flipC r)]
  have hw := inw_step (r := r) h hd
  generalize (step r s d).2 = t at hw
  have e1 : ∀ o, counted r t o = cntB r.count t o := fun o => rfl
  have e2 : ∀ o, counted (flipC r) t o = cntB (!r.count) t o := fun o => rfl
  have e3 : shown (flipC r) t = shown r t := rfl
  cases hg : fGone t with
  | false =>
    rw [decide_eq_false_iff_not, Decidable.not_not]
    unfold toldN
    rw [e3]
    congr 1
    refine List.map_congr_left fun o _ => ?_
    rw [e1, e2, cntB_eq hg, cntB_eq hg (!r.count)]
  | true =>
    rw [decide_eq_true_eq]
    intro he
    unfold toldN at he
    injection he with he _
    unfold fGone at hg
    obtain ⟨x, hx, hxg⟩ := List.any_eq_true.mp hg
    have hxg : x.2.1 = .gone := of_decide_eq_true hxg
    have := List.map_inj_left.mp he x.1 (List.mem_range.mpr (hw.th x hx).1)
    rw [e1, e2] at this
    have hlt := cntB_ne hx hxg
    cases hc : r.count <;> rw [hc] at this <;> simp only [Bool.not_true, Bool.not_false] at this <;> omega
def shB (b : Bool) (s : Std) (p : Th × Nat) : Bool := decide (p.1.2.1 = .live) && (b || decide (oSt s p.1.1 = some .live))
theorem shown_B (r : Rl) (s : Std) : shown r s = (s.ts.zipIdx.filter (shB r.join s)).map (·.2) := rfl
theorem shB_eq (h : fHanging s = false) (b : Bool) : s.ts.zipIdx.filter (shB b s) = s.ts.zipIdx.filter (shB false s) := by
  refine List.filter_congr fun p hp => ?_
  unfold fHanging at h
  rw [List.any_eq_false] at h
  have hm : p.1 ∈ s.ts := List.fst_mem_of_mem_zipIdx hp
  have := h p.1 hm
  unfold shB
  cases hl : decide (p.1.2.1 = S3.live) with
  | false => simp
  | true =>
    rw [hl] at this
    simp only [Bool.true_and, Bool.not_eq_true', Bool.not_eq_false] at this
    have : decide (oSt s p.1.1 = some .live) = true := by simpa using this
    rw [this]
    simp
theorem shB_ne (h : fHanging s = true) : (s.ts.zipIdx.filter (shB false s)).length < (s.ts.zipIdx.filter (shB true s)).length := by
  unfold fHanging at h
  obtain ⟨t, ht, hx⟩ := List.any_eq_true.mp h
  obtain ⟨i, hi⟩ := List.mem_iff_getElem?.mp ht
  simp only [Bool.and_eq_true, Bool.not_eq_true'] at hx
  refine filter_lt (x := (t, i)) (fun x hx => ?_) (List.mem_zipIdx_iff_getElem?.mpr hi) ?_ ?_
  · unfold shB at hx ⊢
    simp only [Bool.and_eq_true] at hx ⊢
    exact ⟨hx.1, rfl⟩
  · unfold shB
    rw [hx.1]
    rfl
  · unfold shB
    rw [hx.1, hx.2]
    rfl
theorem unlike_flipJ (r : Rl) (s : Std) (d : Deed) : unlike r (flipJ r) s s d = fHanging (step r s d).2 := by
  rw [unlike_twin (twin_flipJ r)]
  generalize (step r s d).2 = t
  have e3 : ∀ o, counted (flipJ r) t o = counted r t o := fun o => rfl
  have e2 : shown (flipJ r) t = (t.ts.zipIdx.filter (shB (!r.join) t)).map (·.2) := rfl
  cases hg : fHanging t with
  | false =>
    rw [decide_eq_false_iff_not, Decidable.not_not]
    unfold toldN
    rw [e2, shown_B, shB_eq hg, shB_eq hg (!r.join)]
    rfl
  | true =>
    rw [decide_eq_true_eq]
    intro he
    unfold toldN at he
    injection he with _ he
    rw [e2, shown_B] at he
    have hl := congrArg List.length he
    rw [List.length_map, List.length_map] at hl
    have hlt := shB_ne hg
    cases hc : r.join <;> rw [hc] at hl <;> simp only [Bool.not_true, Bool.not_false] at hl <;> omega
theorem fShown_eq (r : Rl) (s : Std) : fShown r s = (r.join && fHanging s) := by
  rw [Bool.eq_iff_iff]
  unfold fShown fHanging
  rw [shown_B]
  simp only [List.any_eq_true, Bool.and_eq_true, List.mem_map, List.mem_filter]
  constructor
  · rintro ⟨n, ⟨p, ⟨hp, hs⟩, rfl⟩, hn⟩
    have hget := List.mem_zipIdx_iff_getElem?.mp hp
    have ho : ownAt s p.2 = p.1.1 := by
      unfold ownAt
      rw [List.getD_eq_getElem?_getD, hget]
      rfl
    rw [ho] at hn
    unfold shB at hs
    simp only [Bool.and_eq_true, Bool.or_eq_true] at hs
    refine ⟨hs.2.resolve_right fun z => ?_, p.1, List.fst_mem_of_mem_zipIdx hp, hs.1, hn⟩
    rw [z] at hn
    cases hn
  · rintro ⟨hj, t, ht, h1, h2⟩
    obtain ⟨i, hi⟩ := List.mem_iff_getElem?.mp ht
    have ho : ownAt s i = t.1 := by
      unfold ownAt
      rw [List.getD_eq_getElem?_getD, hi]
      rfl
    refine ⟨i, ⟨(t, i), ⟨List.mem_zipIdx_iff_getElem?.mpr hi, ?_⟩, rfl⟩, by rw [ho]; exact h2⟩
    unfold shB
    rw [h1, hj]
    rfl
/-! what the law asks -/
theorem shown_least (r : Rl) (w : Wd) : (getS (leastL r w) "shown").isSome = (r.join && (getS (leastL r w) "hanging").isSome) := by
  rw [Bool.eq_iff_iff, Bool.and_eq_true, least_some, least_some]
  simp only [mem_shown, mem_hanging, fShown_eq, Bool.and_eq_true]
  constructor
  · rintro ⟨p, hp, d, hd, h1, h2⟩; exact ⟨h1, p, hp, d, hd, h2⟩
  · rintro ⟨h1, p, hp, d, hd, h2⟩; exact ⟨p, hp, d, hd, h1, h2⟩
theorem part_flipC (wo : w.Ok) : partL r (flipC r) w = hitR r w fGone (rowsF r w) := part_diag wo (twin_flipC r) fun s hs d hd => unlike_flipC hs hd
theorem part_flipJ (wo : w.Ok) : (partL r (flipJ r) w).isNone = !(getS (leastL r w) "hanging").isSome := by
  rw [part_diag wo (twin_flipJ r) fun s _ d _ => unlike_flipJ r s d, ← Option.not_isSome]
  congr 1
  rw [Bool.eq_iff_iff, hitR_some, least_some]
  simp only [mem_hanging]
theorem flipC_faults {y : Str} (hy : y ≠ "counted") (s : Std) (d : Deed) : y ∈ faultsOf r s d ↔ y ∈ faultsOf (flipC r) s d := twin_faults (twin_flipC r) (fun e => absurd e hy) (fun _ s => rfl) s d
theorem flipJ_faults {y : Str} (hy : y ≠ "shown") (s : Std) (d : Deed) : y ∈ faultsOf r s d ↔ y ∈ faultsOf (flipJ r) s d := twin_faults (twin_flipJ r) (fun _ s => rfl) (fun e => absurd e hy) s d
/-- the dict of can but for one word -/
noncomputable def butL (r : Rl) (w : Wd) (name : Str) : List Str := (comeL r w).filter fun x => decide (x ≠ name)
noncomputable def butD (r : Rl) (w : Wd) (name : Str) : PyData := .list ((butL r w name).map fun x => .list [.str x, (getS (leastL r w) x).getD .none])
theorem butD_twin {a b : Rl} {name : Str} (h : ∀ y, y ≠ name → getS (leastL a w) y = getS (leastL b w) y) : butD a w name = butD b w name := by
  unfold butD
  have e : butL a w name = butL b w name := by
    unfold butL comeL
    rw [List.filter_filter, List.filter_filter]
    refine List.filter_congr fun x _ => ?_
    by_cases hx : x = name
    · simp [hx]
    · rw [h x hx]
  rw [e]
  congr 1
  refine List.map_congr_left fun x hx => ?_
  rw [h x (of_decide_eq_true (List.mem_filter.mp hx).2)]
end
end M


set_option maxRecDepth 100000
set_option maxHeartbeats 4000000
/-! the law's _law_but, _law_gone, _law_first -/
namespace M
open PySem G Pg L2
theorem okL_part {one two : Rl} {w : Wd} (wo : w.Ok) (fw : Few w) : okL 2 (optH (partL one two w)) := by
  cases e : partL one two w with
  | none => exact okL_none
  | some h =>
    obtain ⟨h1, h2⟩ := part_ok wo e
    have := capP_le fw
    refine okL_big (by unfold dsD; rw [List.length_map]; omega) fun d hd => ?_
    obtain ⟨x, hx, rfl⟩ := List.mem_map.mp hd
    exact okL_deed (h2 x hx)
theorem few_of {w : Wd} (wo : w.Ok) (h : LwOk w) : Few w := by
  have hk : w.keys.length ≤ 2 := by rcases wo.k with ⟨a, e⟩ | ⟨a, b, e, _⟩ <;> rw [e] <;> simp
  obtain ⟨keys, no, nt⟩ := w
  have hno := wo.o
  unfold LwOk at h
  simp only at h hk hno
  unfold Few bndW
  simp only
  generalize keys.length = n at hk
  have hn : n = 0 ∨ n = 1 ∨ n = 2 := by omega
  have ho : no = 1 ∨ no = 2 := by omega
  have ht : nt = 0 ∨ nt = 1 ∨ nt = 2 := by omega
  rcases hn with rfl | rfl | rfl <;> rcases ho with rfl | rfl <;> rcases ht with rfl | rfl | rfl <;> first | decide | omega
theorem can_isSome {r : Rl} {w : Wd} {x : Str} (hx : x ∈ faultsL) : (getS (canL r w) x).isSome = (getS (leastL r w) x).isSome := by
  by_cases h : x ∈ comeL r w
  · rw [canL_get h]
  · have h2 : (getS (leastL r w) x).isSome = false := by
      cases e : (getS (leastL r w) x).isSome with
      | false => rfl
      | true => exact absurd (List.mem_filter.mpr ⟨hx, e⟩) h
    rw [h2]
    cases e : getS (canL r w) x with
    | none => rfl
    | some d =>
      exfalso
      unfold getS at e
      obtain ⟨p, hp, _⟩ := Option.map_eq_some_iff.mp e
      have hm := List.mem_of_find?_eq_some hp
      have hq := List.find?_some hp
      have : p.1 ∈ (canL r w).map (·.1) := List.mem_map.mpr ⟨p, hm, rfl⟩
      rw [canL_keys] at this
      rw [of_decide_eq_true hq] at this
      exact h this
theorem okL_but {r : Rl} {w : Wd} (wo : w.Ok) (name : Str) : okL 4 (butD r w name) := by
  refine okL_lst ?_ fun d hd => ?_
  · rw [List.length_map]
    have h1 := List.length_filter_le (fun x => decide (x ≠ name)) (comeL r w)
    have h2 := List.length_filter_le (fun x => (getS (leastL r w) x).isSome) faultsL
    have h8 : faultsL.length = 8 := rfl
    unfold butL comeL at *
    omega
  · obtain ⟨x, hx, rfl⟩ := List.mem_map.mp hd
    obtain ⟨hx1, _⟩ := List.mem_filter.mp hx
    obtain ⟨hx2, hx3⟩ := List.mem_filter.mp hx1
    refine okL_lst (Nat.le_of_ble_eq_true rfl) (okL_mem2 (okL_str (faultsL_str x hx2)) ?_)
    exact least_list wo (getS_eq hx3)
theorem hitR_at {r : Rl} {w : Wd} {P : Std → Bool} {rows : List Row} {i : Nat} {p : Row} {h : List Deed} (hp : rows[i]? = some p) (h1 : hitR r w P (rows.take i) = none) (h2 : hitD r P p (deedsL w p.1) = some h) : hitR r w P rows = some h := by
  have e : rows.take (i + 1) = rows.take i ++ [p] := by rw [List.take_succ, hp]; rfl
  refine hit_pre (xs := rows.take (i + 1)) (List.take_prefix ..) ?_
  rw [e, hitR_app, h1]
  simp only
  rw [hitR, h2]
theorem hitR_no {r : Rl} {w : Wd} {P : Std → Bool} {rows : List Row} {i : Nat} {p : Row} (hp : rows[i]? = some p) (h1 : hitR r w P (rows.take i) = none) (h2 : hitD r P p (deedsL w p.1) = none) : hitR r w P (rows.take (i + 1)) = none := by
  rw [List.take_succ, hp]
  show hitR r w P (rows.take i ++ [p]) = none
  rw [hitR_app, h1]
  simp only
  rw [hitR, h2]
  rfl
theorem hitD_at {r : Rl} {P : Std → Bool} {p : Row} {ds : List Deed} {i : Nat} {q : Deed} (hq : ds[i]? = some q) (h1 : hitD r P p (ds.take i) = none) : (P (step r p.1 q).2 = true → hitD r P p ds = some (p.2 ++ [q])) ∧ (P (step r p.1 q).2 = false → hitD r P p (ds.take (i + 1)) = none) := by
  have e : ds.take (i + 1) = ds.take i ++ [q] := by rw [List.take_succ, hq]; rfl
  constructor
  · intro h
    have hlt := (List.getElem?_eq_some_iff.mp hq).1
    have e2 : ds = ds.take (i + 1) ++ ds.drop (i + 1) := (List.take_append_drop ..).symm
    rw [e2, e, hitD_app, hitD_app, h1]
    simp only
    rw [hitD, if_pos h]
  · intro h
    rw [e, hitD_app, h1]
    simp only
    rw [hitD, if_neg (by rw [h]; decide)]
    rfl
end M
namespace Pg
open PySem L2 G M
section
variable {P : Program} {w : World} {K : PySem.W.Frag} {mg : Str → Option Value} {base : Heap} {C CB CW : Addr}
theorem vc_parting {X : Cx} {env : En} {e1 e2 e3 : Expr} {p pos : Pos} {one two : Rl} {wd : Wd} {k : Nat} (wo : wd.Ok) (fw : Few wd) (FP : Fn X.prog X.w X.K X.mg X.base "parting" k (sp_parting X.K C)) (hr : Room k X.A) (ha : AC X [e1, e2, e3] env [rl X.K C one, rl X.K C two, .dat wd.d]) (hg : Gl X "parting" := by rfl)
    (he : starEach [e1, e2, e3] X.env = (false, eval e1 X.env) :: starEach [e2, e3] X.env := by rfl) (hpl : (backTo pos (starEach [e2, e3] X.env)).any (·.1) = false := by rfl) : VC X (.Call (.Name "parting" p) [e1, e2, e3] [] pos) env (.dat (optH (partL one two wd))) := by
  cases ho : partL one two wd with
  | none => exact vc_call (c := .dat .none) FP hr ha ⟨one, two, wd, rfl, wo, fw, (fun h e => by rw [ho] at e; cases e), fun _ => rfl⟩ hg (by decide) he hpl
  | some h => exact VO.dat (vo_call (R := olst X.K (dsD h)) FP hr ha ⟨one, two, wd, rfl, wo, fw, (fun h' e v => by rw [ho] at e; cases e; exact ⟨v, rfl⟩), fun e => by rw [ho] at e; cases e⟩ hg (by decide) he hpl)
def sp_gone : G.Spec := fun cs R _ => ∃ s : Std, cs = [.dat s.l] ∧ s.Ok ∧ R (.dat (.bool (fGone s))) cs
def sp_but (K : PySem.W.Frag) : G.Spec := fun cs R _ => ∃ (r : Rl) (wd : Wd) (name : Str), cs = [.pin (pdk K (canL r wd)), .dat (.str name)] ∧ PyData.strOk name = true ∧ R (.dat (butD r wd name)) cs
def sp_first : G.Spec := fun cs R _ => ∃ (r : Rl) (wd : Wd), cs = [.dat (rpD r), .dat wd.d] ∧ wd.Ok ∧ R (.dat (optH (hitR r wd fGone (rowsF r wd)))) cs
end
end Pg


set_option maxRecDepth 100000
set_option maxHeartbeats 4000000
/-! the world of one key, two owners and one thing, by numbers (printed by gen5.py) -/
namespace M
open PySem G Pg L2
namespace W5
def wd : Wd := ⟨["a"], 2, 1⟩
def dft : Rl := ⟨true, true, .alone, true, .none, true, .plain, true, true⟩
def sts : List Std := [⟨[], []⟩,
  ⟨[("a", .live)], []⟩,
  ⟨[("a", .live)], [(0, .live, .non)]⟩,
  ⟨[("a", .gone)], []⟩,
  ⟨[("a", .gone)], [(0, .live, .non)]⟩,
  ⟨[("a", .gone)], [(0, .gone, .num 0)]⟩,
  ⟨[("a", .live)], [(0, .gone, .self)]⟩,
  ⟨[("a", .gone), ("a", .live)], []⟩,
  ⟨[("a", .cleared)], []⟩,
  ⟨[("a", .gone), ("a", .live)], [(0, .live, .non)]⟩,
  ⟨[("a", .gone)], [(0, .gone, .self)]⟩,
  ⟨[("a", .cleared)], [(0, .live, .non)]⟩,
  ⟨[("a", .cleared)], [(0, .cleared, .non)]⟩,
  ⟨[("a", .gone), ("a", .live)], [(0, .gone, .num 0)]⟩,
  ⟨[("a", .live)], [(0, .gone, .num 0)]⟩,
  ⟨[("a", .live)], [(0, .cleared, .non)]⟩,
  ⟨[("a", .gone), ("a", .live)], [(1, .live, .non)]⟩,
  ⟨[("a", .gone), ("a", .gone)], []⟩,
  ⟨[("a", .live), ("a", .live)], []⟩,
  ⟨[("a", .cleared), ("a", .live)], []⟩,
  ⟨[("a", .gone), ("a", .gone)], [(0, .live, .non)]⟩,
  ⟨[("a", .gone), ("a", .live)], [(0, .gone, .self)]⟩,
  ⟨[("a", .live), ("a", .live)], [(0, .live, .non)]⟩,
  ⟨[("a", .cleared), ("a", .live)], [(0, .live, .non)]⟩,
  ⟨[("a", .cleared), ("a", .live)], [(0, .cleared, .non)]⟩,
  ⟨[("a", .cleared)], [(0, .gone, .self)]⟩,
  ⟨[("a", .gone), ("a", .gone)], [(0, .gone, .num 0)]⟩,
  ⟨[("a", .live), ("a", .live)], [(0, .gone, .num 0)]⟩,
  ⟨[("a", .gone)], [(0, .cleared, .non)]⟩,
  ⟨[("a", .gone), ("a", .gone)], [(1, .live, .non)]⟩,
  ⟨[("a", .gone), ("a", .gone)], [(1, .gone, .num 1)]⟩,
  ⟨[("a", .gone), ("a", .live)], [(1, .gone, .self)]⟩,
  ⟨[("a", .live), ("a", .live)], [(1, .live, .non)]⟩,
  ⟨[("a", .cleared), ("a", .live)], [(1, .live, .non)]⟩,
  ⟨[("a", .live), ("a", .gone)], []⟩,
  ⟨[("a", .cleared), ("a", .cleared)], []⟩,
  ⟨[("a", .cleared), ("a", .gone)], []⟩,
  ⟨[("a", .gone), ("a", .gone)], [(0, .gone, .self)]⟩,
  ⟨[("a", .live), ("a", .gone)], [(0, .live, .non)]⟩,
  ⟨[("a", .cleared), ("a", .cleared)], [(0, .live, .non)]⟩,
  ⟨[("a", .cleared), ("a", .cleared)], [(0, .cleared, .non)]⟩,
  ⟨[("a", .gone), ("a", .cleared)], [(0, .live, .non)]⟩,
  ⟨[("a", .live), ("a", .live)], [(0, .gone, .self)]⟩,
  ⟨[("a", .cleared), ("a", .gone)], [(0, .live, .non)]⟩,
  ⟨[("a", .cleared), ("a", .live)], [(0, .gone, .self)]⟩,
  ⟨[("a", .cleared), ("a", .gone)], [(0, .cleared, .non)]⟩,
  ⟨[("a", .live), ("a", .gone)], [(0, .gone, .num 0)]⟩,
  ⟨[("a", .live), ("a", .live)], [(0, .cleared, .non)]⟩,
  ⟨[("a", .gone), ("a", .live)], [(0, .cleared, .non)]⟩,
  ⟨[("a", .gone), ("a", .gone)], [(1, .gone, .self)]⟩,
  ⟨[("a", .live), ("a", .gone)], [(1, .live, .non)]⟩,
  ⟨[("a", .cleared), ("a", .cleared)], [(1, .live, .non)]⟩,
  ⟨[("a", .cleared), ("a", .cleared)], [(1, .cleared, .non)]⟩,
  ⟨[("a", .cleared), ("a", .gone)], [(1, .live, .non)]⟩,
  ⟨[("a", .live), ("a", .gone)], [(1, .gone, .num 1)]⟩,
  ⟨[("a", .gone), ("a", .live)], [(1, .gone, .num 1)]⟩,
  ⟨[("a", .live), ("a", .live)], [(1, .gone, .self)]⟩,
  ⟨[("a", .cleared), ("a", .live)], [(1, .cleared, .non)]⟩,
  ⟨[("a", .cleared), ("a", .gone)], [(1, .gone, .num 1)]⟩,
  ⟨[("a", .cleared), ("a", .live)], [(1, .gone, .self)]⟩,
  ⟨[("a", .live), ("a", .cleared)], []⟩,
  ⟨[("a", .live), ("a", .gone)], [(0, .gone, .self)]⟩,
  ⟨[("a", .live), ("a", .cleared)], [(0, .live, .non)]⟩,
  ⟨[("a", .cleared), ("a", .cleared)], [(0, .gone, .self)]⟩,
  ⟨[("a", .gone), ("a", .cleared)], [(0, .gone, .self)]⟩,
  ⟨[("a", .cleared), ("a", .gone)], [(0, .gone, .self)]⟩,
  ⟨[("a", .live), ("a", .cleared)], [(0, .cleared, .non)]⟩,
  ⟨[("a", .live), ("a", .gone)], [(0, .cleared, .non)]⟩,
  ⟨[("a", .gone), ("a", .gone)], [(0, .cleared, .non)]⟩,
  ⟨[("a", .live), ("a", .gone)], [(1, .gone, .self)]⟩,
  ⟨[("a", .live), ("a", .cleared)], [(1, .live, .non)]⟩,
  ⟨[("a", .live), ("a", .cleared)], [(1, .cleared, .non)]⟩,
  ⟨[("a", .cleared), ("a", .cleared)], [(1, .gone, .self)]⟩,
  ⟨[("a", .cleared), ("a", .gone)], [(1, .gone, .self)]⟩,
  ⟨[("a", .live), ("a", .live)], [(1, .gone, .num 1)]⟩,
  ⟨[("a", .live), ("a", .live)], [(1, .cleared, .non)]⟩,
  ⟨[("a", .cleared), ("a", .gone)], [(1, .cleared, .non)]⟩,
  ⟨[("a", .cleared), ("a", .live)], [(1, .gone, .num 1)]⟩,
  ⟨[("a", .gone), ("a", .cleared)], []⟩,
  ⟨[("a", .gone), ("a", .cleared)], [(0, .gone, .num 0)]⟩,
  ⟨[("a", .live), ("a", .cleared)], [(0, .gone, .self)]⟩,
  ⟨[("a", .gone), ("a", .cleared)], [(0, .cleared, .non)]⟩,
  ⟨[("a", .gone), ("a", .cleared)], [(1, .live, .non)]⟩,
  ⟨[("a", .live), ("a", .cleared)], [(1, .gone, .self)]⟩,
  ⟨[("a", .gone), ("a", .cleared)], [(1, .cleared, .non)]⟩,
  ⟨[("a", .gone), ("a", .live)], [(1, .cleared, .non)]⟩,
  ⟨[("a", .live), ("a", .gone)], [(1, .cleared, .non)]⟩,
  ⟨[("a", .live), ("a", .cleared)], [(0, .gone, .num 0)]⟩,
  ⟨[("a", .gone), ("a", .cleared)], [(1, .gone, .self)]⟩,
  ⟨[("a", .gone), ("a", .gone)], [(1, .cleared, .non)]⟩]
def dds : List Deed := [.own "a", .put 0, .put 1, .move 0 0, .move 0 1, .mark 0, .mark 1, .take 0, .fetch 0, .fetch 1, .raise 0, .clear]
def bools : List Bool := [true, false]
def mks : List Mk := [.alone, .along, .barred]
def bks : List Bk := [.none, .same, .all]
def cls : List Cl := [.plain, .along, .kept]
def e00 : List Nat := [0, 11]
def e10 : List Nat := [0, 1, 5, 8, 11]
def e11 : List Nat := [0, 3, 5, 7, 8, 10, 11]
def e20 : List Nat := [1, 2, 5, 6, 8, 9, 11]
def e21 : List Nat := [3, 4, 5, 6, 7, 8, 9, 10, 11]
def dlL : List (List Nat) := [e00, e10, e11, e10, e11, e11, e11, e20, e10, e21, e11, e11, e11, e21, e11, e11, e21, e20, e20, e20, e21, e21, e21, e21, e21, e11, e21, e21, e11, e21, e21, e21, e21, e21, e20, e20, e20, e21, e21, e21, e21, e21, e21, e21, e21, e21, e21, e21, e21, e21, e21, e21, e21, e21, e21, e21, e21, e21, e21, e21, e20, e21, e21, e21, e21, e21, e21, e21, e21, e21, e21, e21, e21, e21, e21, e21, e21, e21, e20, e21, e21, e21, e21, e21, e21, e21, e21, e21, e21, e21]
def t0_0 : Nat × Nat := (0x1c00002c0000000000000000000f0e0018170a00130006050403020101, 0x1000000000000000000000000001000000c0100000010010d01000000)
def t0_1 : Nat × Nat := (0x3000002c0000000000000000000f0e00181715001300060d0907020101, 0x1000000c0000000010000c00000000)
def t1_0 : Nat × Nat := (0x2900000000000000000000000000000000003e000000000000000000000000000000000000000000000024232600000000000000000000000000001316140000000000000000080900000004000200, 0xc0000000000000000000000000000000000000000000000000000000000000000000000000000000000000000000000000000000000000000000000020c0000000000000000000c0000000c000000)
def t1_1 : Nat × Nat := (0x4e00000000000000000000000000000000003e000000000000000000000000000000000000000000000024232600000000000000000000000000001316110000000000000000080700000003000200, 0x2000000000000000000000000000000000000)
def t2_0 : Nat × Nat := (0x4e00000000000000000000000000000000003c0000000000000000000000000000000000000000000000352332000000000000000000000000000021201d0000000000000000001000000000000000, 0xc000c000000000000000000000000000000020c0000000000000000000000000000000000)
def t2_1 : Nat × Nat := (0x4e00000000000000000000000000000000003c000000000000000000000000000000000000000000000024232200000000000000000000000000002120110000000000000000001000000000000000, 0x2000000000000000000000000000000000000)
def t3_0 : Nat × Nat := (0x595857565554532951504f004d4c4b4a4948473e4544434241403f3e3d003b3a393837363534332631302f2e2d2c2b2a292827262500000021161f1e141c1b1a191817161514000000090f0e0d0c0b0a09000006050400020000, 0x10000000000c001000001000021200000000000000000000000010001000001210000c000c000000021000000c120c000c0000000000000210000c00120000000c02000c0000000c001000000c000c000010000c00000000)
def t3_1 : Nat × Nat := (0x595857565554535251504f004d4c4b4a4948473e4544434241403f3e3d003b3a393837363534332631302f2e2d2c2b2a292827262500000021161f1e1d1c1b1a191817161514000000100f0e0d0c0b0a09000006050400020000, 0x10000000000c001000001000021200000000000000000000000010001000001210000c000c000000021000000c120c000c0000000000000210000c00120000000c02000c00000000001000000c000c000010000c00000000)
def t4_0 : Nat × Nat := (0x595857565554535251504f004d4c4b4a494847464544434241403f3e3d003b3a393837363534333231302f2e2d2c352a292827322500000021201f1e1d001b1a00182120151d0000001000000d00000010000000000000000000, 0x10000000000c00100000100002120000000c000000000000000010001000001210000c000c0c0000021000000c120c000c0c00000000000210000c00120000000002000c0000000000000000000000000000000000000000)
def t4_1 : Nat × Nat := (0x595857565554535251504f004d4c4b4a494847464544434241403f3e3d003b3a393837363534333231302f2e2d2c2b2a292827262500000021201f1e1d001b1a0018212015140000001000000d00000010000000000000000000, 0x10000000000c00100000100002120000000c000000000000000010001000001210000c000c0c0000021000000c120c000c0000000000000210000c00120000000002000c0000000000000000000000000000000000000000)
def t5_0 : Nat × Nat := (0x59584f595554585251404f4e4d4c5537494854523144445141403f29254e3b3a391f371e3534331d3130301a2d2c2b15292827142524231121101f1e1d1c0d1a191817091514130711101c050d0c0b0a0908070a050403040300, 0xc00000000100000100000000c000000000000000c00001000001010000c000c0c0000000000000c000c000c0c00000000000010000c00000000000c0c000c00000000000000000c000c000000000c000c0000)
def t5_1 : Nat × Nat := (0x59584f595554585251404f4e4d4c5537494854523144445141403f4f254e3b3a391f371e3534331d3130301a2d2c2b152928271a2524231121101f1e1d1c0d1a1918170d1514130711101c050d0c0b0a0908070a050403050300, 0xc00000000100000100000000c000000000000000000001000001010000c000c0c0000000000000c000c000c0000000000000010000c00000000000c00000c00000000000000000c000c000000000c00000000)
def t5_2 : Nat × Nat := (0x59584f595554585251404f4e4d4c5537494854523144445141403f3e254e3b3a391f371e3534331d3130301a2d2c2b15292827262524231121101f1e1d1c0d1a191817161514130711101c050d0c0b0a0908070a050403020300, 0xc00000000100000100000000c000000000000000000001000001010000c000c0c0000000000000c000c000c0000000000000010000c00000000000c02000c00000000000000000c000c000000000c00000000)
def t6_0 : Nat × Nat := (0x595857565954535251504f4e3a4c5636494847464544434241403f3e3d3c493a4c451e36353433323144432e2d412b3d29282726252423223532311e1d002e1a002d2b2625142422111d00001a00000014001100000000000000, 0x10000000000c00100000000000000000000c000000000000000010000000000000000c000c0c0000001000000c100c000c00000000000c0c00000c00100000000c00000c0000000c0000000000000c000000000000000000)
def t6_1 : Nat × Nat := (0x595857565954535251504f4e3a4c5636494847464544434241403f3e3d3c493a4c451e36353433323144432e2d412b3d29282726252423223a36311e1d002e1a002d2b2625142422111e00001a00000014001100000000000000, 0x10000000000c00100000000000000000000c000000000000000010000000000000000c000c0c0000001000000c100c000c0000000000000000000c00100000000c00000c000000000000000000000c000000000000000000)
def t6_2 : Nat × Nat := (0x595857565954535251504f4e3a4c5636494847464544434241403f3e3d3c493a4c451e36353433323144432e2d412b3d29282726252423222120311e1d002e1a002d2b2625142422111000001a00000014001100000000000000, 0x10000000000c00100000000000000000000c000000000000000010000000000000000c000c0c0000001000000c100c000c0000000000000200000c00100000000c00000c000000000000000000000c000000000000000000)
def t7_0 : Nat × Nat := (0x595857565554535851504f004d4c4b4a494847534544434241403f503d003b3a393837364934484531302f2e2d2c412a40283f3d250000003b381f1e311c1b1a19182c2a15250000001f0f0e0d0c190a15000006050a00060000, 0x10000000000000100000100002120000000000000000000000101000100000121000000000000000021000000012000000100000000010121000000012000000001200000000001000100000000000000010000000100000)
def t8_0 : Nat × Nat := (0x56535756554753464250573c4d4c4b4a494847464543434241503f3e3d3c3b3a393837363534333245302f2e2d2c2b2a3e2827263d24232221201f36320f1b2e191817161526131222100f0e0d0c0b06090807060e0201020100, 0x10000000000c00105000100002120000000c000000000010000010001000001210000c000c0c0000021000000c1200000c0010000000000210000c00125000000c02000000020000001000000c100c000010500000000000)
def t8_1 : Nat × Nat := (0x565357565547534642503e3c4d4c4b4a494847464543434241503f3e3d3c3b3a393837363534333245302f2e2d2c2b2a3e2827263d24232221201f36320f1b26191817161526131222100f0e0d0c0b0609080706020201020100, 0x10000000000c00100000100002120000000c000000000010000010001000001210000c000c0c0000021000000c1200000c0010000000000210000c00120000000c02000000020000001000000c100c000010000000000000)
def t8_2 : Nat × Nat := (0x565357565547534642503e3c4d4c4b4a4948474645434342413e3f3e3d3c3b3a393837363534333245302f2e2d2c2b2a3e2827262624232221201f36320f1b26191817161526131222100f0e0d0c0b0209080706020201020100, 0x10000000000c00100000100002120000000c000000000020000010001000001210000c000c0c0000021000000c1200000c0020000000000210000c00120000000c02000000020000001000000c200c000010000000000000)
def t8_3 : Nat × Nat := (0x565357564b4753464250573c4d4c4b4a494847464543434241503f3e3d3c3b3a39384a3635343332452f2f2e2d2c2b2a3e2827263d24232221203836320f1b2e191817162a26131222200f0e1b0c0b06160812060e0201020100, 0x10000200000c00105000100002120000000c000000000010000010001000001212000c000c0c0002021000000c1200000c0010000000000212000c00125000000c02120000020002001052000c1002000210500000000000)
def t8_4 : Nat × Nat := (0x565357564b47534642503e3c4d4c4b4a494847464543434241503f3e3d3c3b3a39384a3635343332452f2f2e2d2c2b2a3e2827263d24232221203836320f1b26191817162a26131222200f0e160c0b0616081206020201020100, 0x10000200000c00100000100002120000000c000000000010000010001000001212000c000c0c0002021000000c1200000c0010000000000212000c00120000000c02120000020002001002000c1002000210000000000000)
def t8_5 : Nat × Nat := (0x565357564b47534642503e3c4d4c4b4a4948474645434342413e3f3e3d3c3b3a39384a3635343332452f2f2e2d2c2b2a3e2827262624232221203836320f1b26191817161626131222200f0e160c0b0216081206020201020100, 0x10000200000c00100000100002120000000c000000000020000010001000001212000c000c0c0002021000000c1200000c0020000000000212000c00120000000c02220000020002001002000c2002000210000000000000)
def t9_0 : Nat × Nat := (0x555857565554535251504f4e4d394b4a3b484746453043422c403f3e3d3c3b4d39383736213433321f302f2e182c172a292827261513232221201f3710001b0d0018171615091312071000000d00000009000700000000000000, 0x10000000000c00100000100002121000000c0000000000000000100010500012100000000c0c1000021000000c120c000c0000000000000210500000120000000c02000c000200000000000000000c000000000000000000)
def t9_1 : Nat × Nat := (0x555857565554535251504f4e4d394b4a3b484746453043422c403f3e3d3c3b2139383736213433321f302f2e182c172a292827261513232221201f1010001b0d0018171615091312071000000d00000009000700000000000000, 0x10000000000c00100000100002121000000c0000000000000000100010000012100000000c0c1000021000000c120c000c0000000000000210000000120000000c02000c000200000000000000000c000000000000000000)
def t9_2 : Nat × Nat := (0x555857565554535251504f4e4d394b4a21484746453043422c403f3e3d3c3b21393837362134333210302f2e182c172a292827261513232221201f1010001b0d0018171615091312071000000d00000009000700000000000000, 0x10000000000c00100000100002122000000c0000000000000000100010000012100000000c0c2000021000000c120c000c0000000000000210000000120000000c02000c000200000000000000000c000000000000000000)
def t9_3 : Nat × Nat := (0x5558574b5554535251504f4e4d394b4a3b48474638302f422c403f3e2a3c3b4d3938374a213433201f302f1b182c172a292827161513231221201f3710001b0d0018171615091312071000000d00000009000700000000000000, 0x10020000000c00100000100002121000000c1200020000000000120010500012105200000c021000021200000c120c000c0200000002000210500000120000000c02000c000200000000000000000c000000000000000000)
def t9_4 : Nat × Nat := (0x5558574b5554535251504f4e4d394b4a3b48474638302f422c403f3e2a3c3b2139383720213433201f302f1b182c172a292827161513231221201f1010001b0d0018171615091312071000000d00000009000700000000000000, 0x10020000000c00100000100002121000000c1200020000000000120010000012100200000c021000021200000c120c000c0200000002000210000000120000000c02000c000200000000000000000c000000000000000000)
def t9_5 : Nat × Nat := (0x5558574b5554535251504f4e4d394b4a2148474620302f422c403f3e2a3c3b21393837202134332010302f1b182c172a292827161513231221201f1010001b0d0018171615091312071000000d00000009000700000000000000, 0x10020000000c00100000100002122000000c2200020000000000120010000012100200000c022000021200000c120c000c0200000002000210000000120000000c02000c000200000000000000000c000000000000000000)
def t10_0 : Nat × Nat := (0x59583e5655545352513e4f00214c4b20494847464544434241403f3e2600213a392010363534333231302f262d2c2b1629282726250000002120101e1d1c161a191817161514000000100f020d0c0b0a09000002050400020000, 0xc00000000000002020000000c000000000000000000000000000200000c000c0c0000020000000c020c000c0000000000000200000c00020000000c02000c00000000000000000c000c000000000c00000000)
def t10_1 : Nat × Nat := (0x59523e5655544652513e2900214c4b2035334746324443422b29273e2600213539201032353433321d302f262d172b1629282726140000002120101d1d1c16140b1817160914000000100f02090c0b0409000002040400020000, 0xc000000000c0c00000c00000002020c0c000c0c0000000c0c0c000000000c0002000c0c000c0c0c000200000c0c020c000c000c0000000002000c0c00020c0c000c020c0c0000000000000c000c0c0c0000000c0c00000000)
def t11_0 : Nat × Nat := (0x34344247393447332842282339344b4b34344746472842422828283e423c3934394b39473334334634182f422818272f2728273e2823233c21203934330c2f280c1817161827131223210f0f180c0b0c1708130f0c0b08020100, 0xc00000000000002020000000c000000000000000000000000000200000c000c0c0000020000000c020c000c0000000000000200000c00020000000c02000c00020000000000000c000c000000000c00000000)
def t11_1 : Nat × Nat := (0x34344247393447332842282339344b4b34344746472842422828283e423c3934394b39473434334734182f422818272f2828273e2823233c21203934340c2f280c1817161828131223210f0f180c0b0c1808130f0c0c08020100, 0xc00000000000002020000000c0000000000000000000000000002000080000c800000020000000c0280000c0000000000000200008000020000000c02008000020000000000000c0080000000008000000000)
def t11_2 : Nat × Nat := (0x34344247393447332842282339344b4b34344746472842422828283e423c3934394b39473534333234182f422818272f2928273e2823233c21203934350c2f280c1817161829131223210f0f180c0b0c0908130f0c0408020100, 0xc00000000000002020000000c000000000000000000000000000200000c000c0c0000020000000c020c000c0000000000000200000c00020000000c02000c00020000000000000c000c000000000c00000000)
def tabs (r : Rl) : List (Nat × Nat) := [(match r.hold with | true => t0_0 | false => t0_1),
  (match r.link with | true => t1_0 | false => t1_1),
  (match r.link with | true => t2_0 | false => t2_1),
  (match r.link with | true => t3_0 | false => t3_1),
  (match r.link with | true => t4_0 | false => t4_1),
  (match r.mark with | .alone => t5_0 | .along => t5_1 | .barred => t5_2),
  (match r.mark with | .alone => t6_0 | .along => t6_1 | .barred => t6_2),
  t7_0,
  (match r.check with | true => (match r.back with | .none => t8_0 | .same => t8_1 | .all => t8_2) | false => (match r.back with | .none => t8_3 | .same => t8_4 | .all => t8_5)),
  (match r.check with | true => (match r.back with | .none => t9_0 | .same => t9_1 | .all => t9_2) | false => (match r.back with | .none => t9_3 | .same => t9_4 | .all => t9_5)),
  (match r.whole with | true => t10_0 | false => t10_1),
  (match r.clear with | .plain => t11_0 | .along => t11_1 | .kept => t11_2)]
end W5
end M


set_option maxRecDepth 100000
set_option maxHeartbeats 4000000
/-! the world of one key, two owners and one thing: its standings by numbers -/
namespace M
open PySem G Pg L2
namespace W5
def st (c : Nat) : Std := sts.getD c empty
def dd (i : Nat) : Deed := dds.getD i .clear
def dls (c : Nat) : List Nat := dlL.getD c []
def bit (m i : Nat) : Bool := Nat.beq (Nat.mod (Nat.shiftRight m i) 2) 1
def nx (ts : List (Nat × Nat)) (c i : Nat) : Nat := Nat.mod (Nat.shiftRight (ts.getD i (0, 0)).1 (Nat.mul 8 c)) 256
def fg (ts : List (Nat × Nat)) (c i : Nat) : Nat := Nat.mod (Nat.shiftRight (ts.getD i (0, 0)).2 (Nat.mul 8 c)) 256
/-- the parts of a rule that a deed looks at -/
def rep (r : Rl) : Deed → Rl
  | .own _ => { dft with hold := r.hold }
  | .put _ => { dft with link := r.link }
  | .move _ _ => { dft with link := r.link }
  | .mark _ => { dft with mark := r.mark }
  | .take _ => dft
  | .fetch _ => { dft with check := r.check, back := r.back }
  | .raise _ => { dft with whole := r.whole }
  | .clear => { dft with clear := r.clear }
theorem rep_step (r : Rl) (s : Std) (d : Deed) : step r s d = step (rep r d) s d := by cases d <;> rfl
def flagB (r : Rl) (s : Std) (d : Deed) : Nat → Bool
  | 0 => fTaken s (step r s d).1 d
  | 1 => fDoubled (step r s d).2
  | 2 => fHanging (step r s d).2
  | 3 => fShown r (step r s d).2
  | 4 => fCounted r (step r s d).2
  | 5 => fRaised s (step r s d).2 (step r s d).1 d
  | 6 => fLeft (step r s d).2 (step r s d).1 d
  | 7 => fLost s (step r s d).2 d
  | _ => false
def nm (y : Nat) : Str := faultsL.getD y ""
theorem nm_inj {x y : Nat} (hx : x < 8) (hy : y < 8) (h : nm x = nm y) : x = y := by
  have key : ∀ i : Fin 8, ∀ j : Fin 8, nm i = nm j → i = j := by decide +kernel
  exact congrArg Fin.val (key ⟨x, hx⟩ ⟨y, hy⟩ h)
theorem nm_in {y : Nat} (hy : y < 8) : nm y ∈ faultsL := by
  have key : ∀ i : Fin 8, nm i ∈ faultsL := by decide +kernel
  exact key ⟨y, hy⟩
theorem mem_flag {r : Rl} {s : Std} {d : Deed} {y : Nat} (hy : y < 8) : nm y ∈ faultsOf r s d ↔ flagB r s d y = true := by
  unfold faultsOf
  rw [List.mem_filter, decide_eq_true_eq, mem_found]
  unfold dfL
  rw [mem_addIf2, mem_addIf2, mem_addIf2, mem_addIf2]
  constructor
  · rintro ⟨_, h | h | h | h | h | h | h | h | h⟩
    · have := nm_inj (y := 4) hy (by decide) h.2; subst this; exact h.1
    · have := nm_inj (y := 3) hy (by decide) h.2; subst this; exact h.1
    · have := nm_inj (y := 2) hy (by decide) h.2; subst this; exact h.1
    · have := nm_inj (y := 1) hy (by decide) h.2; subst this; exact h.1
    · have := nm_inj (y := 7) hy (by decide) h.2; subst this; exact h.1
    · have := nm_inj (y := 6) hy (by decide) h.2; subst this; exact h.1
    · have := nm_inj (y := 5) hy (by decide) h.2; subst this; exact h.1
    · have := nm_inj (y := 0) hy (by decide) h.2; subst this; exact h.1
    · cases h
  · intro h
    refine ⟨nm_in hy, ?_⟩
    have : y = 0 ∨ y = 1 ∨ y = 2 ∨ y = 3 ∨ y = 4 ∨ y = 5 ∨ y = 6 ∨ y = 7 := by omega
    rcases this with rfl | rfl | rfl | rfl | rfl | rfl | rfl | rfl
    · exact .inr (.inr (.inr (.inr (.inr (.inr (.inr (.inl ⟨h, rfl⟩)))))))
    · exact .inr (.inr (.inr (.inl ⟨h, rfl⟩)))
    · exact .inr (.inr (.inl ⟨h, rfl⟩))
    · exact .inr (.inl ⟨h, rfl⟩)
    · exact .inl ⟨h, rfl⟩
    · exact .inr (.inr (.inr (.inr (.inr (.inr (.inl ⟨h, rfl⟩))))))
    · exact .inr (.inr (.inr (.inr (.inr (.inl ⟨h, rfl⟩)))))
    · exact .inr (.inr (.inr (.inr (.inl ⟨h, rfl⟩))))
def repsL : Nat → List Rl
  | 0 => bools.map fun b => { dft with hold := b }
  | 1 | 2 | 3 | 4 => bools.map fun b => { dft with link := b }
  | 5 | 6 => mks.map fun b => { dft with mark := b }
  | 7 => [dft]
  | 8 | 9 => bools.flatMap fun b => bks.map fun k => { dft with check := b, back := k }
  | 10 => bools.map fun b => { dft with whole := b }
  | _ => cls.map fun b => { dft with clear := b }
theorem lt12 {i : Nat} (h : i < 12) : i = 0 ∨ i = 1 ∨ i = 2 ∨ i = 3 ∨ i = 4 ∨ i = 5 ∨ i = 6 ∨ i = 7 ∨ i = 8 ∨ i = 9 ∨ i = 10 ∨ i = 11 := by omega
theorem b_mem (b : Bool) : b ∈ bools := by cases b <;> decide
theorem m_mem (b : Mk) : b ∈ mks := by cases b <;> decide
theorem k_mem (b : Bk) : b ∈ bks := by cases b <;> decide
theorem c_mem (b : Cl) : b ∈ cls := by cases b <;> decide
theorem rep_mem (r : Rl) {i : Nat} (h : i < 12) : rep r (dd i) ∈ repsL i := by
  rcases lt12 h with rfl | rfl | rfl | rfl | rfl | rfl | rfl | rfl | rfl | rfl | rfl | rfl
  · exact List.mem_map.mpr ⟨_, b_mem _, rfl⟩
  · exact List.mem_map.mpr ⟨_, b_mem _, rfl⟩
  · exact List.mem_map.mpr ⟨_, b_mem _, rfl⟩
  · exact List.mem_map.mpr ⟨_, b_mem _, rfl⟩
  · exact List.mem_map.mpr ⟨_, b_mem _, rfl⟩
  · exact List.mem_map.mpr ⟨_, m_mem _, rfl⟩
  · exact List.mem_map.mpr ⟨_, m_mem _, rfl⟩
  · exact List.mem_singleton.mpr rfl
  · exact List.mem_flatMap.mpr ⟨_, b_mem _, List.mem_map.mpr ⟨_, k_mem _, rfl⟩⟩
  · exact List.mem_flatMap.mpr ⟨_, b_mem _, List.mem_map.mpr ⟨_, k_mem _, rfl⟩⟩
  · exact List.mem_map.mpr ⟨_, b_mem _, rfl⟩
  · exact List.mem_map.mpr ⟨_, c_mem _, rfl⟩
theorem tabs_rep (r : Rl) {i : Nat} (h : i < 12) : (tabs r).getD i (0, 0) = (tabs (rep r (dd i))).getD i (0, 0) := by
  rcases lt12 h with rfl | rfl | rfl | rfl | rfl | rfl | rfl | rfl | rfl | rfl | rfl | rfl <;> rfl
theorem flag_rep {r : Rl} (h1 : r.count = true) (h2 : r.join = true) (s : Std) (d : Deed) (y : Nat) : flagB r s d y = flagB (rep r d) s d y := by
  have e3 : ∀ t, fShown r t = fShown (rep r d) t := fun t => by
    rw [fShown_eq, fShown_eq, h2]
    cases d <;> rfl
  have e4 : ∀ t, fCounted r t = fCounted (rep r d) t := fun t => by
    have e : fCounted r t = fCounted { dft with count := r.count } t := rfl
    rw [e, h1]
    cases d <;> rfl
  match y with
  | 0 => unfold flagB; rw [rep_step]; rfl
  | 1 => unfold flagB; rw [rep_step]; rfl
  | 2 => unfold flagB; rw [rep_step]; rfl
  | 3 => unfold flagB; rw [rep_step, e3]; rfl
  | 4 => unfold flagB; rw [rep_step, e4]; rfl
  | 5 => unfold flagB; rw [rep_step]; rfl
  | 6 => unfold flagB; rw [rep_step]; rfl
  | 7 => unfold flagB; rw [rep_step]; rfl
  | n + 8 => rfl
def okCell (q : Rl) (i c : Nat) : Bool := decide ((step q (st c) (dd i)).2 = st (nx (tabs q) c i)) && (Nat.blt (nx (tabs q) c i) 90 && (List.range 8).all fun y => flagB q (st c) (dd i) y == bit (fg (tabs q) c i) y)
def okDeed (i : Nat) : Bool := (repsL i).all fun q => (List.range 90).all fun c => !(dls c).contains i || okCell q i c
theorem ok0 : okDeed 0 = true := by decide +kernel
theorem ok1 : okDeed 1 = true := by decide +kernel
theorem ok2 : okDeed 2 = true := by decide +kernel
theorem ok3 : okDeed 3 = true := by decide +kernel
theorem ok4 : okDeed 4 = true := by decide +kernel
theorem ok5 : okDeed 5 = true := by decide +kernel
theorem ok6 : okDeed 6 = true := by decide +kernel
theorem ok7 : okDeed 7 = true := by decide +kernel
theorem ok8 : okDeed 8 = true := by decide +kernel
theorem ok9 : okDeed 9 = true := by decide +kernel
theorem ok10 : okDeed 10 = true := by decide +kernel
theorem ok11 : okDeed 11 = true := by decide +kernel
theorem ok_deed {i : Nat} (h : i < 12) : okDeed i = true := by
  rcases lt12 h with rfl | rfl | rfl | rfl | rfl | rfl | rfl | rfl | rfl | rfl | rfl | rfl
  · exact ok0
  · exact ok1
  · exact ok2
  · exact ok3
  · exact ok4
  · exact ok5
  · exact ok6
  · exact ok7
  · exact ok8
  · exact ok9
  · exact ok10
  · exact ok11
def okShape : Bool := (List.range 90).all fun c => decide (deedsL wd (st c) = (dls c).map dd) && (dls c).all fun i => Nat.blt i 12
theorem shape : okShape = true := by decide +kernel
theorem shape_at {c : Nat} (h : c < 90) : deedsL wd (st c) = (dls c).map dd ∧ ∀ i ∈ dls c, i < 12 := by
  have := List.all_eq_true.mp shape c (List.mem_range.mpr h)
  simp only [Bool.and_eq_true, decide_eq_true_eq] at this
  refine ⟨this.1, fun i hi => ?_⟩
  have := List.all_eq_true.mp this.2 i hi
  exact Nat.le_of_ble_eq_true this
theorem sts_nodup : sts.Nodup := by decide +kernel
theorem sts_len : sts.length = 90 := by decide +kernel
theorem st_inj {a b : Nat} (ha : a < 90) (hb : b < 90) (h : st a = st b) : a = b := by
  unfold st at h
  rw [List.getD_eq_getElem?_getD, List.getD_eq_getElem?_getD, List.getElem?_eq_getElem (by rw [sts_len]; exact ha), List.getElem?_eq_getElem (by rw [sts_len]; exact hb)] at h
  exact (List.getElem_inj sts_nodup).mp h
theorem cell {r : Rl} {c i : Nat} (hc : c < 90) (hi : i ∈ dls c) : (step r (st c) (dd i)).2 = st (nx (tabs r) c i) ∧ nx (tabs r) c i < 90 ∧ (r.count = true → r.join = true → ∀ y, y < 8 → flagB r (st c) (dd i) y = bit (fg (tabs r) c i) y) := by
  have h12 := (shape_at hc).2 i hi
  have h1 := List.all_eq_true.mp (ok_deed h12) _ (rep_mem r h12)
  have h2 := List.all_eq_true.mp h1 c (List.mem_range.mpr hc)
  rw [show (dls c).contains i = true from List.contains_iff_mem.mpr hi] at h2
  simp only [Bool.not_true, Bool.false_or] at h2
  unfold okCell at h2
  simp only [Bool.and_eq_true, decide_eq_true_eq] at h2
  obtain ⟨h3, h4, h5⟩ := h2
  have en : nx (tabs r) c i = nx (tabs (rep r (dd i))) c i := by unfold nx; rw [tabs_rep r h12]
  have ef : fg (tabs r) c i = fg (tabs (rep r (dd i))) c i := by unfold fg; rw [tabs_rep r h12]
  rw [en, ef]
  refine ⟨by rw [rep_step]; exact h3, Nat.le_of_ble_eq_true h4, fun e1 e2 y hy => ?_⟩
  rw [flag_rep e1 e2]
  exact eq_of_beq (List.all_eq_true.mp h5 y (List.mem_range.mpr hy))
end W5
end M


set_option maxRecDepth 100000
set_option maxHeartbeats 4000000
/-! the walk by numbers -/
namespace M
open PySem G Pg L2
namespace W5
abbrev CRow := Nat × List Nat
def fc {α : Type} (n : Nat) (k : Nat → α) : α := match n with
  | 0 => k 0
  | m + 1 => k (Nat.succ m)
theorem fc_eq {α : Type} (n : Nat) (k : Nat → α) : fc n k = k n := by cases n <;> rfl
def cds (ts : List (Nat × Nat)) (c : Nat) (h : List Nat) : List Nat → Nat → List CRow → Nat × List CRow
  | [], m, b => (m, b)
  | i :: is, m, b => fc (nx ts c i) fun c' => match bit m c' with
    | true => cds ts c h is m b
    | false => fc (Nat.lor m (Nat.shiftLeft 1 c')) fun m' => cds ts c h is m' ((c', h ++ [i]) :: b)
def cbfs (ts : List (Nat × Nat)) : Nat → Nat → List CRow → List CRow → List CRow → Option (List CRow)
  | 0, _, _, _, _ => none
  | n + 1, m, [], b, acc => match b with
    | [] => some acc.reverse
    | _ :: _ => cbfs ts n m b.reverse [] acc
  | n + 1, m, p :: fr, b, acc => match cds ts p.1 p.2 (dls p.1) m b with
    | (m', b') => cbfs ts n m' fr b' (p :: acc)
def dec (p : CRow) : Row := (st p.1, p.2.map dd)
structure Iv (cs : List CRow) (m : Nat) : Prop where
  lt : ∀ p ∈ cs, p.1 < 90
  mask : ∀ x, bit m x = decide (x ∈ cs.map (·.1))
theorem bit_eq (m x : Nat) : bit m x = m.testBit x := by
  rw [Nat.testBit_eq_decide_div_mod_eq]
  unfold bit
  show Nat.beq ((m >>> x) % 2) 1 = _
  rw [Nat.shiftRight_eq_div_pow, Bool.eq_iff_iff, decide_eq_true_eq]
  exact ⟨Nat.eq_of_beq_eq_true, fun h => by rw [h]; rfl⟩
theorem bit_add (m c x : Nat) : bit (Nat.lor m (Nat.shiftLeft 1 c)) x = (bit m x || decide (x = c)) := by
  rw [bit_eq, bit_eq]
  show (m ||| (1 <<< c)).testBit x = _
  rw [Nat.testBit_or, Nat.one_shiftLeft, Nat.testBit_two_pow]
  congr 1
  rw [decide_eq_decide]
  exact eq_comm
variable {r : Rl}
theorem dec_mem {cs : List CRow} {m c : Nat} (iv : Iv cs m) (hc : c < 90) : st c ∈ (cs.map dec).map (·.1) ↔ c ∈ cs.map (·.1) := by
  rw [List.map_map]
  simp only [List.mem_map, Function.comp]
  constructor
  · rintro ⟨p, hp, e⟩
    exact ⟨p, hp, st_inj (iv.lt p hp) hc e⟩
  · rintro ⟨p, hp, e⟩
    exact ⟨p, hp, by show st p.1 = st c; rw [e]⟩
theorem cds_sim {c : Nat} {h : List Nat} (hc : c < 90) (base : List CRow) : ∀ (is : List Nat) (m : Nat) (b : List CRow), (∀ i ∈ is, i ∈ dls c) → Iv (base ++ b.reverse) m →
    Iv (base ++ (cds (tabs r) c h is m b).2.reverse) (cds (tabs r) c h is m b).1 ∧ (is.map dd).foldl (visit r (dec (c, h))) ((base ++ b.reverse).map dec) = (base ++ (cds (tabs r) c h is m b).2.reverse).map dec
  | [], m, b, _, iv => ⟨iv, rfl⟩
  | i :: is, m, b, hi, iv => by
    obtain ⟨h1, h2, _⟩ := cell (r := r) hc (hi i List.mem_cons_self)
    rw [cds, fc_eq]
    have hv : visit r (dec (c, h)) ((base ++ b.reverse).map dec) (dd i) = if nx (tabs r) c i ∈ (base ++ b.reverse).map (·.1) then (base ++ b.reverse).map dec else (base ++ b.reverse).map dec ++ [dec (nx (tabs r) c i, h ++ [i])] := by
      unfold visit
      have e : (step r (dec (c, h)).1 (dd i)).2 = st (nx (tabs r) c i) := h1
      rw [e]
      by_cases hm : nx (tabs r) c i ∈ (base ++ b.reverse).map (·.1)
      · rw [if_pos hm, if_pos ((dec_mem iv h2).mpr hm)]
      · rw [if_neg hm, if_neg (fun z => hm ((dec_mem iv h2).mp z))]
        unfold dec
        simp only [List.map_append, List.map_cons, List.map_nil]
    rw [List.map_cons, List.foldl_cons, hv, iv.mask]
    by_cases hm : nx (tabs r) c i ∈ (base ++ b.reverse).map (·.1)
    · rw [if_pos hm, decide_eq_true hm]
      exact cds_sim hc base is m b (fun j hj => hi j (List.mem_cons_of_mem _ hj)) iv
    · rw [if_neg hm, decide_eq_false hm, fc_eq]
      have e : (base ++ b.reverse).map dec ++ [dec (nx (tabs r) c i, h ++ [i])] = (base ++ ((nx (tabs r) c i, h ++ [i]) :: b).reverse).map dec := by
        rw [List.reverse_cons, ← List.append_assoc, List.map_append (l₂ := [_])]
        rfl
      rw [e]
      refine cds_sim hc base is _ _ (fun j hj => hi j (List.mem_cons_of_mem _ hj)) ⟨fun p hp => ?_, fun x => ?_⟩
      · rw [List.reverse_cons, ← List.append_assoc] at hp
        rcases List.mem_append.mp hp with z | z
        · exact iv.lt p z
        · rw [List.mem_singleton.mp z]; exact h2
      · rw [bit_add, iv.mask, List.reverse_cons, ← List.append_assoc, List.map_append (l₂ := [_]), Bool.eq_iff_iff]
        simp only [Bool.or_eq_true, decide_eq_true_eq, List.mem_append, List.map_cons, List.map_nil, List.mem_singleton]
theorem cbfs_sim : ∀ (n m : Nat) (fr b acc L : List CRow), rowsAt r wd acc.length = (acc.reverse ++ fr ++ b.reverse).map dec → Iv (acc.reverse ++ fr ++ b.reverse) m → cbfs (tabs r) n m fr b acc = some L →
    rowsAt r wd L.length = L.map dec ∧ ∀ p ∈ L, p.1 < 90
  | 0, m, fr, b, acc, L, _, _, e => by cases e
  | n + 1, m, [], [], acc, L, hr, iv, e => by
    have e : some acc.reverse = some L := e
    cases e
    rw [List.length_reverse]
    simp only [List.append_nil, List.reverse_nil] at hr iv
    exact ⟨hr, iv.lt⟩
  | n + 1, m, [], q :: b, acc, L, hr, iv, e => by
    have e : cbfs (tabs r) n m (q :: b).reverse [] acc = some L := e
    refine cbfs_sim n m _ _ acc L ?_ ?_ e
    · rw [hr, List.append_nil, List.reverse_nil, List.append_nil]
    · rw [List.append_nil] at iv
      rw [List.reverse_nil, List.append_nil]
      exact iv
  | n + 1, m, p :: fr, b, acc, L, hr, iv, e => by
    have hp : p.1 < 90 := iv.lt p (by simp)
    have hcd := cds_sim (r := r) (h := p.2) hp (acc.reverse ++ p :: fr) (dls p.1) m b (fun _ h => h) iv
    have e : (match cds (tabs r) p.1 p.2 (dls p.1) m b with
      | (m', b') => cbfs (tabs r) n m' fr b' (p :: acc)) = some L := e
    generalize cds (tabs r) p.1 p.2 (dls p.1) m b = q at hcd e
    obtain ⟨m', b'⟩ := q
    have e : cbfs (tabs r) n m' fr b' (p :: acc) = some L := e
    obtain ⟨iv', hf⟩ := hcd
    have ea : (p :: acc).reverse ++ fr ++ b'.reverse = acc.reverse ++ p :: fr ++ b'.reverse := by simp
    refine cbfs_sim n m' fr b' (p :: acc) L ?_ (by rw [ea]; exact iv') e
    rw [ea, List.length_cons, rowsAt, turnAt]
    have hget : (rowsAt r wd acc.length)[acc.length]? = some (dec p) := by
      rw [hr, List.getElem?_map]
      have : (acc.reverse ++ p :: fr ++ b.reverse)[acc.length]? = some p := by
        rw [List.append_assoc, List.getElem?_append_right (by rw [List.length_reverse]; exact Nat.le_refl _), List.length_reverse, Nat.sub_self]
        rfl
      rw [this]
      rfl
    rw [hget]
    simp only
    rw [show (dec p).1 = st p.1 from rfl, (shape_at hp).1, hr]
    exact hf
theorem wd_ok : wd.Ok := ⟨.inl ⟨_, rfl⟩, fun x hx => by rw [List.mem_singleton.mp hx]; decide +kernel, ⟨by decide, by decide⟩, by decide⟩
theorem rows_dec {n : Nat} {L : List CRow} (e : cbfs (tabs r) n 1 [(0, [])] [] [] = some L) : rowsF r wd = L.map dec ∧ ∀ p ∈ L, p.1 < 90 := by
  obtain ⟨h1, h2⟩ := cbfs_sim (r := r) n 1 [(0, [])] [] [] L rfl ⟨fun p hp => by simp at hp; rw [hp]; decide, fun x => by
    rw [bit_eq]
    have h1 : Nat.testBit 1 x = decide (0 = x) := Nat.testBit_two_pow (n := 0) (m := x)
    rw [h1, decide_eq_decide]
    simp [eq_comm]⟩ e
  refine ⟨?_, h2⟩
  have s1 := rows_stay r wd (n := L.length) (by rw [h1, List.length_map]; exact Nat.le_refl _) (capW wd)
  have s2 := rows_stay r wd ((rowsAt_ok wd_ok r _).lenW wd_ok) L.length
  rw [Nat.add_comm, s1] at s2
  rw [h1] at s2
  exact s2.symm
/-! the first of a kind -/
def gD (Q : Deed → Bool) (h : List Deed) : List Deed → Option (List Deed)
  | [] => none
  | d :: ds => if Q d = true then some (h ++ [d]) else gD Q h ds
def gR (w : Wd) (Q : Std → Deed → Bool) : List Row → Option (List Deed)
  | [] => none
  | p :: ps => match gD (Q p.1) p.2 (deedsL w p.1) with
    | some h => some h
    | none => gR w Q ps
theorem see_keep {r : Rl} {p : Row} {y : Str} {d : PyData} : ∀ ds : List Deed, ds.foldl (seeD r p y) (some d) = some d
  | [] => rfl
  | x :: ds => by rw [List.foldl_cons, show seeD r p y (some d) x = some d by unfold seeD; simp]; exact see_keep ds
theorem seeR_keep {r : Rl} {w : Wd} {y : Str} {d : PyData} : ∀ ps : List Row, ps.foldl (seeR r w y) (some d) = some d
  | [] => rfl
  | p :: ps => by rw [List.foldl_cons, show seeR r w y (some d) p = some d from see_keep _]; exact seeR_keep ps
theorem see_gD {r : Rl} {p : Row} {y : Str} : ∀ ds : List Deed, ds.foldl (seeD r p y) none = (gD (fun d => decide (y ∈ faultsOf r p.1 d)) p.2 ds).map fun h => .list (dsD h)
  | [] => rfl
  | d :: ds => by
    rw [List.foldl_cons, gD]
    by_cases h : y ∈ faultsOf r p.1 d
    · rw [if_pos (decide_eq_true h), show seeD r p y none d = some (.list (dsD (p.2 ++ [d]))) by unfold seeD; simp [h], see_keep]
      rfl
    · rw [if_neg (by simp [h]), show seeD r p y none d = none by unfold seeD; simp [h]]
      exact see_gD ds
theorem see_gR {r : Rl} {w : Wd} {y : Str} : ∀ ps : List Row, ps.foldl (seeR r w y) none = (gR w (fun s d => decide (y ∈ faultsOf r s d)) ps).map fun h => .list (dsD h)
  | [] => rfl
  | p :: ps => by
    rw [List.foldl_cons, gR, show seeR r w y none p = _ from see_gD (deedsL w p.1)]
    cases gD (fun d => decide (y ∈ faultsOf r p.1 d)) p.2 (deedsL w p.1) with
    | some h => simp only [Option.map_some]; exact seeR_keep ps
    | none => simp only [Option.map_none]; exact see_gR ps
def cfD (ts : List (Nat × Nat)) (y c : Nat) (h : List Nat) : List Nat → Option (List Nat)
  | [] => none
  | i :: is => match bit (fg ts c i) y with
    | true => some (h ++ [i])
    | false => cfD ts y c h is
def cfR (ts : List (Nat × Nat)) (y : Nat) : List CRow → Option (List Nat)
  | [] => none
  | p :: ps => match cfD ts y p.1 p.2 (dls p.1) with
    | some g => some g
    | none => cfR ts y ps
theorem cfD_sim {ts : List (Nat × Nat)} {y c : Nat} {h : List Nat} {Q : Deed → Bool} : ∀ is : List Nat, (∀ i ∈ is, Q (dd i) = bit (fg ts c i) y) → gD Q (h.map dd) (is.map dd) = (cfD ts y c h is).map (List.map dd)
  | [], _ => rfl
  | i :: is, hq => by
    rw [List.map_cons, gD, cfD, hq i List.mem_cons_self]
    cases bit (fg ts c i) y with
    | true => simp
    | false => simp only [Bool.false_eq_true, if_false]; exact cfD_sim is fun j hj => hq j (List.mem_cons_of_mem _ hj)
theorem cfR_sim {y : Nat} {Q : Std → Deed → Bool} : ∀ L : List CRow, (∀ p ∈ L, p.1 < 90) → (∀ c, c < 90 → ∀ i ∈ dls c, Q (st c) (dd i) = bit (fg (tabs r) c i) y) → gR wd Q (L.map dec) = (cfR (tabs r) y L).map (List.map dd)
  | [], _, _ => rfl
  | p :: L, hl, hq => by
    have hp := hl p List.mem_cons_self
    rw [List.map_cons, gR, cfR]
    have e : gD (Q (dec p).1) (dec p).2 (deedsL wd (dec p).1) = (cfD (tabs r) y p.1 p.2 (dls p.1)).map (List.map dd) := by
      rw [show (dec p).1 = st p.1 from rfl, (shape_at hp).1]
      exact cfD_sim (dls p.1) fun i hi => hq p.1 hp i hi
    rw [e]
    cases cfD (tabs r) y p.1 p.2 (dls p.1) with
    | some g => rfl
    | none => exact cfR_sim L (fun q hq => hl q (List.mem_cons_of_mem _ hq)) hq
/-! what is told by hand -/
def loose (r : Rl) : Option (List Nat) := match r.mark with
  | .alone => some [0, 1, 5]
  | .along => if r.link then some [0, 5, 1] else if r.whole then none else some [0, 1, 5, 10]
  | .barred => if r.link then some [0, 5, 1] else if r.whole then none else some [0, 1, 7, 5, 10]
def known (r : Rl) : Nat → Option (List Nat)
  | 0 => if r.hold then some [0, 5, 0] else none
  | 1 => if r.hold then none else if r.check then none else some [0, 5, 0, 8]
  | 2 => loose r
  | 3 => if r.join then loose r else none
  | 4 => if r.count then some [0, 1, 7] else none
  | 5 => match r.back with
    | .all => match r.mark with
      | .alone => some [0, 1, 5, 7, 8]
      | _ => some [0, 1, 7, 5, 8]
    | _ => none
  | 6 => match r.mark with
    | .along => match r.back with
      | .none => some [0, 1, 5, 8]
      | _ => none
    | _ => none
  | 7 => match r.clear with
    | .along => (loose r).map (· ++ [11])
    | _ => none
  | _ => none
def chk (r : Rl) : Bool := match cbfs (tabs r) 300 1 [(0, [])] [] [] with
  | none => false
  | some L => [0, 1, 2, 4, 5, 6, 7].all fun y => decide (cfR (tabs r) y L = known r y)
def chkMB (m : Mk) (b : Bk) : Bool := bools.all fun h => bools.all fun l => bools.all fun c => bools.all fun wh => cls.all fun cl => chk ⟨h, l, m, c, b, wh, cl, true, true⟩
end W5
end M


set_option maxRecDepth 100000
set_option maxHeartbeats 4000000
namespace M
open PySem G Pg L2
namespace W5
theorem chk_an : chkMB .alone .none = true := by decide +kernel
theorem chk_as : chkMB .alone .same = true := by decide +kernel
theorem chk_aa : chkMB .alone .all = true := by decide +kernel
theorem chk_ln : chkMB .along .none = true := by decide +kernel
theorem chk_ls : chkMB .along .same = true := by decide +kernel
theorem chk_la : chkMB .along .all = true := by decide +kernel
theorem chk_bn : chkMB .barred .none = true := by decide +kernel
theorem chk_bs : chkMB .barred .same = true := by decide +kernel
theorem chk_ba : chkMB .barred .all = true := by decide +kernel
theorem chk_mb (m : Mk) (b : Bk) : chkMB m b = true := by
  cases m <;> cases b
  · exact chk_an
  · exact chk_as
  · exact chk_aa
  · exact chk_ln
  · exact chk_ls
  · exact chk_la
  · exact chk_bn
  · exact chk_bs
  · exact chk_ba
theorem chk_all {r : Rl} (h1 : r.count = true) (h2 : r.join = true) : chk r = true := by
  obtain ⟨h, l, m, c, b, wh, cl, co, jo⟩ := r
  simp only at h1 h2
  subst h1 h2
  have := chk_mb m b
  unfold chkMB at this
  exact List.all_eq_true.mp (List.all_eq_true.mp (List.all_eq_true.mp (List.all_eq_true.mp (List.all_eq_true.mp this h (b_mem h)) l (b_mem l)) c (b_mem c)) wh (b_mem wh)) cl (c_mem cl)
theorem least_norm {r : Rl} (h1 : r.count = true) (h2 : r.join = true) {y : Nat} (hy : y ∈ [0, 1, 2, 4, 5, 6, 7]) : getS (leastL r wd) (nm y) = (known r y).map fun h => .list (dsD (h.map dd)) := by
  have hy8 : y < 8 := by simp at hy; omega
  have hc := chk_all h1 h2
  unfold chk at hc
  cases e : cbfs (tabs r) 300 1 [(0, [])] [] [] with
  | none => rw [e] at hc; cases hc
  | some L =>
    rw [e] at hc
    have hk := of_decide_eq_true (List.all_eq_true.mp hc y hy)
    obtain ⟨hr, hl⟩ := rows_dec e
    rw [getS_least, see_gR, hr, cfR_sim (y := y) L hl fun c hc i hi => ?_, hk, Option.map_map]
    · rfl
    · rw [← (cell (r := r) hc hi).2.2 h1 h2 y hy8, Bool.eq_iff_iff, decide_eq_true_eq]
      exact mem_flag hy8
def norm (r : Rl) : Rl := { r with count := true, join := true }
theorem twin_norm (r : Rl) : Twin r (norm r) := ⟨fun s d => by cases d <;> rfl⟩
theorem see_same {a b : Rl} (h : Twin a b) {w : Wd} {y z : Str} (hy : ∀ s d, y ∈ faultsOf a s d ↔ z ∈ faultsOf b s d) : getS (leastL a w) y = getS (leastL b w) z := by
  rw [getS_least, getS_least, twin_rows h]
  congr 1
  funext o p
  unfold seeR
  congr 1
  funext o d
  unfold seeD
  simp only [hy]
theorem see_never {a : Rl} {w : Wd} {y : Str} (hy : ∀ s d, y ∉ faultsOf a s d) : getS (leastL a w) y = none := by
  cases e : getS (leastL a w) y with
  | none => rfl
  | some d =>
    have : (getS (leastL a w) y).isSome = true := by rw [e]; rfl
    obtain ⟨p, _, d, _, h⟩ := least_some.mp this
    exact absurd h (hy _ _)
theorem flag_norm (r : Rl) (s : Std) (d : Deed) {y : Nat} (h3 : y ≠ 3) (h4 : y ≠ 4) : flagB r s d y = flagB (norm r) s d y := by
  have e := (twin_norm r).st s d
  match y, h3, h4 with
  | 0, _, _ => unfold flagB; rw [e]; rfl
  | 1, _, _ => unfold flagB; rw [e]; rfl
  | 2, _, _ => unfold flagB; rw [e]; rfl
  | 5, _, _ => unfold flagB; rw [e]; rfl
  | 6, _, _ => unfold flagB; rw [e]; rfl
  | 7, _, _ => unfold flagB; rw [e]; rfl
  | n + 8, _, _ => rfl
theorem fCounted_no {r : Rl} (h : r.count = false) (s : Std) : fCounted r s = false := by
  unfold fCounted
  rw [List.any_eq_false]
  intro p _
  unfold wrongAt
  have : counted r s p.2 = manyLive s p.2 := by
    unfold counted manyLive
    rw [h]
    simp
  rw [this]
  simp
/-- what can come in the world of one key, two owners and one thing, and how -/
theorem least_known (r : Rl) {y : Nat} (hy : y < 8) : getS (leastL r wd) (nm y) = (known r y).map fun h => .list (dsD (h.map dd)) := by
  by_cases h3 : y = 3
  · subst h3
    cases hj : r.join with
    | false =>
      have e : known r 3 = none := by show (if r.join = true then loose r else none) = none; rw [hj]; rfl
      rw [e, see_never fun s d => ?_]
      · rfl
      · rw [mem_flag (by decide)]
        show ¬ fShown r _ = true
        rw [fShown_eq, hj]
        simp
    | true =>
      have e : known r 3 = known (norm r) 2 := by show (if r.join = true then loose r else none) = loose r; rw [hj]; rfl
      rw [e, ← least_norm (r := norm r) rfl rfl (y := 2) (by decide)]
      refine see_same (twin_norm r) fun s d => ?_
      rw [mem_flag (by decide), mem_flag (by decide)]
      show fShown r (step r s d).2 = true ↔ fHanging (step (norm r) s d).2 = true
      rw [fShown_eq, hj, (twin_norm r).st s d]
      simp
  · by_cases h4 : y = 4
    · subst h4
      cases hj : r.count with
      | false =>
        have e : known r 4 = none := by show (if r.count = true then some [0, 1, 7] else none) = none; rw [hj]; rfl
        rw [e, see_never fun s d => ?_]
        · rfl
        · rw [mem_flag (by decide)]
          show ¬ fCounted r _ = true
          rw [fCounted_no hj]
          decide
      | true =>
        have e : known r 4 = known (norm r) 4 := by show (if r.count = true then some [0, 1, 7] else none) = some [0, 1, 7]; rw [hj]; rfl
        rw [e, ← least_norm (r := norm r) rfl rfl (y := 4) (by decide)]
        refine see_same (twin_norm r) fun s d => ?_
        rw [mem_flag (by decide), mem_flag (by decide)]
        show fCounted r (step r s d).2 = true ↔ fCounted (norm r) (step (norm r) s d).2 = true
        have e2 : ∀ t, fCounted r t = fCounted { dft with count := r.count } t := fun t => rfl
        rw [(twin_norm r).st s d, e2, hj]
        rfl
    · have e : known r y = known (norm r) y := by
        match y, h3, h4 with
        | 0, _, _ => rfl
        | 1, _, _ => rfl
        | 2, _, _ => rfl
        | 5, _, _ => rfl
        | 6, _, _ => rfl
        | 7, _, _ => rfl
        | n + 8, _, _ => rfl
      rw [e, ← least_norm (r := norm r) rfl rfl (y := y) (by simp; omega)]
      refine see_same (twin_norm r) fun s d => ?_
      rw [mem_flag hy, mem_flag hy, flag_norm r s d h3 h4]
end W5
end M


set_option maxRecDepth 100000
set_option maxHeartbeats 4000000
namespace M
open PySem G Pg L2
theorem getS_cons {p : Str × PyData} {kvs : Kd} {z : Str} : getS (p :: kvs) z = if p.1 = z then some p.2 else getS kvs z := by
  unfold getS
  rw [List.find?_cons]
  by_cases h : p.1 = z <;> simp [h]
theorem getS_map {k z : Str} {d : PyData} : ∀ kvs : Kd, getS (kvs.map fun x => if x.1 = k then (x.1, d) else x) z = if k = z ∧ (kvs.any fun x => decide (x.1 = k)) = true then some d else getS kvs z
  | [] => by simp [getS]
  | x :: xs => by
    rw [List.map_cons, getS_cons, getS_map xs, getS_cons]
    by_cases h1 : x.1 = k
    · rw [if_pos h1]
      by_cases h2 : k = z
      · subst h2
        simp [h1]
      · have h3 : ¬ x.1 = z := fun e => h2 (h1.symm.trans e)
        simp [h2, h3]
    · rw [if_neg h1]
      by_cases h2 : x.1 = z
      · have h3 : ¬ k = z := fun e => h1 (h2.trans e.symm)
        simp [h2, h3]
      · rw [if_neg h2, if_neg h2, List.any_cons, decide_eq_false h1, Bool.false_or]
theorem getS_put {k z : Str} {d : PyData} (kvs : Kd) : getS (putS kvs k d) z = if k = z then some d else getS kvs z := by
  unfold putS
  by_cases h : (kvs.any fun x => decide (x.1 = k)) = true
  · rw [if_pos h, getS_map]
    simp only [h, and_true]
  · rw [if_neg h, getS_app]
    by_cases e : k = z
    · subst e
      rw [if_pos rfl, if_pos rfl]
      cases q : getS kvs k with
      | none => rfl
      | some d' =>
        exfalso
        unfold getS at q
        obtain ⟨p, hp, _⟩ := Option.map_eq_some_iff.mp q
        have hq := List.find?_some hp
        exact h (List.any_eq_true.mpr ⟨p, List.mem_of_find?_eq_some hp, hq⟩)
    · rw [if_neg e, if_neg e]
      cases getS kvs z <;> rfl
namespace W5
def hD (h : List Nat) : PyData := .list (dsD (h.map dd))
def addK (o : Option (List Nat)) (j : Nat) (kvs : Kd) : Kd := match o with
  | none => kvs
  | some h => putS kvs (nm j) (hD h)
theorem addK_len {o : Option (List Nat)} {j : Nat} {kvs : Kd} {n : Nat} (h : kvs.length ≤ n) : (addK o j kvs).length ≤ n + 1 := by
  cases o with
  | none => exact Nat.le_succ_of_le h
  | some g => exact Nat.le_trans putS_len (Nat.succ_le_succ h)
theorem getS_addK {o : Option (List Nat)} {j y : Nat} {kvs : Kd} (hj : j < 8) (hy : y < 8) : getS (addK o j kvs) (nm y) = match o with
    | none => getS kvs (nm y)
    | some h => if j = y then some (hD h) else getS kvs (nm y) := by
  cases o with
  | none => rfl
  | some h =>
    show getS (putS kvs (nm j) (hD h)) (nm y) = if j = y then some (hD h) else getS kvs (nm y)
    rw [getS_put]
    by_cases e : j = y
    · rw [if_pos (by rw [e]), if_pos e]
    · rw [if_neg (fun z => e (nm_inj hj hy z)), if_neg e]
def kd1 (r : Rl) : Kd := addK (known r 1) 1 (addK (known r 0) 0 [])
def kd2 (r : Rl) : Kd := addK (known r 7) 7 (addK (known r 3) 3 (addK (known r 2) 2 (kd1 r)))
def kd3 (r : Rl) : Kd := addK (known r 4) 4 (kd2 r)
def kd4 (r : Rl) : Kd := addK (known r 5) 5 (kd3 r)
def kd5 (r : Rl) : Kd := addK (known r 6) 6 (kd4 r)
theorem kd1_len (r : Rl) : (kd1 r).length ≤ 2 := addK_len (addK_len (Nat.le_refl 0))
theorem kd2_len (r : Rl) : (kd2 r).length ≤ 5 := addK_len (addK_len (addK_len (kd1_len r)))
theorem kd3_len (r : Rl) : (kd3 r).length ≤ 6 := addK_len (kd2_len r)
theorem kd4_len (r : Rl) : (kd4 r).length ≤ 7 := addK_len (kd3_len r)
theorem kd5_get (r : Rl) {y : Nat} (hy : y < 8) : getS (kd5 r) (nm y) = (known r y).map hD := by
  unfold kd5 kd4 kd3 kd2 kd1
  rw [getS_addK (by decide) hy, getS_addK (by decide) hy, getS_addK (by decide) hy, getS_addK (by decide) hy, getS_addK (by decide) hy, getS_addK (by decide) hy, getS_addK (by decide) hy, getS_addK (by decide) hy]
  have : y = 0 ∨ y = 1 ∨ y = 2 ∨ y = 3 ∨ y = 4 ∨ y = 5 ∨ y = 6 ∨ y = 7 := by omega
  have e0 : getS ([] : Kd) (nm y) = none := rfl
  rw [e0]
  rcases this with rfl | rfl | rfl | rfl | rfl | rfl | rfl | rfl <;> cases known r 0 <;> cases known r 1 <;> cases known r 2 <;> cases known r 3 <;> cases known r 4 <;> cases known r 5 <;> cases known r 6 <;> cases known r 7 <;> rfl
theorem nm_of {x : Str} (h : x ∈ faultsL) : ∃ y, y < 8 ∧ x = nm y := by
  obtain ⟨y, hy, rfl⟩ := List.mem_iff_getElem.mp h
  refine ⟨y, hy, ?_⟩
  unfold nm
  rw [List.getD_eq_getElem?_getD, List.getElem?_eq_getElem hy]
  rfl
theorem least_kd (r : Rl) {x : Str} (h : x ∈ faultsL) : getS (leastL r wd) x = getS (kd5 r) x := by
  obtain ⟨y, hy, rfl⟩ := nm_of h
  rw [least_known r hy, kd5_get r hy]
  rfl
theorem loose_len {r : Rl} {h : List Nat} (e : loose r = some h) : h.length ≤ 5 := by
  unfold loose at e
  split at e
  · cases e; decide
  · split at e
    · cases e; decide
    · split at e
      · cases e
      · cases e; decide
  · split at e
    · cases e; decide
    · split at e
      · cases e
      · cases e; decide
def looseD (r : Rl) : PyData := match loose r with
  | none => .none
  | some h => hD h
theorem mk_ok (m : Mk) : PyData.strOk m.str = true := by cases m <;> decide +kernel
theorem bk_ok (m : Bk) : PyData.strOk m.str = true := by cases m <;> decide +kernel
theorem cl_ok (m : Cl) : PyData.strOk m.str = true := by cases m <;> decide +kernel
end W5
end M
namespace Pg
open PySem L2 G M
section
variable {P : Program} {w : World} {K : PySem.W.Frag} {mg : Str → Option Value} {base : Heap} {C CB CW : Addr}
open W5
def sp_loose : G.Spec := fun cs R _ => ∃ r : Rl, cs = [.dat (rpD r)] ∧ R (.dat (looseD r)) cs
theorem fn_loose (D : Df K mg "_law_loose" s__law_loose p__law_loose) : Fn P w K mg base "_law_loose" 1 sp_loose := by
  have nd := sc__law_loose.nd
  refine fnG D sc__law_loose (fun cs R RX h => ?_) (fun f cdv A outer s H E X eX hr tk hp cs R RX h => ?_)
  · obtain ⟨_, rfl, _⟩ := h
    rfl
  · subst eX
    obtain ⟨r, rfl, k⟩ := h
    refine wb_cons (ws_asg (d := .tuple [(dd 0).d, (dd 1).d, (dd 5).d]) (vc_tup (dc_cons (vc_tup (ds := [.str "own", .str "a"]) (dc_cons vc_str (dc_cons vc_str dc_nil))) (dc_cons (vc_tup (ds := [.str "put", .int 0]) (dc_cons vc_str (dc_cons vc_int dc_nil))) (dc_cons (vc_tup (ds := [.str "mark", .int 0]) (dc_cons vc_str (dc_cons vc_int dc_nil))) dc_nil))))
      (gc_tup rfl (gcs_cons (gc_name 1 nd) (gcs_cons (gc_name 2 nd) (gcs_cons (gc_name 3 nd) gcs_nil)))) ?_)
    refine wb_at (env' := [some (.dat (rpD r)), some (.dat (dd 0).d), some (.dat (dd 1).d), some (.dat (dd 5).d)]) rfl ?_
    have L3 : ∀ (a b c : Nat), PyData.list [(dd a).d, (dd b).d, (dd c).d] = hD [a, b, c] := fun _ _ _ => rfl
    have t1 : ∀ m : Mk, r.mark = m → decide (r.mark.str = "alone") = decide (m = .alone) := fun m e => by rw [e]; cases m <;> decide +kernel
    have t2 : ∀ m : Mk, r.mark = m → decide (r.mark.str = "along") = decide (m = .along) := fun m e => by rw [e]; cases m <;> decide +kernel
    have s1 : decide (bstr r.link "any" "live" = "any") = r.link := by cases r.link <;> decide +kernel
    have s1k : PyData.strOk (bstr r.link "any" "live") = true := by cases r.link <;> decide +kernel
    cases hm : r.mark with
    | alone =>
      have e : looseD r = hD [0, 1, 5] := by unfold looseD loose; rw [hm]
      rw [e] at k
      refine wb_cons (ws_take (tis (t1 _ hm) (tc_strE (mk_ok _) (by decide +kernel) hr.units (vc_ixL (ds := rp r) (i := 2) (vc_dat 0) vc_int rfl) vc_str)) ?_)
      exact wb_cons (ws_ret (.pure (vis (L3 0 1 5) (vc_lst (dc_cons (vc_dat 1) (dc_cons (vc_dat 2) (dc_cons (vc_dat 3) dc_nil))))) ⟨_, .dat .nil, k⟩))
    | along =>
      refine wb_cons (ws_skip (tis (t1 _ hm) (tc_strE (mk_ok _) (by decide +kernel) hr.units (vc_ixL (ds := rp r) (i := 2) (vc_dat 0) vc_int rfl) vc_str)) ?_)
      cases hl : r.link with
      | true =>
        have e : looseD r = hD [0, 5, 1] := by unfold looseD loose; rw [hm, hl]; rfl
        rw [e] at k
        refine wb_cons (ws_take (tis (s1.trans hl) (tc_strE s1k (by decide +kernel) hr.units (vc_ixL (ds := rp r) (i := 1) (vc_dat 0) vc_int rfl) vc_str)) ?_)
        exact wb_cons (ws_ret (.pure (vis (L3 0 5 1) (vc_lst (dc_cons (vc_dat 1) (dc_cons (vc_dat 3) (dc_cons (vc_dat 2) dc_nil))))) ⟨_, .dat .nil, k⟩))
      | false =>
        refine wb_cons (ws_skip (tis (s1.trans hl) (tc_strE s1k (by decide +kernel) hr.units (vc_ixL (ds := rp r) (i := 1) (vc_dat 0) vc_int rfl) vc_str)) ?_)
        cases hw : r.whole with
        | true =>
          have e : looseD r = .none := by unfold looseD loose; rw [hm, hl, hw]; rfl
          rw [e] at k
          refine wb_cons (ws_take (tis hw (tc_val (vc_ixL (ds := rp r) (i := 5) (vc_dat 0) vc_int rfl))) ?_)
          exact wb_cons (ws_ret (.pure vc_non ⟨_, .dat .nil, k⟩))
        | false =>
          have e : looseD r = hD [0, 1, 5, 10] := by unfold looseD loose; rw [hm, hl, hw]; rfl
          rw [e] at k
          refine wb_cons (ws_skip (tis hw (tc_val (vc_ixL (ds := rp r) (i := 5) (vc_dat 0) vc_int rfl))) ?_)
          refine wb_cons (ws_take (tis (t2 _ hm) (tc_strE (mk_ok _) (by decide +kernel) hr.units (vc_ixL (ds := rp r) (i := 2) (vc_dat 0) vc_int rfl) vc_str)) ?_)
          exact wb_cons (ws_ret (.pure (vis (show PyData.list [(dd 0).d, (dd 1).d, (dd 5).d, (dd 10).d] = hD [0, 1, 5, 10] from rfl) (vc_lst (dc_cons (vc_dat 1) (dc_cons (vc_dat 2) (dc_cons (vc_dat 3) (dc_cons (vc_tup (ds := [.str "raise", .int 0]) (dc_cons vc_str (dc_cons vc_int dc_nil))) dc_nil)))))) ⟨_, .dat .nil, k⟩))
    | barred =>
      refine wb_cons (ws_skip (tis (t1 _ hm) (tc_strE (mk_ok _) (by decide +kernel) hr.units (vc_ixL (ds := rp r) (i := 2) (vc_dat 0) vc_int rfl) vc_str)) ?_)
      cases hl : r.link with
      | true =>
        have e : looseD r = hD [0, 5, 1] := by unfold looseD loose; rw [hm, hl]; rfl
        rw [e] at k
        refine wb_cons (ws_take (tis (s1.trans hl) (tc_strE s1k (by decide +kernel) hr.units (vc_ixL (ds := rp r) (i := 1) (vc_dat 0) vc_int rfl) vc_str)) ?_)
        exact wb_cons (ws_ret (.pure (vis (L3 0 5 1) (vc_lst (dc_cons (vc_dat 1) (dc_cons (vc_dat 3) (dc_cons (vc_dat 2) dc_nil))))) ⟨_, .dat .nil, k⟩))
      | false =>
        refine wb_cons (ws_skip (tis (s1.trans hl) (tc_strE s1k (by decide +kernel) hr.units (vc_ixL (ds := rp r) (i := 1) (vc_dat 0) vc_int rfl) vc_str)) ?_)
        cases hw : r.whole with
        | true =>
          have e : looseD r = .none := by unfold looseD loose; rw [hm, hl, hw]; rfl
          rw [e] at k
          refine wb_cons (ws_take (tis hw (tc_val (vc_ixL (ds := rp r) (i := 5) (vc_dat 0) vc_int rfl))) ?_)
          exact wb_cons (ws_ret (.pure vc_non ⟨_, .dat .nil, k⟩))
        | false =>
          have e : looseD r = hD [0, 1, 7, 5, 10] := by unfold looseD loose; rw [hm, hl, hw]; rfl
          rw [e] at k
          refine wb_cons (ws_skip (tis hw (tc_val (vc_ixL (ds := rp r) (i := 5) (vc_dat 0) vc_int rfl))) ?_)
          refine wb_cons (ws_skip (tis (t2 _ hm) (tc_strE (mk_ok _) (by decide +kernel) hr.units (vc_ixL (ds := rp r) (i := 2) (vc_dat 0) vc_int rfl) vc_str)) ?_)
          exact wb_cons (ws_ret (.pure (vis (show PyData.list [(dd 0).d, (dd 1).d, (dd 7).d, (dd 5).d, (dd 10).d] = hD [0, 1, 7, 5, 10] from rfl) (vc_lst (dc_cons (vc_dat 1) (dc_cons (vc_dat 2) (dc_cons (vc_tup (ds := [.str "take", .int 0]) (dc_cons vc_str (dc_cons vc_int dc_nil))) (dc_cons (vc_dat 3) (dc_cons (vc_tup (ds := [.str "raise", .int 0]) (dc_cons vc_str (dc_cons vc_int dc_nil))) dc_nil))))))) ⟨_, .dat .nil, k⟩))
end
end Pg

set_option maxRecDepth 100000
set_option maxHeartbeats 4000000
namespace M
open PySem G Pg L2
namespace W5
theorem due_str (r : Rl) {x : Str} {d : PyData} (h : getS (kd5 r) x = some d) (hx : x ∈ faultsL) : getS (leastL r wd) x = some d := (least_kd r hx).trans h
end W5
end M
namespace Pg
open PySem L2 G M
section
variable {P : Program} {w : World} {K : PySem.W.Frag} {mg : Str → Option Value} {base : Heap} {C CB CW : Addr}
open W5
def sp_known (K : PySem.W.Frag) : G.Spec := fun cs R _ => ∃ r : Rl, cs = [.dat (rpD r)] ∧ ∀ v, R (.own v (odk K (kd5 r))) cs
theorem fn_known (D : Df K mg "_law_known" s__law_known p__law_known) (FL : Fn P w K mg base "_law_loose" 1 sp_loose) : Fn P w K mg base "_law_known" 2 (sp_known K) := by
  have nd := sc__law_known.nd
  refine fnG D sc__law_known (fun cs R RX h => ?_) (fun f cdv A outer s H E X eX hr tk hp cs R RX h => ?_)
  · obtain ⟨_, rfl, _⟩ := h
    rfl
  · subst eX
    obtain ⟨r, rfl, k⟩ := h
    let x0 : Option Ct := some (.dat (rpD r))
    let x1 : Option Ct := some (.dat (dd 0).d)
    let x2 : Option Ct := some (.dat (dd 1).d)
    let x3 : Option Ct := some (.dat (dd 5).d)
    let x4 : Option Ct := some (.dat (dd 7).d)
    refine wb_cons (ws_asg (d := .tuple [(dd 0).d, (dd 1).d, (dd 5).d, (dd 7).d]) (vc_tup (dc_cons (vc_tup (ds := [.str "own", .str "a"]) (dc_cons vc_str (dc_cons vc_str dc_nil))) (dc_cons (vc_tup (ds := [.str "put", .int 0]) (dc_cons vc_str (dc_cons vc_int dc_nil))) (dc_cons (vc_tup (ds := [.str "mark", .int 0]) (dc_cons vc_str (dc_cons vc_int dc_nil))) (dc_cons (vc_tup (ds := [.str "take", .int 0]) (dc_cons vc_str (dc_cons vc_int dc_nil))) dc_nil)))))
      (gc_tup rfl (gcs_cons (gc_name 1 nd) (gcs_cons (gc_name 2 nd) (gcs_cons (gc_name 3 nd) (gcs_cons (gc_name 4 nd) gcs_nil))))) ?_)
    refine wb_cons (ws_set 5 (VO.eff vo_dnew fun v => ?_) nd)
    refine wb_cons (ws_set 6 (.pure (vc_call FL hr (ac_cons (vc_dat 0) ac_nil) ⟨r, rfl, rfl⟩) ?_) nd)
    let x6 : Option Ct := some (.dat (looseD r))
    let T : Kd → En := fun kvs => [x0, x1, x2, x3, x4, some (.own v (odk K kvs)), x6]
    refine wb_at (env' := T []) rfl ?_
    have t2 : ∀ (m : Mk) (x : Str) (b : Bool), r.mark = m → decide (m.str = x) = b → decide (r.mark.str = x) = b := fun m x b e h => by rw [e]; exact h
    have t4 : ∀ (m : Bk) (x : Str) (b : Bool), r.back = m → decide (m.str = x) = b → decide (r.back.str = x) = b := fun m x b e h => by rw [e]; exact h
    have t6 : ∀ (m : Cl) (x : Str) (b : Bool), r.clear = m → decide (m.str = x) = b → decide (r.clear.str = x) = b := fun m x b e h => by rw [e]; exact h
    have s0 : decide (bstr r.hold "all" "live" = "all") = r.hold := by cases r.hold <;> decide +kernel
    have k0 : PyData.strOk (bstr r.hold "all" "live") = true := by cases r.hold <;> decide +kernel
    have s7 : decide (bstr r.count "all" "live" = "all") = r.count := by cases r.count <;> decide +kernel
    have k7 : PyData.strOk (bstr r.count "all" "live") = true := by cases r.count <;> decide +kernel
    have s8 : decide (bstr r.join "own" "both" = "own") = r.join := by cases r.join <;> decide +kernel
    have k8 : PyData.strOk (bstr r.join "own" "both") = true := by cases r.join <;> decide +kernel
    -- taken, doubled
    refine wb_mid (fun env' => env' = T (kd1 r)) ?s1 ?r1
    case s1 =>
      cases hh : r.hold with
      | true =>
        refine ws_take (tis (s0.trans hh) (tc_strE k0 (by decide +kernel) hr.units (vc_ixL (ds := rp r) (i := 0) (vc_dat 0) vc_int rfl) vc_str)) ?_
        refine wb_cons (ws_dput (k := nm 0) 5 hr (.pure (vis (show PyData.list [(dd 0).d, (dd 5).d, (dd 0).d] = hD [0, 5, 0] from rfl) (vc_lst (dc_cons (vc_dat 1) (dc_cons (vc_dat 3) (dc_cons (vc_dat 1) dc_nil))))) ⟨_, rfl, [], rfl, vc_str, by decide, ?_⟩))
        refine wb_nil ?_
        have e : kd1 r = putS [] (nm 0) (hD [0, 5, 0]) := by unfold kd1 known; simp only [hh]; rfl
        rw [e]
        rfl
      | false =>
        refine ws_ifP (b' := false) (tis (s0.trans hh) (tc_strE k0 (by decide +kernel) hr.units (vc_ixL (ds := rp r) (i := 0) (vc_dat 0) vc_int rfl) vc_str)) (fun z => by cases z) fun _ => ?_
        cases hc : r.check with
        | true =>
          refine wb_cons (ws_skip (tc_not (b' := true) (tis hc (tc_val (vc_ixL (ds := rp r) (i := 3) (vc_dat 0) vc_int rfl)))) (wb_nil ?_))
          have e : kd1 r = [] := by unfold kd1 known; simp only [hh, hc]; rfl
          rw [e]
        | false =>
          refine wb_cons (ws_take (tc_not (b' := false) (tis hc (tc_val (vc_ixL (ds := rp r) (i := 3) (vc_dat 0) vc_int rfl)))) ?_)
          refine wb_cons (ws_dput (k := nm 1) 5 hr (.pure (vis (show PyData.list [(dd 0).d, (dd 5).d, (dd 0).d, (dd 8).d] = hD [0, 5, 0, 8] from rfl) (vc_lst (dc_cons (vc_dat 1) (dc_cons (vc_dat 3) (dc_cons (vc_dat 1) (dc_cons (vc_tup (ds := [.str "fetch", .int 0]) (dc_cons vc_str (dc_cons vc_int dc_nil))) dc_nil)))))) ⟨_, rfl, [], rfl, vc_str, by decide, ?_⟩))
          refine wb_nil (wb_nil ?_)
          have e : kd1 r = putS [] (nm 1) (hD [0, 5, 0, 8]) := by unfold kd1 known; simp only [hh, hc]; rfl
          rw [e]
          rfl
    case r1 =>
    rintro _ rfl
    have l1 := kd1_len r
    have hlo : looseD r = match loose r with
      | none => .none
      | some h => hD h := rfl
    -- hanging, shown, lost
    refine wb_mid (fun env' => env' = T (kd2 r)) ?s2 ?r2
    case s2 =>
      cases hL : loose r with
      | none =>
        have e : looseD r = .none := by rw [hlo, hL]
        have e2 : kd2 r = kd1 r := by
          have e7 : known r 7 = none := by unfold known; simp only [hL]; cases r.clear <;> rfl
          have e3 : known r 3 = none := by unfold known; simp only [hL]; cases r.join <;> rfl
          have e2 : known r 2 = none := hL
          unfold kd2
          rw [e7, e3, e2]
          rfl
        rw [e2]
        exact ws_skip (tc_cmp op_notN (od_notN (d := .none)) (vis e (vc_dat 6)) vc_non) rfl
      | some h =>
        have e : looseD r = hD h := by rw [hlo, hL]
        have hl5 := loose_len hL
        have e2 : known r 2 = some h := hL
        have e3 : known r 3 = if r.join = true then some h else none := by rw [← hL]; rfl
        refine ws_take (tc_cmp op_notN (od_notN (d := hD h)) (vis e (vc_dat 6)) vc_non) ?_
        refine wb_cons (ws_dput (k := nm 2) 5 hr (.pure (vis e (vc_dat 6)) ⟨_, rfl, kd1 r, rfl, vc_str, by omega, ?_⟩))
        let kA := addK (known r 2) 2 (kd1 r)
        have eA : putS (kd1 r) (nm 2) (hD h) = kA := by show _ = addK (known r 2) 2 (kd1 r); rw [e2]; rfl
        rw [eA]
        have lA : kA.length ≤ 3 := addK_len l1
        let kB := addK (known r 3) 3 kA
        have lB : kB.length ≤ 4 := addK_len lA
        refine wb_mid (fun env' => env' = T kB) ?s3 ?r3
        case s3 =>
          cases hj : r.join with
          | true =>
            refine ws_take (tis (s8.trans hj) (tc_strE k8 (by decide +kernel) hr.units (vc_ixL (ds := rp r) (i := 8) (vc_dat 0) vc_int rfl) vc_str)) ?_
            refine wb_cons (ws_dput (k := nm 3) 5 hr (.pure (vis e (vc_dat 6)) ⟨_, rfl, kA, rfl, vc_str, by omega, ?_⟩))
            refine wb_nil ?_
            have eB : kB = putS kA (nm 3) (hD h) := by show addK (known r 3) 3 kA = _; rw [e3, hj]; rfl
            rw [eB]
            rfl
          | false =>
            refine ws_skip (tis (s8.trans hj) (tc_strE k8 (by decide +kernel) hr.units (vc_ixL (ds := rp r) (i := 8) (vc_dat 0) vc_int rfl) vc_str)) ?_
            have eB : kB = kA := by show addK (known r 3) 3 kA = _; rw [e3, hj]; rfl
            rw [eB]
            rfl
        case r3 =>
        rintro _ rfl
        have e7 : ∀ c, r.clear = c → known r 7 = match c with
          | .along => some (h ++ [11])
          | _ => none := fun c hc => by unfold known; simp only [hc, hL]; cases c <;> rfl
        have eK : kd2 r = addK (known r 7) 7 kB := rfl
        cases hc : r.clear with
        | along =>
          refine wb_cons (ws_take (tis (t6 _ _ true hc (by decide +kernel)) (tc_strE (cl_ok _) (by decide +kernel) hr.units (vc_ixL (ds := rp r) (i := 6) (vc_dat 0) vc_int rfl) vc_str)) ?_)
          refine wb_cons (ws_dput (k := nm 7) 5 hr (.pure (vis (show PyData.list (dsD (h.map dd) ++ [(dd 11).d]) = hD (h ++ [11]) by unfold hD; rw [List.map_append]; unfold dsD; rw [List.map_append]; rfl) (VO.dat (vo_cat (es1 := dsD (h.map dd)) (es2 := [(dd 11).d]) (vis e (vc_dat 6)) (vc_lst (dc_cons (vc_tup (ds := [.str "clear"]) (dc_cons vc_str dc_nil)) dc_nil)) (by unfold dsD; rw [List.length_map, List.length_map, List.length_singleton]; omega)))) ⟨_, rfl, kB, rfl, vc_str, by omega, ?_⟩))
          refine wb_nil (wb_nil ?_)
          rw [eK, e7 _ hc]
          rfl
        | plain =>
          refine wb_cons (ws_skip (tis (t6 _ _ false hc (by decide +kernel)) (tc_strE (cl_ok _) (by decide +kernel) hr.units (vc_ixL (ds := rp r) (i := 6) (vc_dat 0) vc_int rfl) vc_str)) (wb_nil ?_))
          rw [eK, e7 _ hc]
          rfl
        | kept =>
          refine wb_cons (ws_skip (tis (t6 _ _ false hc (by decide +kernel)) (tc_strE (cl_ok _) (by decide +kernel) hr.units (vc_ixL (ds := rp r) (i := 6) (vc_dat 0) vc_int rfl) vc_str)) (wb_nil ?_))
          rw [eK, e7 _ hc]
          rfl
    case r2 =>
    rintro _ rfl
    have l2 := kd2_len r
    -- counted
    refine wb_mid (fun env' => env' = T (kd3 r)) ?s4 ?r4
    case s4 =>
      cases hj : r.count with
      | true =>
        refine ws_take (tis (s7.trans hj) (tc_strE k7 (by decide +kernel) hr.units (vc_ixL (ds := rp r) (i := 7) (vc_dat 0) vc_int rfl) vc_str)) ?_
        refine wb_cons (ws_dput (k := nm 4) 5 hr (.pure (vis (show PyData.list [(dd 0).d, (dd 1).d, (dd 7).d] = hD [0, 1, 7] from rfl) (vc_lst (dc_cons (vc_dat 1) (dc_cons (vc_dat 2) (dc_cons (vc_dat 4) dc_nil))))) ⟨_, rfl, kd2 r, rfl, vc_str, by omega, ?_⟩))
        refine wb_nil ?_
        have e : kd3 r = putS (kd2 r) (nm 4) (hD [0, 1, 7]) := by unfold kd3; rw [show known r 4 = some [0, 1, 7] by unfold known; simp only [hj]; rfl]; rfl
        rw [e]
        rfl
      | false =>
        refine ws_skip (tis (s7.trans hj) (tc_strE k7 (by decide +kernel) hr.units (vc_ixL (ds := rp r) (i := 7) (vc_dat 0) vc_int rfl) vc_str)) ?_
        have e : kd3 r = kd2 r := by unfold kd3; rw [show known r 4 = none by unfold known; simp only [hj]; rfl]; rfl
        rw [e]
    case r4 =>
    rintro _ rfl
    have l3 := kd3_len r
    -- raised
    refine wb_mid (fun env' => env' = T (kd4 r)) ?s5 ?r5
    case s5 =>
      have no : (∀ b, r.back = b → b ≠ .all → kd4 r = kd3 r) := fun b hb hn => by
        unfold kd4
        rw [show known r 5 = none by unfold known; simp only [hb]; all_goals (cases b <;> first | rfl | exact absurd rfl hn)]
        rfl
      cases hb : r.back with
      | none =>
        refine ws_skip (tis (t4 _ _ false hb (by decide +kernel)) (tc_strE (bk_ok _) (by decide +kernel) hr.units (vc_ixL (ds := rp r) (i := 4) (vc_dat 0) vc_int rfl) vc_str)) ?_
        rw [no _ hb (by decide)]
      | same =>
        refine ws_skip (tis (t4 _ _ false hb (by decide +kernel)) (tc_strE (bk_ok _) (by decide +kernel) hr.units (vc_ixL (ds := rp r) (i := 4) (vc_dat 0) vc_int rfl) vc_str)) ?_
        rw [no _ hb (by decide)]
      | all =>
        refine ws_take (tis (t4 _ _ true hb (by decide +kernel)) (tc_strE (bk_ok _) (by decide +kernel) hr.units (vc_ixL (ds := rp r) (i := 4) (vc_dat 0) vc_int rfl) vc_str)) ?_
        have other : ∀ m, r.mark = m → m ≠ .alone → kd4 r = putS (kd3 r) (nm 5) (hD [0, 1, 7, 5, 8]) := fun m hm hn => by
          unfold kd4
          rw [show known r 5 = some [0, 1, 7, 5, 8] by unfold known; simp only [hb, hm]; all_goals (cases m <;> first | rfl | exact absurd rfl hn)]
          rfl
        by_cases hm : r.mark = .alone
        · refine wb_cons (ws_ifP (b' := true) (tis (t2 _ _ true hm (by decide +kernel)) (tc_strE (mk_ok _) (by decide +kernel) hr.units (vc_ixL (ds := rp r) (i := 2) (vc_dat 0) vc_int rfl) vc_str)) (fun _ => ?_) fun z => by cases z)
          refine wb_cons (ws_dput (k := nm 5) 5 hr (.pure (vis (show PyData.list [(dd 0).d, (dd 1).d, (dd 5).d, (dd 7).d, (dd 8).d] = hD [0, 1, 5, 7, 8] from rfl) (vc_lst (dc_cons (vc_dat 1) (dc_cons (vc_dat 2) (dc_cons (vc_dat 3) (dc_cons (vc_dat 4) (dc_cons (vc_tup (ds := [.str "fetch", .int 0]) (dc_cons vc_str (dc_cons vc_int dc_nil))) dc_nil))))))) ⟨_, rfl, kd3 r, rfl, vc_str, by omega, ?_⟩))
          refine wb_nil (wb_nil ?_)
          have e : kd4 r = putS (kd3 r) (nm 5) (hD [0, 1, 5, 7, 8]) := by unfold kd4; rw [show known r 5 = some [0, 1, 5, 7, 8] by unfold known; simp only [hb, hm]]; rfl
          rw [e]
          rfl
        · have hf : decide (r.mark.str = "alone") = false := by cases q : r.mark <;> first | exact absurd q hm | decide +kernel
          refine wb_cons (ws_ifP (b' := false) (tis hf (tc_strE (mk_ok _) (by decide +kernel) hr.units (vc_ixL (ds := rp r) (i := 2) (vc_dat 0) vc_int rfl) vc_str)) (fun z => by cases z) fun _ => ?_)
          refine wb_cons (ws_dput (k := nm 5) 5 hr (.pure (vis (show PyData.list [(dd 0).d, (dd 1).d, (dd 7).d, (dd 5).d, (dd 8).d] = hD [0, 1, 7, 5, 8] from rfl) (vc_lst (dc_cons (vc_dat 1) (dc_cons (vc_dat 2) (dc_cons (vc_dat 4) (dc_cons (vc_dat 3) (dc_cons (vc_tup (ds := [.str "fetch", .int 0]) (dc_cons vc_str (dc_cons vc_int dc_nil))) dc_nil))))))) ⟨_, rfl, kd3 r, rfl, vc_str, by omega, ?_⟩))
          refine wb_nil (wb_nil ?_)
          rw [other _ rfl hm]
          rfl
    case r5 =>
    rintro _ rfl
    have l4 := kd4_len r
    -- left
    refine wb_mid (fun env' => env' = T (kd5 r)) ?s6 ?r6
    case s6 =>
      have fm : ∀ m, r.mark = m → decide (r.mark.str = "along") = decide (m = .along) := fun m e => by rw [e]; cases m <;> decide +kernel
      have fb : ∀ m, r.back = m → decide (r.back.str = "none") = decide (m = .none) := fun m e => by rw [e]; cases m <;> decide +kernel
      refine ws_ifP (b' := decide (r.mark = .along) && decide (r.back = .none)) (WC.tc (wc_and (tis (fm _ rfl) (tc_strE (mk_ok _) (by decide +kernel) hr.units (vc_ixL (ds := rp r) (i := 2) (vc_dat 0) vc_int rfl) vc_str)) fun _ => wc_and1 (tis (fb _ rfl) (tc_strE (bk_ok _) (by decide +kernel) hr.units (vc_ixL (ds := rp r) (i := 4) (vc_dat 0) vc_int rfl) vc_str)))) (fun hb => ?_) fun hb => wb_nil ?_
      · simp only [Bool.and_eq_true, decide_eq_true_eq] at hb
        refine wb_cons (ws_dput (k := nm 6) 5 hr (.pure (vis (show PyData.list [(dd 0).d, (dd 1).d, (dd 5).d, (dd 8).d] = hD [0, 1, 5, 8] from rfl) (vc_lst (dc_cons (vc_dat 1) (dc_cons (vc_dat 2) (dc_cons (vc_dat 3) (dc_cons (vc_tup (ds := [.str "fetch", .int 0]) (dc_cons vc_str (dc_cons vc_int dc_nil))) dc_nil)))))) ⟨_, rfl, kd4 r, rfl, vc_str, by omega, ?_⟩))
        refine wb_nil ?_
        have e : kd5 r = putS (kd4 r) (nm 6) (hD [0, 1, 5, 8]) := by unfold kd5; rw [show known r 6 = some [0, 1, 5, 8] by unfold known; simp only [hb.1, hb.2]]; rfl
        rw [e]
        rfl
      · have e : kd5 r = kd4 r := by
          unfold kd5
          rw [show known r 6 = none by unfold known; cases hm : r.mark <;> cases hk : r.back <;> first | rfl | (rw [hm, hk] at hb; exact absurd hb (by decide))]
          rfl
        rw [e]
    case r6 =>
    rintro _ rfl
    exact wb_cons (ws_ret (ec_name_own 5 rfl ⟨_, .dat .nil, k v⟩))
def sp_law : G.Spec := fun cs R _ => ∃ ns : List Int, cs = [.dat (.list (ns.map .int))] ∧ R (.dat (.bool true)) cs
theorem strs_sh {xs : List Str} (h : ∀ x ∈ xs, PyData.strOk x = true) : SeqAt.shaped (.list (xs.map .str)) = true := (shaped_lst (n := 0) (by decide) fun d hd => by
  obtain ⟨x, hx, rfl⟩ := List.mem_map.mp hd
  exact shaped_str (h x hx)).1
theorem ok_law {f : Addr} {fd : FuncData} (B : Bi mg) (F : L2.Fun K "law" "law" s_law f fd) (FB : Fn P w K mg base "_law_begin" 1 (sp_begin K)) (FP : Fn P w K mg base "_law_parts" 2 (sp_parts K)) (FR : Fn P w K mg base "_law_rule" 5 (sp_law_rule K C CB)) (FC : Fn P w K mg base "can" 7 (sp_can K C)) (FK : Fn P w K mg base "_law_known" 2 (sp_known K))
    (LK : ∀ n, Fn P w K mg base "_law_like" (n + 1) (sp_like n)) : FnOk P w K mg base (L2.CX P w) 8 f fd p_law (spG K sp_law) := by
  have nd := sc_law.nd
  refine okG F sc_law (fun cs R RX h => ?_) (fun cdv A outer s H E X eX hr tk hp cs R RX h => ?_)
  · obtain ⟨ns, rfl, _⟩ := h
    rfl
  · subst eX
    obtain ⟨ns, rfl, k⟩ := h
    have hr1 := hr.mono (show 1 ≤ 7 by decide)
    have hr2 := hr.mono (show 2 ≤ 7 by decide)
    have hr3 := hr.mono (show 3 ≤ 7 by decide)
    have hr5 := hr.mono (show 5 ≤ 7 by decide)
    refine wb_cons (ws_set 1 (VO.eff (vo_call FB hr1 (ac_cons (vc_dat 0) ac_nil) ⟨ns, rfl, fun v => ⟨v, rfl⟩⟩) fun v1 => ?_) nd)
    refine wb_cons (ws_set 2 (ec_call FP hr2 tk (ea_own 1 (ea_nil ⟨⟨⟨_, rfl⟩, trivial⟩, by simp [slotsA], v1, _, rfl, fun w' ps D hps => ?_⟩))) nd)
    refine wb_frz 2 frz_olst rfl ?_
    obtain ⟨r, rfl⟩ := parts_rule hps
    let x0 : Option Ct := some (.dat (.list (ns.map .int)))
    let x1 : Option Ct := some (.own v1 (olst K D.ds))
    let x2 : Option Ct := some (.dat (rpD r))
    refine wb_at (env' := [x0, x1, x2, none, none, none, none]) rfl ?_
    refine wb_cons (ws_set 3 (VO.eff (vo_call (R := odk K (canL r wd)) FC hr (ac_pin (vc_call (c := rl K C r) FR hr5 (ac_cons (vc_dat 2) ac_nil) ⟨rp r, rfl, rfl, (fun _ => by rw [rl_fs]), fun x hx => by rw [fine_rp] at hx; cases hx⟩) (ac_cons (vc_tup (ds := [.tuple [.str "a"], .int 2, .int 1]) (dc_cons (vc_tup (dc_cons vc_str dc_nil)) (dc_cons vc_int (dc_cons vc_int dc_nil)))) ac_nil)) ⟨r, wd, rfl, wd_ok, fun v => ⟨v, rfl⟩⟩) fun v3 => ?_) nd)
    refine wb_lock 3 rfl ?_
    let x3 : Option Ct := some (.pin (pdk K (canL r wd)))
    refine wb_at (env' := [x0, x1, x2, x3, none, none, none]) rfl ?_
    refine wb_cons (ws_set 4 (VO.eff (vo_call FK hr2 (ac_cons (vc_dat 2) ac_nil) ⟨r, rfl, fun v => ⟨v, rfl⟩⟩) fun v4 => ?_) nd)
    let x4 : Option Ct := some (.own v4 (odk K (kd5 r)))
    refine wb_cons (ws_set 5 (.pure (vc_lst (ds := faultsL.map .str) (dc_cons vc_str (dc_cons vc_str (dc_cons vc_str (dc_cons vc_str (dc_cons vc_str (dc_cons vc_str (dc_cons vc_str (dc_cons vc_str dc_nil))))))))) ?_) nd)
    let x5 : Option Ct := some (.dat (.list (faultsL.map .str)))
    refine wb_at (env' := [x0, x1, x2, x3, x4, x5, none]) rfl ?_
    have shk : SeqAt.shaped (.list ((comeL r wd).map .str)) = true := strs_sh fun x hx => faultsL_str x (List.mem_filter.mp hx).1
    have ek : ((canL r wd).map (·.1)).map PyData.str = (comeL r wd).map .str := by rw [canL_keys]
    have ec : faultsL.filter (fun x => (getS (kd5 r) x).isSome) = comeL r wd := List.filter_congr fun x hx => by rw [least_kd r hx]
    refine wb_cons (ws_skip (tis (by rw [eqv_self shk]; rfl) (tc_cmp (op_neD hr.units) (od_neD shk shk) (vis (congrArg PyData.list ek) (VO.dat (vo_pkeys (kvs := canL r wd) 3 B.list)))
      (vis (congrArg (fun xs => PyData.list (xs.map PyData.str)) ec) (VO.dat (vo_filt (own := [("_law_name", 6)]) faultsL .str (fun x => (getS (kd5 r) x).isSome) .str nd (vi_list (vc_dat 5)) (fun x hx _ _ _ _ _ => gc_name 6 nd)
      (fun x hx _ _ _ _ _ => tc_din 4 (by exact hr) (vc_dat 6)) (fun x hx hp _ _ _ _ _ => vc_dat 6) (by decide)))))) ?_)
    refine wb_cons (ws_for hp rfl (vi_eq ek (vi_pkeys (kvs := canL r wd) 3)) (fun i env => ∃ a, env = [x0, x1, x2, x3, x4, x5, a]) ⟨none, rfl⟩ ?turn ?fin)
    case turn =>
      rintro i d hd env1 ⟨a, rfl⟩
      obtain ⟨x, hx, rfl⟩ := of_map hd
      have hxm := List.mem_of_getElem? hx
      obtain ⟨hxf, hxs⟩ := List.mem_filter.mp hxm
      have hg := getS_eq hxs
      have hg2 : getS (kd5 r) x = some ((getS (leastL r wd) x).getD .none) := by rw [← least_kd r hxf]; exact hg
      refine ⟨_, _, gc_name 6 nd, ?_⟩
      refine wb_at (env' := [x0, x1, x2, x3, x4, x5, some (.dat (.str x))]) rfl ?_
      refine wb_cons (ws_skip (tc_not (b' := true) (tc_val (vc_call (LK 2) hr3 (ac_cons (vc_pget (kvs := canL r wd) 3 hr (vc_dat 6) ((canL_get hxm).trans hg)) (ac_cons (vc_dget (kvs := kd5 r) 4 hr (vc_dat 6) hg2) ac_nil)) ⟨_, rfl, least_list wd_ok hg, rfl⟩))) ?_)
      exact wb_nil ⟨_, rfl⟩
    case fin =>
      rintro env1 ⟨a, rfl⟩
      exact wb_cons (ws_ret (.pure vc_bl ⟨_, .dat .nil, k⟩))
end
end Pg

set_option maxRecDepth 100000
set_option maxHeartbeats 4000000
/-! the end: what the top has made, read by one hook -/
namespace G
open PySem PySem.Spec PyProof.Rows L2 He
/-! ### constants -/
mutual
def datB (K : PySem.W.Frag) : PyData → Value → Bool
  | .none, u => (match u with | .none => true | _ => false)
  | .bool b, u => (match u with | .bool c => b == c | _ => false)
  | .int i, u => (match u with | .int j _ => decide (i = j) | _ => false)
  | .str x, u => (match u with | .str y _ => decide (x = y) | _ => false)
  | .tuple ds, u => (match u with
    | .ref a => (match K.lookup a with
      | some ⟨.type c, _, .seq its _, _⟩ => decide (c = "tuple") && (decide (its.size ≤ sizeLine) && datsB K ds its.toList)
      | _ => false)
    | _ => false)
  | .list _, _ => false
  | .dict _, _ => false
def datsB (K : PySem.W.Frag) : List PyData → List Value → Bool
  | [], us => us.isEmpty
  | d :: ds, us => (match us with | u :: us => datB K d u && datsB K ds us | [] => false)
end
mutual
theorem datB_ok {K : PySem.W.Frag} : ∀ (d : PyData) (u : Value), datB K d u = true → ∃ v, RelV v u ∧ ∀ F, Dp K F v d
  | .none, u, h => by
    cases u with
    | none => exact ⟨.non, rfl, fun _ => .non⟩
    | _ => simp [datB] at h
  | .bool b, u, h => by
    cases u with
    | bool c =>
      have e : b = c := by simpa [datB] using h
      subst e
      exact ⟨.bl b, rfl, fun _ => .bl b⟩
    | _ => simp [datB] at h
  | .int i, u, h => by
    cases u with
    | int j t =>
      have e : i = j := by simpa [datB] using h
      subst e
      exact ⟨.int i, ⟨t, rfl⟩, fun _ => .int i⟩
    | _ => simp [datB] at h
  | .str x, u, h => by
    cases u with
    | str y t =>
      have e : x = y := by simpa [datB] using h
      subst e
      exact ⟨.str x, ⟨t, rfl⟩, fun _ => .str x⟩
    | _ => simp [datB] at h
  | .tuple ds, u, h => by
    cases u with
    | ref a =>
      rw [datB] at h
      split at h
      · rename_i c od its n osl hk
        obtain ⟨h1, h2⟩ := ba h
        obtain ⟨h3, h4⟩ := ba h2
        obtain ⟨vs, hv, hd⟩ := datsB_ok ds its.toList h4
        exact ⟨.ref a, rfl, fun F => .tup (.inr ⟨_, its, n, hk, congrArg Value.type (of_decide_eq_true h1), rfl, of_decide_eq_true h3, hv⟩) (hd F)⟩
      · cases h
    | _ => simp [datB] at h
  | .list _, u, h => by simp [datB] at h
  | .dict _, u, h => by simp [datB] at h
theorem datsB_ok {K : PySem.W.Frag} : ∀ (ds : List PyData) (us : List Value), datsB K ds us = true → ∃ vs, Vals vs us ∧ ∀ F, DpAll K F vs ds
  | [], [], _ => ⟨[], .nil, fun _ => .nil⟩
  | [], _ :: _, h => by simp [datsB] at h
  | _ :: _, [], h => by simp [datsB] at h
  | d :: ds, u :: us, h => by
    rw [datsB] at h
    obtain ⟨h1, h2⟩ := ba h
    obtain ⟨v, hv, hd⟩ := datB_ok d u h1
    obtain ⟨vs, hvs, hds⟩ := datsB_ok ds us h2
    exact ⟨v :: vs, .cons hv hvs, fun F => .cons (hd F) (hds F)⟩
end
def globB (K : PySem.W.Frag) (x : Str) (d : PyData) : Bool := match PySem.W.nsIn K mainGlobals x with
  | some (some u) => datB K d u
  | _ => false
theorem globB_ok {K : PySem.W.Frag} {h : Heap} {mg : Str → Option Value} (X : K.In h) (N : h.Ns mainGlobals mg) {x : Str} {d : PyData} (c : globB K x d = true) : ∃ v u, mg x = some u ∧ RelV v u ∧ ∀ F, Dp K F v d := by
  unfold globB at c
  split at c
  · rename_i u e
    obtain ⟨v, h1, h2⟩ := datB_ok d u c
    exact ⟨v, u, PySem.W.mg_of X N e, h1, h2⟩
  · cases c
/-! ### classes -/
def oexB (K : PySem.W.Frag) (C : Addr) : Bool := match K.lookup C with
  | some ⟨.type "type", _, .cls cd, sl⟩ => (match cd.mro, sl.toList with
    | .ref C1 :: bm, [_, _, _, _, some (.builtin n), _] => C1 == C && (n == "ValueError.__new__" && (!cd.hasDel && (cd.hasDict && PySem.HandSPX.refsVE bm)))
    | _, _ => false)
  | _ => false
theorem oexB_ok {K : PySem.W.Frag} {C : Addr} (q : oexB K C = true) : ∃ nm q N bs bm sn sub ab col dd k0 k1 k2 k3 k5, K.lookup C = some (excClassObj nm q C N bs bm true sn sub ab col dd k0 k1 k2 k3 k5 "ValueError.__new__") ∧ PySem.HandSPX.refsVE bm = true := by
  unfold oexB at q
  split at q
  · rename_i dd cd sl ho
    split at q
    · rename_i C1 bm k0 k1 k2 k3 n k5 hm hs
      obtain ⟨q1, q⟩ := ba q
      obtain ⟨q2, q⟩ := ba q
      obtain ⟨q3, q⟩ := ba q
      obtain ⟨q4, q5⟩ := ba q
      have e1 := beq_iff_eq.mp q1
      have e2 := beq_iff_eq.mp q2
      subst e1 e2
      obtain ⟨nm, bs, mro, ns, qn, hd, sn, sub, ab, col, del⟩ := cd
      have e3 : del = false := by simpa using q3
      have e4 : hd = true := q4
      have e5 : mro = .ref C1 :: bm := hm
      subst e3 e4 e5
      refine ⟨nm, qn, ns, bs, bm, sn, sub, ab, col, dd, k0, k1, k2, k3, k5, ?_, q5⟩
      rw [ho]
      obtain ⟨l⟩ := sl
      have e6 : l = [k0, k1, k2, k3, some (.builtin "ValueError.__new__"), k5] := hs
      rw [e6]
    · cases q
  · cases q
/-- an own exception with one field -/
def excB (K : PySem.W.Frag) (x f : Str) : Bool := oexB K (ga K x) && (xfB K (ga K x) && ((Fa.glo x).ok K && ((Fa.noat x f).ok K && ((Fa.exm x x true).ok K && ((Fa.meth x "__init__").ok K && (decide (PySem.W.typeIn K (.ref (ma K (ga K x) "__init__")) = some (.type "function")) &&
  (eqO (PySem.W.findIn K (.ref (ga K x)) "__setattr__") (some (some (.builtin "object.__setattr__"))) && (decide (PySem.W.subIn K (.ref (ga K x)) (.type "BaseException") = some true) && (decide (PySem.W.typeIn K (.ref (ga K x)) = some (.type "type")) && PySem.W.keepIn K (.ref (ga K x)))))))))))
theorem excB_ok {P : Program} {w : World} {K : PySem.W.Frag} {h : Heap} {mg : Str → Option Value} {base : Heap} (X : K.In h) (N : h.Ns mainGlobals mg) {x f : Str} (c : excB K x f = true)
    (ini : ∀ fI, PySem.W.findIn K (.ref (ga K x)) "__init__" = some (some (.ref fI)) → fI = ma K (ga K x) "__init__" → OexC K (ga K x) → PySem.W.findIn K (.ref (ga K x)) f = some none → ∃ fd ps, Binds K fd ps [] ∧ FnOk P w K mg base (L2.CX P w) 1 fI fd ps (spExc (ga K x) f)) : Exk P w K mg base x (ga K x) f := by
  unfold excB at c
  obtain ⟨c1, c⟩ := ba c
  obtain ⟨c2, c⟩ := ba c
  obtain ⟨c3, c⟩ := ba c
  obtain ⟨c4, c⟩ := ba c
  obtain ⟨c5, c⟩ := ba c
  obtain ⟨c6, c⟩ := ba c
  obtain ⟨c7, c⟩ := ba c
  obtain ⟨c8, c⟩ := ba c
  obtain ⟨c9, c⟩ := ba c
  obtain ⟨c10, c11⟩ := ba c
  have oe : OexC K (ga K x) := ⟨oexB_ok c1, eqO_ok c8, of_decide_eq_true c9, of_decide_eq_true c10, c11⟩
  have no : PySem.W.findIn K (.ref (ga K x)) f = some none := noat_ok c4
  have me := meth_ok c6
  obtain ⟨fd, ps, hb, ok⟩ := ini _ me.at_ rfl oe no
  exact ⟨oe, xfB_ok c2, glo_ok X N c3, no, exm_ok c5, _, fd, ps, me.at_, of_decide_eq_true c7, hb, ok⟩
/-- isinstance(.., x) of x's instances -/
def isiB (K : PySem.W.Frag) (x : Str) : Bool := (Fa.cls x).ok K && (eqO (PySem.W.findIn K (.ref (ga K x)) "__class__") (some (some (.builtin "object.__class__"))) && (eqO (PySem.W.specialIn K (.builtin "object.__class__") "__get__") (some (some (.builtin "getset_descriptor.__get__"))) &&
  (decide (PySem.W.takesIn K (.builtin "object.__class__") = some true) && (decide (PySem.W.mroIn K (ga K x) (.type "object") = some true) && decide (PySem.W.kitOne K (.ref (ga K x)) (.ref (ga K x)) = some true)))))
theorem isiB_ok {K : PySem.W.Frag} {x : Str} (c : isiB K x = true) : IsiC K (ga K x) := by
  unfold isiB at c
  obtain ⟨c1, c⟩ := ba c
  obtain ⟨c2, c⟩ := ba c
  obtain ⟨c3, c⟩ := ba c
  obtain ⟨c4, c⟩ := ba c
  obtain ⟨c5, c6⟩ := ba c
  exact ⟨cls_ok c1, eqO_ok c2, eqO_ok c3, of_decide_eq_true c4, of_decide_eq_true c5, of_decide_eq_true c6⟩
/-! ### defs -/
structure DD where
  at_ : Str × Option Str
  qual : Str
  st : Stmt
def DD.name (d : DD) : Str := match d.at_.2 with
  | none => d.at_.1
  | some m => m
def DD.fnd (d : DD) : FnD := ⟨d.at_, d.name, d.qual, defArgs d.st, defBody d.st, defScope d.st⟩
def DD.ok (K : PySem.W.Frag) (d : DD) : Bool := (Fa.code d.at_ d.qual).ok K && (match d.at_.2 with
  | none => (Fa.glo d.at_.1).ok K && (Fa.keep d.at_.1).ok K
  | some m => (Fa.meth d.at_.1 m).ok K)
abbrev AlM : Type := Bool × List FnV
def obsM (ds : List DD) (ex : PySem.W.Frag → Bool) (K : PySem.W.Frag) : AlM := ((ds.all fun d => d.ok K) && ex K, ds.map fun d => fnObs K d.at_)
def valM (ds : List DD) : AlM := (true, ds.map fun d => d.fnd.val)
def obsMG (n : Nat) (ds : List DD) (ex : PySem.W.Frag → Bool) (g : Addr → Option Obj) : AlM := obsM ds ex (frG g (asD g n))
def hookM (n : Nat) (ds : List DD) (ex : PySem.W.Frag → Bool) : PySem.W.Hook where
  α := AlM
  obs := fun s => obsMG n ds ex s.heap.get?
  val := fun _ => valM ds
  says := fun _ h => ∃ K : PySem.W.Frag, K.In h ∧ obsM ds ex K = valM ds
  of := fun _ _ e => ⟨_, frG_in, e⟩
  keeps := fun _ _ _ ⟨K, hK, c⟩ k => ⟨K, PySem.W.Frag.In.keeps hK k, c⟩
theorem obsM_eq {n : Nat} {ds : List DD} {ex : PySem.W.Frag → Bool} {g : Addr → Option Obj} {s : Shared} (h : ∀ a, g a = s.heap.get? a) : obsMG n ds ex g = (hookM n ds ex).obs s := by
  have e : g = s.heap.get? := funext h
  rw [e] <;> rfl
section
variable {ds : List DD} {ex : PySem.W.Frag → Bool} {K : PySem.W.Frag} {h : Heap} {mg : Str → Option Value}
theorem says_ex (c : obsM ds ex K = valM ds) : ex K = true := (ba (show ((ds.all fun d => d.ok K) && ex K) = true from congrArg (fun z : AlM => z.1) c)).2
theorem says_fun (c : obsM ds ex K = valM ds) (i : Nat) {d : DD} (hd : ds[i]? = some d) (hk : PySem.W.keepIn K (.ref (fAd K d.at_)) = true) : ∃ fd, Fun K d.name d.qual d.st (fAd K d.at_) fd := by
  have c2 := (ba (show ((ds.all fun d => d.ok K) && ex K) = true from congrArg (fun z : AlM => z.1) c)).1
  have e : ds.map (fun d => fnObs K d.at_) = ds.map fun d => d.fnd.val := congrArg (fun z : AlM => z.2) c
  have e2 : (ds.map fun d => fnObs K d.at_)[i]? = (ds.map fun d => d.fnd.val)[i]? := by rw [e]
  rw [List.getElem?_map, List.getElem?_map, hd] at e2
  have ok := List.all_eq_true.mp c2 d (List.mem_of_getElem? hd)
  obtain ⟨oc, od, osl, kV, doc, pm, an, cdv, ct, l, cc⟩ := fn_ok (d := d.fnd) (Option.some.inj e2) (ba ok).1
  exact ⟨_, fun_mk l cc hk⟩
theorem says_glo (c : obsM ds ex K = valM ds) (X : K.In h) (N : h.Ns mainGlobals mg) (i : Nat) {x : Str} {st : Stmt} (hd : ds[i]? = some ⟨(x, none), x, st⟩) {ps : List Str}
    (hb : ∀ (kV doc pm : Value) (an : Option Addr) (cdv ct : Value) (us : List Value), us.length = ps.length → bindArgs (PySem.W.fnOf x x (defArgs st) (defBody st) (defScope st) .none kV doc pm an cdv ct) ⟨us, []⟩ = pure (ps.zip us)) : Df K mg x st ps := by
  have c2 := (ba (show ((ds.all fun d => d.ok K) && ex K) = true from congrArg (fun z : AlM => z.1) c)).1
  have ok := List.all_eq_true.mp c2 _ (List.mem_of_getElem? hd)
  obtain ⟨g1, g2⟩ := ba (ba ok).2
  obtain ⟨fd, F⟩ := says_fun c i hd (keep_ok g2)
  exact ⟨_, fd, F, glo_ok X N g1, F.binds hb⟩
theorem says_meth (c : obsM ds ex K = valM ds) (i : Nat) {x m q : Str} {st : Stmt} (hd : ds[i]? = some ⟨(x, some m), q, st⟩) {ps : List Str}
    (hb : ∀ (kV doc pm : Value) (an : Option Addr) (cdv ct : Value) (us : List Value), us.length = ps.length → bindArgs (PySem.W.fnOf m q (defArgs st) (defBody st) (defScope st) .none kV doc pm an cdv ct) ⟨us, []⟩ = pure (ps.zip us)) : Dm K (ga K x) m q st ps := by
  have c2 := (ba (show ((ds.all fun d => d.ok K) && ex K) = true from congrArg (fun z : AlM => z.1) c)).1
  have ok := List.all_eq_true.mp c2 _ (List.mem_of_getElem? hd)
  have g := meth_ok (ba ok).2
  obtain ⟨fd, F⟩ := says_fun c i hd g.kp
  exact ⟨_, fd, F, g, F.binds hb⟩
theorem says_init (c : obsM ds ex K = valM ds) (X : K.In h) (N : h.Ns mainGlobals mg) (i : Nat) {x q : Str} {st : Stmt} (hd : ds[i]? = some ⟨(x, some "__init__"), q, st⟩) {ps : List Str} (hm : (Fa.mkr x).ok K = true) (hg : (Fa.glo x).ok K = true)
    (hb : ∀ (kV doc pm : Value) (an : Option Addr) (cdv ct : Value) (us : List Value), us.length = ps.length → bindArgs (PySem.W.fnOf "__init__" q (defArgs st) (defBody st) (defScope st) .none kV doc pm an cdv ct) ⟨us, []⟩ = pure (ps.zip us)) : Di K mg x (ga K x) q st ps := by
  have c2 := (ba (show ((ds.all fun d => d.ok K) && ex K) = true from congrArg (fun z : AlM => z.1) c)).1
  have ok := List.all_eq_true.mp c2 _ (List.mem_of_getElem? hd)
  have g := meth_ok (ba ok).2
  obtain ⟨fd, F⟩ := says_fun c i hd g.kp
  exact ⟨_, fd, F, mkr_ok hm, glo_ok X N hg, F.binds hb⟩
end
def biL : List Str := ["len", "any", "all", "list", "tuple", "range", "enumerate", "zip", "int", "str", "bool", "isinstance", "set", "dict", "max", "min", "sorted"]
def biB (K : PySem.W.Frag) : Bool := biL.all fun x => (Fa.free x).ok K
theorem biB_ok {K : PySem.W.Frag} {h : Heap} {mg : Str → Option Value} (X : K.In h) (N : h.Ns mainGlobals mg) (c : biB K = true) : Bi mg := by
  have f : ∀ i x, biL[i]? = some x → mg x = none := fun i x e => free_ok X N (List.all_eq_true.mp c x (List.mem_of_getElem? e))
  exact ⟨f 0 _ rfl, f 1 _ rfl, f 2 _ rfl, f 3 _ rfl, f 4 _ rfl, f 5 _ rfl, f 6 _ rfl, f 7 _ rfl, f 8 _ rfl, f 9 _ rfl, f 10 _ rfl, f 11 _ rfl, f 12 _ rfl, f 13 _ rfl, f 14 _ rfl, f 15 _ rfl, f 16 _ rfl⟩
/-- the law's promise from its Fn -/
theorem law_end {P : Program} {w : World} {K : PySem.W.Frag} {mg : Str → Option Value} {base : Heap} {k : Nat} {spec : Spec} {f : Addr} {fd : FuncData} {ps : List Str} (ok : FnOk P w K mg base (L2.CX P w) k f fd ps (spG K spec))
    {H : Hp} {a : Addr} {ns : List Int} (hS : SqL K H a (ns.map V.int)) (only : Same H H) (hs : spec [.dat (.list (ns.map .int))] (fun c _ => c = .dat (.bool true)) (fun _ _ => False)) : spG K spec [.ref a] H (fun v _ => v = .bl true) fun _ _ _ => False := by
  have hd : DpAll K H (ns.map L2.V.int) (ns.map .int) := by
    clear hS hs
    induction ns with
    | nil => exact .nil
    | cons n ns ih => exact .cons (.int n) ih
  refine call_pureX (PC := fun c => c = .dat (.bool true)) (PX := fun _ => False) (F := H) only (.dat (.lst hS hd) .nil) hs (fun v F' H' Sv c g hv _ e => ?_) fun _ _ _ _ _ _ _ z => z.elim
  subst e
  have := hv.1
  cases this
  rfl
end G


set_option maxRecDepth 100000
set_option maxHeartbeats 4000000
namespace G
open PySem PySem.Spec PyProof.Rows L2 He
theorem cx_never {P : Program} {w : World} (H : Hp) (s : Shared) (e : Value) (s' : Shared) : ¬ L2.CX P w [] H s (fun _ _ _ => False) e s' := fun ⟨_, _, _, _, _, _, _, _, _, _, _, _, z⟩ => z
/-- from the hook's word to the law -/
theorem walkG {l : PySem.W.OpenLaw} {k m : Nat} {q : Program} {loose : List Str} {XP : (Str → Option Value) → Heap → Prop} {d : DefRec} {x : Str} {ds : List DD} {ex : PySem.W.Frag → Bool}
    (hn : l.most = some 63) (hdf : d.params.defaults = []) (hr : Room k callerA)
    (F : ∀ (w : World) (mg : Str → Option Value) (h : Heap) (K : PySem.W.Frag), K.In h → h.Ns mainGlobals mg → obsM ds ex K = valM ds → ∃ (f : Addr) (fd : FuncData), mg d.name = some (.ref f) ∧ (∀ (s : Shared) (u : Value), BindsTo s fd ⟨[u], []⟩ [(x, u)]) ∧
      ∀ base : Heap, K.In base → base.Ns mainGlobals mg → FnOk l.prog w K mg base (L2.CX l.prog w) k f fd [x] (spG K fun cs R _ => ∃ ns : List Int, cs = [.dat (.list (ns.map .int))] ∧ R (.dat (.bool true)) cs)) :
    PySem.W.WalkO q loose XP (hookM m ds ex).says l.row.toRowW d [] (fun f vs => PySem.call f vs) := by
  refine Att.attach_call hn hdf (fun w s0 s1 mg mb fa o pm cd doc a vs ns G Y ho hd hcd hmg hobj hints hlen hg => ?_)
  obtain ⟨K, KX, c⟩ := Y
  obtain ⟨f, fd, hf, hb, hF⟩ := F w mg _ K KX G.T.g c
  have e := hmg.symm.trans hf
  cases e
  refine law_call KX G.T.g G.T.b G.T.builtins G.T.nolimit hg hobj hints (Nat.le_trans hlen (by rw [sizeLine_eq]; decide)) hr (fun base h1 h2 => hF base h1 h2) hb (fun H hO hS => ?_) fun H e => cx_never H s1 e
  exact law_end (hF _ KX G.T.g) hS (Same.refl H) ⟨ns, rfl, rfl⟩
end G


set_option maxRecDepth 100000
set_option maxHeartbeats 4000000
namespace G
open PySem PySem.Spec PyProof.Rows L2 He
def ex0B (K : PySem.W.Frag) (x : Str) : Bool := PySem.W.excIn K (ga K x) bmVE "ValueError.__new__" && ((Fa.glo x).ok K && (PySem.W.keepIn K (.ref (ga K x)) && (decide (PySem.W.subIn K (.ref (ga K x)) (.type "BaseException") = some true) && (decide (PySem.W.typeIn K (.ref (ga K x)) = some (.type "type")) && (Fa.exm x x true).ok K))))
theorem ex0B_ok {K : PySem.W.Frag} {h : Heap} {mg : Str → Option Value} (X : K.In h) (N : h.Ns mainGlobals mg) {x : Str} (c : ex0B K x = true) : Ex0 K mg x (ga K x) := by
  unfold ex0B at c
  obtain ⟨c1, c⟩ := ba c
  obtain ⟨c2, c⟩ := ba c
  obtain ⟨c3, c⟩ := ba c
  obtain ⟨c4, c⟩ := ba c
  obtain ⟨c5, c6⟩ := ba c
  exact ⟨c1, glo_ok X N c2, c3, of_decide_eq_true c4, of_decide_eq_true c5, exm_ok c6⟩
end G


set_option maxRecDepth 100000
set_option maxHeartbeats 0
namespace Pg
open PySem PySem.Spec PyProof.Rows L2 G M He
def dds : List DD := [⟨("BadRule", some "__init__"), "BadRule.__init__", s_BadRule_init⟩,
  ⟨("_law_begin", none), "_law_begin", s__law_begin⟩,
  ⟨("_law_draw", none), "_law_draw", s__law_draw⟩,
  ⟨("_law_values", none), "_law_values", s__law_values⟩,
  ⟨("_law_parts", none), "_law_parts", s__law_parts⟩,
  ⟨("is_value", none), "is_value", s_is_value⟩,
  ⟨("Rule", some "__init__"), "Rule.__init__", s_Rule_init⟩,
  ⟨("_law_rule", none), "_law_rule", s__law_rule⟩,
  ⟨("is_whole", none), "is_whole", s_is_whole⟩,
  ⟨("is_world", none), "is_world", s_is_world⟩,
  ⟨("check_world", none), "check_world", s_check_world⟩,
  ⟨("has_live", none), "has_live", s_has_live⟩,
  ⟨("may_own", none), "may_own", s_may_own⟩,
  ⟨("is_live", none), "is_live", s_is_live⟩,
  ⟨("is_gone", none), "is_gone", s_is_gone⟩,
  ⟨("may_have", none), "may_have", s_may_have⟩,
  ⟨("with_row", none), "with_row", s_with_row⟩,
  ⟨("marked", none), "marked", s_marked⟩,
  ⟨("fetched", none), "fetched", s_fetched⟩,
  ⟨("raised", none), "raised", s_raised⟩,
  ⟨("cleared", none), "cleared", s_cleared⟩,
  ⟨("behind", none), "behind", s_behind⟩,
  ⟨("step", none), "step", s_step⟩,
  ⟨("all_deeds", none), "all_deeds", s_all_deeds⟩,
  ⟨("walked", none), "walked", s_walked⟩,
  ⟨("counted", none), "counted", s_counted⟩,
  ⟨("shown", none), "shown", s_shown⟩,
  ⟨("standing_faults", none), "standing_faults", s_standing_faults⟩,
  ⟨("deed_faults", none), "deed_faults", s_deed_faults⟩,
  ⟨("faults_of", none), "faults_of", s_faults_of⟩,
  ⟨("least_faults", none), "least_faults", s_least_faults⟩,
  ⟨("can", none), "can", s_can⟩,
  ⟨("_law_loose", none), "_law_loose", s__law_loose⟩,
  ⟨("_law_known", none), "_law_known", s__law_known⟩,
  ⟨("_law_like", none), "_law_like", s__law_like⟩,
  ⟨("law", none), "law", s_law⟩]
def ruleB (K : PySem.W.Frag) : Bool := (Fa.mkr "Rule").ok K && ((Fa.glo "Rule").ok K && (isiB K "Rule" && ((partsL.all fun x => (Fa.noat "Rule" x).ok K) && (excB K "BadRule" "part" && (globB K "PARTS" partsD && globB K "VALUES" valsD)))))
def exK (K : PySem.W.Frag) : Bool := biB K && (ruleB K && (globB K "EMPTY" emptyD && (globB K "FAULTS" faultsD && (globB K "SELF" (.str "self") && (ex0B K "BadWorld" && true)))))
abbrev RR : PySem.W.OpenRow := PySem.W.OpenLaw.row PySem.Challenge.rw_markedgone_k05_whole_known_faults
abbrev hkM : PySem.W.Hook := hookM 6 dds exK
def obM (s : PySem.W.SharedT) : AlM := obsMG 6 dds exK (HandSHeadRun.getT s)
theorem obM_eq (s : PySem.W.SharedT) : obM s = hkM.obs s.abs := obsM_eq (HandSHeadRun.getT_eq s)
def loose : List Str := (["_wall", "GoneError", "BadWorld", "BadRule", "EMPTY", "FAULTS", "SELF", "is_live", "is_gone", "has_live", "may_own", "may_have", "with_row", "marked", "fetched", "raised", "cleared", "behind", "step", "counted", "shown", "standing_faults", "deed_faults", "faults_of", "is_whole", "is_world", "check_world", "all_deeds", "walked", "least_faults"] : List Str) ++ (["can", "PARTS", "VALUES", "is_value", "Rule", "_law_begin", "_law_draw", "_law_values", "_law_names", "_law_parts", "_law_rule", "_law_like", "_law_loose", "_law_known"] : List Str)
theorem run (w : World) : HandSHeadRun.RunEq RR (PySem.W.view RR.prog [49]) hkM obM 9000 loose w := by
  intro os
  kernel_rfl
section
variable {P : Program} {w : World} {K : PySem.W.Frag} {h : Heap} {mg : Str → Option Value}
theorem ok_badrule {base : Heap} {C fI : Addr} {fd : FuncData} (F : L2.Fun K "__init__" "BadRule.__init__" s_BadRule_init fI fd) (T : OexC K C) (no : PySem.W.findIn K (.ref C) "part" = some none) : FnOk P w K mg base (L2.CX P w) 1 fI fd p_BadRule_init (spExc C "part") := by
  refine F.okX sc_BadRule_init (fun vs H Q E h => ?_) fun cdv A outer s H vs Q E hr h => ?_
  · obtain ⟨a, v, rfl, _⟩ := h
    rfl
  · obtain ⟨a, v, rfl, ha, k⟩ := h
    exact ⟨_, pss_one (ps_ost (pv 0) (pv 1)), v, rfl, .ref a, rfl, a, C, rfl, T, no, .inl ⟨ha, k⟩⟩
theorem ruleK_of {base : Heap} (X : K.In h) (N : h.Ns mainGlobals mg) (c : obsM dds exK K = valM dds) (q : ruleB K = true) : RuleK P w K mg base (ga K "Rule") (ga K "BadRule") ∧ IsiC K (ga K "Rule") ∧ mg "Rule" = some (.ref (ga K "Rule")) := by
  unfold ruleB at q
  obtain ⟨q1, q⟩ := ba q
  obtain ⟨q2, q⟩ := ba q
  obtain ⟨q3, q⟩ := ba q
  obtain ⟨q4, q⟩ := ba q
  obtain ⟨q5, q⟩ := ba q
  obtain ⟨q6, q7⟩ := ba q
  refine ⟨⟨(isiB_ok q3).cl, fun x hx => noat_ok (List.all_eq_true.mp q4 x hx), ?_, globB_ok X N q6, globB_ok X N q7⟩, isiB_ok q3, glo_ok X N q2⟩
  refine excB_ok X N q5 fun fI h1 h2 oe no => ?_
  obtain ⟨f, fd, F, m, b⟩ := says_meth c 0 (x := "BadRule") (m := "__init__") rfl (ps := p_BadRule_init) fun _ _ _ _ _ _ us hl => match us, hl with | [_, _], _ => rfl
  have e : f = fI := by have := m.at_.symm.trans h1; cases this; rfl
  subst e
  exact ⟨fd, _, b, ok_badrule F oe no⟩
theorem ruleC_of {C CB : Addr} {base : Heap} (T : RuleK P w K mg base C CB) : RuleC K C :=
  ⟨T.cl, T.na _ (by decide +kernel), T.na _ (by decide +kernel), T.na _ (by decide +kernel), T.na _ (by decide +kernel), T.na _ (by decide +kernel), T.na _ (by decide +kernel), T.na _ (by decide +kernel), T.na _ (by decide +kernel), T.na _ (by decide +kernel)⟩
theorem all_of (X : K.In h) (N : h.Ns mainGlobals mg) (c : obsM dds exK K = valM dds) : ∃ (f : Addr) (fd : FuncData), mg "law" = some (.ref f) ∧ (∀ (s : Shared) (u : Value), BindsTo s fd ⟨[u], []⟩ [("_law_script", u)]) ∧
    ∀ base : Heap, K.In base → base.Ns mainGlobals mg → FnOk P w K mg base (L2.CX P w) 8 f fd ["_law_script"] (spG K sp_law) := by
  have ex : exK K = true := says_ex c
  unfold exK at ex
  obtain ⟨x1, ex⟩ := ba ex
  obtain ⟨x2, ex⟩ := ba ex
  have B : Bi mg := biB_ok X N x1
  have DL : Df K mg "law" s_law p_law := says_glo c X N 35 rfl fun _ _ _ _ _ _ us hl => match us, hl with | [_], _ => rfl
  obtain ⟨f, fd, FL, gl, bl⟩ := DL.ex
  refine ⟨f, fd, gl, ?_, fun base Xb Nb => ?_⟩
  · obtain ⟨oc, od, kV, doc, pm, an, cdv, ct, osl, rfl, _⟩ := FL.ex
    exact fun s u => .of_eq rfl
  obtain ⟨TR, TI, gR⟩ := ruleK_of (P := P) (w := w) (base := base) X N c x2
  have TC := ruleC_of TR
  have x3 : (Fa.mkr "Rule").ok K = true ∧ (Fa.glo "Rule").ok K = true := ⟨(ba x2).1, (ba (ba x2).2).1⟩
  obtain ⟨q2, q3⟩ := x3
  obtain ⟨zEMPTY, ex⟩ := ba ex
  have gEMPTY : GlobD K mg "EMPTY" emptyD := globB_ok X N zEMPTY
  obtain ⟨zFAULTS, ex⟩ := ba ex
  have gFAULTS : GlobD K mg "FAULTS" faultsD := globB_ok X N zFAULTS
  obtain ⟨zSELF, ex⟩ := ba ex
  obtain ⟨vself, tself, hself, rself, dself⟩ := globB_ok X N zSELF
  have eself : vself = .str "self" := by have := dself (fun _ => none); cases this; rfl
  subst eself
  obtain ⟨zXW, ex⟩ := ba ex
  have XW : Ex0 K mg "BadWorld" (ga K "BadWorld") := ex0B_ok X N zXW
  have LB := fn_begin (P := P) (w := w) (K := K) (base := base) B (says_glo c X N 1 rfl fun _ _ _ _ _ _ us hl => match us, hl with | [_], _ => rfl)
  have LD := fn_draw (P := P) (w := w) (K := K) (base := base) B (says_glo c X N 2 rfl fun _ _ _ _ _ _ us hl => match us, hl with | [_, _], _ => rfl)
  have LV := fn_values (P := P) (w := w) (K := K) (base := base) (says_glo c X N 3 rfl fun _ _ _ _ _ _ us hl => match us, hl with | [], _ => rfl)
  have LP := fn_parts B (says_glo c X N 4 rfl fun _ _ _ _ _ _ us hl => match us, hl with | [_], _ => rfl) LD LV
  have IV := fn_is_value (P := P) (w := w) (K := K) (base := base) B (says_glo c X N 5 rfl fun _ _ _ _ _ _ us hl => match us, hl with | [_, _], _ => rfl)
  have IR := ini_rule B TR (says_init c X N 6 rfl q2 q3 fun _ _ _ _ _ _ us hl => match us, hl with | [_, _, _, _, _, _, _, _, _, _], _ => rfl) IV
  have LR := fn_law_rule (says_glo c X N 7 rfl fun _ _ _ _ _ _ us hl => match us, hl with | [_], _ => rfl) IR
  have IW := fn_is_whole (P := P) (w := w) (K := K) (base := base) B (says_glo c X N 8 rfl fun _ _ _ _ _ _ us hl => match us, hl with | [_, _, _], _ => rfl)
  have IWD := fn_is_world B (says_glo c X N 9 rfl fun _ _ _ _ _ _ us hl => match us, hl with | [_], _ => rfl) IW
  have CWD := fn_check_world XW (says_glo c X N 10 rfl fun _ _ _ _ _ _ us hl => match us, hl with | [_], _ => rfl) IWD
  have HL := fn_has_live (P := P) (w := w) (K := K) (base := base) B (says_glo c X N 11 rfl fun _ _ _ _ _ _ us hl => match us, hl with | [_, _], _ => rfl)
  have MO := fn_may_own B TC (says_glo c X N 12 rfl fun _ _ _ _ _ _ us hl => match us, hl with | [_, _, _], _ => rfl) HL
  have IL := fn_is_live (P := P) (w := w) (K := K) (base := base) B (says_glo c X N 13 rfl fun _ _ _ _ _ _ us hl => match us, hl with | [_, _, _], _ => rfl)
  have IG := fn_is_gone (P := P) (w := w) (K := K) (base := base) B (says_glo c X N 14 rfl fun _ _ _ _ _ _ us hl => match us, hl with | [_, _, _], _ => rfl)
  have MH := fn_may_have TC (says_glo c X N 15 rfl fun _ _ _ _ _ _ us hl => match us, hl with | [_, _, _], _ => rfl) IL IG
  have WR := fn_with_row (P := P) (w := w) (K := K) (base := base) (says_glo c X N 16 rfl fun _ _ _ _ _ _ us hl => match us, hl with | [_, _, _], _ => rfl)
  have FM := fn_marked B TC (says_glo c X N 17 rfl fun _ _ _ _ _ _ us hl => match us, hl with | [_, _, _], _ => rfl) IL WR
  have FF := fn_fetched B TC (says_glo c X N 18 rfl fun _ _ _ _ _ _ us hl => match us, hl with | [_, _, _], _ => rfl) IG HL WR
  have FR := fn_raised TC (says_glo c X N 19 rfl fun _ _ _ _ _ _ us hl => match us, hl with | [_, _, _], _ => rfl) IG IL WR
  have FC := fn_cleared (P := P) (w := w) (K := K) (base := base) B TC (says_glo c X N 20 rfl fun _ _ _ _ _ _ us hl => match us, hl with | [_, _], _ => rfl)
  have FB := fn_behind (tk := .none) B TC (says_glo c X N 21 rfl fun _ _ _ _ _ _ us hl => match us, hl with | [_, _, _], _ => rfl) hself rself MO MH IL WR FM FF FR FC
  have ST := fn_step TC (says_glo c X N 22 rfl fun _ _ _ _ _ _ us hl => match us, hl with | [_, _, _], _ => rfl) FB
  have AD := fn_all_deeds (P := P) (w := w) (K := K) (base := base) B (says_glo c X N 23 rfl fun _ _ _ _ _ _ us hl => match us, hl with | [_, _], _ => rfl)
  have WK := fn_walked B (says_glo c X N 24 rfl fun _ _ _ _ _ _ us hl => match us, hl with | [_, _], _ => rfl) gEMPTY ST AD
  have CO := fn_counted (P := P) (w := w) (K := K) (base := base) B TC (says_glo c X N 25 rfl fun _ _ _ _ _ _ us hl => match us, hl with | [_, _, _], _ => rfl)
  have SH := fn_shown (P := P) (w := w) (K := K) (base := base) B TC (says_glo c X N 26 rfl fun _ _ _ _ _ _ us hl => match us, hl with | [_, _], _ => rfl)
  have SF := fn_sfaults B TC (says_glo c X N 27 rfl fun _ _ _ _ _ _ us hl => match us, hl with | [_, _], _ => rfl) CO SH
  have DF := fn_dfaults (P := P) (w := w) (K := K) (base := base) B hself rself (says_glo c X N 28 rfl fun _ _ _ _ _ _ us hl => match us, hl with | [_, _, _, _], _ => rfl) HL
  have FO := fn_faults_of (says_glo c X N 29 rfl fun _ _ _ _ _ _ us hl => match us, hl with | [_, _, _], _ => rfl) gFAULTS ST SF DF
  have LE := fn_least_faults B (says_glo c X N 30 rfl fun _ _ _ _ _ _ us hl => match us, hl with | [_, _], _ => rfl) WK AD FO
  have CN := fn_can (says_glo c X N 31 rfl fun _ _ _ _ _ _ us hl => match us, hl with | [_, _], _ => rfl) gFAULTS CWD LE
  have LOO := fn_loose (P := P) (w := w) (K := K) (base := base) (says_glo c X N 32 rfl fun _ _ _ _ _ _ us hl => match us, hl with | [_], _ => rfl)
  have KNO := fn_known (says_glo c X N 33 rfl fun _ _ _ _ _ _ us hl => match us, hl with | [_], _ => rfl) LOO
  have LI := fn_like (P := P) (w := w) (K := K) (base := base) B (says_glo c X N 34 rfl fun _ _ _ _ _ _ us hl => match us, hl with | [_, _], _ => rfl)
  exact ok_law B FL LB LP LR CN KNO LI
end
end Pg
open PySem PySem.W PySem.Calls PyProof.Rows
theorem PySem.Challenge.cw_markedgone_k05_whole_known_faults_holds : PySem.Challenge.rw_markedgone_k05_whole_known_faults.Holds := by
  w_on; o_law
  refine HandSHeadRun.head_any (r := OpenLaw.row PySem.Challenge.rw_markedgone_k05_whole_known_faults) (q := view (OpenLaw.row PySem.Challenge.rw_markedgone_k05_whole_known_faults).prog [49]) (H := Pg.hkM) (ob := Pg.obM) (M := 9000) (loose := Pg.loose) (d := HandSHeadRun.topDef (OpenLaw.row PySem.Challenge.rw_markedgone_k05_whole_known_faults).prog 49) (kwd := []) Pg.obM_eq
    (by kernel_rfl) (fun s => by kernel_rfl) Pg.run (by kernel_rfl) (by kernel_rfl) (by kernel_rfl) (by rfl) (by first | assumption | decide +kernel) (by decide +kernel) ⟨rfl, rfl, rfl, rfl, rfl, by decide +kernel⟩ ?hw ?hc
  case hw => w_witness2
  case hc =>
    refine G.walkG (l := PySem.Challenge.rw_markedgone_k05_whole_known_faults) (k := 8) (m := 6) (x := "_law_script") (ds := Pg.dds) (ex := Pg.exK) rfl (by kernel_rfl) ⟨rfl, by decide, by decide⟩ fun w mg h K KX N c => ?_
    have e : (HandSHeadRun.topDef (OpenLaw.row PySem.Challenge.rw_markedgone_k05_whole_known_faults).prog 49).name = ("law" : PySem.Str) := by kernel_rfl
    rw [e]
    exact Pg.all_of KX N c

