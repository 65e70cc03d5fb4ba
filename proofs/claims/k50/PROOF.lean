import PyProof.Rows.All
import Wide.All
import OpenK.AllK
import Wide.FinOn
import HandS.ForMost
import HandS.TupAny
import HandS.Walk
import HandS.Conv
import HandS.Style
import HandS.IsInst
import HandS.MakeKwOnly
import HandS.TupMul
import KE.GoesEnum
import PySem.Challenge.RW_litmuscore_k50_whole_one_atomic_memory
set_option Elab.async false
set_option linter.all false
set_option autoImplicit false
set_option maxRecDepth 100000
set_option maxHeartbeats 4000000
section
/-! Data that never changes (None, bools, ints, texts, tuples), where they stand in the heap; expressions and statements over them alone. -/
namespace L2
open PySem PySem.Spec PyProof.Rows
section
variable {X : Cx}
theorem PE.wk {e : Expr} {t u : TE} (h : PE X e t) (k : ∀ σ H Q, u σ H Q → t σ H Q) : PE X e u := ⟨fun pins s σ H Q I q => h.run pins s σ H Q I (k σ H Q q)⟩
theorem PT.wk {e : Expr} {t u : TT} (h : PT X e t) (k : ∀ σ H Q, u σ H Q → t σ H Q) : PT X e u := ⟨fun pins s σ H Q I q => h.run pins s σ H Q I (k σ H Q q)⟩
theorem PW.wk {e : Expr} {t u : TT} (h : PW X e t) (k : ∀ σ H Q, u σ H Q → t σ H Q) : PW X e u := ⟨fun wh pins s σ H Q I q => h.run wh pins s σ H Q I (k σ H Q q)⟩
theorem PA.wk {e : List Expr} {t u : TA} (h : PA X e t) (k : ∀ σ H Q, u σ H Q → t σ H Q) : PA X e u := ⟨fun pos pins s σ H Q I q => h.run pos pins s σ H Q I (k σ H Q q)⟩
theorem PS.wk {e : Stmt} {t u : TS} (h : PS X e t) (k : ∀ E σ H, u E σ H → t E σ H) : PS X e u := ⟨fun pins s σ H E I q => h.run pins s σ H E I (k E σ H q)⟩
theorem PSs.wk {e : List Stmt} {t u : TS} (h : PSs X e t) (k : ∀ E σ H, u E σ H → t E σ H) : PSs X e u := ⟨fun pins s σ H E I q => h.run pins s σ H E I (k E σ H q)⟩
theorem PE.some {α : Type} {e : Expr} {t : α → TE} (h : ∀ a, PE X e (t a)) : PE X e (fun σ H Q => ∃ a, t a σ H Q) := ⟨fun pins s σ H Q I ⟨a, q⟩ => (h a).run pins s σ H Q I q⟩
end
end L2

namespace Dat
open PySem PySem.Spec PyProof.Rows L2

inductive D where
  | non | bl (b : Bool) | int (i : Int) | str (x : Str) | tup (xs : List D)

/-- a tuple stands at a -/
abbrev TupIn (K : PySem.W.Frag) (H : Hp) (a : Addr) (vs : List V) : Prop := SqT K H a vs

mutual
/-- the value v is the data d -/
def Is (K : PySem.W.Frag) (H : Hp) : D → V → Prop
  | .non, v => v = .non
  | .bl b, v => v = .bl b
  | .int i, v => v = .int i
  | .str x, v => v = .str x
  | .tup xs, v => ∃ a vs, v = .ref a ∧ SqT K H a vs ∧ IsL K H xs vs
def IsL (K : PySem.W.Frag) (H : Hp) : List D → List V → Prop
  | [], vs => vs = []
  | d :: ds, vs => ∃ v r, vs = v :: r ∧ Is K H d v ∧ IsL K H ds r
end

/-- all tuples stay -/
def Tp (H H' : Hp) : Prop := ∀ a xs, Rd H a (.tup xs) → Rd H' a (.tup xs)
theorem Tp.refl (H : Hp) : Tp H H := fun _ _ h => h
theorem Tp.trans {H H1 H2 : Hp} (a : Tp H H1) (b : Tp H1 H2) : Tp H H2 := fun x o h => b x o (a x o h)
theorem Tp.of {H H' : Hp} (e : Same H H') : Tp H H' := fun a xs h => by
  rcases h with h | ⟨o, h⟩
  · exact .inl (e _ _ h)
  · exact .inr ⟨o, e _ _ h⟩
theorem Tp.sq {K : PySem.W.Frag} {H H' : Hp} {a : Addr} {vs : List V} (e : Tp H H') (h : SqT K H a vs) : SqT K H' a vs := by
  rcases h with h | h
  · exact .inl (e _ _ h)
  · exact .inr h
theorem Tp.new {H : Hp} {p : Addr} {o : HO} (h : H p = none) : Tp H (upd H p o) := Tp.of fun b u e => by rw [upd_ne (ne_of_none e h)]; exact e
/-- a list is changed -/
theorem Tp.lst {H : Hp} {p : Addr} {xs : List V} {o : HO} (h : H p = some (.lst xs)) : Tp H (upd H p o) := fun b ys r => by
  have hb : b ≠ p := by
    rintro rfl
    rcases r with r | ⟨u, r⟩ <;> rw [h] at r <;> cases r
  rcases r with r | ⟨u, r⟩
  · exact .inl (by rw [upd_ne hb]; exact r)
  · exact .inr ⟨u, by rw [upd_ne hb]; exact r⟩
theorem same_new {H : Hp} {p : Addr} {o : HO} (h : H p = none) : Same H (upd H p o) := fun b u e => by rw [upd_ne (ne_of_none e h)]; exact e

section
variable {K : PySem.W.Frag} {H H' : Hp}
mutual
theorem Is.mono (e : Tp H H') : ∀ {d : D} {v : V}, Is K H d v → Is K H' d v
  | .non, _, h => by simp only [Is] at h ⊢; exact h
  | .bl _, _, h => by simp only [Is] at h ⊢; exact h
  | .int _, _, h => by simp only [Is] at h ⊢; exact h
  | .str _, _, h => by simp only [Is] at h ⊢; exact h
  | .tup xs, _, h => by
    simp only [Is] at h ⊢
    obtain ⟨a, vs, e1, h1, h2⟩ := h
    exact ⟨a, vs, e1, e.sq h1, IsL.mono e h2⟩
theorem IsL.mono (e : Tp H H') : ∀ {ds : List D} {vs : List V}, IsL K H ds vs → IsL K H' ds vs
  | [], _, h => by simp only [IsL] at h ⊢; exact h
  | d :: ds, _, h => by
    simp only [IsL] at h ⊢
    obtain ⟨v, r, e1, h1, h2⟩ := h
    exact ⟨v, r, e1, Is.mono e h1, IsL.mono e h2⟩
end
theorem is_non {v : V} : Is K H .non v ↔ v = .non := by simp only [Is]
theorem is_bl {b : Bool} {v : V} : Is K H (.bl b) v ↔ v = .bl b := by simp only [Is]
theorem is_int {i : Int} {v : V} : Is K H (.int i) v ↔ v = .int i := by simp only [Is]
theorem is_str {x : Str} {v : V} : Is K H (.str x) v ↔ v = .str x := by simp only [Is]
theorem is_tup {xs : List D} {v : V} : Is K H (.tup xs) v ↔ ∃ a vs, v = .ref a ∧ SqT K H a vs ∧ IsL K H xs vs := by simp only [Is]
theorem isL_nil {vs : List V} : IsL K H [] vs ↔ vs = [] := by simp only [IsL]
theorem isL_cons {d : D} {ds : List D} {vs : List V} : IsL K H (d :: ds) vs ↔ ∃ v r, vs = v :: r ∧ Is K H d v ∧ IsL K H ds r := by simp only [IsL]
theorem IsL.len : ∀ {ds : List D} {vs : List V}, IsL K H ds vs → vs.length = ds.length
  | [], _, h => by rw [isL_nil] at h; subst h; rfl
  | d :: ds, _, h => by
    rw [isL_cons] at h
    obtain ⟨v, r, rfl, _, h2⟩ := h
    simp only [List.length_cons, IsL.len h2]
theorem IsL.get : ∀ {ds : List D} {vs : List V} {j : Nat} {d : D}, IsL K H ds vs → ds[j]? = some d → ∃ v, vs[j]? = some v ∧ Is K H d v
  | [], _, _, _, _, e => by simp at e
  | d :: ds, _, 0, _, h, e => by
    rw [isL_cons] at h
    obtain ⟨v, r, rfl, h1, _⟩ := h
    simp at e
    subst e
    exact ⟨v, rfl, h1⟩
  | d :: ds, _, j + 1, _, h, e => by
    rw [isL_cons] at h
    obtain ⟨v, r, rfl, _, h2⟩ := h
    obtain ⟨w, e1, e2⟩ := IsL.get (j := j) h2 (by simpa using e)
    exact ⟨w, by simpa using e1, e2⟩
theorem IsL.get' : ∀ {ds : List D} {vs : List V} {j : Nat} {v : V}, IsL K H ds vs → vs[j]? = some v → ∃ d, ds[j]? = some d ∧ Is K H d v := by
  intro ds vs j v h e
  have hj : j < ds.length := by rw [← h.len]; exact (List.getElem?_eq_some_iff.mp e).1
  obtain ⟨w, e2, h2⟩ := h.get (List.getElem?_eq_getElem hj)
  rw [e] at e2
  cases e2
  exact ⟨_, List.getElem?_eq_getElem hj, h2⟩
theorem IsL.app : ∀ {ds es : List D} {vs ws : List V}, IsL K H ds vs → IsL K H es ws → IsL K H (ds ++ es) (vs ++ ws)
  | [], _, _, _, h, k => by rw [isL_nil] at h; subst h; exact k
  | d :: ds, _, _, _, h, k => by
    rw [isL_cons] at h
    obtain ⟨v, r, rfl, h1, h2⟩ := h
    exact isL_cons.mpr ⟨v, _, rfl, h1, IsL.app h2 k⟩
theorem IsL.take : ∀ {n : Nat} {ds : List D} {vs : List V}, IsL K H ds vs → IsL K H (ds.take n) (vs.take n)
  | 0, _, _, _ => by simp [isL_nil]
  | n + 1, [], _, h => by rw [isL_nil] at h; subst h; simp [isL_nil]
  | n + 1, d :: ds, _, h => by
    rw [isL_cons] at h
    obtain ⟨v, r, rfl, h1, h2⟩ := h
    exact isL_cons.mpr ⟨v, _, rfl, h1, IsL.take h2⟩
theorem IsL.drop : ∀ {n : Nat} {ds : List D} {vs : List V}, IsL K H ds vs → IsL K H (ds.drop n) (vs.drop n)
  | 0, _, _, h => h
  | n + 1, [], _, h => by rw [isL_nil] at h; subst h; simp [isL_nil]
  | n + 1, d :: ds, _, h => by
    rw [isL_cons] at h
    obtain ⟨v, r, rfl, h1, h2⟩ := h
    have q := IsL.drop (n := n) h2
    simpa using q
theorem IsL.one {d : D} {v : V} (h : Is K H d v) : IsL K H [d] [v] := isL_cons.mpr ⟨v, [], rfl, h, isL_nil.mpr rfl⟩
end

/-! ### slots: data, a list of data, an object with fields -/
inductive S where
  | d (x : D) | lst (xs : List D) | obj (C : Addr) (fs : List (Str × V))
def IsS (K : PySem.W.Frag) (H : Hp) : S → V → Prop
  | .d x, v => Is K H x v
  | .lst xs, v => ∃ a vs, v = .ref a ∧ H a = some (.lst vs) ∧ IsL K H xs vs
  | .obj C fs, v => ∃ a dx, v = .ref a ∧ H a = some (.ins C dx fs)
section
variable {K : PySem.W.Frag} {H : Hp} {v : V}
theorem isS_d {d : D} : IsS K H (.d d) v ↔ Is K H d v := Iff.rfl
theorem isS_int {i : Int} : IsS K H (.d (.int i)) v ↔ v = .int i := is_int (K := K) (H := H)
theorem isS_non : IsS K H (.d .non) v ↔ v = .non := is_non (K := K) (H := H)
theorem isS_bl {b : Bool} : IsS K H (.d (.bl b)) v ↔ v = .bl b := is_bl (K := K) (H := H)
theorem isS_str {x : Str} : IsS K H (.d (.str x)) v ↔ v = .str x := is_str (K := K) (H := H)
theorem isS_tup {xs : List D} : IsS K H (.d (.tup xs)) v ↔ ∃ a vs, v = .ref a ∧ SqT K H a vs ∧ IsL K H xs vs := is_tup (K := K) (H := H)
end
theorem IsS.mono {K : PySem.W.Frag} {H H' : Hp} (e : Same H H') {s : S} {v : V} (h : IsS K H s v) : IsS K H' s v := by
  cases s with
  | d x => exact Is.mono (Tp.of e) h
  | lst xs =>
    obtain ⟨a, vs, e1, h1, h2⟩ := h
    exact ⟨a, vs, e1, e _ _ h1, h2.mono (Tp.of e)⟩
  | obj C fs =>
    obtain ⟨a, dx, e1, h1⟩ := h
    exact ⟨a, dx, e1, e _ _ h1⟩
abbrev Gm := List (Option S)
def Fr (K : PySem.W.Frag) (H : Hp) (G : Gm) (σ : L2.St) : Prop := G.length = σ.length ∧ ∀ (i : Nat) (s : S), G[i]? = some (some s) → ∃ v, σ[i]? = some (some v) ∧ IsS K H s v
section
variable {K : PySem.W.Frag} {H H' : Hp} {G : Gm} {σ : L2.St}
theorem Fr.mono (e : Same H H') (f : Fr K H G σ) : Fr K H' G σ := ⟨f.1, fun i s h => let ⟨v, h1, h2⟩ := f.2 i s h; ⟨v, h1, h2.mono e⟩⟩
theorem Fr.set {i : Nat} {s : S} {v : V} (f : Fr K H G σ) (h : IsS K H s v) : Fr K H (G.set i (some s)) (σ.set i (some v)) := by
  refine ⟨by simp [f.1], fun j t e => ?_⟩
  by_cases hj : j = i
  · subst hj
    have hl : j < G.length := by
      have := (List.getElem?_eq_some_iff.mp e).1
      simpa using this
    rw [List.getElem?_set_self hl] at e
    cases e
    exact ⟨v, List.getElem?_set_self (by rw [← f.1]; exact hl), h⟩
  · rw [List.getElem?_set_ne (Ne.symm hj)] at e ⊢
    exact f.2 j t e
def wipeG (G : Gm) : List Nat → Gm
  | [] => G
  | v :: vs => (wipeG G vs).set v none
theorem Fr.unset {i : Nat} (f : Fr K H G σ) : Fr K H (G.set i none) (σ.set i none) := by
  refine ⟨by simp [f.1], fun j t e => ?_⟩
  by_cases hj : j = i
  · subst hj
    have hl : j < G.length := by
      have := (List.getElem?_eq_some_iff.mp e).1
      simpa using this
    rw [List.getElem?_set_self hl] at e
    cases e
  · rw [List.getElem?_set_ne (Ne.symm hj)] at e ⊢
    exact f.2 j t e
theorem Fr.wipe (f : Fr K H G σ) : ∀ vs, Fr K H (wipeG G vs) (wipe σ vs)
  | [] => f
  | v :: vs => by
    unfold wipeG L2.wipe
    exact (f.wipe vs).unset
/-- the frame at the entry -/
theorem Fr.start {N : List Str} {ss : List S} {vs : List V} (hl : ss.length = vs.length) (h : ∀ (i : Nat) s, ss[i]? = some s → ∃ v, vs[i]? = some v ∧ IsS K H s v) : Fr K H (ss.map some ++ List.replicate (N.length - ss.length) none) (start N vs) := by
  refine ⟨by simp [L2.start, hl], fun i s e => ?_⟩
  by_cases hi : i < ss.length
  · rw [List.getElem?_append_left (by simpa using hi)] at e
    rw [List.getElem?_map] at e
    cases q : ss[i]? with
    | none => rw [q] at e; cases e
    | some t =>
      rw [q] at e
      cases e
      obtain ⟨v, h1, h2⟩ := h i s q
      refine ⟨v, ?_, h2⟩
      unfold L2.start
      rw [List.getElem?_append_left (by simp; omega), List.getElem?_map, h1]
      rfl
  · rw [List.getElem?_append_right (by simpa using hi), List.getElem?_replicate] at e
    split at e <;> cases e
end

/-! ### judgements over data -/
def tD (K : PySem.W.Frag) (G : Gm) (s : S) : TE := fun σ H Q => Fr K H G σ ∧ ∀ v H', Same H H' → IsS K H' s v → Q v H'
def tT (K : PySem.W.Frag) (G : Gm) (b : Bool) : TT := fun σ H Q => Fr K H G σ ∧ ∀ H', Same H H' → Q b H'
def tA (K : PySem.W.Frag) (G : Gm) (ss : List S) : TA := fun σ H Q => Fr K H G σ ∧ ∀ vs H', Same H H' → vs.length = ss.length → (∀ (i : Nat) s, ss[i]? = some s → ∃ v, vs[i]? = some v ∧ IsS K H' s v) → Q vs H'
inductive Out where
  | nx (G : Gm) | ret (s : S)
def tS (K : PySem.W.Frag) (G : Gm) : Out → TS
  | .nx G' => fun E σ H => Fr K H G σ ∧ ∀ σ' H', Same H H' → Fr K H' G' σ' → E.nx σ' H'
  | .ret s => fun E σ H => Fr K H G σ ∧ ∀ v H', Same H H' → IsS K H' s v → E.rt v H'
abbrev PDs (X : Cx) (G : Gm) (e : Expr) (s : S) : Prop := PE X e (tD X.K G s)
abbrev PD (X : Cx) (G : Gm) (e : Expr) (d : D) : Prop := PE X e (tD X.K G (.d d))
abbrev TD (X : Cx) (G : Gm) (e : Expr) (b : Bool) : Prop := PT X e (tT X.K G b)
abbrev WD (X : Cx) (G : Gm) (e : Expr) (b : Bool) : Prop := PW X e (tT X.K G b)
abbrev AD (X : Cx) (G : Gm) (es : List Expr) (ss : List S) : Prop := PA X es (tA X.K G ss)
abbrev SD (X : Cx) (G : Gm) (st : Stmt) (o : Out) : Prop := PS X st (tS X.K G o)
abbrev BD (X : Cx) (G : Gm) (st : List Stmt) (o : Out) : Prop := PSs X st (tS X.K G o)

section
variable {X : Cx}

variable {G : Gm} {a b c e : Expr} {es : List Expr} {pos : Pos}
/-! ### expressions -/
theorem pd_var {i : Nat} {x : Str} {s : S} (hG : G[i]? = some (some s)) (hN : X.N[i]? = some x := by rfl) (hv : Vis X.env.scope x := by first | exact Or.inl rfl | exact Or.inr (Or.inl rfl) | exact Or.inr (Or.inr rfl))
    (hd : (x == ("__debug__" : Str)) = false := by decide +kernel) (hcd : (x == ("__classdict__" : Str)) = false := by decide +kernel) : PDs X G (.Name x pos) s :=
  (pe_var hN hv hd hcd).wk fun σ H Q ⟨f, k⟩ => let ⟨v, h1, h2⟩ := f.2 i s hG; ⟨v, h1, k v H (Same.refl H) h2⟩
theorem pd_c {v : V} {d : D} (h : PE X e (tC v)) (k : ∀ K H, Is K H d v) : PD X G e d := h.wk fun σ H Q ⟨f, q⟩ => q v H (Same.refl H) (k _ _)
theorem pd_int {i : Int} {j} : PD X G (.Constant (.int i) j pos) (.int i) := pd_c pe_int fun _ _ => is_int.mpr rfl
theorem pd_bl {i : Bool} {j} : PD X G (.Constant (.bool i) j pos) (.bl i) := pd_c pe_bl fun _ _ => is_bl.mpr rfl
theorem pd_non {j} : PD X G (.Constant .none j pos) .non := pd_c pe_non fun _ _ => is_non.mpr rfl
theorem pd_str {x : Str} {j} : PD X G (.Constant (.str x) j pos) (.str x) := pd_c pe_str fun _ _ => is_str.mpr rfl
theorem pd_glob {x : Str} {v : V} {u : Value} {d : D} (hg : Gl X x) (hm : X.mg x = some u) (r : RelV v u) (k : ∀ H, Is X.K H d v) (hd : (x == ("__debug__" : Str)) = false := by decide) : PD X G (.Name x pos) d :=
  (pe_glob hg hm r hd).wk fun σ H Q ⟨f, q⟩ => q v H (Same.refl H) (k H)
theorem ad_nil : AD X G [] [] := pa_nil.wk fun σ H Q ⟨f, q⟩ => q [] H (Same.refl H) rfl fun i s h => by simp at h
theorem ad_cons {s : S} {ss : List S} (h : PDs X G e s) (hr : AD X G es ss) (hs : starEach (e :: es) X.env = (false, eval e X.env) :: starEach es X.env := by rfl) : AD X G (e :: es) (s :: ss) :=
  (pa_cons h hr hs).wk fun σ H Q ⟨f, q⟩ => ⟨f, fun v H1 e1 i1 => ⟨f.mono e1, fun vs H2 e2 l2 i2 => q (v :: vs) H2 (e1.trans e2) (by simp [l2]) fun i t ht => by
    cases i with
    | zero =>
      simp at ht
      subst ht
      exact ⟨v, rfl, i1.mono e2⟩
    | succ i => exact i2 i t (by simpa using ht)⟩⟩
theorem isL_of {K : PySem.W.Frag} {H : Hp} : ∀ {ds : List D} {vs : List V}, vs.length = ds.length → (∀ (i : Nat) s, (ds.map S.d)[i]? = some s → ∃ v, vs[i]? = some v ∧ IsS K H s v) → IsL K H ds vs
  | [], [], _, _ => isL_nil.mpr rfl
  | d :: ds, v :: vs, hl, h => by
    obtain ⟨w, e1, e2⟩ := h 0 (.d d) rfl
    simp at e1
    subst e1
    exact isL_cons.mpr ⟨v, vs, rfl, e2, isL_of (by simpa using hl) fun i s hs => h (i + 1) s (by simpa using hs)⟩
theorem pd_tup {ds : List D} {x1} (h : AD X G es (ds.map S.d)) (hl : ds.length ≤ 1000000 := by exact Nat.le_of_ble_eq_true rfl) : PD X G (.Tuple es x1 pos) (.tup ds) :=
  (pe_tup h).wk fun σ H Q ⟨f, q⟩ => ⟨f, fun vs H1 e1 l1 i1 => ⟨by rw [l1, List.length_map]; exact Nat.le_trans hl (by decide), fun p hp => q _ _ (e1.trans (same_new hp))
    (isS_tup.mpr ⟨p, vs, rfl, .of upd_same, (isL_of (by simpa using l1) i1).mono (Tp.new hp)⟩)⟩⟩
abbrev AT (X : Cx) (G : Gm) (es : List Expr) (ds : List D) : Prop := PA X es (tA X.K G (ds.map S.d))
theorem at_nil : AT X G [] [] := ad_nil
theorem at_cons {d : D} {ds : List D} (h : PD X G e d) (hr : AT X G es ds) (hs : starEach (e :: es) X.env = (false, eval e X.env) :: starEach es X.env := by rfl) : AT X G (e :: es) (d :: ds) := ad_cons h hr hs
theorem pd_tu {ds : List D} {x1} (h : AT X G es ds) (hl : ds.length ≤ 1000000 := by exact Nat.le_of_ble_eq_true rfl) : PD X G (.Tuple es x1 pos) (.tup ds) := pd_tup h hl
/-- two in a row -/
theorem pd_op2 {r : R2} {x y : S} {d : D} (h : PE X e (tOp r (tD X.K G x) (tD X.K G y))) (k : ∀ v w H (Q : VK), IsS X.K H x v → IsS X.K H y w → (∀ u H', Same H H' → IsS X.K H' (.d d) u → Q u H') → r v w H Q) : PD X G e d :=
  h.wk fun σ H Q ⟨f, q⟩ => ⟨f, fun v H1 e1 i1 => ⟨f.mono e1, fun w H2 e2 i2 => k v w H2 Q (i1.mono e2) i2 fun u H3 e3 i3 => q u H3 ((e1.trans e2).trans e3) i3⟩⟩
theorem pc_of {op : CmpOp} {r : R2} {ta tb : TE} (ho : OpR X (compareOp op) r) (ha : PE X a ta) (hb : PE X b tb) : PC X op a b (tOp r ta tb) :=
  ⟨fun pins s σ H Q I h => binT ha hb I h fun v u s2 x y H2 I2 rx ry q => ho pins s2 σ H2 x y v u Q I2 rx ry q⟩
theorem cd_op2 {op : CmpOp} {r : R2} {x y : S} {d : D} (h : PC X op a b (tOp r (tD X.K G x) (tD X.K G y))) (k : ∀ v w H (Q : VK), IsS X.K H x v → IsS X.K H y w → (∀ u H', Same H H' → IsS X.K H' (.d d) u → Q u H') → r v w H Q) : PC X op a b (tD X.K G (.d d)) :=
  ⟨fun pins s σ H Q I ⟨f, q⟩ => h.run pins s σ H Q I ⟨f, fun v H1 e1 i1 => ⟨f.mono e1, fun w H2 e2 i2 => k v w H2 Q (i1.mono e2) i2 fun u H3 e3 i3 => q u H3 ((e1.trans e2).trans e3) i3⟩⟩⟩
theorem pd_cmp {op : CmpOp} {d : D} (h : PC X op a b (tD X.K G (.d d))) (hm : behindInMarks op b = false := by rfl) : PD X G (.Compare a [op] [b] pos) d := pe_cmp h hm
theorem td_cmp {op : CmpOp} {k : Bool} (h : PC X op a b (tD X.K G (.d (.bl k)))) (hm : behindInMarks op b = false := by rfl) : TD X G (.Compare a [op] [b] pos) k :=
  (pt_cmp h hm).wk fun σ H Q ⟨f, q⟩ => ⟨f, fun v H1 e1 i1 => ⟨k, isS_bl.mp i1, q H1 e1⟩⟩
theorem pd_add {i j : Int} (ha : PD X G a (.int i)) (hb : PD X G b (.int j)) : PD X G (.BinOp a .Add b pos) (.int (i + j)) :=
  pd_op2 (pe_op op_add ha hb) fun v w H Q h1 h2 q => ⟨i, j, isS_int.mp h1, isS_int.mp h2, q _ H (Same.refl H) (isS_int.mpr rfl)⟩
theorem pd_sub {i j : Int} (ha : PD X G a (.int i)) (hb : PD X G b (.int j)) : PD X G (.BinOp a .Sub b pos) (.int (i - j)) :=
  pd_op2 (pe_op op_sub ha hb) fun v w H Q h1 h2 q => ⟨i, j, isS_int.mp h1, isS_int.mp h2, q _ H (Same.refl H) (isS_int.mpr rfl)⟩
theorem pd_mul {i j : Int} (ha : PD X G a (.int i)) (hb : PD X G b (.int j)) (hc : CMul i j) : PD X G (.BinOp a .Mult b pos) (.int (i * j)) :=
  pd_op2 (pe_op op_mul ha hb) fun v w H Q h1 h2 q => ⟨i, j, isS_int.mp h1, isS_int.mp h2, hc, q _ H (Same.refl H) (isS_int.mpr rfl)⟩
theorem pd_fdiv {i j : Int} (ha : PD X G a (.int i)) (hb : PD X G b (.int j)) (hc : CDiv i j) : PD X G (.BinOp a .FloorDiv b pos) (.int (i / j)) :=
  pd_op2 (pe_op op_fdiv ha hb) fun v w H Q h1 h2 q => ⟨i, j, isS_int.mp h1, isS_int.mp h2, hc, q _ H (Same.refl H) (isS_int.mpr rfl)⟩
theorem pd_mod {i j : Int} (ha : PD X G a (.int i)) (hb : PD X G b (.int j)) (hc : 0 < j) : PD X G (.BinOp a .Mod b pos) (.int (i % j)) :=
  pd_op2 (pe_op op_mod ha hb) fun v w H Q h1 h2 q => ⟨i, j, isS_int.mp h1, isS_int.mp h2, hc, q _ H (Same.refl H) (isS_int.mpr rfl)⟩
/-- t + u -/
theorem pd_cat {xs ys : List D} (ha : PD X G a (.tup xs)) (hb : PD X G b (.tup ys)) (hl : xs.length + ys.length ≤ 1000000) : PD X G (.BinOp a .Add b pos) (.tup (xs ++ ys)) :=
  pd_op2 (pe_op op_catA ha hb) fun v w H Q h1 h2 q => by
    obtain ⟨p, vs, rfl, p1, p2⟩ := isS_tup.mp h1
    obtain ⟨r, ws, rfl, r1, r2⟩ := isS_tup.mp h2
    refine ⟨p, r, vs, ws, rfl, rfl, p1, r1, by rw [p2.len, r2.len]; exact Nat.le_trans hl (by decide), fun e => ?_, fun _ e => ?_, fun _ _ n hn => ?_⟩
    · subst e
      have : xs = [] := List.eq_nil_of_length_eq_zero p2.len.symm
      subst this
      exact q _ H (Same.refl H) (isS_tup.mpr ⟨r, ws, rfl, r1, r2⟩)
    · subst e
      have : ys = [] := List.eq_nil_of_length_eq_zero r2.len.symm
      subst this
      exact q _ H (Same.refl H) (isS_tup.mpr ⟨p, vs, rfl, p1, by rw [List.append_nil]; exact p2⟩)
    · exact q _ _ (same_new hn) (isS_tup.mpr ⟨n, _, rfl, .of upd_same, (p2.app r2).mono (Tp.new hn)⟩)
/-- t[i] -/
theorem pd_ix {xs : List D} {j : Nat} {i : Int} {d : D} (ha : PD X G a (.tup xs)) (hb : PD X G b (.int i)) (hi : i = (j : Int)) (hd : xs[j]? = some d) (hp : PlainIx b := by intro _ _; rfl) : PD X G (.Subscript a b pos) d :=
  pd_op2 (pe_ix ix_tup ha hb hp) fun v w H Q h1 h2 q => by
    obtain ⟨p, vs, rfl, p1, p2⟩ := isS_tup.mp h1
    obtain ⟨u, e1, e2⟩ := p2.get hd
    exact ⟨p, vs, i, u, rfl, isS_int.mp h2, p1, by rw [hi]; exact atI_nat e1, q _ H (Same.refl H) e2⟩
theorem pd_ixc {xs : List D} {j : Nat} {k} {p2 : Pos} {d : D} (ha : PD X G a (.tup xs)) (hd : xs[j]? = some d) : PD X G (.Subscript a (.Constant (.int (j : Int)) k p2) pos) d := pd_ix ha pd_int rfl hd (fun _ _ => rfl)
/-- xs[i] -/
theorem pd_ixl {xs : List D} {j : Nat} {i : Int} {d : D} (ha : PDs X G a (.lst xs)) (hb : PD X G b (.int i)) (hi : i = (j : Int)) (hd : xs[j]? = some d) (hp : PlainIx b := by intro _ _; rfl) : PD X G (.Subscript a b pos) d :=
  pd_op2 (pe_ix ix_list ha hb hp) fun v w H Q h1 h2 q => by
    obtain ⟨p, vs, rfl, p1, p2⟩ := h1
    obtain ⟨u, e1, e2⟩ := p2.get hd
    exact ⟨p, vs, i, u, rfl, isS_int.mp h2, .of p1, by rw [hi]; exact atI_nat e1, q _ H (Same.refl H) e2⟩
/-- t[i:j] -/
def cutT (xs : List D) (lo hi : Option Int) : List D := (xs.drop (HT.sIx xs.length 0 lo)).take (HT.sIx xs.length xs.length hi - HT.sIx xs.length 0 lo)
def tO (K : PySem.W.Frag) (G : Gm) (o : Option Int) : TO := fun σ H Q => Fr K H G σ ∧ ∀ H', Same H H' → Q o H'
theorem od_none : PO X none (tO X.K G none) := ⟨fun pins s σ H Q I ⟨f, q⟩ => po_none.run pins s σ H Q I (q H (Same.refl H))⟩
theorem od_some {i : Int} (h : PD X G a (.int i)) : PO X (some a) (tO X.K G (some i)) := ⟨fun pins s σ H Q I ⟨f, q⟩ => (po_some h).run pins s σ H Q I ⟨f, fun v H1 e1 i1 => ⟨i, isS_int.mp i1, q H1 e1⟩⟩⟩
theorem pd_cut {xs : List D} {lo hi : Option Expr} {l h : Option Int} {p2 : Pos} (ha : PD X G a (.tup xs)) (hl : PO X lo (tO X.K G l)) (hh : PO X hi (tO X.K G h)) : PD X G (.Subscript a (.Slice lo hi none p2) pos) (.tup (cutT xs l h)) :=
  (pe_slice sl_tupA ha hl hh).wk fun σ H Q ⟨f, q⟩ => ⟨f, fun v H1 e1 i1 => ⟨f.mono e1, fun H2 e2 => ⟨f.mono (e1.trans e2), fun H3 e3 => by
    obtain ⟨p, vs, rfl, p1, p2⟩ := isS_tup.mp (i1.mono (e2.trans e3))
    have e := (e1.trans e2).trans e3
    have hn := p2.len
    refine ⟨p, vs, rfl, p1, fun hw => ?_, fun hw n hn' => ?_⟩
    · rw [hn] at hw
      refine q _ H3 e (isS_tup.mpr ⟨p, vs, rfl, p1, ?_⟩)
      unfold cutT
      rw [hw.1, hw.2, List.drop_zero, Nat.sub_zero, List.take_length]
      exact p2
    · refine q _ _ (e.trans (same_new hn')) (isS_tup.mpr ⟨n, _, rfl, .of upd_same, ?_⟩)
      unfold cutV cutT
      rw [hn]
      exact ((p2.drop).take).mono (Tp.new hn')⟩⟩⟩

/-! ### comparisons, tests -/
def scalD : D → D → Bool
  | .non, .non => true | .non, .int _ => true | .int _, .non => true
  | .int _, .int _ => true | .bl _, .bl _ => true | .str _, .str _ => true
  | _, _ => false
def eqD : D → D → Bool
  | .non, .non => true | .int i, .int j => i == j | .bl i, .bl j => i == j | .str i, .str j => i == j
  | _, _ => false
theorem eqD_V {K : PySem.W.Frag} {H : Hp} {x y : D} {v w : V} (h1 : Is K H x v) (h2 : Is K H y w) (hs : scalD x y = true) : scal v w = true ∧ decide (v = w) = eqD x y := by
  cases x <;> cases y <;> simp [scalD] at hs <;> simp only [is_non, is_int, is_bl, is_str] at h1 h2 <;> subst h1 <;> subst h2 <;> simp [scal, eqD] <;> exact decide_eq_decide.mpr Iff.rfl
theorem cd_eq {x y : D} (ha : PD X G a x) (hb : PD X G b y) (hs : scalD x y = true := by rfl) : PC X .Eq a (b) (tD X.K G (.d (.bl (eqD x y)))) :=
  cd_op2 (pc_of op_eq ha hb) fun v w H Q h1 h2 q => ⟨(eqD_V h1 h2 hs).1, q _ H (Same.refl H) (isS_bl.mpr (by rw [(eqD_V h1 h2 hs).2]))⟩
theorem cd_ne {x y : D} (ha : PD X G a x) (hb : PD X G b y) (hs : scalD x y = true := by rfl) : PC X .NotEq a (b) (tD X.K G (.d (.bl (!eqD x y)))) :=
  cd_op2 (pc_of op_ne ha hb) fun v w H Q h1 h2 q => ⟨(eqD_V h1 h2 hs).1, q _ H (Same.refl H) (isS_bl.mpr (by rw [(eqD_V h1 h2 hs).2]))⟩
theorem cd_lt {i j : Int} (ha : PD X G a (.int i)) (hb : PD X G b (.int j)) : PC X .Lt a (b) (tD X.K G (.d (.bl (decide (i < j))))) :=
  cd_op2 (pc_of op_lt ha hb) fun v w H Q h1 h2 q => ⟨i, j, isS_int.mp h1, isS_int.mp h2, q _ H (Same.refl H) (isS_bl.mpr rfl)⟩
theorem cd_ge {i j : Int} (ha : PD X G a (.int i)) (hb : PD X G b (.int j)) : PC X .GtE a (b) (tD X.K G (.d (.bl (decide (j ≤ i))))) :=
  cd_op2 (pc_of op_ge ha hb) fun v w H Q h1 h2 q => ⟨i, j, isS_int.mp h1, isS_int.mp h2, q _ H (Same.refl H) (isS_bl.mpr rfl)⟩
def isN : D → Bool
  | .non => true
  | _ => false
theorem isN_V {K : PySem.W.Frag} {H : Hp} {x : D} {v : V} (h : Is K H x v) : decide (v = .non) = isN x := by
  cases x with
  | non => rw [is_non] at h; subst h; rfl
  | bl _ => rw [is_bl] at h; subst h; rfl
  | int _ => rw [is_int] at h; subst h; rfl
  | str _ => rw [is_str] at h; subst h; rfl
  | tup _ => rw [is_tup] at h; obtain ⟨_, _, rfl, _⟩ := h; rfl
theorem cd_isN {x : D} {j} {p2 : Pos} (ha : PD X G a x) : PC X .Is a (.Constant .none j p2) (tD X.K G (.d (.bl (isN x)))) :=
  cd_op2 (pc_of op_isN ha (pd_non (G := G))) fun v w H Q h1 h2 q => ⟨isS_non.mp h2, q _ H (Same.refl H) (isS_bl.mpr (by rw [isN_V h1]))⟩
theorem cd_notN {x : D} {j} {p2 : Pos} (ha : PD X G a x) : PC X .IsNot a (.Constant .none j p2) (tD X.K G (.d (.bl (!isN x)))) :=
  cd_op2 (pc_of op_notN ha (pd_non (G := G))) fun v w H Q h1 h2 q => ⟨isS_non.mp h2, q _ H (Same.refl H) (isS_bl.mpr (by rw [isN_V h1]))⟩
/-- x in t: flat things of one kind -/
def flatD : D → Bool
  | .int _ => true | .str _ => true
  | _ => false
def eqF : D → D → Bool
  | .int i, .int j => i == j | .str i, .str j => i == j
  | _, _ => false
def inD (x : D) (xs : List D) : Bool := xs.any fun y => eqF y x
theorem flatD_V {K : PySem.W.Frag} {H : Hp} {x : D} {v : V} (h : Is K H x v) (f : flatD x = true) : flatV v = true := by
  cases x <;> simp [flatD] at f
  · rw [is_int] at h; subst h; rfl
  · rw [is_str] at h; subst h; rfl
theorem eqF_V {K : PySem.W.Frag} {H : Hp} {x y : D} {v w : V} (h1 : Is K H x v) (h2 : Is K H y w) (f : flatD x = true) (g : flatD y = true) : eqV v w = eqF x y := by
  cases x <;> simp [flatD] at f <;> cases y <;> simp [flatD] at g <;> simp only [is_int, is_str] at h1 h2 <;> subst h1 <;> subst h2 <;> rfl
theorem inD_V {K : PySem.W.Frag} {H : Hp} {x : D} {v : V} (h : Is K H x v) (f : flatD x = true) : ∀ {ds : List D} {vs : List V}, IsL K H ds vs → ds.all flatD = true → vs.all flatV = true ∧ inV v vs = inD x ds
  | [], _, l, _ => by rw [isL_nil] at l; subst l; exact ⟨rfl, rfl⟩
  | d :: ds, _, l, g => by
    rw [isL_cons] at l
    obtain ⟨w, r, rfl, l1, l2⟩ := l
    simp only [List.all_cons, Bool.and_eq_true] at g
    have k := inD_V h f l2 g.2
    refine ⟨by simp only [List.all_cons, flatD_V l1 g.1, k.1]; rfl, ?_⟩
    have k2 := k.2
    unfold inV inD at k2 ⊢
    simp only [List.any_cons, eqF_V l1 h g.1 f, k2]
theorem cd_in {x : D} {xs : List D} (ha : PD X G a x) (hb : PD X G b (.tup xs)) (f : flatD x = true) (g : xs.all flatD = true) : PC X .In a (b) (tD X.K G (.d (.bl (inD x xs)))) :=
  cd_op2 (pc_of op_in_seq ha hb) fun v w H Q h1 h2 q => by
    obtain ⟨p, vs, rfl, p1, p2⟩ := isS_tup.mp h2
    have k := inD_V h1 f p2 g
    exact ⟨p, vs, rfl, .inr p1, flatD_V h1 f, k.1, q _ H (Same.refl H) (isS_bl.mpr (by simp only [k.2]; rfl))⟩
theorem cd_notIn {x : D} {xs : List D} (ha : PD X G a x) (hb : PD X G b (.tup xs)) (f : flatD x = true) (g : xs.all flatD = true) : PC X .NotIn a (b) (tD X.K G (.d (.bl (!inD x xs)))) :=
  cd_op2 (pc_of op_notIn_seq ha hb) fun v w H Q h1 h2 q => by
    obtain ⟨p, vs, rfl, p1, p2⟩ := isS_tup.mp h2
    have k := inD_V h1 f p2 g
    exact ⟨p, vs, rfl, .inr p1, flatD_V h1 f, k.1, q _ H (Same.refl H) (isS_bl.mpr (by simp only [k.2]; rfl))⟩
theorem cd_notInL {x : D} {xs : List D} (ha : PD X G a x) (hb : PDs X G b (.lst xs)) (f : flatD x = true) (g : xs.all flatD = true) : PC X .NotIn a (b) (tD X.K G (.d (.bl (!inD x xs)))) :=
  cd_op2 (pc_of op_notIn_seq ha hb) fun v w H Q h1 h2 q => by
    obtain ⟨p, vs, rfl, p1, p2⟩ := h2
    have k := inD_V h1 f p2 g
    exact ⟨p, vs, rfl, .inl (.of p1), flatD_V h1 f, k.1, q _ H (Same.refl H) (isS_bl.mpr (by simp only [k.2]; rfl))⟩
/-- a <= b < c -/
theorem pd_chain {i j k : Int} (ha : PD X G a (.int i)) (hb : PD X G b (.int j)) (hc : PD X G c (.int k)) (hm : lastMarks [CmpOp.LtE, CmpOp.Lt] [b, c] = false := by rfl) : PD X G (.Compare a [.LtE, .Lt] [b, c] pos) (.bl (decide (i ≤ j) && decide (j < k))) :=
  (pe_chain op_le op_lt ha hb hc (hm := hm)).wk fun σ H Q ⟨f, q⟩ => ⟨f, fun v H1 e1 i1 => ⟨f.mono e1, fun w H2 e2 i2 => ⟨i, j, isS_int.mp (i1.mono e2), isS_int.mp i2, decide (i ≤ j), rfl, by
    by_cases h : i ≤ j
    · rw [decide_eq_true h, if_pos rfl]
      exact ⟨f.mono (e1.trans e2), fun u H3 e3 i3 => ⟨j, k, isS_int.mp (i2.mono e3), isS_int.mp i3, q _ H3 ((e1.trans e2).trans e3) (isS_bl.mpr (by rw [decide_eq_true h]; rfl))⟩⟩
    · rw [decide_eq_false h, if_neg Bool.false_ne_true]
      exact q _ H2 (e1.trans e2) (isS_bl.mpr (by rw [decide_eq_false h]; rfl))⟩⟩⟩
theorem td_chain {i j k : Int} (ha : PD X G a (.int i)) (hb : PD X G b (.int j)) (hc : PD X G c (.int k)) (hm : lastMarks [CmpOp.LtE, CmpOp.Lt] [b, c] = false := by with_unfolding_all rfl) : TD X G (.Compare a [.LtE, .Lt] [b, c] pos) (decide (i ≤ j) && decide (j < k)) :=
  (pt_chain op_le op_lt ha hb hc (hm := hm)).wk fun σ H Q ⟨f, q⟩ => ⟨f, fun v H1 e1 i1 => ⟨f.mono e1, fun w H2 e2 i2 => ⟨i, j, isS_int.mp (i1.mono e2), isS_int.mp i2, decide (i ≤ j), rfl, by
    by_cases h : i ≤ j
    · rw [decide_eq_true h, if_pos rfl]
      exact ⟨f.mono (e1.trans e2), fun u H3 e3 i3 => ⟨j, k, isS_int.mp (i2.mono e3), isS_int.mp i3, _, rfl, by have := q H3 ((e1.trans e2).trans e3); rw [decide_eq_true h] at this; exact this⟩⟩
    · rw [decide_eq_false h, if_neg Bool.false_ne_true]
      exact ⟨_, rfl, by have := q H2 (e1.trans e2); rw [decide_eq_false h] at this; exact this⟩⟩⟩⟩
/-- truth -/
def truD : S → Option Bool
  | .d .non => some false | .d (.bl b) => some b | .d (.int i) => some (i != 0) | .d (.tup xs) => some (!xs.isEmpty) | .lst xs => some (!xs.isEmpty)
  | _ => none
theorem truD_V {K : PySem.W.Frag} {H : Hp} {s : S} {v : V} {k : Bool} (h : IsS K H s v) (e : truD s = some k) : TruV K v H k := by
  cases s with
  | d x => cases x with
    | non => rw [isS_non] at h; subst h; cases e; rfl
    | bl b => rw [isS_bl] at h; subst h; cases e; rfl
    | int i => rw [isS_int] at h; subst h; cases e; rfl
    | str _ => cases e
    | tup xs =>
      obtain ⟨p, vs, rfl, p1, p2⟩ := isS_tup.mp h
      cases e
      refine .inr (.inl ⟨vs, p1, ?_⟩)
      have := p2.len
      cases xs <;> cases vs <;> simp_all
  | lst xs =>
    obtain ⟨p, vs, rfl, p1, p2⟩ := h
    cases e
    refine .inl ⟨vs, .of p1, ?_⟩
    have := p2.len
    cases xs <;> cases vs <;> simp_all
  | obj _ _ => cases e
/-- an expression as a test, by its truth -/
theorem td_val {s : S} {k : Bool} (h : PDs X G a s) (e : truD s = some k := by rfl) (he : ∀ whole, isTrue a X.env whole = (do let v ← whole; standAt a.pos; holding [v] (truthy v)) := by intro _; rfl) : TD X G a k :=
  (pt_truth h he).wk fun σ H Q ⟨f, q⟩ => ⟨f, fun v H1 e1 i1 => ⟨k, truD_V i1 e, q H1 e1⟩⟩
theorem td_not {k : Bool} (h : TD X G a k) : TD X G (.UnaryOp .Not a pos) (!k) := (pt_not h).wk fun σ H Q ⟨f, q⟩ => ⟨f, fun H1 e1 => q H1 e1⟩
theorem wd_and1 {k : Bool} (h : TD X G a k) : WD X G (.BoolOp .And [a] pos) k := pw_and1 h
theorem wd_or1 {k : Bool} (h : TD X G a k) : WD X G (.BoolOp .Or [a] pos) k := pw_or1 h
theorem pwF {e : Expr} : PW X e (fun _ _ _ => False) := ⟨fun _ _ _ _ _ _ _ h => h.elim⟩
theorem wd_and {rest : List Expr} {k l : Bool} (h : TD X G a k) (h2 : k = true → WD X G (.BoolOp .And (b :: rest) pos) l) : WD X G (.BoolOp .And (a :: b :: rest) pos) (k && l) := by
  cases k with
  | true => exact (pw_and h (h2 rfl)).wk fun σ H Q ⟨f, q⟩ => ⟨f, fun H1 e1 => iteT ⟨f.mono e1, fun H2 e2 => q H2 (e1.trans e2)⟩⟩
  | false => exact (pw_and h pwF).wk fun σ H Q ⟨f, q⟩ => ⟨f, fun H1 e1 => iteF (q H1 e1)⟩
theorem wd_or {rest : List Expr} {k l : Bool} (h : TD X G a k) (h2 : k = false → WD X G (.BoolOp .Or (b :: rest) pos) l) : WD X G (.BoolOp .Or (a :: b :: rest) pos) (k || l) := by
  cases k with
  | false => exact (pw_or h (h2 rfl)).wk fun σ H Q ⟨f, q⟩ => ⟨f, fun H1 e1 => iteF ⟨f.mono e1, fun H2 e2 => q H2 (e1.trans e2)⟩⟩
  | true => exact (pw_or h pwF).wk fun σ H Q ⟨f, q⟩ => ⟨f, fun H1 e1 => iteT (q H1 e1)⟩
theorem td_and {k l : Bool} (h : TD X G a k) (h2 : k = true → TD X G b l) : TD X G (.BoolOp .And [a, b] pos) (k && l) := (wd_and h fun e => wd_and1 (h2 e)).pt
theorem td_or {k l : Bool} (h : TD X G a k) (h2 : k = false → TD X G b l) : TD X G (.BoolOp .Or [a, b] pos) (k || l) := (wd_or h fun e => wd_or1 (h2 e)).pt
/-- a and b, both bools, as a value -/
theorem peF {e : Expr} : PE X e (fun _ _ _ => False) := ⟨fun _ _ _ _ _ _ h => h.elim⟩
theorem pd_and {k l : Bool} (h : PD X G a (.bl k)) (h2 : k = true → PD X G b (.bl l)) : PD X G (.BoolOp .And [a, b] pos) (.bl (k && l)) := by
  cases k with
  | true => exact (pe_and h (pe_one (h2 rfl))).wk fun σ H Q ⟨f, q⟩ => ⟨f, fun v H1 e1 i1 => ⟨true, isS_bl.mp i1, iteT ⟨f.mono e1, fun w H2 e2 i2 => q w H2 (e1.trans e2) i2⟩⟩⟩
  | false => exact (pe_and h (pe_one peF)).wk fun σ H Q ⟨f, q⟩ => ⟨f, fun v H1 e1 i1 => ⟨false, isS_bl.mp i1, iteF (q _ H1 e1 (isS_bl.mpr rfl))⟩⟩
theorem pd_or {k l : Bool} (h : PD X G a (.bl k)) (h2 : k = false → PD X G b (.bl l)) : PD X G (.BoolOp .Or [a, b] pos) (.bl (k || l)) := by
  cases k with
  | false => exact (pe_or h (pe_one (h2 rfl))).wk fun σ H Q ⟨f, q⟩ => ⟨f, fun v H1 e1 i1 => ⟨false, isS_bl.mp i1, iteF ⟨f.mono e1, fun w H2 e2 i2 => q w H2 (e1.trans e2) i2⟩⟩⟩
  | true => exact (pe_or h (pe_one peF)).wk fun σ H Q ⟨f, q⟩ => ⟨f, fun v H1 e1 i1 => ⟨true, isS_bl.mp i1, iteT (q _ H1 e1 (isS_bl.mpr rfl))⟩⟩
theorem pd_notV {k : Bool} (h : PD X G a (.bl k)) : PD X G (.UnaryOp .Not a pos) (.bl (!k)) :=
  (pe_not h).wk fun σ H Q ⟨f, q⟩ => ⟨f, fun v H1 e1 i1 => ⟨k, isS_bl.mp i1, q _ H1 e1 (isS_bl.mpr rfl)⟩⟩
/-- a if c else b -/
theorem pd_if {k : Bool} {s : S} (hc : TD X G c k) (h1 : k = true → PDs X G a s) (h2 : k = false → PDs X G b s) : PDs X G (.IfExp c a b pos) s := by
  cases k with
  | true => exact (pe_ifExp hc (h1 rfl) peF).wk fun σ H Q ⟨f, q⟩ => ⟨f, fun H1 e1 => iteT ⟨f.mono e1, fun w H2 e2 i2 => q w H2 (e1.trans e2) i2⟩⟩
  | false => exact (pe_ifExp hc peF (h2 rfl)).wk fun σ H Q ⟨f, q⟩ => ⟨f, fun H1 e1 => iteF ⟨f.mono e1, fun w H2 e2 i2 => q w H2 (e1.trans e2) i2⟩⟩
/-- o.f -/
theorem pd_fld {C : Addr} {fs : List (Str × V)} {f : Str} {v : V} {d : D} (h : PDs X G a (.obj C fs)) (hc : Cls X.K C) (hn : NoAttr X.K C f) (hl : fs.lookup f = some v) (hd : ∀ K H, Is K H d v)
    (hb : attributeBase a f X.env (eval a X.env) = eval a X.env := by rfl) : PD X G (.Attribute a f pos) d :=
  (pe_fld h hb).wk fun σ H Q ⟨g, q⟩ => ⟨g, fun w H1 e1 ⟨p, dx, e, h1⟩ => ⟨p, C, dx, fs, v, e, h1, hc, hn, hl, q v H1 e1 (hd _ _)⟩⟩
end
end Dat
end
section
/-! Statements, loops, comprehensions, calls over data. -/
namespace Dat
open PySem PySem.Spec PyProof.Rows L2
section
variable {X : Cx} {G G1 : Gm} {a b c e : Expr} {es : List Expr} {pos p : Pos} {st : Stmt} {rest body : List Stmt}

/-! ### statements -/
theorem sd_ret {s : S} (h : PDs X G e s) : SD X G (.Return (some e) pos) (.ret s) := (ps_ret h).wk fun E σ H ⟨f, q⟩ => ⟨f, fun v H1 e1 i1 => q v H1 e1 i1⟩
theorem sd_ret' {s t : S} (h : PDs X G e s) (k : s = t) : SD X G (.Return (some e) pos) (.ret t) := k ▸ sd_ret h
theorem bd_nil : BD X G [] (.nx G) := pss_nil.wk fun E σ H ⟨f, q⟩ => q σ H (Same.refl H) f
theorem bd_cons0 {o : Out} (h : SD X G st (.nx G1)) (k : BD X G1 rest o) : BD X G (st :: rest) o := (pss_cons h k).wk fun E σ H q => by
  cases o with
  | nx G2 => exact ⟨q.1, fun σ' H1 e1 f1 => ⟨f1, fun σ2 H2 e2 f2 => q.2 σ2 H2 (e1.trans e2) f2⟩⟩
  | ret s => exact ⟨q.1, fun σ' H1 e1 f1 => ⟨f1, fun v H2 e2 i2 => q.2 v H2 (e1.trans e2) i2⟩⟩
theorem bd_norm {o : Out} {G2 : Gm} (e : G = G2) (k : BD X G2 rest o) : BD X G rest o := e ▸ k
theorem bd_cons {o : Out} {G2 : Gm} (h : SD X G st (.nx G1)) (k : BD X G2 rest o) (e : G1 = G2 := by first | (dsimp only [List.set]; done) | exact rfl) : BD X G (st :: rest) o := bd_cons0 h (e ▸ k)
theorem bd_ret {s : S} (h : SD X G st (.ret s)) : BD X G (st :: rest) (.ret s) := (pss_cons h pss_never).wk fun E σ H q => q
theorem sd_if {o : Out} {k : Bool} {els : List Stmt} (hc : TD X G c k) (h1 : k = true → BD X G body o) (h2 : k = false → BD X G els o) : SD X G (.If c body els pos) o := by
  have fr : ∀ {E σ H}, tS X.K G o E σ H → Fr X.K H G σ := fun {E σ H} q => by cases o <;> exact q.1
  have up : ∀ {E σ H H1}, tS X.K G o E σ H → Same H H1 → tS X.K G o E σ H1 := fun {E σ H H1} q e1 => by
    cases o with
    | nx G2 => exact ⟨q.1.mono e1, fun σ2 H2 e2 f2 => q.2 σ2 H2 (e1.trans e2) f2⟩
    | ret s => exact ⟨q.1.mono e1, fun v H2 e2 i2 => q.2 v H2 (e1.trans e2) i2⟩
  cases k with
  | true => exact (ps_if hc (h1 rfl) pss_never).wk fun E σ H q => ⟨fr q, fun H1 e1 => iteT (up q e1)⟩
  | false => exact (ps_if hc pss_never (h2 rfl)).wk fun E σ H q => ⟨fr q, fun H1 e1 => iteF (up q e1)⟩
theorem sd_set {i : Nat} {x : Str} {s : S} (hN : X.N.Nodup) (h : PDs X G e s) (hi : X.N[i]? = some x := by rfl) (hx : Loc X.env.scope x := by first | exact Or.inl rfl | exact Or.inr rfl) (hf : X.fn x = true ∨ X.env.scope.names.lookup x = some .local := by first | exact .inl rfl | exact .inr rfl)
    (hs : swapsWithSole [.Name x p] e pos.line X.env = pure false := by rfl) (hw : swappedStores [.Name x p] e X.env = pure none := by rfl)
    (h1 : (assignEach [.Name x p] X.env).map (·.2) = [assign (.Name x p) X.env] := by rfl) : SD X G (.Assign [.Name x p] e pos) (.nx (G.set i (some s))) :=
  (ps_asg h (pg_name (i := i) hN hi hx hf) hs hw h1).wk fun E σ H ⟨f, q⟩ => ⟨f, fun v H1 e1 i1 => q _ H1 e1 ((f.mono e1).set i1)⟩
/-- names stored from a tuple's items -/
def GD (X : Cx) (G : Gm) (es : List Expr) (ds : List D) (G' : Gm) : Prop := PGs X es (fun vs σ H Q => Fr X.K H G σ ∧ IsL X.K H ds vs ∧ ∀ σ', Fr X.K H G' σ' → Q σ' H)
theorem gd_nil : GD X G [] [] G := ⟨fun pins s σ H vs us Q I r ⟨f, l, q⟩ => pgs_nil.run pins s σ H vs us Q I r ⟨isL_nil.mp l, q σ f⟩⟩
theorem gd_cons {i : Nat} {x : Str} {d : D} {ds : List D} {G' : Gm} (hN : X.N.Nodup) (k : GD X (G.set i (some (.d d))) es ds G') (hi : X.N[i]? = some x := by rfl) (hx : Loc X.env.scope x := by first | exact Or.inl rfl | exact Or.inr rfl) (hf : X.fn x = true ∨ X.env.scope.names.lookup x = some .local := by first | exact .inl rfl | exact .inr rfl)
    (hs : (assignEach (.Name x p :: es) X.env).map (·.2) = assign (.Name x p) X.env :: (assignEach es X.env).map (·.2) := by rfl) : GD X G (.Name x p :: es) (d :: ds) G' :=
  ⟨fun pins s σ H vs us Q I r ⟨f, l, q⟩ => (pgs_cons (pg_name (i := i) hN hi hx hf) k hs).run pins s σ H vs us Q I r (by
    obtain ⟨v, w, rfl, l1, l2⟩ := isL_cons.mp l
    exact ⟨v, w, rfl, f.set l1, l2, q⟩)⟩
theorem sd_unpack {ds : List D} {n : Nat} {k} {G' : Gm} (hc : X.calm = true) (h : PD X G e (.tup ds)) (hg : GD X G es ds G') (hn : (assignEach es X.env).length = n := by rfl) (hl : ds.length = n := by rfl) (hst : (assignEach es X.env).findIdx? (·.1) = none := by rfl)
    (hs : swapsWithSole [.Tuple es k p] e pos.line X.env = pure false := by rfl) (hw : swappedStores [.Tuple es k p] e X.env = pure none := by rfl)
    (h1 : (assignEach [.Tuple es k p] X.env).map (·.2) = [assign (.Tuple es k p) X.env] := by rfl) : SD X G (.Assign [.Tuple es k p] e pos) (.nx G') :=
  (ps_asg h (pg_tup hc hg hn hst) hs hw h1).wk fun E σ H ⟨f, q⟩ => ⟨f, fun v H1 e1 i1 => by
    obtain ⟨a, vs, rfl, p1, p2⟩ := isS_tup.mp i1
    exact ⟨a, vs, rfl, p1, by rw [p2.len]; exact hl, f.mono e1, p2, fun σ' f' => q σ' H1 e1 f'⟩⟩
/-- a, b = e1, e2, both plain locals -/
theorem sd_par {i j : Nat} {x y : Str} {s t : S} {px py pt : Pos} {kt k2 pt2} (hc : X.calm = true) (hN : X.N.Nodup) (h : AD X G [a, b] [s, t]) (hij : i ≠ j := by decide) (hi : X.N[i]? = some x := by rfl) (hj : X.N[j]? = some y := by rfl)
    (hx : X.env.scope.names.lookup x = some .local := by rfl) (hy : X.env.scope.names.lookup y = some .local := by rfl)
    (hw : swappedStores [.Tuple [.Name x px, .Name y py] kt pt] (.Tuple [a, b] k2 pt2) X.env = pure (some [x, y]) := by rfl)
    (hs : swapsWithSole [.Tuple [.Name x px, .Name y py] kt pt] (.Tuple [a, b] k2 pt2) pos.line X.env = pure false := by rfl) : SD X G (.Assign [.Tuple [.Name x px, .Name y py] kt pt] (.Tuple [a, b] k2 pt2) pos) (.nx ((G.set i (some s)).set j (some t))) :=
  (ps_par hc hN hi hj hij hx hy h hw hs).wk fun E σ H ⟨f, q⟩ => ⟨f, fun vs H1 e1 l1 i1 => by
    obtain ⟨v, rfl2, iv⟩ := i1 0 s rfl
    obtain ⟨w, rfl3, iw⟩ := i1 1 t rfl
    match vs, l1 with
    | [v', w'], _ =>
      simp at rfl2 rfl3
      subst rfl2 rfl3
      exact ⟨v', w', rfl, q _ H1 e1 (((f.mono e1).set iv).set iw)⟩⟩
theorem sd_par3 {i j l : Nat} {x y z : Str} {s t u : S} {px py pz pt : Pos} {kt k2 pt2} (hc : X.calm = true) (hN : X.N.Nodup) (h : AD X G [a, b, c] [s, t, u]) (hij : i ≠ j := by decide) (hil : i ≠ l := by decide) (hjl : j ≠ l := by decide) (hi : X.N[i]? = some x := by rfl) (hj : X.N[j]? = some y := by rfl) (hl : X.N[l]? = some z := by rfl)
    (hx : X.env.scope.names.lookup x = some .local := by rfl) (hy : X.env.scope.names.lookup y = some .local := by rfl) (hz : X.env.scope.names.lookup z = some .local := by rfl)
    (hw : swappedStores [.Tuple [.Name x px, .Name y py, .Name z pz] kt pt] (.Tuple [a, b, c] k2 pt2) X.env = pure (some [x, y, z]) := by rfl)
    (hs : swapsWithSole [.Tuple [.Name x px, .Name y py, .Name z pz] kt pt] (.Tuple [a, b, c] k2 pt2) pos.line X.env = pure false := by rfl) : SD X G (.Assign [.Tuple [.Name x px, .Name y py, .Name z pz] kt pt] (.Tuple [a, b, c] k2 pt2) pos) (.nx (((G.set i (some s)).set j (some t)).set l (some u))) :=
  (ps_par3 hc hN hi hj hl hij hil hjl hx hy hz h hw hs).wk fun E σ H ⟨f, q⟩ => ⟨f, fun vs H1 e1 l1 i1 => by
    obtain ⟨v, r1, iv⟩ := i1 0 s rfl
    obtain ⟨w, r2, iw⟩ := i1 1 t rfl
    obtain ⟨w3, r3, iw3⟩ := i1 2 u rfl
    match vs, l1 with
    | [v', w', u'], _ =>
      simp at r1 r2 r3
      subst r1 r2 r3
      exact ⟨v', w', u', rfl, q _ H1 e1 ((((f.mono e1).set iv).set iw).set iw3)⟩⟩

/-! ### for -/
/-- a body's reading, whatever it does -/
theorem bd_any : PSs X body (fun E σ H => ∃ G1 o1, BD X G1 body o1 ∧ tS X.K G1 o1 E σ H) := ⟨fun pins s σ H E I ⟨_, _, h, q⟩ => h.run pins s σ H E I q⟩
/-- the turns of a loop over ds, one after another -/
def Lp (X : Cx) (i : Nat) (body : List Stmt) : Gm → List D → Out → Prop
  | G, [], o => o = .nx G
  | G, d :: ds, o => (∃ G1, BD X (G.set i (some (.d d))) body (.nx G1) ∧ Lp X i body G1 ds o) ∨ (∃ s, o = .ret s ∧ BD X (G.set i (some (.d d))) body (.ret s))
theorem sd_forT {i : Nat} {x : Str} {ds : List D} {o : Out} (hp : PassesOwn (model X.prog X.w) X.A X.env X.xe) (hc : X.calm = true) (hN : X.N.Nodup) (h : PD X G e (.tup ds)) (L : Lp X i body G ds o) (hi : X.N[i]? = some x := by rfl) (hx : Loc X.env.scope x := by first | exact Or.inl rfl | exact Or.inr rfl)
    (hf : X.fn x = true ∨ X.env.scope.names.lookup x = some .local := by first | exact .inl rfl | exact .inr rfl) (hs : ∀ y, foldedSetIterable e X.env y = pure y := by intro _; rfl) : SD X G (.For (.Name x p) e body [] pos) o := by
  refine (ps_for hp hc (pi_tup h) (pg_name (i := i) hN hi hx hf) bd_any hs).wk fun E σ H q => ?_
  have fr : Fr X.K H G σ := by cases o <;> exact q.1
  refine ⟨fr, fun v H1 e1 i1 => ?_⟩
  obtain ⟨a, vs, rfl, p1, p2⟩ := isS_tup.mp i1
  refine ⟨a, rfl, ⟨vs, p1⟩, for_tup (xs := vs) (g := gName i) (tb := fun E σ H => ∃ G1 o1, BD X G1 body o1 ∧ tS X.K G1 o1 E σ H) (D := E) (fun k σ' H' => Same H1 H' ∧ ∃ G', Fr X.K H' G' σ' ∧ Lp X i body G' (ds.drop k) o) ⟨Same.refl _, G, fr.mono e1, by rw [List.drop_zero]; exact L⟩ (fun k σ' H' _ ⟨e2, _⟩ => (Tp.of e2).sq p1) ?_ ?_⟩
  · rintro k w σ' H' hk ⟨e2, G', f2, L2⟩
    obtain ⟨d, hd, iw⟩ := (p2.mono (Tp.of e2)).get' hk
    have hdr : ds.drop k = d :: ds.drop (k + 1) := by
      obtain ⟨hl, e3⟩ := List.getElem?_eq_some_iff.mp hd
      rw [List.drop_eq_getElem_cons hl, e3]
    rw [hdr] at L2
    show ∃ G1 o1, BD X G1 body o1 ∧ tS X.K G1 o1 _ (σ'.set i (some w)) H'
    rcases L2 with ⟨G1, hb, hL⟩ | ⟨s, ho, hb⟩
    · exact ⟨_, .nx G1, hb, f2.set iw, fun σ3 H3 e3 f3 => ⟨e2.trans e3, G1, f3, hL⟩⟩
    · subst ho
      exact ⟨_, .ret s, hb, f2.set iw, fun v H3 e3 i3 => q.2 v H3 ((e1.trans e2).trans e3) i3⟩
  · rintro σ' H' ⟨e2, G', f2, L2⟩
    have hn : ds.drop vs.length = [] := by rw [p2.len, List.drop_length]
    rw [hn] at L2
    cases L2
    exact q.2 σ' H' (e1.trans e2) f2
/-- for i in range(n) -/
theorem sd_forR {i : Nat} {x : Str} {n : Nat} {o : Out} {pr pc : Pos} (hp : PassesOwn (model X.prog X.w) X.A X.env X.xe) (hc : X.calm = true) (hN : X.N.Nodup) (hm : X.mg "range" = none) (h : PD X G e (.int (n : Int))) (hn : n ≤ 1000000)
    (L : Lp X i body G ((List.range n).map fun (k : Nat) => D.int (k : Int)) o) (hg : Gl X "range" := by rfl) (hi : X.N[i]? = some x := by rfl) (hx : Loc X.env.scope x := by first | exact Or.inl rfl | exact Or.inr rfl)
    (hf : X.fn x = true ∨ X.env.scope.names.lookup x = some .local := by first | exact .inl rfl | exact .inr rfl) (hse : starEach [e] X.env = [(false, eval e X.env)] := by rfl)
    (hs : ∀ y, foldedSetIterable (.Call (.Name "range" pr) [e] [] pc) X.env y = pure y := by intro _; rfl) : SD X G (.For (.Name x p) (.Call (.Name "range" pr) [e] [] pc) body [] pos) o := by
  refine (ps_for hp hc (pi_range1 hg hm (pa_cons h pa_nil hse) hse) (pg_name (i := i) hN hi hx hf) bd_any hs).wk fun E σ H q => ?_
  have fr : Fr X.K H G σ := by cases o <;> exact q.1
  refine ⟨fr, fun v H1 e1 i1 => ?_⟩
  have hv := isS_int.mp i1
  subst hv
  refine ⟨(n : Int), rfl, by omega, by omega, for_range (lo := 0) (n := n) (g := gName i) (tb := fun E σ H => ∃ G1 o1, BD X G1 body o1 ∧ tS X.K G1 o1 E σ H) (D := E) (fun k σ' H' => Same H1 H' ∧ ∃ G', Fr X.K H' G' σ' ∧ Lp X i body G' (((List.range n).map fun (k : Nat) => D.int (k : Int)).drop k) o) ⟨Same.refl _, G, fr.mono e1, by rw [List.drop_zero]; exact L⟩ ?_ ?_⟩
  · rintro k σ' H' hk ⟨e2, G', f2, L2⟩
    have hl : k < ((List.range n).map fun (k : Nat) => D.int (k : Int)).length := by simpa using hk
    rw [List.drop_eq_getElem_cons hl] at L2
    simp only [List.getElem_map, List.getElem_range] at L2
    have iw : IsS X.K H' (.d (.int (k : Int))) (.int (0 + (k : Int))) := isS_int.mpr (by rw [Int.zero_add])
    show ∃ G1 o1, BD X G1 body o1 ∧ tS X.K G1 o1 _ (σ'.set i (some (.int (0 + (k : Int))))) H'
    rcases L2 with ⟨G1, hb, hL⟩ | ⟨s, ho, hb⟩
    · exact ⟨_, .nx G1, hb, f2.set iw, fun σ3 H3 e3 f3 => ⟨e2.trans e3, G1, f3, hL⟩⟩
    · subst ho
      exact ⟨_, .ret s, hb, f2.set iw, fun v H3 e3 i3 => q.2 v H3 ((e1.trans e2).trans e3) i3⟩
  · rintro σ' H' ⟨e2, G', f2, L2⟩
    have hn : ((List.range n).map fun (k : Nat) => D.int (k : Int)).drop n = [] := List.drop_eq_nil_of_le (by simp)
    rw [hn] at L2
    cases L2
    exact q.2 σ' H' (e1.trans e2) f2

/-! ### comprehensions of one name -/
def EV (X : Cx) (scope : Scope) (G : Gm) (e : Expr) (d : D) : Prop := ∀ (s : Shared) (H : Hp) (C : Addr) (cl : List (Str × Addr)) (fp : List Addr), PE (X.blk s H scope (compEnvC scope cl C X.env) fp) e (tD X.K G (.d d))
def ET (X : Cx) (scope : Scope) (G : Gm) (ifs : List Expr) (k : Bool) : Prop := ∀ (s : Shared) (H : Hp) (C : Addr) (cl : List (Str × Addr)) (fp : List Addr), PTs (X.blk s H scope (compEnvC scope cl C X.env) fp) ifs (tT X.K G k)
theorem et_nil {scope : Scope} : ET X scope G [] true := fun s H C cl fp => ⟨fun pins s σ H Q I ⟨f, q⟩ => pts_nil.run pins s σ H Q I (q H (Same.refl H))⟩
theorem et_one {scope : Scope} {k : Bool} (h : ∀ (s : Shared) (H : Hp) (C : Addr) (cl : List (Str × Addr)) (fp : List Addr), PT (X.blk s H scope (compEnvC scope cl C X.env) fp) c (tT X.K G k)) : ET X scope G [c] k := fun s H C cl fp => pts_one (h s H C cl fp)
/-- the slots in a turn: the own name holds the item -/
abbrev tG (G : Gm) (j : Nat) (d : D) : Gm := (G.set j none).set j (some (.d d))
def lcT (K : PySem.W.Frag) (G : Gm) (j : Nat) {α : Type} (xs : List α) (en : α → D) (f : α → Option D) : TT := fun σ H Q => ∃ a, a ∈ xs ∧ tT K (tG G j (en a)) (f a).isSome σ H Q
def lcE (K : PySem.W.Frag) (G : Gm) (j : Nat) {α : Type} (xs : List α) (en : α → D) (f : α → Option D) : TE := fun σ H Q => ∃ a r, a ∈ xs ∧ f a = some r ∧ tD K (tG G j (en a)) (.d r) σ H Q
theorem lc_turn {K : PySem.W.Frag} {G : Gm} {j : Nat} {α : Type} {xs : List α} {en : α → D} {f : α → Option D} {σ : L2.St} {H1 H' : Hp} {Dl : Addr} {k : Nat} {a : α} {x : V} {pre : List D} (hsz : pre.length < 1000000) (fr : Fr K H1 G σ) (hD : H1 Dl = none) (hd : a ∈ xs) (e2 : Same H1 H') (hx : Is K H' (en a) x)
    {vs : List V} (hv : H' Dl = some (.lst vs)) (hl : IsL K H' pre vs) {Nx : Hp → Prop}
    (hno : ∀ H3 vs, f a = none → Same H1 H3 → H3 Dl = some (.lst vs) → IsL K H3 pre vs → Nx H3) (hyes : ∀ r H3 vs, f a = some r → Same H1 H3 → H3 Dl = some (.lst vs) → IsL K H3 (pre ++ [r]) vs → Nx H3) :
    gName j x (wipe σ [j]) H' fun σ2 H2 => wipe σ2 [j] = wipe σ [j] ∧ lcT K G j xs en f σ2 H2 fun b H3 =>
      if b = true then lcE K G j xs en f σ2 H3 fun y H4 => ∃ acc, H4 Dl = some (.lst acc) ∧ acc.length < sizeLine ∧ Nx (upd H4 Dl (.lst (acc ++ [y]))) else Nx H3 := by
  have f2 : Fr K H' (tG G j (en a)) ((σ.set j none).set j (some x)) := (Fr.set (Fr.unset (fr.mono e2)) (s := .d (en a)) hx)
  refine ⟨?_, a, hd, f2, fun H3 e3 => ?_⟩
  · show ((σ.set j none).set j (some x)).set j none = σ.set j none
    rw [List.set_set, List.set_set]
  · have l3 := hl.mono (Tp.of e3)
    cases hfd : f a with
    | none =>
      show Nx H3
      exact hno H3 vs hfd (e2.trans e3) (e3 _ _ hv) l3
    | some r =>
      show lcE K G j xs en f _ H3 fun y H4 => ∃ acc, H4 Dl = some (.lst acc) ∧ acc.length < sizeLine ∧ Nx (upd H4 Dl (.lst (acc ++ [y])))
      refine ⟨a, r, hd, hfd, f2.mono e3, fun y H4 e4 i4 => ⟨vs, e4 _ _ (e3 _ _ hv), ?_, ?_⟩⟩
      · rw [hl.len]; exact Nat.lt_of_lt_of_le hsz (by decide)
      · have l4 := l3.mono (Tp.of e4)
        have hv4 := e4 _ _ (e3 _ _ hv)
        refine hyes r _ _ hfd ?_ upd_same ?_
        · intro b o hb
          rw [upd_ne (ne_of_none hb hD)]
          exact e4 _ _ (e3 _ _ (e2 _ _ hb))
        · exact (l4.app (.one i4)).mono (Tp.lst hv4)
theorem lc_tupR {K : PySem.W.Frag} {G : Gm} {j : Nat} {α : Type} {xs : List α} {en : α → D} {f : α → Option D} (hsz : xs.length ≤ 1000000) (σ : L2.St) (H : Hp) (Q : VK) (h : tD K G (.lst (xs.filterMap f)) σ H Q) :
    tLc (iTup K (tD K G (.d (.tup (xs.map en))))) (gName j) (lcT K G j xs en f) (lcE K G j xs en f) [j] σ H Q := by
  obtain ⟨fr, q⟩ := h
  refine ⟨fr, fun v H1 e1 i1 => ?_⟩
  obtain ⟨a, vs, rfl, p1, p2⟩ := isS_tup.mp i1
  refine ⟨a, rfl, ⟨vs, p1⟩, fun Dl hD => lc_tup (xs := vs) (fun k H' => Same H1 H' ∧ ∃ ws, H' Dl = some (.lst ws) ∧ IsL K H' ((xs.take k).filterMap f) ws) ⟨same_new hD, [], upd_same, by rw [List.take_zero]; exact isL_nil.mpr rfl⟩ (fun k H' _ ⟨e2, _⟩ => (Tp.of e2).sq p1) ?_ ?_⟩
  · rintro k x H' hk ⟨e2, ws, hw, hl⟩
    obtain ⟨d, hd', ix⟩ := (p2.mono (Tp.of e2)).get' hk
    obtain ⟨z, hd, rfl⟩ : ∃ z, xs[k]? = some z ∧ en z = d := by
      rw [List.getElem?_map] at hd'
      cases e : xs[k]? with
      | none => rw [e] at hd'; cases hd'
      | some z => rw [e] at hd'; exact ⟨z, rfl, Option.some.inj hd'⟩
    have ht : xs.take (k + 1) = xs.take k ++ [z] := by rw [List.take_add_one, hd]; rfl
    have hlt := (List.getElem?_eq_some_iff.mp hd).1
    refine lc_turn (k := k) (a := z) (pre := (xs.take k).filterMap f) ?_ (fr.mono e1) hD (List.mem_of_getElem? hd) e2 ix hw hl (fun H3 vs3 hn e3 v3 l3 => ⟨e3, vs3, v3, ?_⟩) (fun r H3 vs3 hn e3 v3 l3 => ⟨e3, vs3, v3, ?_⟩)
    · have := List.length_filterMap_le f (xs.take k)
      rw [List.length_take] at this
      omega
    · rw [ht, List.filterMap_append]; simp [hn]; exact l3
    · rw [ht, List.filterMap_append]; simp [hn]; exact l3
  · rintro H' ⟨e2, ws, hw, hl⟩
    refine q _ H' (e1.trans e2) ⟨Dl, ws, rfl, hw, ?_⟩
    rw [p2.len, List.length_map, List.take_length] at hl
    exact hl
theorem lc_rngR {K : PySem.W.Frag} {G : Gm} {j : Nat} {n : Nat} {f : Nat → Option D} (hsz : n ≤ 1000000) (σ : L2.St) (H : Hp) (Q : VK) (h : tD K G (.lst ((List.range n).filterMap f)) σ H Q) :
    tLc (iRng1 (tCons (tD K G (.d (.int (n : Int)))) tNil)) (gName j) (lcT K G j (List.range n) (fun (k : Nat) => D.int (k : Int)) f) (lcE K G j (List.range n) (fun (k : Nat) => D.int (k : Int)) f) [j] σ H Q := by
  generalize hxs : List.range n = xs at *
  obtain ⟨fr, q⟩ := h
  refine ⟨fr, fun v H1 e1 i1 => ?_⟩
  have hv := isS_int.mp i1
  subst hv
  refine ⟨(n : Int), rfl, by omega, by omega, fun Dl hD => lc_range (lo := 0) (n := n) (fun k H' => Same H1 H' ∧ ∃ ws, H' Dl = some (.lst ws) ∧ IsL K H' ((xs.take k).filterMap f) ws) ⟨same_new hD, [], upd_same, by rw [List.take_zero]; exact isL_nil.mpr rfl⟩ ?_ ?_⟩
  · rintro k H' hk ⟨e2, ws, hw, hl⟩
    have hd : xs[k]? = some k := by rw [← hxs]; simp [hk]
    have ix : Is K H' (.int (k : Int)) (.int (0 + (k : Int))) := is_int.mpr (by rw [Int.zero_add])
    have ht : xs.take (k + 1) = xs.take k ++ [k] := by rw [List.take_add_one, hd]; rfl
    have hlen : xs.length = n := by rw [← hxs]; simp
    refine lc_turn (α := Nat) (xs := xs) (k := k) (a := k) (en := fun (k : Nat) => D.int (k : Int)) (pre := (xs.take k).filterMap f) ?_ (fr.mono e1) hD (List.mem_of_getElem? hd) e2 ix hw hl (fun H3 vs3 hn e3 v3 l3 => ⟨e3, vs3, v3, ?_⟩) (fun r H3 vs3 hn e3 v3 l3 => ⟨e3, vs3, v3, ?_⟩)
    · have := List.length_filterMap_le f (xs.take k)
      rw [List.length_take] at this
      omega
    · rw [ht, List.filterMap_append]; simp [hn]; exact l3
    · rw [ht, List.filterMap_append]; simp [hn]; exact l3
  · rintro H' ⟨e2, ws, hw, hl⟩
    refine q _ H' (e1.trans e2) ⟨Dl, ws, rfl, hw, ?_⟩
    have : xs.take n = xs := List.take_of_length_le (by rw [← hxs]; simp)
    rw [this] at hl
    exact hl
/-- what must be shown of the turns -/
structure LcOk {α : Type} (X : Cx) (G : Gm) (scope : Scope) (y : Str) (j : Nat) (ifs : List Expr) (elt : Expr) (xs : List α) (en : α → D) (f : α → Option D) : Prop where
  cm : X.calm = true
  nd : X.N.Nodup
  ok : BlkOk X.N X.env.scope scope [(y, j)]
  sz : xs.length ≤ 1000000
  t : ∀ a, a ∈ xs → ET X scope (tG G j (en a)) ifs (f a).isSome
  e : ∀ a r, a ∈ xs → f a = some r → EV X scope (tG G j (en a)) elt r
theorem LcOk.t' {scope : Scope} {y : Str} {j : Nat} {ifs : List Expr} {elt : Expr} {α : Type} {xs : List α} {en : α → D} {f : α → Option D} (h : LcOk X G scope y j ifs elt xs en f) : ∀ (s : Shared) (H : Hp) (C : Addr) (cl : List (Str × Addr)) (fp : List Addr), PTs (X.blk s H scope (compEnvC scope cl C X.env) fp) ifs (lcT X.K G j xs en f) :=
  fun s H C cl fp => ⟨fun pins s' σ H' Q I ⟨d, hd, q⟩ => (h.t d hd s H C cl fp).run pins s' σ H' Q I q⟩
theorem LcOk.e' {scope : Scope} {y : Str} {j : Nat} {ifs : List Expr} {elt : Expr} {α : Type} {xs : List α} {en : α → D} {f : α → Option D} (h : LcOk X G scope y j ifs elt xs en f) : ∀ (s : Shared) (H : Hp) (C : Addr) (cl : List (Str × Addr)) (fp : List Addr), PE (X.blk s H scope (compEnvC scope cl C X.env) fp) elt (lcE X.K G j xs en f) :=
  fun s H C cl fp => ⟨fun pins s' σ H' Q I ⟨d, r, hd, hr, q⟩ => (h.e d r hd hr s H C cl fp).run pins s' σ H' Q I q⟩
theorem pd_lcT {scope : Scope} {y : Str} {j : Nat} {ifs : List Expr} {elt iter : Expr} {α : Type} {xs : List α} {en : α → D} {f : α → Option D} {py : Pos} (h : LcOk X G scope y j ifs elt xs en f) (hi : PD X G iter (.tup (xs.map en)))
    (hg : ∀ (s : Shared) (H : Hp) (C : Addr) (cl : List (Str × Addr)) (fp : List Addr), PG (X.blk s H scope (compEnvC scope cl C X.env) fp) (.Name y py) (gName j)) (hs : ∀ x, foldedSetIterable iter X.env x = pure x := by intro _; rfl) :
    PDs X G (.ListComp elt [⟨.Name y py, iter, ifs, 0⟩] scope pos) (.lst (xs.filterMap f)) :=
  (pe_lc (own := [(y, j)]) (g := gName j) h.cm h.nd (pi_tup hi) h.ok hg h.t' h.e' hs).wk fun σ H Q q => lc_tupR h.sz σ H Q q
theorem pd_lcR {scope : Scope} {y : Str} {j : Nat} {ifs : List Expr} {elt : Expr} {n : Nat} {f : Nat → Option D} {py pr pc : Pos} (h : LcOk X G scope y j ifs elt (List.range n) (fun (k : Nat) => D.int (k : Int)) f) (hm : X.mg "range" = none) (hi : PD X G e (.int (n : Int)))
    (hg : ∀ (s : Shared) (H : Hp) (C : Addr) (cl : List (Str × Addr)) (fp : List Addr), PG (X.blk s H scope (compEnvC scope cl C X.env) fp) (.Name y py) (gName j)) (hgl : Gl X "range" := by rfl) (hse : starEach [e] X.env = [(false, eval e X.env)] := by rfl)
    (hs : ∀ x, foldedSetIterable (.Call (.Name "range" pr) [e] [] pc) X.env x = pure x := by intro _; rfl) :
    PDs X G (.ListComp elt [⟨.Name y py, .Call (.Name "range" pr) [e] [] pc, ifs, 0⟩] scope pos) (.lst ((List.range n).filterMap f)) :=
  (pe_lc (own := [(y, j)]) (g := gName j) h.cm h.nd (pi_range1 hgl hm (pa_cons hi pa_nil hse) hse) h.ok hg h.t' h.e' hs).wk fun σ H Q q => lc_rngR (by simpa using h.sz) σ H Q q
/-- z = [..], z a plain local -/
theorem sd_setLcT {scope : Scope} {y z : Str} {i j : Nat} {ifs : List Expr} {elt iter : Expr} {α : Type} {xs : List α} {en : α → D} {f : α → Option D} {py pz spos : Pos} (h : LcOk X G scope y j ifs elt xs en f) (hi : PD X G iter (.tup (xs.map en)))
    (hg : ∀ (s : Shared) (H : Hp) (C : Addr) (cl : List (Str × Addr)) (fp : List Addr), PG (X.blk s H scope (compEnvC scope cl C X.env) fp) (.Name y py) (gName j))
    (hsw : swapsWith (.ListComp elt [⟨.Name y py, iter, ifs, 0⟩] scope pos) (some (.Name z pz)) spos.line X.env = pure true)
    (hz : X.N[i]? = some z := by rfl) (hzl : X.env.scope.names.lookup z = some .local := by rfl) (hs : ∀ x, foldedSetIterable iter X.env x = pure x := by intro _; rfl) :
    SD X G (.Assign [.Name z pz] (.ListComp elt [⟨.Name y py, iter, ifs, 0⟩] scope pos) spos) (.nx (G.set i (some (.lst (xs.filterMap f))))) :=
  (ps_setLc (i := i) (own := [(y, j)]) (g := gName j) h.cm h.nd hz hzl hsw (pi_tup hi) h.ok hg h.t' h.e' hs).wk fun E σ H ⟨f1, q⟩ => lc_tupR h.sz σ H _ ⟨f1, fun v H1 e1 i1 => q _ H1 e1 ((f1.mono e1).set i1)⟩

/-! ### calls -/
/-- a promise over data: called with ss (one of those that A names) it hands back s, and leaves all that is tracked as it was -/
def spS (K : PySem.W.Frag) (A : List S → S → Prop) : Sp := fun vs H Q _ => ∃ ss s, A ss s ∧ vs.length = ss.length ∧ (∀ (i : Nat) t, ss[i]? = some t → ∃ v, vs[i]? = some v ∧ IsS K H t v) ∧ ∀ v H', Same H H' → IsS K H' s v → Q v H'
/-- a def of the text, by its name -/
structure Dfn (P : Program) (w : World) (K : PySem.W.Frag) (mg : Str → Option Value) (base : Heap) (k : Nat) (x : Str) (ps : List Str) (A : List S → S → Prop) : Prop where
  ex : ∃ f fd, FnOk P w K mg base CX0 k f fd ps (spS K A) ∧ mg x = some (.ref f) ∧ PySem.W.keepIn K (.ref f) = true ∧ Binds K fd ps []
theorem pd_call {A : List S → S → Prop} {k : Nat} {x : Str} {ps : List Str} {ss : List S} {s : S} (F : Dfn X.prog X.w X.K X.mg X.base k x ps A) (hr : Room k X.A) (ha : AD X G (e :: es) ss) (hA : A ss s) (hg : Gl X x := by rfl) (hdb : (x == ("__debug__" : Str)) = false := by decide)
    (he : starEach (e :: es) X.env = (false, eval e X.env) :: starEach es X.env := by rfl) (hpl : (backTo pos (starEach es X.env)).any (·.1) = false := by rfl) : PDs X G (.Call (.Name x p) (e :: es) [] pos) s := by
  obtain ⟨f, fd, F, hm, hk, hb⟩ := F.ex
  exact (pe_call F hr hg hm hk hb .nil pass0 ha hdb he hpl).wk fun σ H Q ⟨g, q⟩ => ⟨g, fun vs H1 e1 l1 i1 => ⟨ss, s, hA, by simpa using l1, fun i t ht => by rw [List.append_nil]; exact i1 i t ht, fun v H2 e2 i2 => q v H2 (e1.trans e2) i2⟩⟩
def ini : List Str → List S → Gm
  | [], ss => ss.map some
  | _ :: N, [] => none :: ini N []
  | _ :: N, s :: ss => some s :: ini N ss
theorem ini_eq : ∀ (N : List Str) (ss : List S), ini N ss = ss.map some ++ List.replicate (N.length - ss.length) none
  | [], ss => by simp [ini]
  | _ :: N, [] => by rw [ini, ini_eq N []]; simp [List.replicate_succ]
  | _ :: N, s :: ss => by rw [ini, ini_eq N ss]; simp
/-- the rule for a def: its body over data -/
theorem Dfn.of {P : Program} {w : World} {K : PySem.W.Frag} {mg : Str → Option Value} {base : Heap} {x qual : Str} {st : Stmt} {f : Addr} {fd : FuncData} {N ps : List Str} {k : Nat} {A : List S → S → Prop} (F : Fun K x qual st f fd) (hm : mg x = some (.ref f)) (Sc : FnScope N ps (defScope st))
    (len : ∀ ss s, A ss s → ss.length = ps.length) (hb : Binds K fd ps [])
    (hbody : ∀ (cdv : Value) (Ar : Around) (outer : List Env) (sh : Shared) (H : Hp) (E : XK) (ss : List S) (s : S), Room k (Ar.deeper (envOfC qual (defScope st) sh.heap.objs.size f cdv)) → A ss s →
      BD (cxOf CX0 P w K mg base N qual (defScope st) f cdv Ar outer sh H E).nox (ini N ss) (defBody st) (.ret s)) : Dfn P w K mg base (k + 1) x ps A := by
  refine ⟨f, fd, F.ok Sc (fun vs H Q E ⟨ss, s, hA, hl, _⟩ => by rw [hl]; exact len ss s hA) (fun cdv Ar outer sh H vs Q E hr ⟨ss, s, hA, hl, hv, q⟩ => ?_), hm, F.kp, hb⟩
  exact ⟨_, hbody cdv Ar outer sh H E ss s hr hA, by rw [ini_eq]; exact Fr.start hl.symm hv, fun v H1 e1 i1 => q v H1 e1 i1⟩
/-- len(x), tuple(x) -/
theorem pd_lenT {xs : List D} {pn : Pos} (hm : X.mg "len" = none) (h : PD X G e (.tup xs)) (hg : Gl X "len" := by rfl) (he : starEach [e] X.env = (false, eval e X.env) :: starEach [] X.env := by rfl) (hpl : (backTo pos (starEach [] X.env)).any (·.1) = false := by rfl) :
    PD X G (.Call (.Name "len" pn) [e] [] pos) (.int (xs.length : Int)) :=
  (pe_callB call_len_seq hg hm PySem.boot_len (pa_cons h pa_nil he) (he := he) (hpl := hpl)).wk fun σ H Q ⟨g, q⟩ => ⟨g, fun v H1 e1 i1 => by
    obtain ⟨a, vs, rfl, p1, p2⟩ := isS_tup.mp i1
    exact ⟨a, vs, rfl, .inr p1, q _ H1 e1 (isS_int.mpr (by rw [p2.len]))⟩⟩
theorem pd_lenL {xs : List D} {pn : Pos} (hm : X.mg "len" = none) (h : PDs X G e (.lst xs)) (hg : Gl X "len" := by rfl) (he : starEach [e] X.env = (false, eval e X.env) :: starEach [] X.env := by rfl) (hpl : (backTo pos (starEach [] X.env)).any (·.1) = false := by rfl) :
    PD X G (.Call (.Name "len" pn) [e] [] pos) (.int (xs.length : Int)) :=
  (pe_callB call_len_seq hg hm PySem.boot_len (pa_cons h pa_nil he) (he := he) (hpl := hpl)).wk fun σ H Q ⟨g, q⟩ => ⟨g, fun v H1 e1 i1 => by
    obtain ⟨a, vs, rfl, p1, p2⟩ := i1
    exact ⟨a, vs, rfl, .inl (.of p1), q _ H1 e1 (isS_int.mpr (by rw [p2.len]))⟩⟩
theorem pd_tupL {xs : List D} {pn : Pos} (hm : X.mg "tuple" = none) (h : PDs X G e (.lst xs)) (hg : Gl X "tuple" := by rfl) (he : starEach [e] X.env = (false, eval e X.env) :: starEach [] X.env := by rfl) (hpl : (backTo pos (starEach [] X.env)).any (·.1) = false := by rfl) :
    PD X G (.Call (.Name "tuple" pn) [e] [] pos) (.tup xs) :=
  (pe_callTy call_tuple_of hg hm (by decide +kernel) (pa_cons h pa_nil he) (he := he) (hpl := hpl)).wk fun σ H Q ⟨g, q⟩ => ⟨g, fun v H1 e1 i1 => by
    obtain ⟨a, vs, rfl, p1, p2⟩ := i1
    exact ⟨a, vs, rfl, .inl ⟨.of p1, fun l hl => q _ _ (e1.trans (same_new hl)) (isS_tup.mpr ⟨l, vs, rfl, .of upd_same, p2.mono (Tp.new hl)⟩)⟩⟩⟩
end
end Dat
end
section
/-! Code that draws from a tape: what it hands back is one of many; all but the tape stays. -/
namespace Dat
open PySem PySem.Spec PyProof.Rows L2

structure Tk where
  t : Addr
  b : Addr
  ns : List Int
  i : Nat
  m : Nat
  H0 : Hp
def TapeAt (H : Hp) (t b : Addr) (ns : List Int) : Prop := ∃ (p r z : Int), H t = some (.lst [.ref b, .int p, .int r, .int z]) ∧ H b = some (.lst (ns.map V.int)) ∧ 0 ≤ p
def KeepT (t : Addr) (H H' : Hp) : Prop := ∀ a o, a ≠ t → H a = some o → H' a = some o
theorem KeepT.refl (t : Addr) (H : Hp) : KeepT t H H := fun _ _ _ h => h
theorem KeepT.trans {t : Addr} {a b c : Hp} (h : KeepT t a b) (k : KeepT t b c) : KeepT t a c := fun x o hx e => k x o hx (h x o hx e)
theorem KeepT.of {t : Addr} {H H' : Hp} (e : Same H H') : KeepT t H H' := fun a o _ h => e a o h
def okS (s : S) : Prop := ∀ ys r, s ≠ .lst (.tup ys :: r)
theorem okS_d {d : D} : okS (.d d) := fun _ _ h => by cases h
theorem okS_obj {C : Addr} {fs : List (Str × V)} : okS (.obj C fs) := fun _ _ h => by cases h
theorem okS_ints {xs : List Int} : okS (.lst (xs.map D.int)) := fun _ _ h => by cases xs <;> simp at h
section
variable {K : PySem.W.Frag} {H H' : Hp} {t b : Addr} {ns : List Int}
theorem TapeAt.same (h : TapeAt H t b ns) (e : Same H H') : TapeAt H' t b ns := let ⟨p, r, z, h1, h2, h3⟩ := h; ⟨p, r, z, e _ _ h1, e _ _ h2, h3⟩
theorem TapeAt.ne (h : TapeAt H t b ns) : b ≠ t := by
  obtain ⟨p, r, z, h1, h2, h3⟩ := h
  rintro rfl
  rw [h1] at h2
  cases ns <;> simp at h2
theorem IsS.keep (e : KeepT t H H') (h : TapeAt H t b ns) {s : S} {v : V} (ok : okS s) (q : IsS K H s v) : IsS K H' s v := by
  obtain ⟨p, r, z, h1, h2, h3⟩ := h
  have tp : Tp H H' := fun a xs q => by
    have ha : a ≠ t := by
      rintro rfl
      rcases q with q | ⟨o, q⟩ <;> rw [h1] at q <;> cases q
    rcases q with q | ⟨o, q⟩
    · exact .inl (e _ _ ha q)
    · exact .inr ⟨o, e _ _ ha q⟩
  cases s with
  | d x => exact Is.mono tp q
  | lst xs =>
    obtain ⟨a, vs, e1, h4, h5⟩ := q
    have ha : a ≠ t := by
      rintro rfl
      rw [h1] at h4
      cases h4
      cases xs with
      | nil => rw [isL_nil] at h5; cases h5
      | cons x xs =>
        obtain ⟨w, r', e2, i2, _⟩ := isL_cons.mp h5
        cases e2
        cases x with
        | tup ys => exact ok ys xs rfl
        | non => rw [is_non] at i2; cases i2
        | bl _ => rw [is_bl] at i2; cases i2
        | int _ => rw [is_int] at i2; cases i2
        | str _ => rw [is_str] at i2; cases i2
    exact ⟨a, vs, e1, e _ _ ha h4, h5.mono tp⟩
  | obj C fs =>
    obtain ⟨a, dx, e1, h4⟩ := q
    have ha : a ≠ t := by
      rintro rfl
      rw [h1] at h4; cases h4
    exact ⟨a, dx, e1, e _ _ ha h4⟩
end
structure FT (K : PySem.W.Frag) (T : Tk) (H : Hp) (G : Gm) (σ : L2.St) : Prop where
  fr : Fr K H G σ
  tp : TapeAt H T.t T.b T.ns
  sl : σ[T.i]? = some (some (.ref T.t))
  ok : ∀ (j : Nat) s, G[j]? = some (some s) → okS s
  kp : KeepT T.t T.H0 H
  t0 : TapeAt T.H0 T.t T.b T.ns
  ow : ∀ a, σ[T.m]? = some (some (.ref a)) → T.H0 a = none
section
variable {K : PySem.W.Frag} {T : Tk} {H H' : Hp} {G : Gm} {σ : L2.St}
theorem FT.mono (f : FT K T H G σ) (e : KeepT T.t H H') (h : TapeAt H' T.t T.b T.ns) : FT K T H' G σ :=
  ⟨⟨f.fr.1, fun j s hs => let ⟨v, h1, h2⟩ := f.fr.2 j s hs; ⟨v, h1, h2.keep e f.tp (f.ok j s hs)⟩⟩, h, f.sl, f.ok, f.kp.trans e, f.t0, f.ow⟩
theorem FT.same (f : FT K T H G σ) (e : Same H H') : FT K T H' G σ := f.mono (.of e) (f.tp.same e)
theorem FT.set {j : Nat} {s : S} {v : V} (f : FT K T H G σ) (i : IsS K H s v) (ok : okS s) (hj : j ≠ T.i) (hm : j ≠ T.m) : FT K T H (G.set j (some s)) (σ.set j (some v)) :=
  ⟨f.fr.set i, f.tp, by rw [List.getElem?_set_ne hj]; exact f.sl, fun k s' h => by
    by_cases hk : k = j
    · subst hk
      have hl := (List.getElem?_eq_some_iff.mp h).1
      rw [List.getElem?_set_self (by simpa using hl)] at h
      cases h
      exact ok
    · rw [List.getElem?_set_ne (Ne.symm hk)] at h
      exact f.ok k s' h, f.kp, f.t0, fun a h => f.ow a (by rw [List.getElem?_set_ne hm] at h; exact h)⟩
/-- the same, at the list's own slot -/
theorem FT.setL {j : Nat} {s : S} {a : Addr} (f : FT K T H G σ) (i : IsS K H s (.ref a)) (ok : okS s) (hj : j ≠ T.i) (ha : T.H0 a = none) : FT K T H (G.set j (some s)) (σ.set j (some (.ref a))) :=
  ⟨f.fr.set i, f.tp, by rw [List.getElem?_set_ne hj]; exact f.sl, fun k s' h => by
    by_cases hk : k = j
    · subst hk
      have hl := (List.getElem?_eq_some_iff.mp h).1
      rw [List.getElem?_set_self (by simpa using hl)] at h
      cases h
      exact ok
    · rw [List.getElem?_set_ne (Ne.symm hk)] at h
      exact f.ok k s' h, f.kp, f.t0, fun c h => by
    by_cases hm : j = T.m
    · subst hm
      have hl := (List.getElem?_eq_some_iff.mp h).1
      rw [List.getElem?_set_self (by simpa using hl)] at h
      cases h
      exact ha
    · exact f.ow c (by rw [List.getElem?_set_ne hm] at h; exact h)⟩
theorem FT.fresh (f : FT K T H G σ) {p : Addr} (hp : H p = none) : T.H0 p = none := by
  cases h : T.H0 p with
  | none => rfl
  | some o =>
    have hpt : p ≠ T.t := by
      rintro rfl
      obtain ⟨_, _, _, h1, _⟩ := f.tp
      rw [h1] at hp; cases hp
    have := f.kp p o hpt h
    rw [hp] at this; cases this
/-- less is known -/
def GLe (G2 G : Gm) : Prop := G2.length = G.length ∧ ∀ (j : Nat) s, G2[j]? = some (some s) → G[j]? = some (some s)
theorem GLe.refl (G : Gm) : GLe G G := ⟨rfl, fun _ _ h => h⟩
theorem FT.le {G2 : Gm} (f : FT K T H G σ) (l : GLe G2 G) : FT K T H G2 σ := ⟨⟨l.1.trans f.fr.1, fun j s h => f.fr.2 j s (l.2 j s h)⟩, f.tp, f.sl, fun j s h => f.ok j s (l.2 j s h), f.kp, f.t0, f.ow⟩
end


theorem gle_nil : GLe [] [] := GLe.refl _
theorem gle_none {o : Option S} {a b : Gm} (h : GLe a b) : GLe (none :: a) (o :: b) := ⟨by simp [h.1], fun j s e => by
  cases j with
  | zero => simp at e
  | succ j => exact h.2 j s (by simpa using e)⟩
theorem gle_same {o : Option S} {a b : Gm} (h : GLe a b) : GLe (o :: a) (o :: b) := ⟨by simp [h.1], fun j s e => by
  cases j with
  | zero => simpa using e
  | succ j => exact h.2 j s (by simpa using e)⟩

/-! ### judgements -/
def tN (K : PySem.W.Frag) (T : Tk) (G : Gm) (Φ : S → Prop) : TE := fun σ H Q => FT K T H G σ ∧ ∀ s v H', Φ s → okS s → KeepT T.t H H' → TapeAt H' T.t T.b T.ns → IsS K H' s v → Q v H'
def tNT (K : PySem.W.Frag) (T : Tk) (G : Gm) (B : Bool → Prop) : TT := fun σ H Q => FT K T H G σ ∧ ∀ b H', B b → KeepT T.t H H' → TapeAt H' T.t T.b T.ns → Q b H'
def tNA (K : PySem.W.Frag) (T : Tk) (G : Gm) (Φ : List S → Prop) : TA := fun σ H Q => FT K T H G σ ∧ ∀ ss vs H', Φ ss → (∀ (i : Nat) s, ss[i]? = some s → okS s) → KeepT T.t H H' → TapeAt H' T.t T.b T.ns → vs.length = ss.length → (∀ (i : Nat) s, ss[i]? = some s → ∃ v, vs[i]? = some v ∧ IsS K H' s v) → Q vs H'
def tNS (K : PySem.W.Frag) (T : Tk) (G : Gm) (Ψ : Gm → Prop) (Φ : S → Prop) : TS := fun E σ H => FT K T H G σ ∧ (∀ G' σ' H', Ψ G' → FT K T H' G' σ' → E.nx σ' H') ∧ ∀ s v H', Φ s → okS s → KeepT T.t T.H0 H' → TapeAt H' T.t T.b T.ns → IsS K H' s v → E.rt v H'
abbrev ND (X : Cx) (T : Tk) (G : Gm) (e : Expr) (Φ : S → Prop) : Prop := PE X e (tN X.K T G Φ)
abbrev NT (X : Cx) (T : Tk) (G : Gm) (e : Expr) (B : Bool → Prop) : Prop := PT X e (tNT X.K T G B)
abbrev NA (X : Cx) (T : Tk) (G : Gm) (es : List Expr) (Φ : List S → Prop) : Prop := PA X es (tNA X.K T G Φ)
abbrev NS (X : Cx) (T : Tk) (G : Gm) (st : Stmt) (Ψ : Gm → Prop) (Φ : S → Prop) : Prop := PS X st (tNS X.K T G Ψ Φ)
abbrev NB (X : Cx) (T : Tk) (G : Gm) (st : List Stmt) (Ψ : Gm → Prop) (Φ : S → Prop) : Prop := PSs X st (tNS X.K T G Ψ Φ)
def iN (P : Int → Prop) : S → Prop := fun s => ∃ i, s = .d (.int i) ∧ P i
section
variable {X : Cx} {T : Tk} {G : Gm} {a b c e : Expr} {es : List Expr} {pos p : Pos} {st : Stmt} {rest body els : List Stmt} {Φ Φ1 Φ2 : S → Prop} {Ψ Ψ1 : Gm → Prop}
theorem nd_of {s : S} (h : PDs X G e s) (ok : okS s) : ND X T G e (fun s' => s' = s) := h.wk fun σ H Q ⟨f, q⟩ => ⟨f.fr, fun v H' e' i => q s v H' rfl ok (.of e') (f.tp.same e') i⟩
theorem nd_d {d : D} (h : PD X G e d) : ND X T G e (fun s' => s' = .d d) := nd_of h okS_d
theorem nd_wk (h : ND X T G e Φ) (k : ∀ s, Φ s → Φ1 s) : ND X T G e Φ1 := h.wk fun σ H Q ⟨f, q⟩ => ⟨f, fun s v H' hs => q s v H' (k s hs)⟩
theorem nd_i {i : Int} (h : PD X G e (.int i)) : ND X T G e (iN fun j => j = i) := nd_wk (nd_d h) fun s hs => ⟨i, hs, rfl⟩
theorem nt_of {k : Bool} (h : TD X G e k) : NT X T G e (fun b => b = k) := h.wk fun σ H Q ⟨f, q⟩ => ⟨f.fr, fun H' e' => q k H' rfl (.of e') (f.tp.same e')⟩
theorem na_nil : NA X T G [] (fun ss => ss = []) := pa_nil.wk fun σ H Q ⟨f, q⟩ => q [] [] H rfl (fun i s h => by simp at h) (.refl _ _) f.tp rfl fun i s h => by simp at h
theorem na_cons {A : List S → Prop} (h : ND X T G e Φ) (hr : NA X T G es A) (hs : starEach (e :: es) X.env = (false, eval e X.env) :: starEach es X.env := by rfl) : NA X T G (e :: es) (fun ss => ∃ s r, ss = s :: r ∧ Φ s ∧ A r) :=
  (pa_cons h hr hs).wk fun σ H Q ⟨f, q⟩ => ⟨f, fun s v H1 h1 ok1 e1 t1 i1 => ⟨f.mono e1 t1, fun ss vs H2 h2 ok2 e2 t2 l2 i2 => q (s :: ss) (v :: vs) H2 ⟨s, ss, rfl, h1, h2⟩ (fun i z hz => by
    cases i with
    | zero => simp at hz; subst hz; exact ok1
    | succ i => exact ok2 i z (by simpa using hz)) (e1.trans e2) t2 (by simp [l2]) fun i z hz => by
    cases i with
    | zero => simp at hz; subst hz; exact ⟨v, rfl, i1.keep e2 t1 ok1⟩
    | succ i => exact i2 i z (by simpa using hz)⟩⟩
theorem na_wk {A B : List S → Prop} (h : NA X T G es A) (k : ∀ s, A s → B s) : NA X T G es B := h.wk fun σ H Q ⟨f, q⟩ => ⟨f, fun s v H' hs => q s v H' (k s hs)⟩
/-- (e, ..) and [e, ..] -/
theorem nd_tup {A : List S → Prop} {x1} (h : NA X T G es A) (hd : ∀ ss, A ss → ∃ ds : List D, ss = ds.map S.d ∧ ds.length ≤ 1000000 ∧ Φ (.d (.tup ds))) : ND X T G (.Tuple es x1 pos) Φ :=
  (pe_tup h).wk fun σ H Q ⟨f, q⟩ => ⟨f, fun ss vs H1 h1 ok1 e1 t1 l1 i1 => by
    obtain ⟨ds, rfl, hl, hp⟩ := hd ss h1
    refine ⟨by rw [l1, List.length_map]; exact Nat.le_trans hl (by decide), fun p hp' => q _ _ _ hp okS_d (e1.trans (.of (same_new hp'))) (t1.same (same_new hp'))
      (isS_tup.mpr ⟨p, vs, rfl, .of upd_same, (isL_of (by simpa using l1) i1).mono (Tp.new hp')⟩)⟩⟩
theorem nd_lst {A : List S → Prop} (h : NA X T G es A) (hd : ∀ ss, A ss → ∃ ds : List D, ss = ds.map S.d ∧ ds.length ≤ 1000000 ∧ okS (.lst ds) ∧ Φ (.lst ds)) : ND X T G (.List es pos) Φ :=
  (pe_lst h).wk fun σ H Q ⟨f, q⟩ => ⟨f, fun ss vs H1 h1 ok1 e1 t1 l1 i1 => by
    obtain ⟨ds, rfl, hl, ok, hp⟩ := hd ss h1
    refine ⟨by rw [l1, List.length_map]; exact Nat.le_trans hl (by decide), fun p hp' => q _ _ _ hp ok (e1.trans (.of (same_new hp'))) (t1.same (same_new hp'))
      ⟨p, vs, rfl, upd_same, (isL_of (by simpa using l1) i1).mono (Tp.new hp')⟩⟩⟩
/-- two in a row -/
theorem nd_op2 {r : R2} (h : PE X e (tOp r (tN X.K T G Φ1) (tN X.K T G Φ2))) (k : ∀ x y v w H (Q : VK), Φ1 x → Φ2 y → IsS X.K H x v → IsS X.K H y w → (∀ s u, Φ s → okS s → IsS X.K H s u → Q u H) → r v w H Q) : ND X T G e Φ :=
  h.wk fun σ H Q ⟨f, q⟩ => ⟨f, fun x v H1 h1 ok1 e1 t1 i1 => ⟨f.mono e1 t1, fun y w H2 h2 ok2 e2 t2 i2 => k x y v w H2 Q h1 h2 (i1.keep e2 t1 ok1) i2 fun s u hs oks iu => q s u H2 hs oks (e1.trans e2) t2 iu⟩⟩
theorem nc_op2 {op : CmpOp} {r : R2} (h : PC X op a b (tOp r (tN X.K T G Φ1) (tN X.K T G Φ2))) (k : ∀ x y v w H (Q : VK), Φ1 x → Φ2 y → IsS X.K H x v → IsS X.K H y w → (∀ s u, Φ s → okS s → IsS X.K H s u → Q u H) → r v w H Q) : PC X op a b (tN X.K T G Φ) :=
  ⟨fun pins s σ H Q I ⟨f, q⟩ => h.run pins s σ H Q I ⟨f, fun x v H1 h1 ok1 e1 t1 i1 => ⟨f.mono e1 t1, fun y w H2 h2 ok2 e2 t2 i2 => k x y v w H2 Q h1 h2 (i1.keep e2 t1 ok1) i2 fun s u hs oks iu => q s u H2 hs oks (e1.trans e2) t2 iu⟩⟩⟩
theorem nd_add {P Q : Int → Prop} (ha : ND X T G a (iN P)) (hb : ND X T G b (iN Q)) : ND X T G (.BinOp a .Add b pos) (iN fun n => ∃ i j, P i ∧ Q j ∧ n = i + j) :=
  nd_op2 (pe_op op_add ha hb) fun x y v w H R ⟨i, e1, h1⟩ ⟨j, e2, h2⟩ i1 i2 q => by
    subst e1 e2
    exact ⟨i, j, isS_int.mp i1, isS_int.mp i2, q _ _ ⟨_, rfl, i, j, h1, h2, rfl⟩ okS_d (isS_int.mpr rfl)⟩
theorem nd_mul {P Q : Int → Prop} (ha : ND X T G a (iN P)) (hb : ND X T G b (iN Q)) (hc : ∀ i j, P i → Q j → CMul i j) : ND X T G (.BinOp a .Mult b pos) (iN fun n => ∃ i j, P i ∧ Q j ∧ n = i * j) :=
  nd_op2 (pe_op op_mul ha hb) fun x y v w H R ⟨i, e1, h1⟩ ⟨j, e2, h2⟩ i1 i2 q => by
    subst e1 e2
    exact ⟨i, j, isS_int.mp i1, isS_int.mp i2, hc i j h1 h2, q _ _ ⟨_, rfl, i, j, h1, h2, rfl⟩ okS_d (isS_int.mpr rfl)⟩
theorem nd_mod {P Q : Int → Prop} (ha : ND X T G a (iN P)) (hb : ND X T G b (iN Q)) (hc : ∀ j, Q j → 0 < j) : ND X T G (.BinOp a .Mod b pos) (iN fun n => ∃ i j, P i ∧ Q j ∧ n = i % j) :=
  nd_op2 (pe_op op_mod ha hb) fun x y v w H R ⟨i, e1, h1⟩ ⟨j, e2, h2⟩ i1 i2 q => by
    subst e1 e2
    exact ⟨i, j, isS_int.mp i1, isS_int.mp i2, hc j h2, q _ _ ⟨_, rfl, i, j, h1, h2, rfl⟩ okS_d (isS_int.mpr rfl)⟩
/-- xs[n] of a list -/
theorem nd_ixl {P : Int → Prop} (ha : ND X T G a Φ1) (hb : ND X T G b (iN P)) (k : ∀ s i, Φ1 s → P i → ∃ xs d, s = .lst xs ∧ 0 ≤ i ∧ xs[i.toNat]? = some d ∧ Φ (.d d)) (hp : PlainIx b := by intro _ _; rfl) : ND X T G (.Subscript a b pos) Φ :=
  nd_op2 (pe_ix ix_list ha hb hp) fun x y v w H R h1 ⟨i, e2, h2⟩ i1 i2 q => by
    subst e2
    obtain ⟨xs, d, rfl, h0, hd, hz⟩ := k x i h1 h2
    obtain ⟨a', vs, rfl, p1, p2⟩ := i1
    obtain ⟨u, e1, e2⟩ := p2.get hd
    refine ⟨a', vs, i, u, rfl, isS_int.mp i2, .of p1, ?_, q _ u hz okS_d e2⟩
    have := atI_nat e1
    rwa [Int.toNat_of_nonneg h0] at this
theorem nd_ixt {P : Int → Prop} (ha : ND X T G a Φ1) (hb : ND X T G b (iN P)) (k : ∀ s i, Φ1 s → P i → ∃ xs d, s = .d (.tup xs) ∧ 0 ≤ i ∧ xs[i.toNat]? = some d ∧ Φ (.d d)) (hp : PlainIx b := by intro _ _; rfl) : ND X T G (.Subscript a b pos) Φ :=
  nd_op2 (pe_ix ix_tup ha hb hp) fun x y v w H R h1 ⟨i, e2, h2⟩ i1 i2 q => by
    subst e2
    obtain ⟨xs, d, rfl, h0, hd, hz⟩ := k x i h1 h2
    obtain ⟨a', vs, rfl, p1, p2⟩ := isS_tup.mp i1
    obtain ⟨u, e1, e2⟩ := p2.get hd
    refine ⟨a', vs, i, u, rfl, isS_int.mp i2, p1, ?_, q _ u hz okS_d e2⟩
    have := atI_nat e1
    rwa [Int.toNat_of_nonneg h0] at this
/-- e == a number -/
theorem nt_eqi {P Q : Int → Prop} (ha : ND X T G a (iN P)) (hb : ND X T G b (iN Q)) (hm : behindInMarks .Eq b = false := by rfl) : NT X T G (.Compare a [.Eq] [b] pos) (fun _ => True) :=
  (pt_cmp (nc_op2 (Φ := fun s => ∃ k, s = .d (.bl k)) (pc_of op_eq ha hb) fun x y v w H R ⟨i, e1, h1⟩ ⟨j, e2, h2⟩ i1 i2 q => by
    subst e1 e2
    have h1 := isS_int.mp i1
    have h2 := isS_int.mp i2
    subst h1 h2
    exact ⟨rfl, q _ _ ⟨_, rfl⟩ okS_d (isS_bl.mpr rfl)⟩) hm).wk fun σ H Q ⟨f, q⟩ => ⟨f, fun s v H1 ⟨k, h1⟩ ok e1 t1 i1 => by
    subst h1
    exact ⟨k, isS_bl.mp i1, q k H1 trivial e1 t1⟩⟩
theorem nt_lt {P Q : Int → Prop} (ha : ND X T G a (iN P)) (hb : ND X T G b (iN Q)) (hm : behindInMarks .Lt b = false := by rfl) : NT X T G (.Compare a [.Lt] [b] pos) (fun k => ∃ i j, P i ∧ Q j ∧ k = decide (i < j)) :=
  (pt_cmp (nc_op2 (Φ := fun s => ∃ i j, P i ∧ Q j ∧ s = .d (.bl (decide (i < j)))) (pc_of op_lt ha hb) fun x y v w H R ⟨i, e1, h1⟩ ⟨j, e2, h2⟩ i1 i2 q => by
    subst e1 e2
    exact ⟨i, j, isS_int.mp i1, isS_int.mp i2, q _ _ ⟨i, j, h1, h2, rfl⟩ okS_d (isS_bl.mpr rfl)⟩) hm).wk fun σ H Q ⟨f, q⟩ => ⟨f, fun s v H1 ⟨i, j, hp, hq, h1⟩ ok e1 t1 i1 => by
    subst h1
    exact ⟨_, isS_bl.mp i1, q _ H1 ⟨i, j, hp, hq, rfl⟩ e1 t1⟩⟩
theorem pd_eqi {i j : Int} (ha : PD X G a (.int i)) (hb : PD X G b (.int j)) (hm : behindInMarks .Eq b = false := by rfl) : PD X G (.Compare a [.Eq] [b] pos) (.bl (i == j)) := pd_cmp (cd_eq (x := .int i) (y := .int j) ha hb rfl) hm
theorem nd_eqi {P Q : Int → Prop} (ha : ND X T G a (iN P)) (hb : ND X T G b (iN Q)) (hm : behindInMarks .Eq b = false := by rfl) : ND X T G (.Compare a [.Eq] [b] pos) (fun s => ∃ k, s = .d (.bl k)) :=
  pe_cmp (nc_op2 (Φ := fun s => ∃ k, s = .d (.bl k)) (pc_of op_eq ha hb) fun x y v w H R ⟨i, e1, h1⟩ ⟨j, e2, h2⟩ i1 i2 q => by
    subst e1 e2
    have h1 := isS_int.mp i1
    have h2 := isS_int.mp i2
    subst h1 h2
    exact ⟨rfl, q _ _ ⟨_, rfl⟩ okS_d (isS_bl.mpr rfl)⟩) hm

/-! ### the tape's own items -/
theorem nd_tp0 {x : Str} {p1 p2 : Pos} {k} (hN : X.N[T.i]? = some x := by rfl) (hv : Vis X.env.scope x := by first | exact Or.inl rfl | exact Or.inr (Or.inl rfl) | exact Or.inr (Or.inr rfl)) (hd : (x == ("__debug__" : Str)) = false := by decide) (hcd : (x == ("__classdict__" : Str)) = false := by decide) :
    ND X T G (.Subscript (.Name x p1) (.Constant (.int 0) k p2) pos) (fun s => s = .lst (T.ns.map D.int)) :=
  (pe_ix ix_list (pv T.i hN hv hd hcd) pe_int (fun _ _ => rfl)).wk fun σ H Q ⟨f, q⟩ => by
    obtain ⟨p, r, z, h1, h2, h3⟩ := f.tp
    refine ⟨_, f.sl, T.t, _, 0, .ref T.b, rfl, rfl, .of h1, rfl, q _ _ H rfl okS_ints (.refl _ _) f.tp ⟨T.b, _, rfl, h2, ?_⟩⟩
    generalize T.ns = l
    induction l with
    | nil => exact isL_nil.mpr rfl
    | cons x xs ih => exact isL_cons.mpr ⟨_, _, rfl, is_int.mpr rfl, ih⟩
theorem nd_tp {j : Nat} {P : Int → Prop} (hj : (j = 1 ∧ ∀ i, 0 ≤ i → P i) ∨ ((j = 2 ∨ j = 3) ∧ ∀ i, P i)) {x : Str} {p1 p2 : Pos} {k} (hN : X.N[T.i]? = some x := by rfl) (hv : Vis X.env.scope x := by first | exact Or.inl rfl | exact Or.inr (Or.inl rfl) | exact Or.inr (Or.inr rfl)) (hd : (x == ("__debug__" : Str)) = false := by decide) (hcd : (x == ("__classdict__" : Str)) = false := by decide) :
    ND X T G (.Subscript (.Name x p1) (.Constant (.int (j : Int)) k p2) pos) (iN P) :=
  (pe_ix ix_list (pv T.i hN hv hd hcd) pe_int (fun _ _ => rfl)).wk fun σ H Q ⟨f, q⟩ => by
    obtain ⟨p, r, z, h1, h2, h3⟩ := f.tp
    rcases hj with ⟨rfl, hp⟩ | ⟨rfl | rfl, hp⟩
    · exact ⟨_, f.sl, T.t, _, 1, .int p, rfl, rfl, .of h1, rfl, q _ _ H ⟨p, rfl, hp p h3⟩ okS_d (.refl _ _) f.tp (isS_int.mpr rfl)⟩
    · exact ⟨_, f.sl, T.t, _, 2, .int r, rfl, rfl, .of h1, rfl, q _ _ H ⟨r, rfl, hp r⟩ okS_d (.refl _ _) f.tp (isS_int.mpr rfl)⟩
    · exact ⟨_, f.sl, T.t, _, 3, .int z, rfl, rfl, .of h1, rfl, q _ _ H ⟨z, rfl, hp z⟩ okS_d (.refl _ _) f.tp (isS_int.mpr rfl)⟩

/-! ### built-in calls -/
theorem nd_call1 {r : List V → Hp → VK → Prop} (h : PE X e (tCB r (tCons (tN X.K T G Φ1) tNil))) (k : ∀ x v H (Q : VK), Φ1 x → okS x → IsS X.K H x v → (∀ s u H', Φ s → okS s → Same H H' → IsS X.K H' s u → Q u H') → r [v] H Q) : ND X T G e Φ :=
  h.wk fun σ H Q ⟨f, q⟩ => ⟨f, fun x v H1 h1 ok1 e1 t1 i1 => k x v H1 Q h1 ok1 i1 fun s u H' hs oks e2 iu => q s u H' hs oks (e1.trans (.of e2)) (t1.same e2) iu⟩
theorem nd_int {P : Int → Prop} {pn : Pos} (hm : X.mg "int" = none) (h : ND X T G a (iN P)) (hg : Gl X "int" := by rfl) (he : starEach [a] X.env = (false, eval a X.env) :: starEach [] X.env := by rfl) (hpl : (backTo pos (starEach [] X.env)).any (·.1) = false := by rfl) :
    ND X T G (.Call (.Name "int" pn) [a] [] pos) (iN P) :=
  nd_call1 (pe_callTy call_int1 hg hm (by decide +kernel) (pa_cons h pa_nil he) (he := he) (hpl := hpl)) fun x v H Q ⟨i, e1, h1⟩ ok i1 q => by
    subst e1
    exact .inl ⟨i, by rw [isS_int.mp i1], q _ _ H ⟨i, rfl, h1⟩ okS_d (Same.refl H) (isS_int.mpr rfl)⟩
theorem nd_abs {P : Int → Prop} {pn : Pos} (hm : X.mg "abs" = none) (h : ND X T G a (iN P)) (hg : Gl X "abs" := by rfl) (he : starEach [a] X.env = (false, eval a X.env) :: starEach [] X.env := by rfl) (hpl : (backTo pos (starEach [] X.env)).any (·.1) = false := by rfl) :
    ND X T G (.Call (.Name "abs" pn) [a] [] pos) (iN fun n => 0 ≤ n) :=
  nd_call1 (pe_callB call_abs hg hm (by decide +kernel) (pa_cons h pa_nil he) (he := he) (hpl := hpl)) fun x v H Q ⟨i, e1, h1⟩ ok i1 q => by
    subst e1
    exact ⟨i, by rw [isS_int.mp i1], q _ _ H ⟨_, rfl, by split <;> omega⟩ okS_d (Same.refl H) (isS_int.mpr rfl)⟩
theorem nd_len {pn : Pos} (hm : X.mg "len" = none) (h : ND X T G a Φ1) (k : ∀ s, Φ1 s → ∃ xs, s = .lst xs ∧ Φ (.d (.int (xs.length : Int)))) (hg : Gl X "len" := by rfl) (he : starEach [a] X.env = (false, eval a X.env) :: starEach [] X.env := by rfl) (hpl : (backTo pos (starEach [] X.env)).any (·.1) = false := by rfl) :
    ND X T G (.Call (.Name "len" pn) [a] [] pos) Φ :=
  nd_call1 (pe_callB call_len_seq hg hm PySem.boot_len (pa_cons h pa_nil he) (he := he) (hpl := hpl)) fun x v H Q h1 ok i1 q => by
    obtain ⟨xs, rfl, hz⟩ := k x h1
    obtain ⟨a', vs, rfl, p1, p2⟩ := i1
    exact ⟨a', vs, rfl, .inl (.of p1), q _ _ H hz okS_d (Same.refl H) (isS_int.mpr (by rw [p2.len]))⟩
theorem pd_int1 {i : Int} {pn : Pos} (hm : X.mg "int" = none) (h : PD X G a (.int i)) (hg : Gl X "int" := by rfl) (he : starEach [a] X.env = (false, eval a X.env) :: starEach [] X.env := by rfl) (hpl : (backTo pos (starEach [] X.env)).any (·.1) = false := by rfl) : PD X G (.Call (.Name "int" pn) [a] [] pos) (.int i) :=
  (pe_callTy call_int1 hg hm (by decide +kernel) (pa_cons h pa_nil he) (he := he) (hpl := hpl)).wk fun σ H Q ⟨f, q⟩ => ⟨f, fun v H1 e1 i1 => .inl ⟨i, by rw [isS_int.mp i1], q _ H1 e1 (isS_int.mpr rfl)⟩⟩
theorem pd_max {i j : Int} {pn : Pos} (hc : X.calm = true) (hm : X.mg "max" = none) (h : PD X G a (.int i)) (h2 : PD X G b (.int j)) (hg : Gl X "max" := by rfl) (he2 : starEach [b] X.env = (false, eval b X.env) :: starEach [] X.env := by rfl) (he : starEach [a, b] X.env = (false, eval a X.env) :: starEach [b] X.env := by rfl) (hpl : (backTo pos (starEach [b] X.env)).any (·.1) = false := by rfl) :
    PD X G (.Call (.Name "max" pn) [a, b] [] pos) (.int (if j > i then j else i)) :=
  (pe_callB (call_max2 hc) hg hm (by decide +kernel) (pa_cons h (pa_cons h2 pa_nil he2) he) (he := he) (hpl := hpl)).wk fun σ H Q ⟨f, q⟩ => ⟨f, fun v H1 e1 i1 => ⟨f.mono e1, fun w H2 e2 i2 => ⟨i, j, by rw [isS_int.mp i1, isS_int.mp i2], q _ H2 (e1.trans e2) (isS_int.mpr rfl)⟩⟩⟩
theorem pd_min {i j : Int} {pn : Pos} (hc : X.calm = true) (hm : X.mg "min" = none) (h : PD X G a (.int i)) (h2 : PD X G b (.int j)) (hg : Gl X "min" := by rfl) (he2 : starEach [b] X.env = (false, eval b X.env) :: starEach [] X.env := by rfl) (he : starEach [a, b] X.env = (false, eval a X.env) :: starEach [b] X.env := by rfl) (hpl : (backTo pos (starEach [b] X.env)).any (·.1) = false := by rfl) :
    PD X G (.Call (.Name "min" pn) [a, b] [] pos) (.int (if j < i then j else i)) :=
  (pe_callB (call_min2 hc) hg hm (by decide +kernel) (pa_cons h (pa_cons h2 pa_nil he2) he) (he := he) (hpl := hpl)).wk fun σ H Q ⟨f, q⟩ => ⟨f, fun v H1 e1 i1 => ⟨f.mono e1, fun w H2 e2 i2 => ⟨i, j, by rw [isS_int.mp i1, isS_int.mp i2], q _ H2 (e1.trans e2) (isS_int.mpr rfl)⟩⟩⟩
theorem pd_pow {i j : Int} (ha : PD X G a (.int i)) (hb : PD X G b (.int j)) (hc : CPow i j) : PD X G (.BinOp a .Pow b pos) (.int (i ^ j.toNat)) :=
  pd_op2 (pe_op op_pow ha hb) fun v w H Q h1 h2 q => ⟨i, j, isS_int.mp h1, isS_int.mp h2, hc, q _ H (Same.refl H) (isS_int.mpr rfl)⟩

/-! ### statements -/
theorem nb_nil : NB X T G [] (fun G' => G' = G) Φ := pss_nil.wk fun E σ H ⟨f, q, _⟩ => q G σ H rfl f
theorem nb_any : PSs X rest (fun E σ H => ∃ G1, NB X T G1 rest Ψ Φ ∧ tNS X.K T G1 Ψ Φ E σ H) := ⟨fun pins s σ H E I ⟨_, h, q⟩ => h.run pins s σ H E I q⟩
theorem nb_cons (h : NS X T G st Ψ1 Φ) (k : ∀ G', Ψ1 G' → NB X T G' rest Ψ Φ) : NB X T G (st :: rest) Ψ Φ :=
  (pss_cons h nb_any).wk fun E σ H ⟨f, q, r⟩ => ⟨f, fun G' σ' H' h' f' => ⟨G', k G' h', f', q, r⟩, r⟩
theorem nb_wk (h : NB X T G rest Ψ1 Φ) (k : ∀ G', Ψ1 G' → Ψ G') : NB X T G rest Ψ Φ := h.wk fun E σ H ⟨f, q, r⟩ => ⟨f, fun G' σ' H' h' f' => q G' σ' H' (k G' h') f', r⟩
theorem nb_le {G2 : Gm} (l : GLe G2 G) (h : NB X T G2 rest Ψ Φ) : NB X T G rest Ψ Φ := h.wk fun E σ H ⟨f, q, r⟩ => ⟨f.le l, q, r⟩
theorem nb_eq {G2 : Gm} (e : G = G2) (h : NB X T G2 rest Ψ Φ) : NB X T G rest Ψ Φ := e ▸ h
theorem ns_set {j : Nat} {x : Str} (hN : X.N.Nodup) (h : ND X T G e Φ1) (hjt : j ≠ T.i := by exact Nat.ne_of_beq_eq_false rfl) (hjm : j ≠ T.m := by exact Nat.ne_of_beq_eq_false rfl) (hi : X.N[j]? = some x := by rfl) (hx : Loc X.env.scope x := by first | exact Or.inl rfl | exact Or.inr rfl) (hf : X.fn x = true ∨ X.env.scope.names.lookup x = some .local := by first | exact .inl rfl | exact .inr rfl)
    (hs : swapsWithSole [.Name x p] e pos.line X.env = pure false := by rfl) (hw : swappedStores [.Name x p] e X.env = pure none := by rfl)
    (h1 : (assignEach [.Name x p] X.env).map (·.2) = [assign (.Name x p) X.env] := by rfl) : NS X T G (.Assign [.Name x p] e pos) (fun G' => ∃ s, Φ1 s ∧ G' = G.set j (some s)) Φ :=
  (ps_asg h (pg_name (i := j) hN hi hx hf) hs hw h1).wk fun E σ H ⟨f, q, _⟩ => ⟨f, fun s v H1 h1 ok e1 t1 i1 => q _ _ H1 ⟨s, h1, rfl⟩ ((f.mono e1 t1).set i1 ok hjt hjm)⟩
theorem nb_set {j : Nat} {x : Str} (hN : X.N.Nodup) (h : ND X T G e Φ1) (k : ∀ s, Φ1 s → NB X T (G.set j (some s)) rest Ψ Φ) (hjt : j ≠ T.i := by exact Nat.ne_of_beq_eq_false rfl) (hjm : j ≠ T.m := by exact Nat.ne_of_beq_eq_false rfl) (hi : X.N[j]? = some x := by rfl) (hx : Loc X.env.scope x := by first | exact Or.inl rfl | exact Or.inr rfl) (hf : X.fn x = true ∨ X.env.scope.names.lookup x = some .local := by first | exact .inl rfl | exact .inr rfl)
    (hs : swapsWithSole [.Name x p] e pos.line X.env = pure false := by rfl) (hw : swappedStores [.Name x p] e X.env = pure none := by rfl)
    (h1 : (assignEach [.Name x p] X.env).map (·.2) = [assign (.Name x p) X.env] := by rfl) : NB X T G (.Assign [.Name x p] e pos :: rest) Ψ Φ :=
  nb_cons (ns_set (j := j) hN h hjt hjm hi hx hf hs hw h1) fun G' ⟨s, hs, e⟩ => e ▸ k s hs
theorem ns_ret (h : ND X T G e Φ) : NS X T G (.Return (some e) pos) Ψ Φ := (ps_ret h).wk fun E σ H ⟨f, _, q⟩ => ⟨f, fun s v H' hs ok e t i => q s v H' hs ok (f.kp.trans e) t i⟩
theorem nb_ret (h : ND X T G e Φ) : NB X T G (.Return (some e) pos :: rest) Ψ Φ := nb_cons (Ψ1 := fun _ => False) (ns_ret h) fun _ h => h.elim
theorem ns_if {B : Bool → Prop} (hc : NT X T G c B) (h1 : B true → NB X T G body Ψ Φ) (h2 : B false → NB X T G els Ψ Φ) : NS X T G (.If c body els pos) Ψ Φ := by
  refine (ps_if hc (t := fun E σ H => B true ∧ tNS X.K T G Ψ Φ E σ H) (u := fun E σ H => B false ∧ tNS X.K T G Ψ Φ E σ H) ⟨fun pins s σ H E I ⟨b, q⟩ => (h1 b).run pins s σ H E I q⟩ ⟨fun pins s σ H E I ⟨b, q⟩ => (h2 b).run pins s σ H E I q⟩).wk fun E σ H ⟨f, q, r⟩ => ⟨f, fun b H1 hb e t => ?_⟩
  cases b with
  | true => exact iteT ⟨hb, f.mono e t, q, r⟩
  | false => exact iteF ⟨hb, f.mono e t, q, r⟩
/-- tape[j] = e -/
theorem ns_tset {j : Nat} {P : Int → Prop} {x : Str} {p1 p2 p3 : Pos} {k} (h : ND X T G e (iN P)) (hj : (j = 1 ∧ ∀ i, P i → 0 ≤ i) ∨ j = 2 ∨ j = 3) (hN : X.N[T.i]? = some x := by rfl) (hv : Vis X.env.scope x := by first | exact Or.inl rfl | exact Or.inr (Or.inl rfl) | exact Or.inr (Or.inr rfl)) (hd : (x == ("__debug__" : Str)) = false := by decide) (hcd : (x == ("__classdict__" : Str)) = false := by decide)
    (ha : ∀ v, assign (.Subscript (.Name x p1) (.Constant (.int (j : Int)) k p2) p3) X.env v = (do
      let ov ← holding [v] (eval (.Name x p1) X.env)
      let iv ← holding [v, ov] (eval (.Constant (.int (j : Int)) k p2) X.env)
      standAt p3
      holding [v, ov, iv] (setItem ov iv v)
      release [v, ov, iv] []) := by intro _; rfl)
    (hs : swapsWithSole [.Subscript (.Name x p1) (.Constant (.int (j : Int)) k p2) p3] e pos.line X.env = pure false := by rfl) (hw : swappedStores [.Subscript (.Name x p1) (.Constant (.int (j : Int)) k p2) p3] e X.env = pure none := by rfl)
    (h1 : (assignEach [.Subscript (.Name x p1) (.Constant (.int (j : Int)) k p2) p3] X.env).map (·.2) = [assign (.Subscript (.Name x p1) (.Constant (.int (j : Int)) k p2) p3) X.env] := by rfl) :
    NS X T G (.Assign [.Subscript (.Name x p1) (.Constant (.int (j : Int)) k p2) p3] e pos) (fun G' => G' = G) Φ :=
  (ps_asg h (pg_sub (pv T.i hN hv hd hcd) pe_int set_list ha) hs hw h1).wk fun E σ H ⟨f, q, _⟩ => ⟨f, fun s v H1 ⟨i, e0, hP⟩ ok e1 t1 i1 => by
    subst e0
    have hv := isS_int.mp i1
    subst hv
    have f1 := f.mono e1 t1
    obtain ⟨p, r, z, g1, g2, g3⟩ := t1
    have hbt : T.b ≠ T.t := f.tp.ne
    have fin : ∀ (p' r' z' : Int), 0 ≤ p' → E.nx σ (upd H1 T.t (.lst [.ref T.b, .int p', .int r', .int z'])) := fun p' r' z' h0 => q G σ _ rfl (f1.mono (fun a o ha ho => by rw [upd_ne ha]; exact ho) ⟨p', r', z', upd_same, by rw [upd_ne hbt]; exact g2, h0⟩)
    rcases hj with ⟨rfl, hp⟩ | rfl | rfl
    · exact ⟨_, f1.sl, T.t, _, 1, 1, rfl, rfl, g1, rfl, fin i r z (hp i hP)⟩
    · exact ⟨_, f1.sl, T.t, _, 2, 2, rfl, rfl, g1, rfl, fin p i z g3⟩
    · exact ⟨_, f1.sl, T.t, _, 3, 3, rfl, rfl, g1, rfl, fin p r i g3⟩⟩
end

/-! ### drawn from a row of numbers -/
def AllP : List (Int → Prop) → List Int → Prop
  | [], is => is = []
  | P :: Ps, is => ∃ i r, is = i :: r ∧ P i ∧ AllP Ps r
def AnyP : List (Int → Prop) → Int → Prop
  | [], _ => False
  | P :: Ps, i => P i ∨ AnyP Ps i
theorem AllP.len : ∀ {Ps : List (Int → Prop)} {is : List Int}, AllP Ps is → is.length = Ps.length
  | [], is, h => by unfold AllP at h; subst h; rfl
  | P :: Ps, is, h => by
    unfold AllP at h
    obtain ⟨i, r, rfl, _, h2⟩ := h
    simp [AllP.len h2]
theorem AllP.get : ∀ {Ps : List (Int → Prop)} {is : List Int} {j : Nat}, AllP Ps is → j < Ps.length → ∃ i, is[j]? = some i ∧ AnyP Ps i
  | [], _, _, _, h => by simp at h
  | P :: Ps, is, j, h, hj => by
    unfold AllP at h
    obtain ⟨i, r, rfl, h1, h2⟩ := h
    cases j with
    | zero => exact ⟨i, rfl, .inl h1⟩
    | succ j =>
      obtain ⟨k, e, h3⟩ := AllP.get (j := j) h2 (by simpa using hj)
      exact ⟨k, by simpa using e, .inr h3⟩
section
variable {X : Cx} {T : Tk} {G : Gm} {a b c e : Expr} {es : List Expr} {pos p : Pos} {st : Stmt} {rest body els : List Stmt} {Φ Φ1 Φ2 : S → Prop} {Ψ Ψ1 : Gm → Prop}
abbrev NI (X : Cx) (T : Tk) (G : Gm) (es : List Expr) (Ps : List (Int → Prop)) : Prop := NA X T G es (fun ss => ∃ is, ss = is.map (fun i => S.d (.int i)) ∧ AllP Ps is)
theorem ni_nil : NI X T G [] [] := na_wk na_nil fun ss h => ⟨[], h, rfl⟩
theorem ni_cons {Pi : Int → Prop} {Ps : List (Int → Prop)} (h : ND X T G e (iN Pi)) (hr : NI X T G es Ps) (hs : starEach (e :: es) X.env = (false, eval e X.env) :: starEach es X.env := by rfl) : NI X T G (e :: es) (Pi :: Ps) :=
  na_wk (na_cons h hr hs) fun ss ⟨s, r, e1, ⟨i, e2, h1⟩, is, e3, h2⟩ => ⟨i :: is, by subst e1 e2 e3; rfl, i, is, rfl, h1, h2⟩
theorem nd_pick {Ps : List (Int → Prop)} {R : Int → Prop} {n : Int} (h : NI X T G es Ps) (hb : ND X T G b (iN fun v => 0 ≤ v ∧ v < n)) (k : ∀ i, AnyP Ps i → R i) (hn : n = (Ps.length : Int) := by rfl) (hl : Ps.length ≤ 1000000 := by exact Nat.le_of_ble_eq_true rfl) (hp : PlainIx b := by intro _ _; rfl) : ND X T G (.Subscript (.List es p) b pos) (iN R) :=
  nd_ixl (nd_lst (Φ := fun s => ∃ is, s = .lst (is.map D.int) ∧ AllP Ps is) h fun ss ⟨is, e, h1⟩ => ⟨is.map D.int, by subst e; simp, by simpa [h1.len] using hl, okS_ints, is, rfl, h1⟩) hb (fun s i ⟨is, e, h1⟩ ⟨h0, h2⟩ => by
    obtain ⟨v, hv, ha⟩ := h1.get (j := i.toNat) (by omega)
    exact ⟨_, .int v, e, h0, by rw [List.getElem?_map, hv]; rfl, v, rfl, k v ha⟩) hp

/-! ### new lists -/
def tNF (K : PySem.W.Frag) (T : Tk) (G : Gm) (Φ : S → Prop) : TE := fun σ H Q => FT K T H G σ ∧ ∀ s p H', Φ s → okS s → KeepT T.t H H' → TapeAt H' T.t T.b T.ns → IsS K H' s (.ref p) → T.H0 p = none → Q (.ref p) H'
theorem nf_lst {A : List S → Prop} (h : NA X T G es A) (hd : ∀ ss, A ss → ∃ ds : List D, ss = ds.map S.d ∧ ds.length ≤ 1000000 ∧ okS (.lst ds) ∧ Φ (.lst ds)) : PE X (.List es pos) (tNF X.K T G Φ) :=
  (pe_lst h).wk fun σ H Q ⟨f, q⟩ => ⟨f, fun ss vs H1 h1 ok1 e1 t1 l1 i1 => by
    obtain ⟨ds, rfl, hl, ok, hp⟩ := hd ss h1
    refine ⟨by rw [l1, List.length_map]; exact Nat.le_trans hl (by decide), fun p hp' => q _ _ _ hp ok (e1.trans (.of (same_new hp'))) (t1.same (same_new hp'))
      ⟨p, vs, rfl, upd_same, (isL_of (by simpa using l1) i1).mono (Tp.new hp')⟩ ((f.mono e1 t1).fresh hp')⟩⟩
theorem nf_list {pn : Pos} (hm : X.mg "list" = none) (h : ND X T G a Φ1) (k : ∀ s, Φ1 s → ∃ xs : List Int, s = .d (.tup (xs.map D.int)) ∧ Φ (.lst (xs.map D.int))) (hg : Gl X "list" := by rfl) (he : starEach [a] X.env = (false, eval a X.env) :: starEach [] X.env := by rfl) (hpl : (backTo pos (starEach [] X.env)).any (·.1) = false := by rfl) :
    PE X (.Call (.Name "list" pn) [a] [] pos) (tNF X.K T G Φ) :=
  (pe_callTy call_list_of hg hm (by decide +kernel) (pa_cons h pa_nil he) (he := he) (hpl := hpl)).wk fun σ H Q ⟨f, q⟩ => ⟨f, fun s v H1 h1 ok1 e1 t1 i1 => by
    obtain ⟨xs, rfl, hz⟩ := k s h1
    obtain ⟨a', vs, rfl, p1, p2⟩ := isS_tup.mp i1
    exact ⟨a', vs, rfl, .inr p1, fun l hl => q _ l _ hz okS_ints (e1.trans (.of (same_new hl))) (t1.same (same_new hl)) ⟨l, vs, rfl, upd_same, p2.mono (Tp.new hl)⟩ ((f.mono e1 t1).fresh hl)⟩⟩
theorem ns_setF {j : Nat} {x : Str} (hN : X.N.Nodup) (h : PE X e (tNF X.K T G Φ1)) (hjt : j ≠ T.i := by exact Nat.ne_of_beq_eq_false rfl) (hi : X.N[j]? = some x := by rfl) (hx : Loc X.env.scope x := by first | exact Or.inl rfl | exact Or.inr rfl) (hf : X.fn x = true ∨ X.env.scope.names.lookup x = some .local := by first | exact .inl rfl | exact .inr rfl)
    (hs : swapsWithSole [.Name x p] e pos.line X.env = pure false := by rfl) (hw : swappedStores [.Name x p] e X.env = pure none := by rfl)
    (h1 : (assignEach [.Name x p] X.env).map (·.2) = [assign (.Name x p) X.env] := by rfl) : NS X T G (.Assign [.Name x p] e pos) (fun G' => ∃ s, Φ1 s ∧ G' = G.set j (some s)) Φ :=
  (ps_asg h (pg_name (i := j) hN hi hx hf) hs hw h1).wk fun E σ H ⟨f, q, _⟩ => ⟨f, fun s v H1 h1 ok e1 t1 i1 h0 => q _ _ H1 ⟨s, h1, rfl⟩ ((f.mono e1 t1).setL i1 ok hjt h0)⟩
/-- the one list is changed -/
theorem FT.chg {K : PySem.W.Frag} {σ : L2.St} {H : Hp} {xs ys : List Int} (f : FT K T H G σ) (hg : G[T.m]? = some (some (.lst (xs.map D.int)))) (ho : ∀ j zs, j ≠ T.m → G[j]? ≠ some (some (.lst zs))) :
    ∃ a, σ[T.m]? = some (some (.ref a)) ∧ H a = some (.lst (xs.map V.int)) ∧ FT K T (upd H a (.lst (ys.map V.int))) (G.set T.m (some (.lst (ys.map D.int)))) σ := by
  obtain ⟨v, h1, a, vs, rfl, h2, h3⟩ := f.fr.2 _ _ hg
  have hvs : vs = xs.map V.int := by
    clear h2 hg
    induction xs generalizing vs with
    | nil => rw [List.map_nil, isL_nil] at h3; exact h3
    | cons x xs ih =>
      rw [List.map_cons] at h3
      obtain ⟨w, r, rfl, i1, i2⟩ := isL_cons.mp h3
      rw [is_int] at i1
      rw [i1, ih r i2]; rfl
  subst hvs
  have a0 := f.ow a h1
  have hat : a ≠ T.t := by
    rintro rfl
    obtain ⟨_, _, _, g1, _⟩ := f.t0
    rw [g1] at a0; cases a0
  have hab : a ≠ T.b := by
    rintro rfl
    obtain ⟨_, _, _, _, g1, _⟩ := f.t0
    rw [g1] at a0; cases a0
  have tp : Tp H (upd H a (.lst (ys.map V.int))) := Tp.lst h2
  have il : ∀ (H : Hp) (l : List Int), IsL K H (l.map D.int) (l.map V.int) := fun H l => by
    induction l with
    | nil => exact isL_nil.mpr rfl
    | cons x xs ih => exact isL_cons.mpr ⟨_, _, rfl, is_int.mpr rfl, ih⟩
  refine ⟨a, h1, h2, ⟨by rw [List.length_set]; exact f.fr.1, fun j s h => ?_⟩, ?_, f.sl, fun j s h => ?_, fun b o hb h => ?_, f.t0, f.ow⟩
  · by_cases hj : j = T.m
    · subst hj
      have hl := (List.getElem?_eq_some_iff.mp hg).1
      rw [List.getElem?_set_self hl] at h
      cases h
      exact ⟨_, h1, a, _, rfl, upd_same, il _ _⟩
    · rw [List.getElem?_set_ne (Ne.symm hj)] at h
      obtain ⟨v, q1, q2⟩ := f.fr.2 j s h
      refine ⟨v, q1, ?_⟩
      cases s with
      | d x => exact Is.mono tp q2
      | lst zs => exact absurd h (ho j zs hj)
      | obj C fs =>
        obtain ⟨c, dx, e1, h4⟩ := q2
        refine ⟨c, dx, e1, ?_⟩
        rw [upd_ne]
        · exact h4
        · rintro rfl
          rw [h2] at h4; cases h4
  · obtain ⟨p, r, z, g1, g2, g3⟩ := f.tp
    exact ⟨p, r, z, by rw [upd_ne (Ne.symm hat)]; exact g1, by rw [upd_ne (Ne.symm hab)]; exact g2, g3⟩
  · by_cases hj : j = T.m
    · subst hj
      have hl := (List.getElem?_eq_some_iff.mp hg).1
      rw [List.getElem?_set_self hl] at h
      cases h
      exact okS_ints
    · rw [List.getElem?_set_ne (Ne.symm hj)] at h
      exact f.ok j s h
  · have hba : b ≠ a := by
      rintro rfl
      rw [a0] at h; cases h
    rw [upd_ne hba]
    exact f.kp b o hb h
/-- xs.append(e) -/
theorem ns_app {x : Str} {xs : List Int} {Pi : Int → Prop} {p1 apos cpos : Pos} (hg : G[T.m]? = some (some (.lst (xs.map D.int)))) (ho : ∀ j zs, j ≠ T.m → G[j]? ≠ some (some (.lst zs))) (hz : xs.length ≤ 1000000) (h : ND X T G e (iN Pi))
    (hN : X.N[T.m]? = some x := by rfl) (hv : Vis X.env.scope x := by first | exact Or.inl rfl | exact Or.inr (Or.inl rfl) | exact Or.inr (Or.inr rfl)) (hd : (x == ("__debug__" : Str)) = false := by decide) (hcd : (x == ("__classdict__" : Str)) = false := by decide)
    (hbase : attributeBase (.Name x p1) "append" X.env (eval (.Name x p1) X.env) = eval (.Name x p1) X.env := by rfl)
    (hfew : ((backTo cpos (starEach [e] X.env)).all (fun x => !x.1) && (backToKw cpos (keywordEach [] X.env)).all (fun x => x.1.isSome)
      && decide ([e].length + ([] : List Keyword).length + (if ([] : List Keyword).isEmpty then 0 else 1) < 30)) = true := by rfl)
    (hline : (apos.endLine == cpos.line) = true := by rfl) (hs : starEach [e] X.env = (false, eval e X.env) :: starEach [] X.env := by rfl) (hplain : (backTo cpos (starEach [] X.env)).any (·.1) = false := by rfl)
    (hsw : swapsWith (.Call (.Attribute (.Name x p1) "append" apos) [e] [] cpos) none pos.line X.env = pure false := by rfl) :
    NS X T G (.Expr (.Call (.Attribute (.Name x p1) "append" apos) [e] [] cpos) pos) (fun G' => ∃ i, Pi i ∧ G' = G.set T.m (some (.lst ((xs ++ [i]).map D.int)))) Φ :=
  (ps_expr (pe_bm PySem.F.plainAttrs_list PySem.F.slot_list_append PySem.F.type_list_append mt_append (pv T.m hN hv hd hcd) (pa_cons h pa_nil hs) hbase hfew hline hs hplain) hsw).wk fun E σ H ⟨f, q, _⟩ => by
    obtain ⟨a, h1, h2, _⟩ := f.chg (ys := xs) hg ho
    refine ⟨_, h1, .inl ⟨rfl, _, SqL.of h2⟩, f, fun s v H1 ⟨i, e0, hi⟩ ok e1 t1 i1 => ?_⟩
    subst e0
    have hv := isS_int.mp i1
    subst hv
    obtain ⟨a', h1', h2', f'⟩ := (f.mono e1 t1).chg (ys := xs ++ [i]) hg ho
    rw [h1] at h1'
    cases h1'
    refine ⟨a, _, _, rfl, rfl, h2', ?_, ?_⟩
    · rw [List.length_map]; exact Nat.lt_of_le_of_lt hz (by decide)
    · have e : xs.map V.int ++ [.int i] = (xs ++ [i]).map V.int := by simp
      show E.nx σ (upd H1 a (.lst (xs.map V.int ++ [.int i])))
      rw [e]
      exact q _ σ _ ⟨i, hi, rfl⟩ f'
/-- xs[i] = e -/
theorem ns_lset {x y : Str} {xs : List Int} {i : Nat} {v : Int} {p1 p2 p3 : Pos} (hg : G[T.m]? = some (some (.lst (xs.map D.int)))) (ho : ∀ j zs, j ≠ T.m → G[j]? ≠ some (some (.lst zs))) (hil : i < xs.length) (h : PD X G e (.int v)) (h2 : PD X G (.Name y p2) (.int (i : Int)))
    (hN : X.N[T.m]? = some x := by rfl) (hv : Vis X.env.scope x := by first | exact Or.inl rfl | exact Or.inr (Or.inl rfl) | exact Or.inr (Or.inr rfl)) (hd : (x == ("__debug__" : Str)) = false := by decide) (hcd : (x == ("__classdict__" : Str)) = false := by decide)
    (ha : ∀ v, assign (.Subscript (.Name x p1) (.Name y p2) p3) X.env v = (do
      let ov ← holding [v] (eval (.Name x p1) X.env)
      let iv ← holding [v, ov] (eval (.Name y p2) X.env)
      standAt p3
      holding [v, ov, iv] (setItem ov iv v)
      release [v, ov, iv] []) := by intro _; rfl)
    (hs : swapsWithSole [.Subscript (.Name x p1) (.Name y p2) p3] e pos.line X.env = pure false := by rfl) (hw : swappedStores [.Subscript (.Name x p1) (.Name y p2) p3] e X.env = pure none := by rfl)
    (h1s : (assignEach [.Subscript (.Name x p1) (.Name y p2) p3] X.env).map (·.2) = [assign (.Subscript (.Name x p1) (.Name y p2) p3) X.env] := by rfl) :
    NS X T G (.Assign [.Subscript (.Name x p1) (.Name y p2) p3] e pos) (fun G' => G' = G.set T.m (some (.lst ((xs.set i v).map D.int)))) Φ :=
  (ps_asg h (pg_sub (pv T.m hN hv hd hcd) h2 set_list ha) hs hw h1s).wk fun E σ H ⟨f, q, _⟩ => ⟨f.fr, fun u H1 e1 i1 => by
    have hv := isS_int.mp i1
    subst hv
    have f1 := f.same e1
    obtain ⟨a, h1, _, _⟩ := f1.chg (ys := xs) hg ho
    refine ⟨_, h1, f1.fr, fun u2 H2 e2 i2 => ?_⟩
    have hv := isS_int.mp i2
    subst hv
    obtain ⟨a', h1', h2', f'⟩ := (f1.same e2).chg (ys := xs.set i v) hg ho
    rw [h1] at h1'
    cases h1'
    refine ⟨a, _, i, i, rfl, rfl, h2', ?_, ?_⟩
    · unfold ixN
      rw [if_pos (by omega), if_pos (by rw [List.length_map]; omega)]; simp
    · have e : (xs.map V.int).set i (.int v) = (xs.set i v).map V.int := (List.map_set ..).symm
      show E.nx σ (upd H2 a (.lst ((xs.map V.int).set i (.int v))))
      rw [e]
      exact q _ σ _ rfl f'⟩
theorem ns_setLcT {scope : Scope} {y z : Str} {i j : Nat} {ifs : List Expr} {elt iter : Expr} {α : Type} {xs : List α} {en : α → D} {f : α → Option D} {py pz spos : Pos} (h : LcOk X G scope y j ifs elt xs en f) (hi : PD X G iter (.tup (xs.map en))) (ok : okS (.lst (xs.filterMap f)))
    (hg : ∀ (s : Shared) (H : Hp) (C : Addr) (cl : List (Str × Addr)) (fp : List Addr), PG (X.blk s H scope (compEnvC scope cl C X.env) fp) (.Name y py) (gName j))
    (hsw : swapsWith (.ListComp elt [⟨.Name y py, iter, ifs, 0⟩] scope pos) (some (.Name z pz)) spos.line X.env = pure true)
    (hjt : i ≠ T.i := by exact Nat.ne_of_beq_eq_false rfl) (hjm : i ≠ T.m := by exact Nat.ne_of_beq_eq_false rfl)
    (hz : X.N[i]? = some z := by rfl) (hzl : X.env.scope.names.lookup z = some .local := by rfl) (hs : ∀ x, foldedSetIterable iter X.env x = pure x := by intro _; rfl) :
    NS X T G (.Assign [.Name z pz] (.ListComp elt [⟨.Name y py, iter, ifs, 0⟩] scope pos) spos) (fun G' => G' = G.set i (some (.lst (xs.filterMap f)))) Φ :=
  (ps_setLc (i := i) (own := [(y, j)]) (g := gName j) h.cm h.nd hz hzl hsw (pi_tup hi) h.ok hg h.t' h.e' hs).wk fun E σ H ⟨f1, q, _⟩ => lc_tupR h.sz σ H _ ⟨f1.fr, fun v H1 e1 i1 => q _ _ H1 rfl ((f1.same e1).set i1 ok hjt hjm)⟩
/-- for k in range(n), n drawn -/
theorem ns_forR {i : Nat} {x : Str} {I : Nat → Gm → Prop} {M : Nat} {R : Nat → Prop} {pr pc : Pos} (hp : PassesOwn (model X.prog X.w) X.A X.env X.xe) (hc : X.calm = true) (hN : X.N.Nodup) (hm : X.mg "range" = none) (h : ND X T G e (iN fun v => ∃ n : Nat, v = (n : Int) ∧ R n)) (hM : ∀ n, R n → n ≤ M) (hM2 : M ≤ 1000000)
    (h0 : I 0 G) (hb : ∀ k G, k < M → I k G → NB X T (G.set i (some (.d (.int (k : Int))))) body (fun G' => ∃ G2, GLe G2 G' ∧ I (k + 1) G2) Φ)
    (hjt : i ≠ T.i := by exact Nat.ne_of_beq_eq_false rfl) (hjm : i ≠ T.m := by exact Nat.ne_of_beq_eq_false rfl) (hg : Gl X "range" := by rfl) (hi : X.N[i]? = some x := by rfl) (hx : Loc X.env.scope x := by first | exact Or.inl rfl | exact Or.inr rfl)
    (hf : X.fn x = true ∨ X.env.scope.names.lookup x = some .local := by first | exact .inl rfl | exact .inr rfl) (hse : starEach [e] X.env = [(false, eval e X.env)] := by rfl)
    (hs : ∀ y, foldedSetIterable (.Call (.Name "range" pr) [e] [] pc) X.env y = pure y := by intro _; rfl) : NS X T G (.For (.Name x p) (.Call (.Name "range" pr) [e] [] pc) body [] pos) (fun G' => ∃ n, R n ∧ I n G') Φ := by
  refine (ps_for hp hc (pi_range1 hg hm (pa_cons h pa_nil hse) hse) (pg_name (i := i) hN hi hx hf) (tb := fun E σ H => ∃ k G1, k < M ∧ I k G1 ∧ tNS X.K T (G1.set i (some (.d (.int (k : Int))))) (fun G' => ∃ G2, GLe G2 G' ∧ I (k + 1) G2) Φ E σ H) ⟨fun pins s σ H E J ⟨k, G1, hk, hI, q⟩ => (hb k G1 hk hI).run pins s σ H E J q⟩ hs).wk fun E σ H q => ?_
  obtain ⟨f, q, r⟩ := q
  refine ⟨f, fun s v H1 ⟨j, e0, n, hj, hR⟩ ok e1 t1 i1 => ?_⟩
  subst e0 hj
  have hv := isS_int.mp i1
  subst hv
  have hn := hM n hR
  refine ⟨(n : Int), rfl, by omega, by omega, for_range (lo := 0) (n := n) (g := gName i) (tb := fun E σ H => ∃ k G1, k < M ∧ I k G1 ∧ tNS X.K T (G1.set i (some (.d (.int (k : Int))))) (fun G' => ∃ G2, GLe G2 G' ∧ I (k + 1) G2) Φ E σ H) (D := E) (fun k σ' H' => ∃ G', FT X.K T H' G' σ' ∧ I k G') ⟨G, f.mono e1 t1, h0⟩ ?_ ?_⟩
  · rintro k σ' H' hk ⟨G', f2, hI⟩
    refine ⟨k, G', by omega, hI, ?_, fun G3 σ3 H3 ⟨G4, hl, hI4⟩ f3 => ⟨G4, f3.le hl, hI4⟩, r⟩
    exact f2.set (s := .d (.int (k : Int))) (isS_int.mpr (by rw [Int.zero_add])) okS_d hjt hjm
  · rintro σ' H' ⟨G', f2, hI⟩
    exact q G' σ' H' ⟨n, hR, hI⟩ f2
end

/-! ### calls -/
def spN (K : PySem.W.Frag) (A : List S → (S → Prop) → Prop) : Sp := fun vs H Q _ => ∃ (t b : Addr) (ns : List Int) (ss : List S) (us : List V) (Φ : S → Prop), A ss Φ ∧ vs = .ref t :: us ∧ TapeAt H t b ns ∧ us.length = ss.length ∧
  (∀ (i : Nat) s, ss[i]? = some s → okS s ∧ ∃ v, us[i]? = some v ∧ IsS K H s v) ∧ ∀ s v H', Φ s → okS s → KeepT t H H' → TapeAt H' t b ns → IsS K H' s v → Q v H'
structure NDfn (P : Program) (w : World) (K : PySem.W.Frag) (mg : Str → Option Value) (base : Heap) (k : Nat) (x : Str) (ps : List Str) (A : List S → (S → Prop) → Prop) : Prop where
  ex : ∃ f fd, FnOk P w K mg base CX0 k f fd ps (spN K A) ∧ mg x = some (.ref f) ∧ PySem.W.keepIn K (.ref f) = true ∧ Binds K fd ps []
section
variable {X : Cx} {T : Tk} {G : Gm} {a b c e : Expr} {es : List Expr} {pos p : Pos} {Φ : S → Prop}
theorem nd_call {A : List S → (S → Prop) → Prop} {k : Nat} {x y : Str} {ps : List Str} {B : List S → Prop} {p1 : Pos} (F : NDfn X.prog X.w X.K X.mg X.base k x ps A) (hr : Room k X.A) (ha : NA X T G es B) (hA : ∀ ss, B ss → A ss Φ) (hg : Gl X x := by rfl) (hdb : (x == ("__debug__" : Str)) = false := by decide)
    (hN : X.N[T.i]? = some y := by rfl) (hv : Vis X.env.scope y := by first | exact Or.inl rfl | exact Or.inr (Or.inl rfl) | exact Or.inr (Or.inr rfl)) (hd : (y == ("__debug__" : Str)) = false := by decide) (hcd : (y == ("__classdict__" : Str)) = false := by decide)
    (he : starEach (.Name y p1 :: es) X.env = (false, eval (.Name y p1) X.env) :: starEach es X.env := by rfl) (hpl : (backTo pos (starEach es X.env)).any (·.1) = false := by rfl) : ND X T G (.Call (.Name x p) (.Name y p1 :: es) [] pos) Φ := by
  obtain ⟨f, fd, F, hm, hk, hb⟩ := F.ex
  exact (pe_call F hr hg hm hk hb .nil pass0 (pa_cons (pv T.i hN hv hd hcd) ha he) hdb he hpl).wk fun σ H Q ⟨g, q⟩ => ⟨_, g.sl, g, fun ss vs H1 hB ok e1 t1 l1 i1 => ⟨T.t, T.b, T.ns, ss, vs, Φ, hA ss hB, by simp, t1, l1, fun i s hs => ⟨ok i s hs, i1 i s hs⟩, fun s v H2 hs oks e2 t2 i2 => q s v H2 hs oks (e1.trans e2) t2 i2⟩⟩
/-- a def over data, called with what was drawn -/
theorem nd_callD {A : List S → S → Prop} {k : Nat} {x : Str} {ps : List Str} {B : List S → Prop} (F : Dfn X.prog X.w X.K X.mg X.base k x ps A) (hr : Room k X.A) (ha : NA X T G (e :: es) B) (hA : ∀ ss, B ss → ∃ s, A ss s ∧ okS s ∧ Φ s) (hg : Gl X x := by rfl) (hdb : (x == ("__debug__" : Str)) = false := by decide)
    (he : starEach (e :: es) X.env = (false, eval e X.env) :: starEach es X.env := by rfl) (hpl : (backTo pos (starEach es X.env)).any (·.1) = false := by rfl) : ND X T G (.Call (.Name x p) (e :: es) [] pos) Φ := by
  obtain ⟨f, fd, F, hm, hk, hb⟩ := F.ex
  exact (pe_call F hr hg hm hk hb .nil pass0 ha hdb he hpl).wk fun σ H Q ⟨g, q⟩ => ⟨g, fun ss vs H1 hB ok e1 t1 l1 i1 => by
    obtain ⟨s, hs, oks, hP⟩ := hA ss hB
    exact ⟨ss, s, hs, by simpa using l1, fun i t ht => by rw [List.append_nil]; exact i1 i t ht, fun v H2 e2 i2 => q s v H2 hP oks (e1.trans (.of e2)) (t1.same e2) i2⟩⟩
theorem NDfn.of {P : Program} {w : World} {K : PySem.W.Frag} {mg : Str → Option Value} {base : Heap} {x qual y : Str} {st : Stmt} {f : Addr} {fd : FuncData} {N ps : List Str} {k : Nat} (m : Nat) {A : List S → (S → Prop) → Prop} (F : Fun K x qual st f fd) (hm : mg x = some (.ref f)) (Sc : FnScope (y :: N) (y :: ps) (defScope st))
    (len : ∀ ss Φ, A ss Φ → ss.length = ps.length) (hb : Binds K fd (y :: ps) []) (hmm : ps.length < m)
    (hbody : ∀ (cdv : Value) (Ar : Around) (outer : List Env) (sh : Shared) (H : Hp) (E : XK) (t b : Addr) (ns : List Int) (ss : List S) (Φ : S → Prop), Room k (Ar.deeper (envOfC qual (defScope st) sh.heap.objs.size f cdv)) → A ss Φ →
      NB (cxOf CX0 P w K mg base (y :: N) qual (defScope st) f cdv Ar outer sh H E).nox ⟨t, b, ns, 0, m, H⟩ (none :: ini N ss) (defBody st) (fun _ => False) Φ) : NDfn P w K mg base (k + 1) x (y :: ps) A := by
  refine ⟨f, fd, F.ok Sc (fun vs H Q E ⟨_, _, _, ss, us, Φ, hA, e, _, hl, _⟩ => by subst e; rw [List.length_cons, hl, len ss Φ hA]; rfl) (fun cdv Ar outer sh H vs Q E hr ⟨t, b, ns, ss, us, Φ, hA, e, tp, hl, hv, q⟩ => ?_), hm, F.kp, hb⟩
  subst e
  have hst : L2.start (y :: N) (.ref t :: us) = some (.ref t) :: L2.start N us := by
    unfold L2.start
    simp
  have hfr : Fr K H (ini N ss) (L2.start N us) := by rw [ini_eq]; exact Fr.start hl.symm fun i s h => (hv i s h).2
  refine ⟨_, hbody cdv Ar outer sh H E t b ns ss Φ hr hA, ⟨?_, tp, ?_, ?_, .refl _ _, tp, ?_⟩, fun _ _ _ h => h.elim, fun s v H' hs ok e t i => q s v H' hs ok e t i⟩
  · rw [hst]
    refine ⟨by simp [hfr.1], fun i s h => ?_⟩
    cases i with
    | zero => simp at h
    | succ i => exact hfr.2 i s (by simpa using h)
  · rw [hst]; rfl
  · intro j s h
    cases j with
    | zero => simp at h
    | succ j =>
      rw [List.getElem?_cons_succ, ini_eq] at h
      by_cases hj : j < ss.length
      · rw [List.getElem?_append_left (by simpa using hj), List.getElem?_map] at h
        cases q : ss[j]? with
        | none => rw [q] at h; cases h
        | some z => rw [q] at h; cases h; exact (hv j s q).1
      · rw [List.getElem?_append_right (by simpa using hj), List.getElem?_replicate] at h
        split at h <;> cases h
  · intro a h
    rw [hst] at h
    have h0 : us.length = ps.length := by rw [hl, len ss Φ hA]
    cases m with
    | zero => omega
    | succ m =>
      rw [List.getElem?_cons_succ] at h
      unfold L2.start at h
      rw [List.getElem?_append_right (by simp; omega), List.getElem?_replicate] at h
      split at h <;> cases h
end
end Dat
end
section
/-! tuple * 1 is the tuple itself. -/
namespace L2
open PySem PySem.Spec PyProof.Rows
theorem lit_mul1 (l : Addr) (items : Array Value) (n : Nat) (dd : Option Addr) (sl : Array (Option Value)) (u : Tok) :
    Meets (Builtin.«tuple.__mul__» ⟨[.ref l, .int 1 u], []⟩) (fun _ R s => s.heap.get? l = some { cls := .type "tuple", dict := dd, data := .seq items n, slots := sl } ∧
      R (.ok (.ret (Value.ref l))) s) :=
  .of_wp fun prog w A R s h => by
    obtain ⟨hp, g, d, tk, os⟩ := s
    obtain ⟨hl, h⟩ := h
    have f1 := AutoSeq1.idx_int
    wp_walk using wpAny_loadPart' hl
    exact ⟨_, rfl, h⟩
def litRep1 (K : PySem.W.Frag) : R2 := fun x y H Q => ∃ l xs, x = .ref l ∧ y = .int 1 ∧ SqT K H l xs ∧ Q (.ref l) H
theorem lit_rep1 {X : Cx} : OpR X (binaryOp .Mult) (litRep1 X.K) := by
  intro pins s σ H x y v u Q I rx ry h
  obtain ⟨l, xs, rfl, rfl, hT, q⟩ := h
  cases rx
  obtain ⟨t, rfl⟩ := ry
  obtain ⟨its, r, ⟨⟨cls, dd, data, sl⟩, ho, hc, n, hd⟩, hs⟩ := I.tuple hT
  simp only at hc hd
  subst hc hd
  refine wpAny_binaryOp_repeat_ref (T := "tuple") (U := "int") (by decide) ⟨_, ho, rfl⟩ (fun s' => typeIs_int s' 1 t) noFill_tuple_mul F.fills_int_mul F.slot_int_rmul repeat_tuple F.slot_int_index.lookup
    (call_meets F.slot_int_rmul (typeIs_int s 1 t) F.entry_int_rmul (F.args_int_rmul_2 _ _) (int_rmul_tuple 1 t l its.toArray n dd sl)
      ⟨ho, rfl, ⟨_, ho, rfl⟩, call_meets F.slot_tuple_mul ⟨_, ho, rfl⟩ F.entry_tuple_mul (F.args_tuple_mul_2 _ _) (lit_mul1 l its.toArray n dd sl t) ⟨ho, ?_⟩⟩)
  exact ⟨.ref l, H, I, rfl, q⟩
end L2
namespace Dat
open PySem PySem.Spec PyProof.Rows L2
variable {X : Cx} {G : Gm} {a b : Expr} {pos : Pos}
theorem isL_rep {K : PySem.W.Frag} {H : Hp} {xs : List D} {vs : List V} (h : IsL K H xs vs) : ∀ n : Nat, IsL K H (List.replicate n xs).flatten (List.replicate n vs).flatten
  | 0 => isL_nil.mpr rfl
  | n + 1 => by rw [List.replicate_succ, List.replicate_succ, List.flatten_cons, List.flatten_cons]; exact h.app (isL_rep h n)
/-- t * n -/
theorem pd_rep {xs : List D} {n : Nat} (ha : PD X G a (.tup xs)) (hb : PD X G b (.int (n : Int))) (hx : xs ≠ []) (h1 : 1 ≤ n) (h2 : n ≤ 1000) (h3 : xs.length ≤ 1000) : PD X G (.BinOp a .Mult b pos) (.tup (List.replicate n xs).flatten) := by
  by_cases h : n = 1
  · subst h
    exact pd_op2 (pe_op lit_rep1 ha hb) fun v w H Q i1 i2 q => by
      obtain ⟨p, vs, rfl, p1, p2⟩ := isS_tup.mp i1
      exact ⟨p, vs, rfl, isS_int.mp i2, p1, q _ H (Same.refl H) (isS_tup.mpr ⟨p, vs, rfl, p1, by simpa using p2⟩)⟩
  · exact pd_op2 (pe_op op_repT ha hb) fun v w H Q i1 i2 q => by
      obtain ⟨p, vs, rfl, p1, p2⟩ := isS_tup.mp i1
      have hl := p2.len
      refine ⟨p, (n : Int), vs, rfl, isS_int.mp i2, p1, fun e => hx (by subst e; exact List.eq_nil_of_length_eq_zero hl.symm), by omega, by omega, by omega, fun r hr => q _ _ (same_new hr) (isS_tup.mpr ⟨r, _, rfl, .of upd_same, ?_⟩)⟩
      rw [Int.toNat_natCast]
      exact (isL_rep p2 n).mono (Tp.new hr)
end Dat
end
section
/-! The memory system, in plain Lean: one line of it, its invariant, and each step upon it. -/
namespace Proto

inductive Ls where | sh | ex | mo
  deriving DecidableEq

abbrev Words := List Int

inductive Sv where
  | inv (c : Nat) | invd (c : Nat) | recall (c : Nat) (keep : Bool)
  | grant (c : Nat) (st : Ls) (ws : Words) | ret (c : Nat) (ws : Words) (d : Bool) | rcv (c : Nat)
  deriving DecidableEq
inductive Lv where | give (ws : Words) (d : Bool) | conf
  deriving DecidableEq

structure Serv where
  core : Nat
  ex : Bool
  aw : List Nat
  recalled : Bool
  words : Option Words
  granted : Bool
structure Home where
  owner : Option Nat
  sharers : List Nat
  serving : Option Serv

/-- one line of the system -/
structure LS where
  P : Nat → Option (Ls × Words)
  R : Nat → Bool
  L : Nat → Option (Option Words × Bool)
  h : Home
  mem : Words
  svc : List Sv
  nreq : Nat → Nat
  lv : Nat → List Lv

def up {α : Type} (f : Nat → α) (c : Nat) (x : α) : Nat → α := fun y => if y = c then x else f y
theorem up_same {α : Type} (f : Nat → α) (c : Nat) (x : α) : up f c x c = x := by simp [up]
theorem up_ne {α : Type} (f : Nat → α) {c y : Nat} (x : α) (h : y ≠ c) : up f c x y = f y := by simp [up, h]

/-! ### the home -/
def begunH (h : Home) (mem : Words) (c : Nat) (ex : Bool) : Home × List Sv :=
  match h.owner with
  | some o => ({ h with serving := some ⟨c, ex, [], true, none, false⟩ }, [.recall o (!ex)])
  | none =>
    let aw := if ex then h.sharers.filter (fun x => x != c) else []
    ({ h with serving := some ⟨c, ex, aw, false, some mem, false⟩ }, aw.map .inv)
def invalidatedH (h : Home) (a : Nat) : Home :=
  { h with sharers := h.sharers.filter (fun x => x != a), serving := h.serving.map fun s => { s with aw := s.aw.filter (fun x => x != a) } }
def returnedH (h : Home) (o : Nat) (ws : Words) : Home :=
  match h.serving with
  | some s => { owner := none, sharers := if s.ex then [] else [o], serving := some { s with recalled := false, words := some ws } }
  | none => h
def grantH (excl : Bool) (h : Home) : Home × List Sv :=
  match h.serving with
  | none => (h, [])
  | some s =>
    if s.granted || !s.aw.isEmpty || s.recalled then (h, []) else
    match s.words with
    | none => (h, [])
    | some ws =>
      if s.ex then ({ owner := some s.core, sharers := [], serving := some { s with granted := true } }, [.grant s.core .mo ws])
      else if excl && h.sharers.isEmpty then ({ owner := some s.core, sharers := h.sharers, serving := some { s with granted := true } }, [.grant s.core .ex ws])
      else if s.core ∈ h.sharers then ({ h with serving := some { s with granted := true } }, [.grant s.core .sh ws])
      else ({ owner := h.owner, sharers := h.sharers ++ [s.core], serving := some { s with granted := true } }, [.grant s.core .sh ws])

/-! ### the invariant of a line -/
def pend (h : Home) (c : Nat) : Nat := match h.serving with
  | some s => if s.core = c ∧ s.granted = false then 1 else 0
  | none => 0
def Sv.isGr (c : Nat) : Sv → Bool
  | .grant d _ _ => d == c
  | _ => false
def ngr (svc : List Sv) (c : Nat) : Nat := svc.countP (Sv.isGr c)
def Sv.core : Sv → Nat
  | .inv c | .invd c | .recall c _ | .grant c _ _ | .ret c _ _ | .rcv c => c
def nco (svc : List Sv) (c : Nat) : Nat := svc.countP (fun m => m.core == c)

def Own (v : LS) (W : Words) (o : Nat) : Prop :=
  (∃ st, v.P o = some (st, W) ∧ st ≠ .sh ∧ (st = .ex → v.mem = W)) ∨
  (v.P o = none ∧ ∃ d, v.L o = some (some W, d) ∧ (d = false → v.mem = W) ∧ ∀ m, m ∈ v.lv o → m = Lv.give W d)
def SharedSt (v : LS) (W : Words) : Prop :=
  v.h.owner = none ∧ v.mem = W ∧ ∀ x, v.P x = none ∨ (v.P x = some (.sh, W) ∧ x ∈ v.h.sharers)
def Owned (v : LS) (W : Words) : Prop := ∃ o, v.h.owner = some o ∧ v.h.sharers = [] ∧ Own v W o ∧ ∀ x, x ≠ o → v.P x = none
def Stable (v : LS) (W : Words) : Prop := SharedSt v W ∨ Owned v W

inductive Phase (v : LS) (W : Words) : Prop where
  | idle (h1 : v.h.serving = none) (h2 : v.svc = []) (h3 : Stable v W)
  | done (c : Nat) (ex : Bool) (ws : Words) (h1 : v.h.serving = some ⟨c, ex, [], false, some ws, true⟩) (h2 : v.svc = [.rcv c]) (h3 : Stable v W)
  | recall (c : Nat) (ex : Bool) (o : Nat) (h1 : v.h.serving = some ⟨c, ex, [], true, none, false⟩) (h2 : v.svc = [.recall o (!ex)])
      (h3 : v.h.owner = some o) (h4 : v.h.sharers = []) (h5 : o ≠ c) (h6 : Own v W o) (h7 : ∀ x, x ≠ o → v.P x = none)
  | ret (c : Nat) (ex : Bool) (o : Nat) (d : Bool) (h1 : v.h.serving = some ⟨c, ex, [], true, none, false⟩) (h2 : v.svc = [.ret o W d])
      (h3 : v.h.owner = some o) (h4 : v.h.sharers = []) (h5 : o ≠ c) (h6 : d = false → v.mem = W) (h7 : ∀ x, x ≠ o → v.P x = none)
      (h8 : v.P o = none ∨ (v.P o = some (.sh, W) ∧ ex = false)) (h9 : v.L o = none ∨ ∃ e, v.L o = some (none, e))
  | await (c : Nat) (aw : List Nat) (h1 : v.h.serving = some ⟨c, true, aw, false, some W, false⟩) (h2 : v.h.owner = none) (h3 : v.mem = W) (h4 : aw ≠ [])
      (h5 : ∀ m ∈ v.svc, ∃ x, m = .inv x ∨ m = .invd x) (h6 : ∀ x, nco v.svc x = if x ∈ aw then 1 else 0)
      (h7 : ∀ x, x ∈ v.h.sharers → x = c ∨ x ∈ aw) (h8 : ∀ x, v.P x = none ∨ (v.P x = some (.sh, W) ∧ x ∈ v.h.sharers ∧ (x = c ∨ Sv.inv x ∈ v.svc)))
      (h9 : c ∉ aw)
  | grantM (c : Nat) (ex : Bool) (st : Ls) (h1 : v.h.serving = some ⟨c, ex, [], false, some W, true⟩) (h2 : v.svc = [.grant c st W]) (h3 : st ≠ .sh)
      (h4 : v.h.owner = some c) (h5 : v.h.sharers = []) (h6 : v.mem = W) (h7 : ∀ x, x ≠ c → v.P x = none) (h8 : v.P c = none ∨ v.P c = some (.sh, W))
  | grantS (c : Nat) (ex : Bool) (h1 : v.h.serving = some ⟨c, ex, [], false, some W, true⟩) (h2 : v.svc = [.grant c .sh W]) (h3 : SharedSt v W) (h4 : c ∈ v.h.sharers)

structure LInv (v : LS) (W : Words) : Prop where
  a : ∀ c, v.nreq c + pend v.h c + ngr v.svc c ≤ (if v.R c = true then 1 else 0)
  b : ∀ c, (v.lv c).length ≤ (if (v.L c).isSome = true then 1 else 0)
  c1 : ∀ c, (v.L c).isSome = true → v.R c = false ∧ v.P c = none
  c2 : ∀ c st ws, v.P c = some (st, ws) → st ≠ .sh → v.R c = false
  nd : v.h.sharers.Nodup
  ph : Phase v W

/-! ### what the invariant says of the words -/
/-- every copy that is present bears the coherent words -/
theorem LInv.copy {v : LS} {W : Words} (I : LInv v W) {c : Nat} {st : Ls} {ws : Words} (h : v.P c = some (st, ws)) : ws = W := by
  have own : ∀ o, Own v W o → v.P o = some (st, ws) → ws = W := by
    intro o ho hp
    rcases ho with ⟨st', e, _⟩ | ⟨e, _⟩
    · rw [hp] at e; simp at e; exact e.2
    · rw [hp] at e; simp at e
  have shr : SharedSt v W → ws = W := by
    intro hs
    rcases hs.2.2 c with e | ⟨e, _⟩ <;> rw [h] at e <;> simp at e
    exact e.2
  have oth : ∀ o, (∀ x, x ≠ o → v.P x = none) → c = o := by
    intro o ho
    by_cases e : c = o
    · exact e
    · have := ho c e; rw [h] at this; simp at this
  have stb : Stable v W → ws = W := by
    intro hs
    rcases hs with hs | ⟨o, _, _, ho, hx⟩
    · exact shr hs
    · have := oth o hx; subst this; exact own _ ho h
  cases I.ph with
  | idle _ _ h3 => exact stb h3
  | done _ _ _ _ _ h3 => exact stb h3
  | recall c' ex o h1 h2 h3 h4 h5 h6 h7 => have := oth o h7; subst this; exact own _ h6 h
  | ret c' ex o d h1 h2 h3 h4 h5 h6 h7 h8 h9 =>
    have := oth o h7; subst this
    rcases h8 with e | ⟨e, _⟩ <;> rw [h] at e <;> simp at e
    exact e.2
  | await c' aw h1 h2 h3 h4 h5 h6 h7 h8 h9 =>
    rcases h8 c with e | ⟨e, _⟩ <;> rw [h] at e <;> simp at e
    exact e.2
  | grantM c' ex st' h1 h2 h3 h4 h5 h6 h7 h8 =>
    have := oth c' h7; subst this
    rcases h8 with e | e <;> rw [h] at e <;> simp at e
    exact e.2
  | grantS c' ex h1 h2 h3 h4 => exact shr h3

/-- where the coherent words are found, if there is an owner and he has no copy and no words that leave -/
theorem LInv.carried {v : LS} {W : Words} (I : LInv v W) {o : Nat} (ho : v.h.owner = some o) (hp : v.P o = none) (hl : ∀ ws d, v.L o ≠ some (some ws, d)) :
    (∃ st, v.svc = [.grant o st W]) ∨ (∃ d, v.svc = [.ret o W d]) := by
  have own : ¬ Own v W o := by
    rintro (⟨st, e, _⟩ | ⟨_, d, e, _⟩)
    · rw [hp] at e; simp at e
    · exact hl _ _ e
  have stb : ¬ Stable v W := by
    rintro (hs | ⟨o', e, _, h, _⟩)
    · have := hs.1; rw [ho] at this; simp at this
    · rw [ho] at e; simp at e; subst e; exact own h
  cases I.ph with
  | idle _ _ h3 => exact absurd h3 stb
  | done _ _ _ _ _ h3 => exact absurd h3 stb
  | recall c' ex o' h1 h2 h3 h4 h5 h6 h7 => rw [ho] at h3; simp at h3; subst h3; exact absurd h6 own
  | ret c' ex o' d h1 h2 h3 h4 h5 h6 h7 h8 h9 => rw [ho] at h3; simp at h3; subst h3; exact .inr ⟨d, h2⟩
  | await c' aw h1 h2 h3 h4 h5 h6 h7 h8 h9 => rw [ho] at h2; simp at h2
  | grantM c' ex st' h1 h2 h3 h4 h5 h6 h7 h8 => rw [ho] at h4; simp at h4; subst h4; exact .inl ⟨_, h2⟩
  | grantS c' ex h1 h2 h3 h4 => have := h3.1; rw [ho] at this; simp at this
/-- the words that leave the owner's cache -/
theorem LInv.left {v : LS} {W : Words} (I : LInv v W) {o : Nat} {ws : Words} {d : Bool} (ho : v.h.owner = some o) (hl : v.L o = some (some ws, d)) : ws = W := by
  have hc := I.c1 o (by rw [hl]; rfl)
  have own : Own v W o → ws = W := by
    rintro (⟨st, e, _⟩ | ⟨_, d', e, _⟩)
    · rw [hc.2] at e; simp at e
    · rw [hl] at e; simp at e; exact e.1
  have stb : Stable v W → ws = W := by
    rintro (hs | ⟨o', e, _, h, _⟩)
    · have := hs.1; rw [ho] at this; simp at this
    · rw [ho] at e; simp at e; subst e; exact own h
  cases I.ph with
  | idle _ _ h3 => exact stb h3
  | done _ _ _ _ _ h3 => exact stb h3
  | recall c' ex o' h1 h2 h3 h4 h5 h6 h7 => rw [ho] at h3; simp at h3; subst h3; exact own h6
  | ret c' ex o' d h1 h2 h3 h4 h5 h6 h7 h8 h9 =>
    rw [ho] at h3; simp at h3; subst h3
    rcases h9 with e | ⟨_, e⟩ <;> rw [hl] at e <;> simp at e
  | await c' aw h1 h2 h3 h4 h5 h6 h7 h8 h9 => rw [ho] at h2; simp at h2
  | grantM c' ex st' h1 h2 h3 h4 h5 h6 h7 h8 =>
    rw [ho] at h4; simp at h4; subst h4
    have ha := I.a o
    have : ngr v.svc o = 1 := by rw [h2]; simp [ngr, Sv.isGr]
    rw [this, hc.1] at ha; simp at ha
  | grantS c' ex h1 h2 h3 h4 => have := h3.1; rw [ho] at this; simp at this
theorem LInv.noOwner {v : LS} {W : Words} (I : LInv v W) (ho : v.h.owner = none) : v.mem = W := by
  have stb : Stable v W → v.mem = W := by
    rintro (hs | ⟨o', e, _, h, _⟩)
    · exact hs.2.1
    · rw [ho] at e; simp at e
  cases I.ph with
  | idle _ _ h3 => exact stb h3
  | done _ _ _ _ _ h3 => exact stb h3
  | recall c' ex o' h1 h2 h3 h4 h5 h6 h7 => rw [ho] at h3; simp at h3
  | ret c' ex o' d h1 h2 h3 h4 h5 h6 h7 h8 h9 => rw [ho] at h3; simp at h3
  | await c' aw h1 h2 h3 h4 h5 h6 h7 h8 h9 => exact h3
  | grantM c' ex st' h1 h2 h3 h4 h5 h6 h7 h8 => exact h6
  | grantS c' ex h1 h2 h3 h4 => exact h3.2.1

/-! ### each step keeps it -/
theorem sing {α : Type} {A B : List α} {x y : α} (h : A ++ x :: B = [y]) : A = [] ∧ B = [] ∧ x = y := by
  cases A with
  | nil => simp at h; exact ⟨rfl, h.2, h.1⟩
  | cons a A => simp at h
theorem nosing {α : Type} {A B : List α} {x : α} (h : A ++ x :: B = []) : False := by simp at h

def LS.ini (W : Words) : LS := ⟨fun _ => none, fun _ => false, fun _ => none, ⟨none, [], none⟩, W, [], fun _ => 0, fun _ => []⟩
theorem ini_ok (W : Words) : LInv (LS.ini W) W := by
  refine ⟨fun c => by simp [LS.ini, pend, ngr], fun c => by simp [LS.ini], fun c h => by simp [LS.ini] at h, fun c st ws h => by simp [LS.ini] at h, by simp [LS.ini], ?_⟩
  exact .idle rfl rfl (.inl ⟨rfl, rfl, fun x => .inl rfl⟩)

/-- the phase looks at P, L, the home, memory, the messages of a service, and what leaves from a cache -/
theorem Own.of {v v' : LS} {W : Words} {o : Nat} (h : Own v W o) (hP : v'.P o = v.P o) (hL : v'.L o = v.L o) (hm : v'.mem = v.mem) (hl : ∀ m, m ∈ v'.lv o → m ∈ v.lv o) : Own v' W o := by
  rcases h with ⟨st, e, n, m⟩ | ⟨e, d, l, m, g⟩
  · exact .inl ⟨st, by rw [hP]; exact e, n, by rw [hm]; exact m⟩
  · exact .inr ⟨by rw [hP]; exact e, d, by rw [hL]; exact l, by rw [hm]; exact m, fun x he => g x (hl _ he)⟩
theorem Stable.of {v v' : LS} {W : Words} (h : Stable v W) (hP : ∀ x, v'.P x = v.P x) (hL : ∀ x, v'.L x = v.L x) (hh : v'.h.owner = v.h.owner) (hs : v'.h.sharers = v.h.sharers) (hm : v'.mem = v.mem) (hl : ∀ x m, m ∈ v'.lv x → m ∈ v.lv x) : Stable v' W := by
  rcases h with ⟨a, b, c⟩ | ⟨o, a, b, c, d⟩
  · exact .inl ⟨by rw [hh]; exact a, by rw [hm]; exact b, fun x => by rw [hP, hs]; exact c x⟩
  · exact .inr ⟨o, by rw [hh]; exact a, by rw [hs]; exact b, c.of (hP o) (hL o) hm (hl o), fun x hx => by rw [hP]; exact d x hx⟩
theorem Phase.of {v v' : LS} {W : Words} (h : Phase v W) (hP : ∀ x, v'.P x = v.P x) (hL : ∀ x, v'.L x = v.L x) (hh : v'.h = v.h) (hm : v'.mem = v.mem) (hs : v'.svc = v.svc) (hl : ∀ x m, m ∈ v'.lv x → m ∈ v.lv x) : Phase v' W := by
  have st : Stable v W → Stable v' W := fun h => h.of hP hL (by rw [hh]) (by rw [hh]) hm hl
  cases h with
  | idle h1 h2 h3 => exact .idle (by rw [hh]; exact h1) (by rw [hs]; exact h2) (st h3)
  | done c ex ws h1 h2 h3 => exact .done c ex ws (by rw [hh]; exact h1) (by rw [hs]; exact h2) (st h3)
  | recall c ex o h1 h2 h3 h4 h5 h6 h7 => exact .recall c ex o (by rw [hh]; exact h1) (by rw [hs]; exact h2) (by rw [hh]; exact h3) (by rw [hh]; exact h4) h5 (h6.of (hP o) (hL o) hm (hl o)) fun x hx => by rw [hP]; exact h7 x hx
  | ret c ex o d h1 h2 h3 h4 h5 h6 h7 h8 h9 => exact .ret c ex o d (by rw [hh]; exact h1) (by rw [hs]; exact h2) (by rw [hh]; exact h3) (by rw [hh]; exact h4) h5 (by rw [hm]; exact h6) (fun x hx => by rw [hP]; exact h7 x hx) (by rw [hP]; exact h8) (by rw [hL]; exact h9)
  | await c aw h1 h2 h3 h4 h5 h6 h7 h8 h9 => exact .await c aw (by rw [hh]; exact h1) (by rw [hh]; exact h2) (by rw [hm]; exact h3) h4 (by rw [hs]; exact h5) (by rw [hs]; exact h6) (by rw [hh]; exact h7) (fun x => by rw [hP, hh, hs]; exact h8 x) h9
  | grantM c ex s h1 h2 h3 h4 h5 h6 h7 h8 => exact .grantM c ex s (by rw [hh]; exact h1) (by rw [hs]; exact h2) h3 (by rw [hh]; exact h4) (by rw [hh]; exact h5) (by rw [hm]; exact h6) (fun x hx => by rw [hP]; exact h7 x hx) (by rw [hP]; exact h8)
  | grantS c ex h1 h2 h3 h4 => exact .grantS c ex (by rw [hh]; exact h1) (by rw [hs]; exact h2) ⟨by rw [hh]; exact h3.1, by rw [hm]; exact h3.2.1, fun x => by rw [hP, hh]; exact h3.2.2 x⟩ (by rw [hh]; exact h4)

/-- a request is sent -/
theorem LInv.request {v : LS} {W : Words} (I : LInv v W) {c : Nat} (hR : v.R c = false) (hL : v.L c = none) (hP : ∀ st ws, v.P c = some (st, ws) → st = .sh) :
    LInv { v with R := up v.R c true, nreq := up v.nreq c (v.nreq c + 1) } W := by
  refine ⟨fun x => ?_, I.b, fun x h => ?_, fun x st ws h hn => ?_, I.nd, I.ph.of (fun _ => rfl) (fun _ => rfl) rfl rfl rfl fun _ _ h => h⟩
  · have := I.a x
    by_cases e : x = c
    · subst e; rw [hR] at this; simp [up] at this ⊢; omega
    · simp [up, e]; exact this
  · have := I.c1 x h
    by_cases e : x = c
    · subst e; change (v.L x).isSome = true at h; rw [hL] at h; simp at h
    · simp [up, e]; exact this
  · by_cases e : x = c
    · subst e; exact absurd (hP st ws h) hn
    · simp [up, e]; exact I.c2 x st ws h hn

/-- a shared copy is dropped -/
theorem LInv.drop {v : LS} {W : Words} (I : LInv v W) {c : Nat} {ws : Words} (hP : v.P c = some (.sh, ws)) : LInv { v with P := up v.P c none } W := by
  have own : ∀ o, Own v W o → Own { v with P := up v.P c none } W o := by
    rintro o (⟨st, e, n, m⟩ | ⟨e, d, l, m, g⟩)
    · have hne : o ≠ c := by
        intro q; subst q; rw [hP] at e; simp at e; exact n e.1.symm
      exact .inl ⟨st, by simp [up, hne]; exact e, n, m⟩
    · exact .inr ⟨by by_cases q : o = c <;> simp [up, q]; exact e, d, l, m, g⟩
  have non : ∀ x, v.P x = none → up v.P c none x = none := by
    intro x h; by_cases q : x = c <;> simp [up, q]; exact h
  have shr : SharedSt v W → SharedSt { v with P := up v.P c none } W := by
    rintro ⟨a, b, k⟩
    refine ⟨a, b, fun x => ?_⟩
    by_cases q : x = c
    · exact .inl (by simp [up, q])
    · simp [up, q]; exact k x
  have stb : Stable v W → Stable { v with P := up v.P c none } W := by
    rintro (h | ⟨o, a, b, k, d⟩)
    · exact .inl (shr h)
    · exact .inr ⟨o, a, b, own o k, fun x hx => non x (d x hx)⟩
  refine ⟨I.a, I.b, fun x h => ⟨(I.c1 x h).1, non x (I.c1 x h).2⟩, fun x st ws h hn => ?_, I.nd, ?_⟩
  · by_cases q : x = c
    · simp [up, q] at h
    · simp [up, q] at h; exact I.c2 x st ws h hn
  · cases I.ph with
    | idle h1 h2 h3 => exact .idle h1 h2 (stb h3)
    | done c' ex ws' h1 h2 h3 => exact .done c' ex ws' h1 h2 (stb h3)
    | recall c' ex o h1 h2 h3 h4 h5 h6 h7 => exact .recall c' ex o h1 h2 h3 h4 h5 (own o h6) fun x hx => non x (h7 x hx)
    | ret c' ex o d h1 h2 h3 h4 h5 h6 h7 h8 h9 =>
      refine .ret c' ex o d h1 h2 h3 h4 h5 h6 (fun x hx => non x (h7 x hx)) ?_ h9
      by_cases q : o = c
      · exact .inl (by simp [up, q])
      · simp [up, q]; exact h8
    | await c' aw h1 h2 h3 h4 h5 h6 h7 h8 h9 =>
      refine .await c' aw h1 h2 h3 h4 h5 h6 h7 (fun x => ?_) h9
      by_cases q : x = c
      · exact .inl (by simp [up, q])
      · simp [up, q]; exact h8 x
    | grantM c' ex s h1 h2 h3 h4 h5 h6 h7 h8 =>
      refine .grantM c' ex s h1 h2 h3 h4 h5 h6 (fun x hx => non x (h7 x hx)) ?_
      by_cases q : c' = c
      · exact .inl (by simp [up, q])
      · simp [up, q]; exact h8
    | grantS c' ex h1 h2 h3 h4 => exact .grantS c' ex h1 h2 (shr h3) h4

/-- who has a line that he may write is the owner, and the home waits for nobody but him -/
theorem LInv.excl {v : LS} {W : Words} (I : LInv v W) {c : Nat} {st : Ls} {ws : Words} (hP : v.P c = some (st, ws)) (hn : st ≠ .sh) :
    v.h.owner = some c ∧ v.h.sharers = [] ∧ Own v W c ∧ (∀ x, x ≠ c → v.P x = none) ∧
    ((v.h.serving = none ∧ v.svc = []) ∨ (∃ c' ex ws', v.h.serving = some ⟨c', ex, [], false, some ws', true⟩ ∧ v.svc = [.rcv c']) ∨
     (∃ c' ex, v.h.serving = some ⟨c', ex, [], true, none, false⟩ ∧ v.svc = [.recall c (!ex)] ∧ c ≠ c')) := by
  have shr : ¬ SharedSt v W := by
    rintro ⟨_, _, k⟩
    rcases k c with e | ⟨e, _⟩ <;> rw [hP] at e <;> simp at e
    exact hn e.1
  have stb : Stable v W → v.h.owner = some c ∧ v.h.sharers = [] ∧ Own v W c ∧ (∀ x, x ≠ c → v.P x = none) := by
    rintro (h | ⟨o, a, b, k, d⟩)
    · exact absurd h shr
    · have : c = o := by
        by_cases e : c = o
        · exact e
        · have := d c e; rw [hP] at this; simp at this
      subst this
      exact ⟨a, b, k, d⟩
  cases I.ph with
  | idle h1 h2 h3 =>
    obtain ⟨a, b, k, d⟩ := stb h3
    exact ⟨a, b, k, d, .inl ⟨h1, h2⟩⟩
  | done c' ex ws' h1 h2 h3 =>
    obtain ⟨a, b, k, d⟩ := stb h3
    exact ⟨a, b, k, d, .inr (.inl ⟨c', ex, ws', h1, h2⟩)⟩
  | recall c' ex o h1 h2 h3 h4 h5 h6 h7 =>
    have : c = o := by
      by_cases e : c = o
      · exact e
      · have := h7 c e; rw [hP] at this; simp at this
    subst this
    exact ⟨h3, h4, h6, h7, .inr (.inr ⟨c', ex, h1, h2, h5⟩)⟩
  | ret c' ex o d h1 h2 h3 h4 h5 h6 h7 h8 h9 =>
    have : c = o := by
      by_cases e : c = o
      · exact e
      · have := h7 c e; rw [hP] at this; simp at this
    subst this
    rcases h8 with e | ⟨e, _⟩ <;> rw [hP] at e <;> simp at e
    exact absurd e.1 hn
  | await c' aw h1 h2 h3 h4 h5 h6 h7 h8 h9 =>
    rcases h8 c with e | ⟨e, _⟩ <;> rw [hP] at e <;> simp at e
    exact absurd e.1 hn
  | grantM c' ex s h1 h2 h3 h4 h5 h6 h7 h8 =>
    have : c = c' := by
      by_cases e : c = c'
      · exact e
      · have := h7 c e; rw [hP] at this; simp at this
    subst this
    rcases h8 with e | e <;> rw [hP] at e <;> simp at e
    exact absurd e.1 hn
  | grantS c' ex h1 h2 h3 h4 => exact absurd h3 shr

/-- .. put together again -/
theorem Phase.owned {v : LS} {W : Words} {c : Nat} (ho : v.h.owner = some c) (hs : v.h.sharers = []) (hO : Own v W c) (hx : ∀ x, x ≠ c → v.P x = none)
    (hk : (v.h.serving = none ∧ v.svc = []) ∨ (∃ c' ex ws', v.h.serving = some ⟨c', ex, [], false, some ws', true⟩ ∧ v.svc = [.rcv c']) ∨
     (∃ c' ex, v.h.serving = some ⟨c', ex, [], true, none, false⟩ ∧ v.svc = [.recall c (!ex)] ∧ c ≠ c')) : Phase v W := by
  rcases hk with ⟨a, b⟩ | ⟨c', ex, ws', a, b⟩ | ⟨c', ex, a, b, n⟩
  · exact .idle a b (.inr ⟨c, ho, hs, hO, hx⟩)
  · exact .done c' ex ws' a b (.inr ⟨c, ho, hs, hO, hx⟩)
  · exact .recall c' ex c a b ho hs n hO hx

/-- a line that may be written is given up -/
theorem LInv.giveUp {v : LS} {W : Words} (I : LInv v W) {c : Nat} {st : Ls} {ws : Words} (hP : v.P c = some (st, ws)) (hn : st ≠ .sh) :
    LInv { v with P := up v.P c none, L := up v.L c (some (some ws, decide (st = .mo))), lv := up v.lv c (v.lv c ++ [.give ws (decide (st = .mo))]) } W := by
  obtain ⟨ho, hs, hO, hx, hk⟩ := I.excl hP hn
  have hw := I.copy hP
  subst hw
  have hLn : v.L c = none := by
    cases e : v.L c with
    | none => rfl
    | some p => have := (I.c1 c (by rw [e]; rfl)).2; rw [hP] at this; simp at this
  have hlv : v.lv c = [] := by
    have := I.b c; rw [hLn] at this; simp at this; exact this
  refine ⟨I.a, fun x => ?_, fun x h => ?_, fun x s w h hn' => ?_, I.nd, ?_⟩
  · by_cases e : x = c
    · subst e; simp [up, hlv]
    · have := I.b x; simp [up, e]; exact this
  · by_cases e : x = c
    · subst e; exact ⟨I.c2 x st ws hP hn, by simp [up]⟩
    · simp [up, e] at h ⊢; exact I.c1 x h
  · by_cases e : x = c
    · simp [up, e] at h
    · simp [up, e] at h; exact I.c2 x s w h hn'
  · refine Phase.owned (c := c) ho hs (.inr ⟨by simp [up], decide (st = .mo), by simp [up], fun hd => ?_, fun w he => ?_⟩) (fun x h => by simp [up, h]; exact hx x h) hk
    · rcases hO with ⟨st', e, n, m⟩ | ⟨e, _⟩
      · rw [hP] at e; simp at e; subst e
        have : st ≠ .mo := of_decide_eq_false hd
        cases st with
        | sh => exact absurd rfl hn
        | ex => exact m rfl
        | mo => exact absurd rfl this
      · rw [hP] at e; simp at e
    · simp [up, hlv] at he; exact he

/-- a word is written -/
theorem LInv.write {v : LS} {W W' : Words} (I : LInv v W) {c : Nat} {st : Ls} {ws : Words} (hP : v.P c = some (st, ws)) (hn : st ≠ .sh) :
    LInv { v with P := up v.P c (some (.mo, W')) } W' := by
  obtain ⟨ho, hs, hO, hx, hk⟩ := I.excl hP hn
  refine ⟨I.a, I.b, fun x h => ?_, fun x s w h hn' => ?_, I.nd, ?_⟩
  · have := I.c1 x h
    by_cases e : x = c
    · subst e; rw [hP] at this; simp at this
    · simp [up, e]; exact this
  · by_cases e : x = c
    · subst e; exact I.c2 x st ws hP hn
    · simp [up, e] at h; exact I.c2 x s w h hn'
  · exact Phase.owned (c := c) ho hs (.inl ⟨.mo, by simp [up], by decide, by intro h; cases h⟩) (fun x h => by simp [up, h]; exact hx x h) hk

/-! ### deliveries to a cache -/
theorem ngr_app (A B : List Sv) (c : Nat) : ngr (A ++ B) c = ngr A c + ngr B c := by simp [ngr]
theorem ngr_cons (m : Sv) (B : List Sv) (c : Nat) : ngr (m :: B) c = (if m.isGr c = true then 1 else 0) + ngr B c := by
  simp only [ngr, List.countP_cons]; split <;> omega
theorem ngr_nil (c : Nat) : ngr [] c = 0 := rfl
theorem nco_nil (c : Nat) : nco [] c = 0 := rfl
theorem nco_app (A B : List Sv) (c : Nat) : nco (A ++ B) c = nco A c + nco B c := by simp [nco]
theorem nco_cons (m : Sv) (B : List Sv) (c : Nat) : nco (m :: B) c = (if m.core = c then 1 else 0) + nco B c := by
  simp only [nco, List.countP_cons]
  by_cases h : m.core = c <;> simp [h]; omega

theorem LInv.inv {v : LS} {W : Words} (I : LInv v W) {c : Nat} {A B : List Sv} (hs : v.svc = A ++ .inv c :: B) :
    LInv { v with P := up v.P c none, svc := A ++ B ++ [.invd c] } W := by
  have non : ∀ x, v.P x = none → up v.P c none x = none := by
    intro x h; by_cases q : x = c <;> simp [up, q]; exact h
  refine ⟨fun x => ?_, I.b, fun x h => ⟨(I.c1 x h).1, non x (I.c1 x h).2⟩, fun x st ws h hn => ?_, I.nd, ?_⟩
  · have := I.a x
    rw [hs] at this
    simp [ngr_app, ngr_cons, ngr_nil, Sv.isGr] at this ⊢
    omega
  · by_cases q : x = c
    · simp [up, q] at h
    · simp [up, q] at h; exact I.c2 x st ws h hn
  · cases I.ph with
    | idle h1 h2 h3 => rw [h2] at hs; exact absurd hs.symm (fun q => nosing q)
    | done c' ex ws' h1 h2 h3 => rw [h2] at hs; have := (sing hs.symm).2.2; cases this
    | recall c' ex o h1 h2 h3 h4 h5 h6 h7 => rw [h2] at hs; have := (sing hs.symm).2.2; cases this
    | ret c' ex o d h1 h2 h3 h4 h5 h6 h7 h8 h9 => rw [h2] at hs; have := (sing hs.symm).2.2; cases this
    | grantM c' ex s h1 h2 h3 h4 h5 h6 h7 h8 => rw [h2] at hs; have := (sing hs.symm).2.2; cases this
    | grantS c' ex h1 h2 h3 h4 => rw [h2] at hs; have := (sing hs.symm).2.2; cases this
    | await c' aw h1 h2 h3 h4 h5 h6 h7 h8 h9 =>
      refine .await c' aw h1 h2 h3 h4 (fun m hm => ?_) (fun x => ?_) h7 (fun x => ?_) h9
      · simp at hm
        rcases hm with hm | hm | hm
        · exact h5 m (by rw [hs]; simp [hm])
        · exact h5 m (by rw [hs]; simp [hm])
        · exact ⟨c, .inr hm⟩
      · rw [← h6 x, hs]
        simp only [nco_app, nco_cons, nco_nil, Sv.core]
        by_cases q : c = x <;> simp [q] <;> omega
      · by_cases q : x = c
        · exact .inl (by simp [up, q])
        · simp [up, q]
          rcases h8 x with e | ⟨e, m, k⟩
          · exact .inl e
          · refine .inr ⟨e, m, ?_⟩
            rcases k with k | k
            · exact .inl k
            · rw [hs] at k
              simp at k
              rcases k with k | k | k
              · exact .inr (.inl k)
              · exact absurd k q
              · exact .inr (.inr k)

/-- a recall: to a cache that has the line -/
theorem LInv.recalled {v : LS} {W : Words} (I : LInv v W) {c : Nat} {keep : Bool} {A B : List Sv} (hs : v.svc = A ++ .recall c keep :: B) {st : Ls} {ws : Words} (hP : v.P c = some (st, ws)) :
    LInv { v with P := up v.P c (if keep = true then some (.sh, ws) else none), svc := A ++ B ++ [.ret c ws (decide (st = .mo))] } W := by
  have hw := I.copy hP
  subst hw
  cases I.ph with
  | idle h1 h2 h3 => rw [h2] at hs; exact absurd hs.symm (fun q => nosing q)
  | done c' ex ws' h1 h2 h3 => rw [h2] at hs; have := (sing hs.symm).2.2; cases this
  | ret c' ex o d h1 h2 h3 h4 h5 h6 h7 h8 h9 => rw [h2] at hs; have := (sing hs.symm).2.2; cases this
  | grantM c' ex s h1 h2 h3 h4 h5 h6 h7 h8 => rw [h2] at hs; have := (sing hs.symm).2.2; cases this
  | grantS c' ex h1 h2 h3 h4 => rw [h2] at hs; have := (sing hs.symm).2.2; cases this
  | await c' aw h1 h2 h3 h4 h5 h6 h7 h8 h9 =>
    obtain ⟨x, e | e⟩ := h5 (.recall c keep) (by rw [hs]; simp) <;> cases e
  | recall c' ex o h1 h2 h3 h4 h5 h6 h7 =>
    have hs' := hs
    rw [h2] at hs'
    obtain ⟨rfl, rfl, e⟩ := sing hs'.symm
    injection e with e1 e2
    subst e1
    subst e2
    have hLn : v.L c = none := by
      cases e : v.L c with
      | none => rfl
      | some p => have := (I.c1 c (by rw [e]; rfl)).2; rw [hP] at this; simp at this
    have hst : st ≠ .sh ∧ (st = .ex → v.mem = ws) := by
      rcases h6 with ⟨st', e, n, m⟩ | ⟨e, _⟩
      · rw [hP] at e; simp at e; subst e; exact ⟨n, m⟩
      · rw [hP] at e; simp at e
    refine ⟨fun x => ?_, I.b, fun x h => ?_, fun x s w h hn => ?_, I.nd, ?_⟩
    · have := I.a x
      rw [h2] at this
      simp [ngr, Sv.isGr] at this ⊢
      exact this
    · have := I.c1 x h
      by_cases q : x = c
      · subst q; rw [hP] at this; simp at this
      · simp [up, q]; exact this
    · by_cases q : x = c
      · subst q
        simp [up] at h
        exact absurd h.2.1.symm hn
      · simp [up, q] at h; exact I.c2 x s w h hn
    · refine .ret c' ex c (decide (st = .mo)) h1 (by simp) h3 h4 h5 (fun hd => ?_) (fun x hx => by simp [up, hx]; exact h7 x hx) ?_ (.inl hLn)
      · have : st ≠ .mo := of_decide_eq_false hd
        cases st with
        | sh => exact absurd rfl hst.1
        | ex => exact hst.2 rfl
        | mo => exact absurd rfl this
      · cases ex with
        | true => exact .inl (by simp [up])
        | false => exact .inr ⟨by simp [up], rfl⟩

/-- .. to a cache from which the line is leaving -/
theorem LInv.recalledL {v : LS} {W : Words} (I : LInv v W) {c : Nat} {keep : Bool} {A B : List Sv} (hs : v.svc = A ++ .recall c keep :: B) (hP : v.P c = none) :
    ∃ ws d, v.L c = some (some ws, d) ∧ LInv { v with L := up v.L c (some (none, d)), svc := A ++ B ++ [.ret c ws d] } W := by
  cases I.ph with
  | idle h1 h2 h3 => rw [h2] at hs; exact absurd hs.symm (fun q => nosing q)
  | done c' ex ws' h1 h2 h3 => rw [h2] at hs; have := (sing hs.symm).2.2; cases this
  | ret c' ex o d h1 h2 h3 h4 h5 h6 h7 h8 h9 => rw [h2] at hs; have := (sing hs.symm).2.2; cases this
  | grantM c' ex s h1 h2 h3 h4 h5 h6 h7 h8 => rw [h2] at hs; have := (sing hs.symm).2.2; cases this
  | grantS c' ex h1 h2 h3 h4 => rw [h2] at hs; have := (sing hs.symm).2.2; cases this
  | await c' aw h1 h2 h3 h4 h5 h6 h7 h8 h9 =>
    obtain ⟨x, e | e⟩ := h5 (.recall c keep) (by rw [hs]; simp) <;> cases e
  | recall c' ex o h1 h2 h3 h4 h5 h6 h7 =>
    have hs' := hs
    rw [h2] at hs'
    obtain ⟨rfl, rfl, e⟩ := sing hs'.symm
    injection e with e1 e2
    subst e1
    subst e2
    rcases h6 with ⟨st', e, n, m⟩ | ⟨_, d, hL, m, g⟩
    · rw [hP] at e; simp at e
    refine ⟨W, d, hL, fun x => ?_, fun x => ?_, fun x h => ?_, I.c2, I.nd, ?_⟩
    · have := I.a x
      rw [h2] at this
      simp [ngr, Sv.isGr] at this ⊢
      exact this
    · have := I.b x
      by_cases q : x = c
      · subst q; rw [hL] at this; simp [up] at this ⊢; exact this
      · simp [up, q]; exact this
    · by_cases q : x = c
      · subst q; exact I.c1 x (by rw [hL]; rfl)
      · simp [up, q] at h; exact I.c1 x h
    · exact .ret c' ex c d h1 (by simp) h3 h4 h5 m h7 (.inl hP) (.inr ⟨d, by simp [up]⟩)

theorem LInv.granted {v : LS} {W : Words} (I : LInv v W) {c : Nat} {st : Ls} {ws : Words} {A B : List Sv} (hs : v.svc = A ++ .grant c st ws :: B) :
    LInv { v with P := up v.P c (some (st, ws)), R := up v.R c false, svc := A ++ B ++ [.rcv c] } W := by
  have hR : v.R c = true := by
    have := I.a c
    rw [hs] at this
    simp [ngr_app, ngr_cons, Sv.isGr] at this
    cases e : v.R c with
    | true => rfl
    | false => rw [e] at this; simp at this
  have ha : ∀ x, v.nreq x + pend v.h x + ngr (A ++ B ++ [.rcv c]) x ≤ (if up v.R c false x = true then 1 else 0) := by
    intro x
    have := I.a x
    rw [hs] at this
    by_cases q : x = c
    · subst q
      rw [hR] at this
      simp [ngr_app, ngr_cons, ngr_nil, Sv.isGr, up] at this ⊢
      omega
    · have q' : ¬ c = x := fun e => q e.symm
      simp [ngr_app, ngr_cons, ngr_nil, Sv.isGr, up, q, q'] at this ⊢
      omega
  have hLn : v.L c = none := by
    cases e : v.L c with
    | none => rfl
    | some p => have := (I.c1 c (by rw [e]; rfl)).1; rw [hR] at this; simp at this
  have hc1 : ∀ x, (v.L x).isSome = true → up v.R c false x = false ∧ up v.P c (some (st, ws)) x = none := by
    intro x h
    have := I.c1 x h
    by_cases q : x = c
    · subst q; rw [hLn] at h; simp at h
    · simp [up, q]; exact this
  have hc2 : ∀ x s w, up v.P c (some (st, ws)) x = some (s, w) → s ≠ .sh → up v.R c false x = false := by
    intro x s w h hn
    by_cases q : x = c
    · simp [up, q]
    · simp [up, q] at h ⊢; exact I.c2 x s w h hn
  refine ⟨ha, I.b, hc1, hc2, I.nd, ?_⟩
  cases I.ph with
  | idle h1 h2 h3 => rw [h2] at hs; exact absurd hs.symm (fun q => nosing q)
  | done c' ex ws' h1 h2 h3 => rw [h2] at hs; have := (sing hs.symm).2.2; cases this
  | recall c' ex o h1 h2 h3 h4 h5 h6 h7 => rw [h2] at hs; have := (sing hs.symm).2.2; cases this
  | ret c' ex o d h1 h2 h3 h4 h5 h6 h7 h8 h9 => rw [h2] at hs; have := (sing hs.symm).2.2; cases this
  | await c' aw h1 h2 h3 h4 h5 h6 h7 h8 h9 =>
    obtain ⟨x, e | e⟩ := h5 (.grant c st ws) (by rw [hs]; simp) <;> cases e
  | grantM c' ex s h1 h2 h3 h4 h5 h6 h7 h8 =>
    have hs' := hs
    rw [h2] at hs'
    obtain ⟨rfl, rfl, e⟩ := sing hs'.symm
    injection e with e1 e2 e3
    subst e1; subst e2; subst e3
    exact .done c ex ws h1 rfl (.inr ⟨c, h4, h5, .inl ⟨st, by simp [up], h3, fun _ => h6⟩, fun x hx => by simp [up, hx]; exact h7 x hx⟩)
  | grantS c' ex h1 h2 h3 h4 =>
    have hs' := hs
    rw [h2] at hs'
    obtain ⟨rfl, rfl, e⟩ := sing hs'.symm
    injection e with e1 e2 e3
    subst e1; subst e2; subst e3
    refine .done c ex ws h1 rfl (.inl ⟨h3.1, h3.2.1, fun x => ?_⟩)
    by_cases q : x = c
    · subst q; exact .inr ⟨by simp [up], h4⟩
    · simp [up, q]; exact h3.2.2 x

/-- a confirmation -/
theorem LInv.confirmed {v : LS} {W : Words} (I : LInv v W) {c : Nat} {A B : List Lv} (hl : v.lv c = A ++ .conf :: B) :
    LInv { v with L := up v.L c none, lv := up v.lv c (A ++ B) } W := by
  have hb := I.b c
  rw [hl] at hb
  have hAB : A = [] ∧ B = [] := by
    simp at hb
    have : A.length + B.length = 0 := by split at hb <;> omega
    exact ⟨List.eq_nil_of_length_eq_zero (by omega), List.eq_nil_of_length_eq_zero (by omega)⟩
  obtain ⟨rfl, rfl⟩ := hAB
  have hLs : (v.L c).isSome = true := by
    cases e : (v.L c).isSome with
    | true => rfl
    | false => rw [e] at hb; simp at hb
  have hPc := (I.c1 c hLs).2
  have hb' : ∀ x, (up v.lv c ([] ++ []) x).length ≤ (if (up v.L c none x).isSome = true then 1 else 0) := by
    intro x
    by_cases q : x = c
    · simp [up, q]
    · simp [up, q]; have := I.b x; exact this
  have hc1 : ∀ x, (up v.L c none x).isSome = true → v.R x = false ∧ v.P x = none := by
    intro x h
    by_cases q : x = c
    · simp [up, q] at h
    · simp [up, q] at h; exact I.c1 x h
  refine ⟨I.a, hb', hc1, I.c2, I.nd, ?_⟩
  -- the line that leaves is not the owner's
  have own : ∀ o, Own v W o → Own { v with L := up v.L c none, lv := up v.lv c ([] ++ []) } W o := by
    intro o h
    rcases h with ⟨st, e, n, m⟩ | ⟨e, d, l, m, g⟩
    · exact .inl ⟨st, e, n, m⟩
    · by_cases q : o = c
      · subst q
        have := g .conf (by rw [hl]; simp)
        cases this
      · exact .inr ⟨e, d, by simp [up, q]; exact l, m, by simp [up, q]; exact g⟩
  have stb : Stable v W → Stable { v with L := up v.L c none, lv := up v.lv c ([] ++ []) } W := by
    rintro (h | ⟨o, a, b, k, d⟩)
    · exact .inl h
    · exact .inr ⟨o, a, b, own o k, d⟩
  cases I.ph with
  | idle h1 h2 h3 => exact .idle h1 h2 (stb h3)
  | done c' ex ws' h1 h2 h3 => exact .done c' ex ws' h1 h2 (stb h3)
  | recall c' ex o h1 h2 h3 h4 h5 h6 h7 => exact .recall c' ex o h1 h2 h3 h4 h5 (own o h6) h7
  | ret c' ex o d h1 h2 h3 h4 h5 h6 h7 h8 h9 =>
    refine .ret c' ex o d h1 h2 h3 h4 h5 h6 h7 h8 ?_
    by_cases q : o = c
    · exact .inl (by simp [up, q])
    · show up v.L c none o = none ∨ ∃ e, up v.L c none o = some (none, e)
      rw [up_ne _ _ q]; exact h9
  | await c' aw h1 h2 h3 h4 h5 h6 h7 h8 h9 => exact .await c' aw h1 h2 h3 h4 h5 h6 h7 h8 h9
  | grantM c' ex s h1 h2 h3 h4 h5 h6 h7 h8 => exact .grantM c' ex s h1 h2 h3 h4 h5 h6 h7 h8
  | grantS c' ex h1 h2 h3 h4 => exact .grantS c' ex h1 h2 h3 h4

/-! ### deliveries to a home -/
theorem grant_ready {v : LS} {W : Words} {c : Nat} {ex : Bool} (excl : Bool) (h1 : v.h.serving = some ⟨c, ex, [], false, some W, false⟩) (ho : v.h.owner = none) (hm : v.mem = W) (hnd : v.h.sharers.Nodup)
    (hP : ∀ x, v.P x = none ∨ (v.P x = some (.sh, W) ∧ x ∈ v.h.sharers)) (hex : ex = true → ∀ x, x ≠ c → v.P x = none) :
    Phase { v with h := (grantH excl v.h).1, svc := (grantH excl v.h).2 } W ∧ (∀ x, pend (grantH excl v.h).1 x + ngr (grantH excl v.h).2 x = pend v.h x) ∧ (grantH excl v.h).1.sharers.Nodup := by
  have hp : ∀ x, pend v.h x = if c = x then 1 else 0 := by intro x; simp [pend, h1]
  cases ex with
  | true =>
    have e : grantH excl v.h = ({ owner := some c, sharers := [], serving := some ⟨c, true, [], false, some W, true⟩ }, [.grant c .mo W]) := by simp [grantH, h1]
    rw [e]
    refine ⟨.grantM c true .mo rfl rfl (by decide) rfl rfl hm (hex rfl) ?_, fun x => ?_, by simp⟩
    · rcases hP c with k | k
      · exact .inl k
      · exact .inr k.1
    · rw [hp]; simp [pend, ngr_cons, ngr_nil, Sv.isGr]
  | false =>
    by_cases he : (excl && v.h.sharers.isEmpty) = true
    · have e : grantH excl v.h = ({ owner := some c, sharers := v.h.sharers, serving := some ⟨c, false, [], false, some W, true⟩ }, [.grant c .ex W]) := by simp only [grantH, h1]; simp [he]
      rw [e]
      have hs : v.h.sharers = [] := by simp at he; exact he.2
      have hn : ∀ x, v.P x = none := by
        intro x
        rcases hP x with k | ⟨_, k⟩
        · exact k
        · rw [hs] at k; simp at k
      refine ⟨.grantM c false .ex rfl rfl (by decide) rfl hs hm (fun x _ => hn x) (.inl (hn c)), fun x => ?_, hnd⟩
      rw [hp]; simp [pend, ngr_cons, ngr_nil, Sv.isGr]
    · by_cases hc : c ∈ v.h.sharers
      · have e : grantH excl v.h = ({ v.h with serving := some ⟨c, false, [], false, some W, true⟩ }, [.grant c .sh W]) := by simp only [grantH, h1]; simp [he, hc]
        rw [e]
        refine ⟨.grantS c false rfl rfl ⟨ho, hm, hP⟩ hc, fun x => ?_, hnd⟩
        rw [hp]; simp [pend, ngr_cons, ngr_nil, Sv.isGr]
      · have e : grantH excl v.h = ({ owner := v.h.owner, sharers := v.h.sharers ++ [c], serving := some ⟨c, false, [], false, some W, true⟩ }, [.grant c .sh W]) := by simp only [grantH, h1]; simp [he, hc]
        rw [e]
        refine ⟨.grantS c false rfl rfl ⟨ho, hm, fun x => ?_⟩ (by simp), fun x => ?_, ?_⟩
        · rcases hP x with k | ⟨k, m⟩
          · exact .inl k
          · exact .inr ⟨k, by simp [m]⟩
        · rw [hp]; simp [pend, ngr_cons, ngr_nil, Sv.isGr]
        · simp only [List.nodup_append]
          refine ⟨hnd, by simp, fun a ha b hb => ?_⟩
          simp at hb; subst hb
          intro q; subst q; exact hc ha

def reqH (excl : Bool) (h : Home) (mem : Words) (c : Nat) (ex : Bool) : Home × List Sv :=
  ((grantH excl (begunH h mem c ex).1).1, (begunH h mem c ex).2 ++ (grantH excl (begunH h mem c ex).1).2)

theorem nco_map_inv (l : List Nat) (h : l.Nodup) (x : Nat) : nco (l.map .inv) x = if x ∈ l then 1 else 0 := by
  induction l with
  | nil => simp [nco]
  | cons a l ih =>
    have hn := List.nodup_cons.mp h
    rw [List.map_cons, nco_cons, ih hn.2]
    by_cases q : a = x
    · subst q; simp [Sv.core, hn.1]
    · have q' : ¬ x = a := fun e => q e.symm
      simp [Sv.core, q, q']
theorem ngr_map_inv (l : List Nat) (x : Nat) : ngr (l.map .inv) x = 0 := by
  induction l with
  | nil => rfl
  | cons a l ih => rw [List.map_cons, ngr_cons, ih]; simp [Sv.isGr]

theorem LInv.served {v : LS} {W : Words} (I : LInv v W) (excl : Bool) {c : Nat} (ex : Bool) (hs : v.h.serving = none) (hq : 0 < v.nreq c) :
    LInv { v with h := (reqH excl v.h v.mem c ex).1, svc := v.svc ++ (reqH excl v.h v.mem c ex).2, nreq := up v.nreq c (v.nreq c - 1) } W := by
  have hR : v.R c = true := by
    have := I.a c
    cases e : v.R c with
    | true => rfl
    | false => rw [e] at this; simp at this; omega
  have hLn : v.L c = none := by
    cases e : v.L c with
    | none => rfl
    | some p => have := (I.c1 c (by rw [e]; rfl)).1; rw [hR] at this; simp at this
  obtain ⟨hsvc, hst⟩ : v.svc = [] ∧ Stable v W := by
    cases I.ph with
    | idle h1 h2 h3 => exact ⟨h2, h3⟩
    | done c' ex ws' h1 h2 h3 => rw [hs] at h1; cases h1
    | recall c' ex o h1 h2 h3 h4 h5 h6 h7 => rw [hs] at h1; cases h1
    | ret c' ex o d h1 h2 h3 h4 h5 h6 h7 h8 h9 => rw [hs] at h1; cases h1
    | await c' aw h1 h2 h3 h4 h5 h6 h7 h8 h9 => rw [hs] at h1; cases h1
    | grantM c' ex s h1 h2 h3 h4 h5 h6 h7 h8 => rw [hs] at h1; cases h1
    | grantS c' ex h1 h2 h3 h4 => rw [hs] at h1; cases h1
  have hp0 : ∀ x, pend v.h x = 0 := by intro x; simp [pend, hs]
  -- the counts, once the home's part is known
  have fin : ∀ (h' : Home) (ms : List Sv), (∀ x, pend h' x + ngr ms x = if c = x then 1 else 0) → h'.sharers.Nodup → Phase { v with h := h', svc := ms, nreq := up v.nreq c (v.nreq c - 1) } W →
      LInv { v with h := h', svc := ms, nreq := up v.nreq c (v.nreq c - 1) } W := by
    intro h' ms hk hnd hph
    refine ⟨fun x => ?_, I.b, I.c1, I.c2, hnd, hph⟩
    have h1 := I.a x
    have h2 := hk x
    rw [hsvc, ngr_nil, hp0] at h1
    show up v.nreq c (v.nreq c - 1) x + pend h' x + ngr ms x ≤ _
    by_cases q : x = c
    · subst q
      rw [up_same]
      simp only [if_true] at h2
      have h1' : v.nreq x + 0 + 0 ≤ if v.R x = true then 1 else 0 := h1
      show _ ≤ if v.R x = true then 1 else 0
      omega
    · rw [up_ne _ _ q]
      have : ¬ c = x := fun e => q e.symm
      rw [if_neg this] at h2
      have h1' : v.nreq x + 0 + 0 ≤ if v.R x = true then 1 else 0 := h1
      show _ ≤ if v.R x = true then 1 else 0
      omega
  rw [hsvc, List.nil_append]
  rcases hst with ⟨ho, hm, hP⟩ | ⟨o, ho, hsh, hO, hx⟩
  · -- nobody owns the line
    by_cases haw : (if ex = true then v.h.sharers.filter (fun x => x != c) else []) = []
    · have e : begunH v.h v.mem c ex = ({ v.h with serving := some ⟨c, ex, [], false, some v.mem, false⟩ }, []) := by simp only [begunH, ho, haw]; rfl
      have hex : ex = true → ∀ x, x ≠ c → v.P x = none := by
        intro he x hx
        rcases hP x with k | ⟨_, k⟩
        · exact k
        · rw [if_pos he] at haw
          have : x ∈ v.h.sharers.filter (fun x => x != c) := List.mem_filter.mpr ⟨k, by simp [hx]⟩
          rw [haw] at this; simp at this
      have g := grant_ready (v := { v with h := { v.h with serving := some ⟨c, ex, [], false, some v.mem, false⟩ } }) (W := W) (c := c) (ex := ex) excl (by rw [hm]) ho hm I.nd hP hex
      simp only [reqH, e, List.nil_append]
      refine fin _ _ (fun x => ?_) g.2.2 ?_
      · rw [g.2.1 x]; simp [pend]
      · exact g.1.of (fun _ => rfl) (fun _ => rfl) rfl rfl rfl fun _ _ h => h
    · -- copies are taken back first
      have he : ex = true := by
        cases ex with
        | true => rfl
        | false => simp at haw
      subst he
      simp only [if_true] at haw
      have e : begunH v.h v.mem c true = ({ v.h with serving := some ⟨c, true, v.h.sharers.filter (fun x => x != c), false, some v.mem, false⟩ }, (v.h.sharers.filter (fun x => x != c)).map .inv) := by simp only [begunH, ho, if_true]
      generalize hw : v.h.sharers.filter (fun x => x != c) = aw at *
      have eg : grantH excl { v.h with serving := some ⟨c, true, aw, false, some v.mem, false⟩ } = ({ v.h with serving := some ⟨c, true, aw, false, some v.mem, false⟩ }, []) := by
        cases aw with
        | nil => exact absurd rfl haw
        | cons a r => simp [grantH]
      simp only [reqH, e, eg, List.append_nil]
      have hnd : aw.Nodup := by rw [← hw]; exact List.Nodup.sublist List.filter_sublist I.nd
      refine fin _ _ (fun x => ?_) I.nd ?_
      · rw [ngr_map_inv]; simp [pend]
      · refine .await c aw (by simp [hm]) ho hm haw (fun m h => ?_) (fun x => nco_map_inv aw hnd x) (fun x h => ?_) (fun x => ?_) (by rw [← hw]; simp)
        · obtain ⟨x, _, rfl⟩ := List.mem_map.mp h
          exact ⟨x, .inl rfl⟩
        · by_cases q : x = c
          · exact .inl q
          · exact .inr (by rw [← hw]; exact List.mem_filter.mpr ⟨h, by simp [q]⟩)
        · rcases hP x with k | ⟨k, m⟩
          · exact .inl k
          · refine .inr ⟨k, m, ?_⟩
            by_cases q : x = c
            · exact .inl q
            · exact .inr (List.mem_map.mpr ⟨x, by rw [← hw]; exact List.mem_filter.mpr ⟨m, by simp [q]⟩, rfl⟩)
  · -- the owner is asked to hand it back
    have hoc : o ≠ c := by
      rintro rfl
      rcases hO with ⟨st, e, n, _⟩ | ⟨_, d, e, _⟩
      · have := I.c2 o st W e n; rw [hR] at this; cases this
      · rw [hLn] at e; cases e
    have e : begunH v.h v.mem c ex = ({ v.h with serving := some ⟨c, ex, [], true, none, false⟩ }, [.recall o (!ex)]) := by simp only [begunH, ho]
    have eg : grantH excl { v.h with serving := some ⟨c, ex, [], true, none, false⟩ } = ({ v.h with serving := some ⟨c, ex, [], true, none, false⟩ }, []) := by simp [grantH]
    simp only [reqH, e, eg, List.append_nil]
    refine fin _ _ (fun x => ?_) I.nd ?_
    · simp [pend, ngr_cons, ngr_nil, Sv.isGr]
    · exact .recall c ex o rfl rfl ho hsh hoc (hO.of rfl rfl rfl fun _ h => h) hx

/-- the home receives a line that is given up -/
theorem LInv.given {v : LS} {W : Words} (I : LInv v W) {c : Nat} {ws : Words} {d : Bool} {A B : List Lv} (hs : v.h.serving = none) (hl : v.lv c = A ++ .give ws d :: B) :
    LInv { v with h := { v.h with owner := if v.h.owner = some c then none else v.h.owner, serving := none }, mem := if v.h.owner = some c ∧ d = true then ws else v.mem, lv := up v.lv c (A ++ B ++ [.conf]) } W ∧ (v.h.owner = some c → ws = W) := by
  have hb := I.b c
  rw [hl] at hb
  have hAB : A = [] ∧ B = [] := by
    simp at hb
    have : A.length + B.length = 0 := by split at hb <;> omega
    exact ⟨List.eq_nil_of_length_eq_zero (by omega), List.eq_nil_of_length_eq_zero (by omega)⟩
  obtain ⟨rfl, rfl⟩ := hAB
  have hLs : (v.L c).isSome = true := by
    cases e : (v.L c).isSome with
    | true => rfl
    | false => rw [e] at hb; simp at hb
  have hPc := (I.c1 c hLs).2
  obtain ⟨hsvc, hst⟩ : v.svc = [] ∧ Stable v W := by
    cases I.ph with
    | idle h1 h2 h3 => exact ⟨h2, h3⟩
    | done c' ex ws' h1 h2 h3 => rw [hs] at h1; cases h1
    | recall c' ex o h1 h2 h3 h4 h5 h6 h7 => rw [hs] at h1; cases h1
    | ret c' ex o d h1 h2 h3 h4 h5 h6 h7 h8 h9 => rw [hs] at h1; cases h1
    | await c' aw h1 h2 h3 h4 h5 h6 h7 h8 h9 => rw [hs] at h1; cases h1
    | grantM c' ex s h1 h2 h3 h4 h5 h6 h7 h8 => rw [hs] at h1; cases h1
    | grantS c' ex h1 h2 h3 h4 => rw [hs] at h1; cases h1
  have hb' : ∀ x, (up v.lv c ([] ++ [] ++ [Lv.conf]) x).length ≤ (if (v.L x).isSome = true then 1 else 0) := by
    intro x
    by_cases q : x = c
    · subst q; simp [up, hLs]
    · rw [up_ne _ _ q]; exact I.b x
  have ha : ∀ (ow : Option Nat) x, v.nreq x + pend { v.h with owner := ow, serving := none } x + ngr v.svc x ≤ (if v.R x = true then 1 else 0) := by
    intro ow x
    have := I.a x
    simp [pend, hs] at this ⊢
    exact this
  rcases hst with ⟨ho, hm, hP⟩ | ⟨o, ho, hsh, hO, hx⟩
  · have hne : ¬ v.h.owner = some c := by rw [ho]; simp
    refine ⟨⟨ha _, hb', I.c1, I.c2, I.nd, .idle rfl hsvc (.inl ⟨?_, ?_, hP⟩)⟩, fun h => absurd h hne⟩
    · simp [ho]
    · show (if v.h.owner = some c ∧ d = true then ws else v.mem) = W
      rw [if_neg (fun q => hne q.1)]; exact hm
  · by_cases q : o = c
    · subst q
      rcases hO with ⟨st, e, _⟩ | ⟨_, d', l, m, g⟩
      · rw [hPc] at e; cases e
      · have e := g (.give ws d) (by rw [hl]; simp)
        injection e with e1 e2
        subst e1; subst e2
        refine ⟨⟨ha _, hb', I.c1, I.c2, I.nd, .idle rfl hsvc (.inl ⟨by simp [ho], ?_, fun x => ?_⟩)⟩, fun _ => rfl⟩
        · show (if v.h.owner = some o ∧ d = true then ws else v.mem) = ws
          by_cases hd : d = true
          · rw [if_pos ⟨ho, hd⟩]
          · rw [if_neg (fun q => hd q.2)]; exact m (by simpa using hd)
        · by_cases q : x = o
          · subst q; exact .inl hPc
          · exact .inl (hx x q)
    · have hne : ¬ v.h.owner = some c := by rw [ho]; simpa using q
      refine ⟨⟨ha _, hb', I.c1, I.c2, I.nd, .idle rfl hsvc (.inr ⟨o, ?_, hsh, hO.of rfl rfl ?_ ?_, hx⟩)⟩, fun h => absurd h hne⟩
      · show (if v.h.owner = some c then none else v.h.owner) = some o
        rw [if_neg hne]; exact ho
      · show (if v.h.owner = some c ∧ d = true then ws else v.mem) = v.mem
        rw [if_neg (fun q => hne q.1)]
      · intro m hm
        have e : up v.lv c ([] ++ [] ++ [Lv.conf]) o = v.lv o := up_ne _ _ q
        rw [← e]; exact hm

theorem LInv.received {v : LS} {W : Words} (I : LInv v W) {c : Nat} {A B : List Sv} (hs : v.svc = A ++ .rcv c :: B) :
    LInv { v with h := { v.h with serving := none }, svc := A ++ B } W := by
  cases I.ph with
  | idle h1 h2 h3 => rw [h2] at hs; exact absurd hs.symm (fun q => nosing q)
  | recall c' ex o h1 h2 h3 h4 h5 h6 h7 => rw [h2] at hs; have := (sing hs.symm).2.2; cases this
  | ret c' ex o d h1 h2 h3 h4 h5 h6 h7 h8 h9 => rw [h2] at hs; have := (sing hs.symm).2.2; cases this
  | grantM c' ex s h1 h2 h3 h4 h5 h6 h7 h8 => rw [h2] at hs; have := (sing hs.symm).2.2; cases this
  | grantS c' ex h1 h2 h3 h4 => rw [h2] at hs; have := (sing hs.symm).2.2; cases this
  | await c' aw h1 h2 h3 h4 h5 h6 h7 h8 h9 =>
    obtain ⟨x, e | e⟩ := h5 (.rcv c) (by rw [hs]; simp) <;> cases e
  | done c' ex ws h1 h2 h3 =>
    have hs' := hs
    rw [h2] at hs'
    obtain ⟨rfl, rfl, e⟩ := sing hs'.symm
    refine ⟨fun x => ?_, I.b, I.c1, I.c2, I.nd, .idle rfl rfl (h3.of (fun _ => rfl) (fun _ => rfl) rfl rfl rfl fun _ _ h => h)⟩
    have := I.a x
    simp [pend, ngr] at this ⊢
    omega

def retH (excl : Bool) (h : Home) (o : Nat) (ws : Words) : Home × List Sv := grantH excl (returnedH h o ws)
theorem LInv.returned {v : LS} {W : Words} (I : LInv v W) (excl : Bool) {c : Nat} {ws : Words} {d : Bool} {A B : List Sv} (hs : v.svc = A ++ .ret c ws d :: B) :
    LInv { v with h := (retH excl v.h c ws).1, mem := if d = true then ws else v.mem, svc := A ++ B ++ (retH excl v.h c ws).2 } W ∧ ws = W ∧ ∃ s, v.h.serving = some s := by
  cases I.ph with
  | idle h1 h2 h3 => rw [h2] at hs; exact absurd hs.symm (fun q => nosing q)
  | recall c' ex o h1 h2 h3 h4 h5 h6 h7 => rw [h2] at hs; have := (sing hs.symm).2.2; cases this
  | done c' ex ws' h1 h2 h3 => rw [h2] at hs; have := (sing hs.symm).2.2; cases this
  | grantM c' ex s h1 h2 h3 h4 h5 h6 h7 h8 => rw [h2] at hs; have := (sing hs.symm).2.2; cases this
  | grantS c' ex h1 h2 h3 h4 => rw [h2] at hs; have := (sing hs.symm).2.2; cases this
  | await c' aw h1 h2 h3 h4 h5 h6 h7 h8 h9 =>
    obtain ⟨x, e | e⟩ := h5 (.ret c ws d) (by rw [hs]; simp) <;> cases e
  | ret c' ex o d' h1 h2 h3 h4 h5 h6 h7 h8 h9 =>
    have hs' := hs
    rw [h2] at hs'
    obtain ⟨rfl, rfl, e⟩ := sing hs'.symm
    injection e with e1 e2 e3
    subst e1; subst e2; subst e3
    have hmem : (if d = true then ws else v.mem) = ws := by
      cases d with
      | true => rfl
      | false => simp; exact h6 rfl
    have er : returnedH v.h c ws = { owner := none, sharers := if ex = true then [] else [c], serving := some ⟨c', ex, [], false, some ws, false⟩ } := by simp only [returnedH, h1]
    have g := grant_ready (v := { v with h := { owner := none, sharers := if ex = true then [] else [c], serving := some ⟨c', ex, [], false, some ws, false⟩ }, mem := ws }) (W := ws) (c := c') (ex := ex) excl rfl rfl rfl
      (by cases ex <;> simp) (fun x => ?_) (fun he x _ => ?_)
    · refine ⟨⟨fun x => ?_, I.b, I.c1, I.c2, ?_, ?_⟩, rfl, _, h1⟩
      · have h := I.a x
        have k := g.2.1 x
        simp only [retH, er]
        show v.nreq x + pend _ x + ngr ([] ++ [] ++ _) x ≤ _
        rw [h2] at h
        simp only [List.nil_append]
        simp [ngr_cons, ngr_nil, Sv.isGr] at h
        simp only [pend, h1] at h
        have e2 : pend { owner := none, sharers := if ex = true then [] else [c], serving := some ⟨c', ex, [], false, some ws, false⟩ } x = if c' = x then 1 else 0 := by simp [pend]
        rw [e2] at k
        simp at h
        have k' : pend (grantH excl { owner := none, sharers := if ex = true then [] else [c], serving := some ⟨c', ex, [], false, some ws, false⟩ }).1 x + ngr (grantH excl { owner := none, sharers := if ex = true then [] else [c], serving := some ⟨c', ex, [], false, some ws, false⟩ }).2 x = if c' = x then 1 else 0 := k
        omega
      · simp only [retH, er]; exact g.2.2
      · simp only [retH, er, hmem, List.nil_append]
        exact g.1.of (fun _ => rfl) (fun _ => rfl) rfl rfl rfl fun _ _ h => h
    · by_cases q : x = c
      · subst q
        rcases h8 with k | ⟨k, he⟩
        · exact .inl k
        · refine .inr ⟨k, by rw [he]; simp⟩
      · exact .inl (h7 x q)
    · by_cases q : x = c
      · subst q
        rcases h8 with k | ⟨k, he'⟩
        · exact k
        · rw [he] at he'; cases he'
      · exact h7 x q

def invdH (excl : Bool) (h : Home) (a : Nat) : Home × List Sv := grantH excl (invalidatedH h a)
theorem nco_pos {l : List Sv} {m : Sv} (h : m ∈ l) : 0 < nco l m.core := by
  simp only [nco]
  exact List.countP_pos_iff.mpr ⟨m, h, by simp⟩
theorem LInv.invalidated {v : LS} {W : Words} (I : LInv v W) (excl : Bool) {a : Nat} {A B : List Sv} (hs : v.svc = A ++ .invd a :: B) :
    LInv { v with h := (invdH excl v.h a).1, svc := A ++ B ++ (invdH excl v.h a).2 } W ∧ ∃ s, v.h.serving = some s := by
  cases I.ph with
  | idle h1 h2 h3 => rw [h2] at hs; exact absurd hs.symm (fun q => nosing q)
  | recall c' ex o h1 h2 h3 h4 h5 h6 h7 => rw [h2] at hs; have := (sing hs.symm).2.2; cases this
  | done c' ex ws' h1 h2 h3 => rw [h2] at hs; have := (sing hs.symm).2.2; cases this
  | ret c' ex o d h1 h2 h3 h4 h5 h6 h7 h8 h9 => rw [h2] at hs; have := (sing hs.symm).2.2; cases this
  | grantM c' ex s h1 h2 h3 h4 h5 h6 h7 h8 => rw [h2] at hs; have := (sing hs.symm).2.2; cases this
  | grantS c' ex h1 h2 h3 h4 => rw [h2] at hs; have := (sing hs.symm).2.2; cases this
  | await c aw h1 h2 h3 h4 h5 h6 h7 h8 h9 =>
    refine ⟨?_, _, h1⟩
    have hcnt : ∀ x, nco (A ++ B) x + (if a = x then 1 else 0) = if x ∈ aw then 1 else 0 := by
      intro x
      rw [← h6 x, hs]
      simp only [nco_app, nco_cons, Sv.core]
      by_cases q : a = x <;> simp [q] <;> omega
    have haw : a ∈ aw := by
      have := hcnt a
      by_cases q : a ∈ aw
      · exact q
      · simp [q] at this
    have hac : a ≠ c := by rintro rfl; exact h9 haw
    have er : invalidatedH v.h a = { owner := none, sharers := v.h.sharers.filter (fun x => x != a), serving := some ⟨c, true, aw.filter (fun x => x != a), false, some W, false⟩ } := by
      simp only [invalidatedH, h1, h2, Option.map_some]
    have hna : Sv.inv a ∉ A ++ B := by
      intro hm
      have := nco_pos hm
      have k := hcnt a
      simp [haw, Sv.core] at k this
      omega
    have hPa : v.P a = none := by
      rcases h8 a with k | ⟨_, _, k | k⟩
      · exact k
      · exact absurd k hac
      · rw [hs] at k
        have : Sv.inv a ∈ A ++ B := by simpa using k
        exact absurd this hna
    have hnd' : (v.h.sharers.filter (fun x => x != a)).Nodup := List.Nodup.sublist List.filter_sublist I.nd
    have hng : ∀ x, ngr (A ++ B) x = 0 := by
      intro x
      rw [ngr, List.countP_eq_zero]
      intro m hm
      obtain ⟨y, e | e⟩ := h5 m (by rw [hs]; simp at hm ⊢; rcases hm with h | h <;> simp [h]) <;> rw [e] <;> simp [Sv.isGr]
    have ha : ∀ (h' : Home) (ms : List Sv), (∀ x, pend h' x + ngr ms x = if c = x then 1 else 0) → ∀ x, v.nreq x + pend h' x + ngr (A ++ B ++ ms) x ≤ (if v.R x = true then 1 else 0) := by
      intro h' ms hk x
      have h := I.a x
      have k := hk x
      rw [ngr_app, hng]
      simp only [pend, h1] at h
      simp at h
      omega
    by_cases hw : aw.filter (fun x => x != a) = []
    · -- it was the last one
      have hnil : A ++ B = [] := by
        cases e : A ++ B with
        | nil => rfl
        | cons m r =>
          have hm : m ∈ A ++ B := by rw [e]; simp
          have h1' := nco_pos hm
          have h2' := hcnt m.core
          have : m.core = a ∨ m.core ∉ aw := by
            by_cases q : m.core = a
            · exact .inl q
            · refine .inr fun hin => ?_
              have : m.core ∈ aw.filter (fun x => x != a) := List.mem_filter.mpr ⟨hin, by simp [q]⟩
              rw [hw] at this; simp at this
          rcases this with q | q
          · rw [q] at h1' h2'
            simp [haw] at h2'
            omega
          · simp [q] at h2'; omega
      have hPx : ∀ x, x ≠ c → v.P x = none := by
        intro x hx
        by_cases q : x = a
        · subst q; exact hPa
        · rcases h8 x with k | ⟨_, _, k | k⟩
          · exact k
          · exact absurd k hx
          · rw [hs] at k
            have : Sv.inv x ∈ A ++ B := by simpa using k
            rw [hnil] at this; simp at this
      have g := grant_ready (v := { v with h := { owner := none, sharers := v.h.sharers.filter (fun x => x != a), serving := some ⟨c, true, [], false, some W, false⟩ } }) (W := W) (c := c) (ex := true) excl rfl rfl h3
        hnd' (fun x => ?_) (fun _ x hx => hPx x hx)
      · simp only [invdH, er, hw]
        refine ⟨ha _ _ fun x => ?_, I.b, I.c1, I.c2, g.2.2, ?_⟩
        · rw [g.2.1 x]; simp [pend]
        · rw [hnil]
          exact g.1.of (fun _ => rfl) (fun _ => rfl) rfl rfl rfl fun _ _ h => h
      · rcases h8 x with k | ⟨k, m, _⟩
        · exact .inl k
        · refine .inr ⟨k, List.mem_filter.mpr ⟨m, ?_⟩⟩
          have : x ≠ a := by rintro rfl; rw [hPa] at k; cases k
          simp [this]
    · -- others are still waited for
      have eg : grantH excl { owner := none, sharers := v.h.sharers.filter (fun x => x != a), serving := some ⟨c, true, aw.filter (fun x => x != a), false, some W, false⟩ } =
          ({ owner := none, sharers := v.h.sharers.filter (fun x => x != a), serving := some ⟨c, true, aw.filter (fun x => x != a), false, some W, false⟩ }, []) := by
        cases e : aw.filter (fun x => x != a) with
        | nil => exact absurd e hw
        | cons b r => simp [grantH]
      simp only [invdH, er, eg]
      refine ⟨ha _ _ fun x => ?_, I.b, I.c1, I.c2, hnd', ?_⟩
      · simp [pend, ngr]
      · simp only [List.append_nil]
        refine .await c (aw.filter (fun x => x != a)) rfl rfl h3 hw (fun m hm => h5 m ?_) (fun x => ?_) (fun x hx => ?_) (fun x => ?_) ?_
        · rw [hs]; have hm' : m ∈ A ++ B := hm; simp at hm' ⊢; rcases hm' with h | h <;> simp [h]
        · show nco (A ++ B) x = _
          have := hcnt x
          by_cases q : a = x
          · subst q; simp [haw] at this ⊢; omega
          · have q' : ¬ x = a := fun e => q e.symm
            simp [q, q'] at this ⊢; exact this
        · have hx' := List.mem_filter.mp hx
          rcases h7 x hx'.1 with k | k
          · exact .inl k
          · exact .inr (List.mem_filter.mpr ⟨k, hx'.2⟩)
        · rcases h8 x with k | ⟨k, m, n⟩
          · exact .inl k
          · have hxa : x ≠ a := by rintro rfl; rw [hPa] at k; cases k
            refine .inr ⟨k, List.mem_filter.mpr ⟨m, by simp [hxa]⟩, ?_⟩
            rcases n with n | n
            · exact .inl n
            · refine .inr ?_
              rw [hs] at n
              show Sv.inv x ∈ A ++ B
              simpa using n
        · intro hm
          exact h9 (List.mem_filter.mp hm).1
end Proto
end
section
/-! The memory system as plain functions, and its invariant. -/
namespace Lit
open Proto

def fnd {α : Type} (xs : List (Nat × α)) (l : Nat) : Option (Nat × α) := xs.find? (fun e => e.1 == l)
def wout {α : Type} (xs : List (Nat × α)) (l : Nat) : List (Nat × α) := xs.filter (fun e => e.1 != l)
def withE {α : Type} (xs : List (Nat × α)) (n : Nat × α) : List (Nat × α) := xs.map (fun e => if e.1 == n.1 then n else e)

structure Cfg where
  lw : Nat
  sets : Nat
  ways : Nat
  reqs : Nat
  excl : Bool
structure Cache where
  lines : List (Nat × Ls × Words)
  req : List (Nat × Bool)
  leav : List (Nat × Option Words × Bool)
def Cache.empty : Cache := ⟨[], [], []⟩
def hStart : Home := ⟨none, [], none⟩
inductive Msg where
  | rq (c l : Nat) (ex : Bool) | lv (c l : Nat) (m : Lv) | sv (l : Nat) (m : Sv)
def Msg.core : Msg → Nat
  | .rq c _ _ => c | .lv c _ _ => c | .sv _ m => m.core
def Msg.line : Msg → Nat
  | .rq _ l _ => l | .lv _ l _ => l | .sv l _ => l
def toCaches : Msg → Bool
  | .sv _ (.inv _) => true | .sv _ (.recall _ _) => true | .sv _ (.grant _ _ _) => true | .lv _ _ .conf => true
  | _ => false
def waits : Msg → Bool
  | .rq _ _ _ => true | .lv _ _ (.give _ _) => true
  | _ => false
def canRecv (h : Home) (m : Msg) : Bool := h.serving.isNone || !waits m

def present (cf : Cfg) (k : Cache) (l : Nat) : List Nat := (k.lines.filter fun e => e.1 % cf.sets == l % cf.sets).map (·.1)
def coming (cf : Cfg) (k : Cache) (l : Nat) : List Nat := (k.req.filter fun e => e.1 % cf.sets == l % cf.sets && !(present cf k l).contains e.1).map (·.1)
def occ (cf : Cfg) (k : Cache) (l : Nat) : Nat := (present cf k l).length + (coming cf k l).length
def canW (cf : Cfg) (k : Cache) (a : Nat) : Bool := match fnd k.lines (a / cf.lw) with
  | none => false
  | some e => e.2.1 != .sh
def splice (ws : Words) (p : Nat) (x : Int) : Words := ws.take p ++ [x] ++ ws.drop (p + 1)
def wrW (cf : Cfg) (k : Cache) (a : Nat) (x : Int) : Option Cache := match fnd k.lines (a / cf.lw) with
  | none => none
  | some e => if e.2.1 = .sh then none else some { k with lines := withE k.lines (a / cf.lw, .mo, splice e.2.2 (a % cf.lw) x) }
def reqLine (cf : Cfg) (k : Cache) (c l : Nat) (ex : Bool) : Option (Cache × List Msg) :=
  if (fnd k.req l).isSome = true ∨ (fnd k.leav l).isSome = true then none
  else if cf.reqs ≤ k.req.length then none
  else match fnd k.lines l with
    | none => if cf.ways ≤ occ cf k l then none else some ({ k with req := k.req ++ [(l, ex)] }, [.rq c l ex])
    | some e => if ex = true ∧ e.2.1 = .sh then some ({ k with req := k.req ++ [(l, ex)] }, [.rq c l ex]) else none
def giveLine (k : Cache) (c l : Nat) : Option (Cache × List Msg) := match fnd k.lines l with
  | none => none
  | some e => if (fnd k.req l).isSome = true then none
    else if e.2.1 = .sh then some ({ k with lines := wout k.lines l }, [])
    else some ({ lines := wout k.lines l, req := k.req, leav := k.leav ++ [(l, some e.2.2, decide (e.2.1 = .mo))] }, [.lv c l (.give e.2.2 (decide (e.2.1 = .mo)))])
def afterRecall (k : Cache) (c l : Nat) (keep : Bool) : Option (Cache × List Msg) := match fnd k.lines l with
  | none => match fnd k.leav l with
    | some (_, some ws, d) => some ({ k with leav := withE k.leav (l, none, d) }, [.sv l (.ret c ws d)])
    | _ => none
  | some e => some ({ k with lines := if keep = true then withE k.lines (l, .sh, e.2.2) else wout k.lines l }, [.sv l (.ret c e.2.2 (decide (e.2.1 = .mo)))])
def cacheRecv (k : Cache) : Msg → Option (Cache × List Msg)
  | .sv l (.recall c keep) => afterRecall k c l keep
  | .sv l (.inv c) => some ({ k with lines := wout k.lines l }, [.sv l (.invd c)])
  | .sv l (.grant c st ws) => some ({ lines := wout k.lines l ++ [(l, st, ws)], req := wout k.req l, leav := k.leav }, [.sv l (.rcv c)])
  | .lv _ l .conf => some ({ k with leav := wout k.leav l }, [])
  | _ => none
def homeRecv (cf : Cfg) (h : Home) (mem : Words) : Msg → Option (Home × Words × List Msg)
  | .lv c l (.give ws d) => some ({ owner := if h.owner = some c then none else h.owner, sharers := h.sharers, serving := none }, if h.owner = some c ∧ d = true then ws else mem, [.lv c l .conf])
  | .sv _ (.rcv _) => some ({ h with serving := none }, mem, [])
  | .sv l (.invd c) => if h.serving.isSome = true then some ((invdH cf.excl h c).1, mem, (invdH cf.excl h c).2.map (.sv l)) else none
  | .sv l (.ret c ws d) => if h.serving.isSome = true then some ((retH cf.excl h c ws).1, if d = true then ws else mem, (retH cf.excl h c ws).2.map (.sv l)) else none
  | .rq c l ex => some ((reqH cf.excl h mem c ex).1, mem, (reqH cf.excl h mem c ex).2.map (Msg.sv l))
  | _ => none

structure Sys where
  caches : List Cache
  homes : List Home
  mem : Words
  net : List Msg
def Sys.cache (s : Sys) (c : Nat) : Cache := (s.caches[c]?).getD .empty
def Sys.home (s : Sys) (l : Nat) : Home := (s.homes[l]?).getD hStart
def memL (cf : Cfg) (mem : Words) (l : Nat) : Words := (mem.drop (l * cf.lw)).take cf.lw
def memPut (cf : Cfg) (mem : Words) (l : Nat) (ws : Words) : Words := mem.take (l * cf.lw) ++ ws ++ mem.drop (l * cf.lw + cf.lw)
def delivered (cf : Cfg) (s : Sys) (i : Nat) (m : Msg) : Option Sys :=
  if toCaches m = true then (cacheRecv (s.cache m.core) m).map fun r => { s with caches := s.caches.set m.core r.1, net := s.net.take i ++ s.net.drop (i + 1) ++ r.2 }
  else (homeRecv cf (s.home m.line) (memL cf s.mem m.line) m).map fun r => { caches := s.caches, homes := s.homes.set m.line r.1, mem := memPut cf s.mem m.line r.2.1, net := s.net.take i ++ s.net.drop (i + 1) ++ r.2.2 }
def deliverableM (s : Sys) (m : Msg) : Bool := toCaches m || canRecv (s.home m.line) m
def requested (cf : Cfg) (s : Sys) (c l : Nat) (ex : Bool) : Option Sys := (reqLine cf (s.cache c) c l ex).map fun r => { s with caches := s.caches.set c r.1, net := s.net ++ r.2 }
def evicted (s : Sys) (c l : Nat) : Option Sys := (giveLine (s.cache c) c l).map fun r => { s with caches := s.caches.set c r.1, net := s.net ++ r.2 }
def writtenS (cf : Cfg) (s : Sys) (c a : Nat) (x : Int) : Option Sys := (wrW cf (s.cache c) a x).map fun k => { s with caches := s.caches.set c k }
def startSys (cf : Cfg) (nc : Nat) (w : Words) : Sys := ⟨List.replicate nc .empty, List.replicate ((w.length + cf.lw - 1) / cf.lw) hStart, w, []⟩

/-! ### finding -/
section
variable {α : Type}
theorem fnd_line {xs : List (Nat × α)} {l : Nat} {e : Nat × α} (h : fnd xs l = some e) : e.1 = l ∧ e ∈ xs := by
  have := List.find?_some h
  exact ⟨by simpa using this, List.mem_of_find?_eq_some h⟩
theorem find_cons (e : Nat × α) (r : List (Nat × α)) (x : Nat) : List.find? (fun e => e.1 == x) (e :: r) = if e.1 = x then some e else List.find? (fun e => e.1 == x) r := by
  rw [List.find?_cons]
  by_cases h : e.1 = x
  · simp [h]
  · have hb : (e.1 == x) = false := by simpa using h
    rw [hb, if_neg h]
theorem fnd_wout (xs : List (Nat × α)) (l x : Nat) : fnd (wout xs l) x = if x = l then none else fnd xs x := by
  induction xs with
  | nil => simp [fnd, wout]
  | cons e r ih =>
    have ih' : List.find? (fun e => e.1 == x) (r.filter fun e => e.1 != l) = if x = l then none else List.find? (fun e => e.1 == x) r := ih
    show List.find? (fun e => e.1 == x) ((e :: r).filter fun e => e.1 != l) = if x = l then none else List.find? (fun e => e.1 == x) (e :: r)
    by_cases h : e.1 = l
    · rw [List.filter_cons_of_neg (by simp [h]), ih']
      by_cases q : x = l
      · simp [q]
      · have : ¬ l = x := fun z => q z.symm
        simp [q, find_cons, h, this]
    · rw [List.filter_cons_of_pos (by simp [h]), find_cons, ih', find_cons]
      by_cases q : x = l
      · subst q; simp [h]
      · simp [q]
theorem fnd_withE (xs : List (Nat × α)) (n : Nat × α) (x : Nat) : fnd (withE xs n) x = if x = n.1 then (fnd xs x).map (fun _ => n) else fnd xs x := by
  induction xs with
  | nil => simp [fnd, withE]
  | cons e r ih =>
    have ih' : List.find? (fun e => e.1 == x) (r.map fun e => if e.1 == n.1 then n else e) = if x = n.1 then (List.find? (fun e => e.1 == x) r).map (fun _ => n) else List.find? (fun e => e.1 == x) r := ih
    show List.find? (fun e => e.1 == x) ((e :: r).map fun e => if e.1 == n.1 then n else e) = if x = n.1 then (List.find? (fun e => e.1 == x) (e :: r)).map (fun _ => n) else List.find? (fun e => e.1 == x) (e :: r)
    rw [List.map_cons, find_cons, ih', find_cons]
    by_cases h : e.1 = n.1
    · by_cases q : x = n.1
      · subst q; simp [h]
      · have : ¬ n.1 = x := fun z => q z.symm
        simp [h, q, this]
    · by_cases q : x = n.1
      · subst q; simp [h]
      · simp [h, q]
theorem fnd_app (xs : List (Nat × α)) (e : Nat × α) (x : Nat) : fnd (xs ++ [e]) x = (fnd xs x).or (if e.1 = x then some e else none) := by
  unfold fnd
  rw [List.find?_append, find_cons]
  simp
end

/-! ### one line of it -/
def fl {α : Type} (xs : List (Nat × α)) (l : Nat) : Option α := (fnd xs l).map (·.2)
def toSv (l : Nat) : Msg → Option Sv
  | .sv x m => if x = l then some m else none
  | _ => none
def isRq (c l : Nat) : Msg → Bool
  | .rq d x _ => d == c && x == l
  | _ => false
def toLv (c l : Nat) : Msg → Option Lv
  | .lv d x m => if d = c ∧ x = l then some m else none
  | _ => none
def view (cf : Cfg) (s : Sys) (l : Nat) : LS where
  P := fun c => fl (s.cache c).lines l
  R := fun c => (fnd (s.cache c).req l).isSome
  L := fun c => fl (s.cache c).leav l
  h := s.home l
  mem := memL cf s.mem l
  svc := s.net.filterMap (toSv l)
  nreq := fun c => s.net.countP (isRq c l)
  lv := fun c => s.net.filterMap (toLv c l)

structure SInv (cf : Cfg) (nc nl : Nat) (s : Sys) (w : Words) : Prop where
  ncl : s.caches.length = nc
  nh : s.homes.length = nl
  nm : s.mem.length = w.length
  lwp : 0 < cf.lw
  fit : w.length ≤ nl * cf.lw
  tig : ∀ l, l < nl → l * cf.lw < w.length
  msg : ∀ m, m ∈ s.net → m.core < nc ∧ m.line < nl
  lin : ∀ c e, e ∈ (s.cache c).lines → e.1 < nl
  hom : ∀ l, (∀ o, (s.home l).owner = some o → o < nc) ∧ (∀ x, x ∈ (s.home l).sharers → x < nc) ∧ ∀ sv, (s.home l).serving = some sv → sv.core < nc
  inv : ∀ l, l < nl → LInv (view cf s l) (memL cf w l)

theorem up_id {α : Type} (f : Nat → α) (c : Nat) (x : α) (h : f c = x) : up f c x = f := by
  funext y; by_cases q : y = c <;> simp [up, q, h]
theorem cache_set (s : Sys) (c : Nat) (k : Cache) (n : List Msg) (x : Nat) (hc : c < s.caches.length) : Sys.cache { s with caches := s.caches.set c k, net := n } x = if x = c then k else s.cache x := by
  unfold Sys.cache
  by_cases q : x = c
  · subst q; simp [hc]
  · have : ¬ c = x := fun z => q z.symm
    simp [q, this]
theorem home_set (s : Sys) (l : Nat) (h : Home) (mm : Words) (n : List Msg) (x : Nat) (hl : l < s.homes.length) : Sys.home { caches := s.caches, homes := s.homes.set l h, mem := mm, net := n } x = if x = l then h else s.home x := by
  unfold Sys.home
  by_cases q : x = l
  · subst q; simp [hl]
  · have : ¬ l = x := fun z => q z.symm
    simp [q, this]
/-- what a change of one cache and of the network does to a line -/
theorem view_cache (cf : Cfg) (s : Sys) (c : Nat) (k : Cache) (n : List Msg) (l : Nat) (hc : c < s.caches.length) :
    view cf { s with caches := s.caches.set c k, net := n } l = { view cf s l with P := up (view cf s l).P c (fl k.lines l), R := up (view cf s l).R c (fnd k.req l).isSome, L := up (view cf s l).L c (fl k.leav l), svc := n.filterMap (toSv l), nreq := fun c => n.countP (isRq c l), lv := fun c => n.filterMap (toLv c l) } := by
  unfold view
  congr 1
  · funext x; rw [cache_set s c k n x hc]; by_cases q : x = c <;> simp [up, q]
  · funext x; rw [cache_set s c k n x hc]; by_cases q : x = c <;> simp [up, q]
  · funext x; rw [cache_set s c k n x hc]; by_cases q : x = c <;> simp [up, q]
theorem view_to {cf : Cfg} {s : Sys} {c : Nat} {k : Cache} {n : List Msg} {l : Nat} {v : LS} (hc : c < s.caches.length) (hP : up (view cf s l).P c (fl k.lines l) = v.P) (hR : up (view cf s l).R c (fnd k.req l).isSome = v.R) (hL : up (view cf s l).L c (fl k.leav l) = v.L)
    (hh : (view cf s l).h = v.h) (hm : (view cf s l).mem = v.mem) (hs : n.filterMap (toSv l) = v.svc) (hn : ∀ c, n.countP (isRq c l) = v.nreq c) (hv : ∀ c, n.filterMap (toLv c l) = v.lv c) :
    view cf { s with caches := s.caches.set c k, net := n } l = v := by
  rw [view_cache cf s c k n l hc]
  obtain ⟨P, R, L, h, m, sv, nr, lv⟩ := v
  simp only at hP hR hL hh hm hs hn hv
  rw [hP, hR, hL, hs]
  have e1 : (fun c => n.countP (isRq c l)) = nr := funext hn
  have e2 : (fun c => n.filterMap (toLv c l)) = lv := funext hv
  rw [e1, e2]
  show LS.mk P R L (view cf s l).h (view cf s l).mem sv nr lv = _
  rw [hh, hm]
theorem view_home {cf : Cfg} {s : Sys} {l0 : Nat} {h : Home} {mm : Words} {n : List Msg} {l : Nat} {v : LS} (hl : l0 < s.homes.length) (hP : (view cf s l).P = v.P) (hR : (view cf s l).R = v.R) (hL : (view cf s l).L = v.L)
    (hh : (if l = l0 then h else s.home l) = v.h) (hm : memL cf mm l = v.mem) (hs : n.filterMap (toSv l) = v.svc) (hn : ∀ c, n.countP (isRq c l) = v.nreq c) (hv : ∀ c, n.filterMap (toLv c l) = v.lv c) :
    view cf { caches := s.caches, homes := s.homes.set l0 h, mem := mm, net := n } l = v := by
  obtain ⟨P, R, L, h', m, sv, nr, lv⟩ := v
  simp only at hP hR hL hh hm hs hn hv
  have e1 : (fun c => n.countP (isRq c l)) = nr := funext hn
  have e2 : (fun c => n.filterMap (toLv c l)) = lv := funext hv
  have e3 : Sys.home { caches := s.caches, homes := s.homes.set l0 h, mem := mm, net := n } l = h' := by rw [home_set s l0 h mm n l hl]; exact hh
  show LS.mk (view cf s l).P (view cf s l).R (view cf s l).L (Sys.home { caches := s.caches, homes := s.homes.set l0 h, mem := mm, net := n } l) (memL cf mm l) (n.filterMap (toSv l)) (fun c => n.countP (isRq c l)) (fun c => n.filterMap (toLv c l)) = _
  rw [hP, hR, hL, hm, hs, e1, e2, e3]

/-! ### memory -/
theorem memL_get (cf : Cfg) (mem : Words) (l i : Nat) : (memL cf mem l)[i]? = if i < cf.lw then mem[l * cf.lw + i]? else none := by
  unfold memL
  rw [List.getElem?_take, List.getElem?_drop]
theorem memL_len (cf : Cfg) (mem : Words) (l : Nat) : (memL cf mem l).length = min cf.lw (mem.length - l * cf.lw) := by
  unfold memL; rw [List.length_take, List.length_drop]
theorem memPut_get {cf : Cfg} {mem ws : Words} {l : Nat} (h : ws.length = (memL cf mem l).length) (hl : l * cf.lw ≤ mem.length) (j : Nat) :
    (memPut cf mem l ws)[j]? = if l * cf.lw ≤ j ∧ j < l * cf.lw + cf.lw then ws[j - l * cf.lw]? else mem[j]? := by
  rw [memL_len] at h
  unfold memPut
  generalize l * cf.lw = b at *
  by_cases h1 : j < b
  · rw [List.getElem?_append_left (by simp; omega), List.getElem?_append_left (by simp; omega), List.getElem?_take, if_pos h1, if_neg (by omega)]
  · by_cases h2 : j < b + cf.lw
    · rw [if_pos (by omega)]
      by_cases h3 : j - b < ws.length
      · rw [List.getElem?_append_left (by simp; omega), List.getElem?_append_right (by simp; omega)]
        congr 1
        simp; omega
      · rw [List.getElem?_eq_none (l := ws) (by omega), List.getElem?_eq_none]
        simp; omega
    · rw [if_neg (by omega), List.getElem?_append_right (by simp; omega), List.getElem?_drop]
      by_cases h4 : b + cf.lw ≤ mem.length
      · congr 1
        simp; omega
      · rw [List.getElem?_eq_none (by simp; omega), List.getElem?_eq_none (by omega)]
theorem memPut_len {cf : Cfg} {mem ws : Words} {l : Nat} (h : ws.length = (memL cf mem l).length) (hl : l * cf.lw ≤ mem.length) : (memPut cf mem l ws).length = mem.length := by
  rw [memL_len] at h
  unfold memPut
  simp
  omega
theorem memPut_same {cf : Cfg} {mem ws : Words} {l : Nat} (h : ws.length = (memL cf mem l).length) (hl : l * cf.lw ≤ mem.length) : memL cf (memPut cf mem l ws) l = ws := by
  apply List.ext_getElem?
  intro i
  rw [memL_get, memPut_get h hl]
  rw [memL_len] at h
  by_cases q : i < cf.lw
  · rw [if_pos q, if_pos (by omega)]
    congr 1
    omega
  · rw [if_neg q, List.getElem?_eq_none (by omega)]
theorem line_ne {lw l l' i : Nat} (hi : i < lw) (h : l' ≠ l) : ¬ (l * lw ≤ l' * lw + i ∧ l' * lw + i < l * lw + lw) := by
  rintro ⟨h1, h2⟩
  rcases Nat.lt_or_gt_of_ne h with q | q
  · have : (l' + 1) * lw ≤ l * lw := Nat.mul_le_mul_right lw q
    rw [Nat.add_mul, Nat.one_mul] at this
    omega
  · have : (l + 1) * lw ≤ l' * lw := Nat.mul_le_mul_right lw q
    rw [Nat.add_mul, Nat.one_mul] at this
    omega
theorem memPut_ne {cf : Cfg} {mem ws : Words} {l l' : Nat} (h : ws.length = (memL cf mem l).length) (hl : l * cf.lw ≤ mem.length) (hn : l' ≠ l) : memL cf (memPut cf mem l ws) l' = memL cf mem l' := by
  apply List.ext_getElem?
  intro i
  rw [memL_get, memL_get, memPut_get h hl]
  by_cases q : i < cf.lw
  · rw [if_pos q, if_pos q, if_neg (line_ne q hn)]
  · rw [if_neg q, if_neg q]
theorem splice_set {ws : Words} {p : Nat} (x : Int) (h : p < ws.length) : splice ws p x = ws.set p x := by
  unfold splice
  rw [List.set_eq_take_append_cons_drop, if_pos h]
  simp
/-- a word is written: the coherent words of the lines -/
theorem memL_set {cf : Cfg} {w : Words} {a : Nat} {x : Int} (hw : 0 < cf.lw) (ha : a < w.length) (l : Nat) : memL cf (w.set a x) l = if l = a / cf.lw then splice (memL cf w l) (a % cf.lw) x else memL cf w l := by
  have hd : a / cf.lw * cf.lw + a % cf.lw = a := by rw [Nat.mul_comm]; exact Nat.div_add_mod a cf.lw
  have hm : a % cf.lw < cf.lw := Nat.mod_lt _ hw
  by_cases q : l = a / cf.lw
  · subst q
    rw [if_pos rfl, splice_set x (by rw [memL_len]; omega)]
    apply List.ext_getElem?
    intro i
    rw [memL_get, List.getElem?_set, List.getElem?_set, memL_get, memL_len]
    by_cases h : i < cf.lw
    · rw [if_pos h]
      by_cases h2 : a % cf.lw = i
      · rw [if_pos (by omega), if_pos h2]
        by_cases h3 : a < w.length
        · rw [if_pos h3, if_pos (by omega)]
        · exact absurd ha h3
      · rw [if_neg (by omega), if_neg h2, if_pos h]
    · rw [if_neg h, if_neg (by omega), if_neg h]
  · rw [if_neg q]
    apply List.ext_getElem?
    intro i
    rw [memL_get, memL_get]
    by_cases h : i < cf.lw
    · rw [if_pos h, if_pos h, List.getElem?_set_ne]
      intro e
      have := line_ne h q
      omega
    · rw [if_neg h, if_neg h]

/-! ### the network -/
theorem net_split {α : Type} {n : List α} {i : Nat} {m : α} (h : n[i]? = some m) : n = n.take i ++ m :: n.drop (i + 1) := by
  obtain ⟨hl, e⟩ := List.getElem?_eq_some_iff.mp h
  rw [← e, List.getElem_cons_drop, List.take_append_drop]

/-! ### each input keeps it -/
theorem fl_none {α : Type} {xs : List (Nat × α)} {l : Nat} (h : fnd xs l = none) : fl xs l = none := by simp [fl, h]
theorem fl_some {α : Type} {xs : List (Nat × α)} {l : Nat} {e : Nat × α} (h : fnd xs l = some e) : fl xs l = some e.2 := by simp [fl, h]
theorem fl_wout {α : Type} (xs : List (Nat × α)) (l x : Nat) : fl (wout xs l) x = if x = l then none else fl xs x := by
  simp only [fl, fnd_wout]; split <;> rfl
theorem fl_withE {α : Type} (xs : List (Nat × α)) (n : Nat × α) (x : Nat) : fl (withE xs n) x = if x = n.1 then (fl xs x).map (fun _ => n.2) else fl xs x := by
  simp only [fl, fnd_withE]
  split
  · cases fnd xs x <;> rfl
  · rfl
theorem fl_app {α : Type} (xs : List (Nat × α)) (e : Nat × α) (x : Nat) : fl (xs ++ [e]) x = (fl xs x).or (if e.1 = x then some e.2 else none) := by
  simp only [fl, fnd_app]
  cases fnd xs x <;> simp

/-- a change of a cache and of the network that leaves all lines but l0 as they were -/
theorem SInv.cache_step {cf : Cfg} {nc nl : Nat} {s : Sys} {w w' : Words} (I : SInv cf nc nl s w) {c l0 : Nat} {k : Cache} {n : List Msg} (hc : c < nc) (hl0 : l0 < nl) (hw : w'.length = w.length) (hwo : ∀ l, l ≠ l0 → memL cf w' l = memL cf w l)
    (hk : ∀ l, l ≠ l0 → fl k.lines l = fl (s.cache c).lines l ∧ (fnd k.req l).isSome = (fnd (s.cache c).req l).isSome ∧ fl k.leav l = fl (s.cache c).leav l)
    (hn : ∀ l, l ≠ l0 → n.filterMap (toSv l) = s.net.filterMap (toSv l) ∧ ∀ d, n.countP (isRq d l) = s.net.countP (isRq d l) ∧ n.filterMap (toLv d l) = s.net.filterMap (toLv d l))
    (hm : ∀ m, m ∈ n → m.core < nc ∧ m.line < nl) (hlin : ∀ e, e ∈ k.lines → e.1 < nl) {v : LS} (hv : view cf { s with caches := s.caches.set c k, net := n } l0 = v) (hi : LInv v (memL cf w' l0)) :
    SInv cf nc nl { s with caches := s.caches.set c k, net := n } w' := by
  have hcl : c < s.caches.length := by rw [I.ncl]; exact hc
  refine ⟨by simp [I.ncl], I.nh, by rw [hw]; exact I.nm, I.lwp, by rw [hw]; exact I.fit, by rw [hw]; exact I.tig, hm, fun d e he => ?_, I.hom, fun l hl => ?_⟩
  · rw [cache_set s c k n d hcl] at he
    by_cases q : d = c
    · rw [if_pos q] at he; exact hlin e he
    · rw [if_neg q] at he; exact I.lin d e he
  · by_cases q : l = l0
    · subst q; rw [hv]; exact hi
    · have hk' := hk l q
      have hn' := hn l q
      rw [hwo l q]
      have e : view cf { s with caches := s.caches.set c k, net := n } l = view cf s l :=
        view_to hcl (by rw [hk'.1]; exact up_id _ _ _ rfl) (by rw [hk'.2.1]; exact up_id _ _ _ rfl) (by rw [hk'.2.2]; exact up_id _ _ _ rfl) rfl rfl hn'.1 (fun d => (hn'.2 d).1) (fun d => (hn'.2 d).2)
      rw [e]
      exact I.inv l hl
/-- .. of a home, of memory and of the network -/
theorem SInv.home_step {cf : Cfg} {nc nl : Nat} {s : Sys} {w : Words} (I : SInv cf nc nl s w) {l0 : Nat} {h : Home} {ws : Words} {n : List Msg} (hl0 : l0 < nl) (hws : ws.length = (memL cf s.mem l0).length)
    (hn : ∀ l, l ≠ l0 → n.filterMap (toSv l) = s.net.filterMap (toSv l) ∧ ∀ d, n.countP (isRq d l) = s.net.countP (isRq d l) ∧ n.filterMap (toLv d l) = s.net.filterMap (toLv d l))
    (hm : ∀ m, m ∈ n → m.core < nc ∧ m.line < nl) (hh : (∀ o, h.owner = some o → o < nc) ∧ (∀ x, x ∈ h.sharers → x < nc) ∧ ∀ sv, h.serving = some sv → sv.core < nc)
    {v : LS} (hi : LInv v (memL cf w l0)) (hP : (view cf s l0).P = v.P) (hR : (view cf s l0).R = v.R) (hL : (view cf s l0).L = v.L) (hh' : h = v.h) (hm' : ws = v.mem) (hs : n.filterMap (toSv l0) = v.svc) (hq : ∀ c, n.countP (isRq c l0) = v.nreq c) (hv : ∀ c, n.filterMap (toLv c l0) = v.lv c) : SInv cf nc nl { caches := s.caches, homes := s.homes.set l0 h, mem := memPut cf s.mem l0 ws, net := n } w := by
  have hll : l0 < s.homes.length := by rw [I.nh]; exact hl0
  have hle : l0 * cf.lw ≤ s.mem.length := by have := I.tig l0 hl0; rw [I.nm]; omega
  refine ⟨I.ncl, by simp [I.nh], by rw [memPut_len hws hle]; exact I.nm, I.lwp, I.fit, I.tig, hm, I.lin, fun l => ?_, fun l hl => ?_⟩
  · rw [home_set s l0 h _ n l hll]
    by_cases q : l = l0
    · rw [if_pos q]; exact hh
    · rw [if_neg q]; exact I.hom l
  · by_cases q : l = l0
    · subst q
      have e : view cf { caches := s.caches, homes := s.homes.set l h, mem := memPut cf s.mem l ws, net := n } l = v := view_home hll hP hR hL (by rw [if_pos rfl]; exact hh') (by rw [memPut_same hws hle]; exact hm') hs hq hv
      rw [e]; exact hi
    · have hn' := hn l q
      have e : view cf { caches := s.caches, homes := s.homes.set l0 h, mem := memPut cf s.mem l0 ws, net := n } l = view cf s l :=
        view_home hll rfl rfl rfl (by rw [if_neg q]; rfl) (memPut_ne hws hle q) hn'.1 (fun d => (hn'.2 d).1) (fun d => (hn'.2 d).2)
      rw [e]
      exact I.inv l hl
/-- messages of one line, appended: the other lines don't see them -/
theorem net_app {s : Sys} {l0 : Nat} {ms : List Msg} (h : ∀ m, m ∈ ms → m.line = l0) : ∀ l, l ≠ l0 → (s.net ++ ms).filterMap (toSv l) = s.net.filterMap (toSv l) ∧ ∀ d, (s.net ++ ms).countP (isRq d l) = s.net.countP (isRq d l) ∧ (s.net ++ ms).filterMap (toLv d l) = s.net.filterMap (toLv d l) := by
  intro l hl
  have h1 : ∀ m, m ∈ ms → toSv l m = none := by
    intro m hm
    have := h m hm
    cases m <;> simp [toSv, Msg.line] at this ⊢
    omega
  have h2 : ∀ d m, m ∈ ms → toLv d l m = none := by
    intro d m hm
    have := h m hm
    cases m <;> simp [toLv, Msg.line] at this ⊢
    omega
  have h3 : ∀ d m, m ∈ ms → isRq d l m = false := by
    intro d m hm
    have := h m hm
    cases m <;> simp [isRq, Msg.line] at this ⊢
    omega
  refine ⟨?_, fun d => ⟨?_, ?_⟩⟩
  · rw [List.filterMap_append, List.filterMap_eq_nil_iff.mpr h1, List.append_nil]
  · rw [List.countP_append, (List.countP_eq_zero (l := ms)).mpr (fun m hm => by simp [h3 d m hm]), Nat.add_zero]
  · rw [List.filterMap_append, List.filterMap_eq_nil_iff.mpr (h2 d), List.append_nil]
theorem net_del {s : Sys} {l0 i : Nat} {m : Msg} {ms : List Msg} (hi : s.net[i]? = some m) (hm : m.line = l0) (h : ∀ m, m ∈ ms → m.line = l0) : ∀ l, l ≠ l0 →
    (s.net.take i ++ s.net.drop (i + 1) ++ ms).filterMap (toSv l) = s.net.filterMap (toSv l) ∧ ∀ d, (s.net.take i ++ s.net.drop (i + 1) ++ ms).countP (isRq d l) = s.net.countP (isRq d l) ∧ (s.net.take i ++ s.net.drop (i + 1) ++ ms).filterMap (toLv d l) = s.net.filterMap (toLv d l) := by
  intro l hl
  have a := net_app (s := ⟨s.caches, s.homes, s.mem, s.net.take i ++ s.net.drop (i + 1)⟩) h l hl
  have b := net_split hi
  generalize s.net.take i = A at *
  generalize s.net.drop (i + 1) = B at *
  rw [b]
  refine ⟨a.1.trans ?_, fun d => ⟨(a.2 d).1.trans ?_, (a.2 d).2.trans ?_⟩⟩
  · have : toSv l m = none := by cases m <;> simp [toSv, Msg.line] at hm ⊢; omega
    simp [List.filterMap_append, List.filterMap_cons, this]
  · have : isRq d l m = false := by cases m <;> simp [isRq, Msg.line] at hm ⊢; omega
    simp [List.countP_append, List.countP_cons, this]
  · have : toLv d l m = none := by cases m <;> simp [toLv, Msg.line] at hm ⊢; omega
    simp [List.filterMap_append, List.filterMap_cons, this]

theorem SInv.requested {cf : Cfg} {nc nl : Nat} {s s' : Sys} {w : Words} (I : SInv cf nc nl s w) {c l : Nat} {ex : Bool} (hc : c < nc) (hl : l < nl) (h : requested cf s c l ex = some s') : SInv cf nc nl s' w := by
  have hcl : c < s.caches.length := by rw [I.ncl]; exact hc
  unfold Lit.requested at h
  have key : ∀ r, reqLine cf (s.cache c) c l ex = some r → r = ({ s.cache c with req := (s.cache c).req ++ [(l, ex)] }, [.rq c l ex]) ∧ fnd (s.cache c).req l = none ∧ fnd (s.cache c).leav l = none ∧ ∀ e, fnd (s.cache c).lines l = some e → e.2.1 = .sh := by
    intro r hr
    unfold reqLine at hr
    split at hr
    · cases hr
    · rename_i h0
      have h1 : fnd (s.cache c).req l = none ∧ fnd (s.cache c).leav l = none := by
        constructor
        · cases e : fnd (s.cache c).req l with
          | none => rfl
          | some _ => exact absurd (.inl (by rw [e]; rfl)) h0
        · cases e : fnd (s.cache c).leav l with
          | none => rfl
          | some _ => exact absurd (.inr (by rw [e]; rfl)) h0
      split at hr
      · cases hr
      · split at hr
        · rename_i h2
          split at hr
          · cases hr
          · cases hr
            exact ⟨rfl, h1.1, h1.2, fun e he => by rw [h2] at he; cases he⟩
        · rename_i e h2
          split at hr
          · rename_i h3
            cases hr
            exact ⟨rfl, h1.1, h1.2, fun e' he => by rw [h2] at he; cases he; exact h3.2⟩
          · cases hr
  cases hr : reqLine cf (s.cache c) c l ex with
  | none => rw [hr] at h; cases h
  | some r =>
    rw [hr] at h
    cases h
    obtain ⟨rfl, h1, h2, h3⟩ := key r hr
    have L := I.inv l hl
    refine I.cache_step (l0 := l) hc hl rfl (fun _ _ => rfl) (fun x hx => ⟨rfl, ?_, rfl⟩) (net_app (by simp [Msg.line])) (fun m hm => ?_) (fun e he => I.lin c e he) (view_to hcl (v := { view cf s l with R := up (view cf s l).R c true, nreq := up (view cf s l).nreq c ((view cf s l).nreq c + 1) }) ?_ ?_ ?_ rfl rfl ?_ (fun d => ?_) (fun d => ?_)) ?_
    · show (fnd ((s.cache c).req ++ [(l, ex)]) x).isSome = _
      rw [fnd_app, if_neg (fun q => hx q.symm)]; simp
    · rcases List.mem_append.mp hm with q | q
      · exact I.msg m q
      · simp at q; subst q; exact ⟨hc, hl⟩
    · exact up_id _ _ _ rfl
    · show up _ c (fnd ((s.cache c).req ++ [(l, ex)]) l).isSome = up _ c true
      rw [fnd_app, if_pos rfl]; simp
    · exact up_id _ _ _ rfl
    · show (s.net ++ [Msg.rq c l ex]).filterMap (toSv l) = s.net.filterMap (toSv l)
      simp [List.filterMap_append, toSv]
    · show (s.net ++ [Msg.rq c l ex]).countP (isRq d l) = up (fun c => s.net.countP (isRq c l)) c (s.net.countP (isRq c l) + 1) d
      rw [List.countP_append]
      by_cases q : d = c
      · subst q; simp [up, isRq]
      · have q' : ¬ c = d := fun z => q z.symm
        simp [up, isRq, q, q']
    · show (s.net ++ [Msg.rq c l ex]).filterMap (toLv d l) = s.net.filterMap (toLv d l)
      simp [List.filterMap_append, toLv]
    · refine L.request ?_ ?_ ?_
      · show (fnd (s.cache c).req l).isSome = false
        rw [h1]; rfl
      · exact fl_none h2
      · intro st ws hp
        cases e : fnd (s.cache c).lines l with
        | none => have : fl (s.cache c).lines l = none := fl_none e; have hp' : fl (s.cache c).lines l = some (st, ws) := hp; rw [this] at hp'; cases hp'
        | some e' =>
          have hp' : fl (s.cache c).lines l = some (st, ws) := hp
          rw [fl_some e] at hp'
          have := h3 e' e
          rw [Option.some.inj hp'] at this
          exact this

theorem SInv.evicted {cf : Cfg} {nc nl : Nat} {s s' : Sys} {w : Words} (I : SInv cf nc nl s w) {c l : Nat} (hc : c < nc) (hl : l < nl) (h : evicted s c l = some s') : SInv cf nc nl s' w := by
  have hcl : c < s.caches.length := by rw [I.ncl]; exact hc
  unfold Lit.evicted at h
  cases hr : giveLine (s.cache c) c l with
  | none => rw [hr] at h; cases h
  | some r =>
    rw [hr] at h
    cases h
    unfold giveLine at hr
    cases he : fnd (s.cache c).lines l with
    | none => rw [he] at hr; cases hr
    | some e =>
      rw [he] at hr
      simp only at hr
      have hP : (view cf s l).P c = some (e.2.1, e.2.2) := fl_some he
      have hlin : ∀ z, z ∈ wout (s.cache c).lines l → z.1 < nl := fun z hz => I.lin c z (List.mem_filter.mp hz).1
      have L := I.inv l hl
      split at hr
      · cases hr
      · rename_i hreq
        split at hr
        · rename_i hsh
          cases hr
          rw [hsh] at hP
          refine I.cache_step (l0 := l) hc hl rfl (fun _ _ => rfl) (fun x hx => ⟨by rw [fl_wout, if_neg hx], rfl, rfl⟩) (net_app (by simp)) (fun m hm => I.msg m (by simpa using hm)) hlin (view_to hcl (v := { view cf s l with P := up (view cf s l).P c none }) ?_ ?_ ?_ rfl rfl ?_ (fun d => ?_) (fun d => ?_)) (L.drop hP)
          · rw [fl_wout, if_pos rfl]
          · exact up_id _ _ _ rfl
          · exact up_id _ _ _ rfl
          · simp; rfl
          · simp; rfl
          · simp; rfl
        · rename_i hsh
          cases hr
          have hR : (view cf s l).R c = false := by
            show (fnd (s.cache c).req l).isSome = false
            cases q : (fnd (s.cache c).req l).isSome with
            | true => exact absurd q hreq
            | false => rfl
          have hLn : (view cf s l).L c = none := by
            cases q : (view cf s l).L c with
            | none => rfl
            | some p => have := (L.c1 c (by rw [q]; rfl)).2; rw [hP] at this; cases this
          refine I.cache_step (l0 := l) hc hl rfl (fun _ _ => rfl) (fun x hx => ⟨by show fl (wout (s.cache c).lines l) x = _; rw [fl_wout, if_neg hx], rfl, ?_⟩) (net_app (by simp [Msg.line])) (fun m hm => ?_) hlin
            (view_to hcl (v := { view cf s l with P := up (view cf s l).P c none, L := up (view cf s l).L c (some (some e.2.2, decide (e.2.1 = .mo))), lv := up (view cf s l).lv c ((view cf s l).lv c ++ [.give e.2.2 (decide (e.2.1 = .mo))]) }) ?_ ?_ ?_ rfl rfl ?_ (fun d => ?_) (fun d => ?_)) (L.giveUp hP hsh)
          · show fl ((s.cache c).leav ++ [(l, some e.2.2, decide (e.2.1 = .mo))]) x = _
            rw [fl_app, if_neg (fun q => hx q.symm)]; simp
          · rcases List.mem_append.mp hm with q | q
            · exact I.msg m q
            · simp at q; subst q; exact ⟨hc, hl⟩
          · show up _ c (fl (wout (s.cache c).lines l) l) = up _ c none
            rw [fl_wout, if_pos rfl]
          · exact up_id _ _ _ rfl
          · show up _ c (fl ((s.cache c).leav ++ [(l, some e.2.2, decide (e.2.1 = .mo))]) l) = up _ c (some (some e.2.2, decide (e.2.1 = .mo)))
            rw [fl_app, if_pos rfl]
            have : fl (s.cache c).leav l = none := hLn
            rw [this]; rfl
          · show (s.net ++ [Msg.lv c l (.give e.2.2 (decide (e.2.1 = .mo)))]).filterMap (toSv l) = s.net.filterMap (toSv l)
            simp [List.filterMap_append, toSv]
          · show (s.net ++ [Msg.lv c l (.give e.2.2 (decide (e.2.1 = .mo)))]).countP (isRq d l) = s.net.countP (isRq d l)
            simp [List.countP_append, isRq]
          · show (s.net ++ [Msg.lv c l (.give e.2.2 (decide (e.2.1 = .mo)))]).filterMap (toLv d l) = up (fun c => s.net.filterMap (toLv c l)) c (s.net.filterMap (toLv c l) ++ [.give e.2.2 (decide (e.2.1 = .mo))]) d
            rw [List.filterMap_append]
            by_cases q : d = c
            · subst q; simp [up, toLv]
            · have q' : ¬ c = d := fun z => q z.symm
              simp [up, toLv, q, q']

theorem SInv.written {cf : Cfg} {nc nl : Nat} {s s' : Sys} {w : Words} (I : SInv cf nc nl s w) {c a : Nat} {x : Int} (hc : c < nc) (ha : a < w.length) (h : writtenS cf s c a x = some s') :
    SInv cf nc nl s' (w.set a x) ∧ ∃ e, fnd (s'.cache c).lines (a / cf.lw) = some e ∧ e.2.2[a % cf.lw]? = some x := by
  have hcl : c < s.caches.length := by rw [I.ncl]; exact hc
  unfold writtenS at h
  cases hr : wrW cf (s.cache c) a x with
  | none => rw [hr] at h; cases h
  | some k =>
    rw [hr] at h
    cases h
    unfold wrW at hr
    cases he : fnd (s.cache c).lines (a / cf.lw) with
    | none => rw [he] at hr; cases hr
    | some e =>
      rw [he] at hr
      simp only at hr
      split at hr
      · cases hr
      · rename_i hsh
        cases hr
        have hl : a / cf.lw < nl := by have := I.lin c e (fnd_line he).2; rw [(fnd_line he).1] at this; exact this
        have hP : (view cf s (a / cf.lw)).P c = some (e.2.1, e.2.2) := fl_some he
        have L := I.inv _ hl
        have hW : e.2.2 = memL cf w (a / cf.lw) := L.copy hP
        have hd : a / cf.lw * cf.lw + a % cf.lw = a := by rw [Nat.mul_comm]; exact Nat.div_add_mod a cf.lw
        have hm : a % cf.lw < cf.lw := Nat.mod_lt _ I.lwp
        have hlen : a % cf.lw < e.2.2.length := by rw [hW, memL_len]; omega
        refine ⟨I.cache_step (l0 := a / cf.lw) hc hl (by simp) (fun l hn => by rw [memL_set I.lwp ha, if_neg hn]) (fun y hy => ⟨by show fl (withE _ _) y = _; rw [fl_withE, if_neg hy], rfl, rfl⟩) (fun _ _ => ⟨rfl, fun _ => ⟨rfl, rfl⟩⟩) I.msg (fun z hz => ?_)
          (view_to hcl (v := { view cf s (a / cf.lw) with P := up (view cf s (a / cf.lw)).P c (some (.mo, splice e.2.2 (a % cf.lw) x)) }) ?_ ?_ ?_ rfl rfl rfl (fun _ => rfl) (fun _ => rfl)) ?_, ?_⟩
        · obtain ⟨y, hy, q⟩ := List.mem_map.mp hz
          split at q
          · rw [← q]; exact hl
          · rw [← q]; exact I.lin c y hy
        · show up _ c (fl (withE (s.cache c).lines (a / cf.lw, Ls.mo, splice e.2.2 (a % cf.lw) x)) (a / cf.lw)) = up _ c (some (.mo, splice e.2.2 (a % cf.lw) x))
          rw [fl_withE, if_pos rfl, fl_some he]; rfl
        · exact up_id _ _ _ rfl
        · exact up_id _ _ _ rfl
        · rw [memL_set I.lwp ha, if_pos rfl, ← hW]
          exact L.write hP hsh
        · refine ⟨(a / cf.lw, .mo, splice e.2.2 (a % cf.lw) x), ?_, ?_⟩
          · have : Sys.cache { s with caches := s.caches.set c { s.cache c with lines := withE (s.cache c).lines (a / cf.lw, .mo, splice e.2.2 (a % cf.lw) x) } } c = { s.cache c with lines := withE (s.cache c).lines (a / cf.lw, .mo, splice e.2.2 (a % cf.lw) x) } := by
              have := cache_set s c { s.cache c with lines := withE (s.cache c).lines (a / cf.lw, .mo, splice e.2.2 (a % cf.lw) x) } s.net c hcl
              rw [if_pos rfl] at this
              exact this
            rw [this]
            show fnd (withE (s.cache c).lines (a / cf.lw, Ls.mo, splice e.2.2 (a % cf.lw) x)) (a / cf.lw) = _
            rw [fnd_withE, if_pos rfl, he]; rfl
          · show (splice e.2.2 (a % cf.lw) x)[a % cf.lw]? = some x
            rw [splice_set x hlen, List.getElem?_set_self hlen]

/-- a message at its place in the network -/
structure At (s : Sys) (i : Nat) (m : Msg) (A B : List Msg) : Prop where
  net : s.net = A ++ m :: B
  a : s.net.take i = A
  b : s.net.drop (i + 1) = B
theorem at_of {s : Sys} {i : Nat} {m : Msg} (h : s.net[i]? = some m) : At s i m (s.net.take i) (s.net.drop (i + 1)) := ⟨net_split h, rfl, rfl⟩

theorem SInv.to_cache {cf : Cfg} {nc nl : Nat} {s : Sys} {w : Words} (I : SInv cf nc nl s w) {i : Nat} {m : Msg} (hi : s.net[i]? = some m) (ht : toCaches m = true) :
    ∃ r, cacheRecv (s.cache m.core) m = some r ∧ SInv cf nc nl { s with caches := s.caches.set m.core r.1, net := s.net.take i ++ s.net.drop (i + 1) ++ r.2 } w := by
  obtain ⟨hc, hl⟩ := I.msg m (List.mem_of_getElem? hi)
  have hcl : m.core < s.caches.length := by rw [I.ncl]; exact hc
  have old : ∀ x, x ∈ s.net.take i ++ s.net.drop (i + 1) → x.core < nc ∧ x.line < nl := fun x hx => by
    refine I.msg x ?_
    rcases List.mem_append.mp hx with q | q
    · exact List.mem_of_mem_take q
    · exact List.mem_of_mem_drop q
  have dl : ∀ ms : List Msg, (∀ x, x ∈ ms → x.line = m.line) → _ := fun ms h => net_del (s := s) hi rfl h
  have sp := net_split hi
  generalize hA : s.net.take i = A at *
  generalize hB : s.net.drop (i + 1) = B at *
  have L := I.inv m.line hl
  have hlinw : ∀ z, z ∈ wout (s.cache m.core).lines m.line → z.1 < nl := fun z hz => I.lin m.core z (List.mem_filter.mp hz).1
  cases m with
  | rq c l ex => cases ht
  | lv c l mm =>
    cases mm with
    | give ws d => cases ht
    | conf =>
      have hlv : (view cf s l).lv c = A.filterMap (toLv c l) ++ .conf :: B.filterMap (toLv c l) := by
        show s.net.filterMap (toLv c l) = _
        rw [sp]; simp [List.filterMap_append, List.filterMap_cons, toLv]
      refine ⟨_, rfl, I.cache_step (l0 := l) hc hl rfl (fun _ _ => rfl) (fun x hx => ⟨rfl, rfl, by show fl (wout _ _) x = _; rw [fl_wout, if_neg hx]⟩) (dl [] (by simp)) (fun x hx => old x (by simpa using hx)) (fun e he => I.lin c e he)
        (view_to hcl (v := { view cf s l with L := up (view cf s l).L c none, lv := up (view cf s l).lv c (A.filterMap (toLv c l) ++ B.filterMap (toLv c l)) }) ?_ ?_ ?_ rfl rfl ?_ (fun d => ?_) (fun d => ?_)) (L.confirmed hlv)⟩
      · exact up_id _ _ _ rfl
      · exact up_id _ _ _ rfl
      · show up _ c (fl (wout (s.cache c).leav l) l) = up _ c none
        rw [fl_wout, if_pos rfl]
      · show (A ++ B ++ []).filterMap (toSv l) = s.net.filterMap (toSv l)
        rw [sp]; simp [List.filterMap_append, List.filterMap_cons, toSv]
      · show (A ++ B ++ []).countP (isRq d l) = s.net.countP (isRq d l)
        rw [sp]; simp [List.countP_append, List.countP_cons, isRq]
      · show (A ++ B ++ []).filterMap (toLv d l) = up (fun c => s.net.filterMap (toLv c l)) c (A.filterMap (toLv c l) ++ B.filterMap (toLv c l)) d
        by_cases q : d = c
        · subst q; simp [up, List.filterMap_append]
        · have q' : ¬ c = d := fun z => q z.symm
          rw [sp]; simp [up, List.filterMap_append, List.filterMap_cons, toLv, q, q']
  | sv l mm =>
    -- a message of the service: one is taken, one is sent
    have hsv : (view cf s l).svc = A.filterMap (toSv l) ++ mm :: B.filterMap (toSv l) := by
      show s.net.filterMap (toSv l) = _
      rw [sp]; simp [List.filterMap_append, List.filterMap_cons, toSv]
    have e1 : ∀ y : Sv, (A ++ B ++ [Msg.sv l y]).filterMap (toSv l) = A.filterMap (toSv l) ++ B.filterMap (toSv l) ++ [y] := fun y => by
      simp [List.filterMap_append, List.filterMap_cons, toSv]
    have e2 : ∀ (y : Sv) d, (A ++ B ++ [Msg.sv l y]).countP (isRq d l) = s.net.countP (isRq d l) := fun y d => by
      rw [sp]; simp [List.countP_append, List.countP_cons, isRq]
    have e3 : ∀ (y : Sv) d, (A ++ B ++ [Msg.sv l y]).filterMap (toLv d l) = s.net.filterMap (toLv d l) := fun y d => by
      rw [sp]; simp [List.filterMap_append, List.filterMap_cons, toLv]
    have e4 : ∀ y : Sv, y.core < nc → ∀ x, x ∈ A ++ B ++ [Msg.sv l y] → x.core < nc ∧ x.line < nl := fun y hy x hx => by
      rcases List.mem_append.mp hx with q | q
      · exact old x q
      · simp at q; subst q; exact ⟨hy, hl⟩
    cases mm with
    | invd c => cases ht
    | ret c ws d => cases ht
    | rcv c => cases ht
    | inv c =>
      refine ⟨_, rfl, I.cache_step (l0 := l) hc hl rfl (fun _ _ => rfl) (fun x hx => ⟨by show fl (wout _ _) x = _; rw [fl_wout, if_neg hx], rfl, rfl⟩) (dl _ (by simp [Msg.line])) (e4 _ hc) hlinw
        (view_to hcl (v := { view cf s l with P := up (view cf s l).P c none, svc := A.filterMap (toSv l) ++ B.filterMap (toSv l) ++ [.invd c] }) ?_ ?_ ?_ rfl rfl (e1 _) (e2 _) (e3 _)) (L.inv hsv)⟩
      · show up _ c (fl (wout (s.cache c).lines l) l) = up _ c none
        rw [fl_wout, if_pos rfl]
      · exact up_id _ _ _ rfl
      · exact up_id _ _ _ rfl
    | grant c st ws =>
      refine ⟨_, rfl, I.cache_step (l0 := l) hc hl rfl (fun _ _ => rfl) (fun x hx => ⟨?_, ?_, rfl⟩) (dl _ (by simp [Msg.line])) (e4 _ hc) (fun e he => ?_)
        (view_to hcl (v := { view cf s l with P := up (view cf s l).P c (some (st, ws)), R := up (view cf s l).R c false, svc := A.filterMap (toSv l) ++ B.filterMap (toSv l) ++ [.rcv c] }) ?_ ?_ ?_ rfl rfl (e1 _) (e2 _) (e3 _)) (L.granted hsv)⟩
      · show fl (wout (s.cache c).lines l ++ [(l, st, ws)]) x = _
        rw [fl_app, fl_wout, if_neg hx, if_neg (fun q => hx q.symm)]; simp; rfl
      · show (fnd (wout (s.cache c).req l) x).isSome = _
        rw [fnd_wout, if_neg hx]; rfl
      · rcases List.mem_append.mp he with q | q
        · exact hlinw e q
        · simp at q; subst q; exact hl
      · show up _ c (fl (wout (s.cache c).lines l ++ [(l, st, ws)]) l) = up _ c (some (st, ws))
        rw [fl_app, fl_wout, if_pos rfl, if_pos rfl]; rfl
      · show up _ c (fnd (wout (s.cache c).req l) l).isSome = up _ c false
        rw [fnd_wout, if_pos rfl]; rfl
      · exact up_id _ _ _ rfl
    | recall c keep =>
      cases he : fnd (s.cache c).lines l with
      | some e =>
        have hP : (view cf s l).P c = some (e.2.1, e.2.2) := fl_some he
        refine ⟨({ s.cache c with lines := if keep = true then withE (s.cache c).lines (l, .sh, e.2.2) else wout (s.cache c).lines l }, [.sv l (.ret c e.2.2 (decide (e.2.1 = .mo)))]), ?_, I.cache_step (l0 := l) hc hl rfl (fun _ _ => rfl) (fun x hx => ⟨?_, rfl, rfl⟩) (dl _ (by simp [Msg.line])) (e4 _ hc) (fun z hz => ?_)
          (view_to hcl (v := { view cf s l with P := up (view cf s l).P c (if keep = true then some (.sh, e.2.2) else none), svc := A.filterMap (toSv l) ++ B.filterMap (toSv l) ++ [.ret c e.2.2 (decide (e.2.1 = .mo))] }) ?_ ?_ ?_ rfl rfl (e1 _) (e2 _) (e3 _)) (L.recalled hsv hP)⟩
        · show afterRecall (s.cache c) c l keep = _
          unfold afterRecall
          rw [he]
        · show fl (if keep = true then withE (s.cache c).lines (l, Ls.sh, e.2.2) else wout (s.cache c).lines l) x = _
          cases keep with
          | true => rw [if_pos rfl, fl_withE, if_neg hx]; rfl
          | false => rw [if_neg (by simp), fl_wout, if_neg hx]; rfl
        · have hz' : z ∈ (if keep = true then withE (s.cache c).lines (l, Ls.sh, e.2.2) else wout (s.cache c).lines l) := hz
          cases keep with
          | true =>
            rw [if_pos rfl] at hz'
            obtain ⟨y, hy, q⟩ := List.mem_map.mp hz'
            split at q
            · rw [← q]; exact hl
            · rw [← q]; exact I.lin c y hy
          | false => rw [if_neg (by simp)] at hz'; exact hlinw z hz'
        · show up _ c (fl (if keep = true then withE (s.cache c).lines (l, Ls.sh, e.2.2) else wout (s.cache c).lines l) l) = up _ c (if keep = true then some (.sh, e.2.2) else none)
          cases keep with
          | true => rw [if_pos rfl, if_pos rfl, fl_withE, if_pos rfl, fl_some he]; rfl
          | false => rw [if_neg (by simp), if_neg (by simp), fl_wout, if_pos rfl]
        · exact up_id _ _ _ rfl
        · exact up_id _ _ _ rfl
      | none =>
        obtain ⟨ws, d, hL, hI⟩ := L.recalledL hsv (fl_none he)
        obtain ⟨z, hz⟩ : ∃ z, fnd (s.cache c).leav l = some (l, some ws, d) ∧ z = 0 := by
          have hL' : fl (s.cache c).leav l = some (some ws, d) := hL
          unfold fl at hL'
          cases q : fnd (s.cache c).leav l with
          | none => rw [q] at hL'; cases hL'
          | some e =>
            rw [q] at hL'
            have h1 := (fnd_line q).1
            obtain ⟨e1, e2⟩ := e
            simp at hL' h1
            subst h1 hL'
            exact ⟨0, rfl, rfl⟩
        have hz := hz.1
        refine ⟨({ s.cache c with leav := withE (s.cache c).leav (l, none, d) }, [.sv l (.ret c ws d)]), ?_, I.cache_step (l0 := l) hc hl rfl (fun _ _ => rfl) (fun x hx => ⟨rfl, rfl, ?_⟩) (dl _ (by simp [Msg.line])) (e4 _ hc) (fun e he => I.lin c e he)
          (view_to hcl (v := { view cf s l with L := up (view cf s l).L c (some (none, d)), svc := A.filterMap (toSv l) ++ B.filterMap (toSv l) ++ [.ret c ws d] }) ?_ ?_ ?_ rfl rfl (e1 _) (e2 _) (e3 _)) hI⟩
        · show afterRecall (s.cache c) c l keep = _
          unfold afterRecall
          rw [he, hz]
        · show fl (withE (s.cache c).leav (l, none, d)) x = _
          rw [fl_withE, if_neg hx]; rfl
        · exact up_id _ _ _ rfl
        · exact up_id _ _ _ rfl
        · show up _ c (fl (withE (s.cache c).leav (l, none, d)) l) = up _ c (some (none, d))
          rw [fl_withE, if_pos rfl, fl_some hz]; rfl

theorem grantH_hom {nc : Nat} {excl : Bool} {h : Home} (h1 : ∀ o, h.owner = some o → o < nc) (h2 : ∀ x, x ∈ h.sharers → x < nc) (h3 : ∀ sv, h.serving = some sv → sv.core < nc) :
    ((∀ o, (grantH excl h).1.owner = some o → o < nc) ∧ (∀ x, x ∈ (grantH excl h).1.sharers → x < nc) ∧ ∀ sv, (grantH excl h).1.serving = some sv → sv.core < nc) ∧ ∀ m, m ∈ (grantH excl h).2 → m.core < nc := by
  unfold grantH
  cases hs : h.serving with
  | none => exact ⟨⟨h1, h2, fun sv q => by rw [hs] at q; cases q⟩, fun m hm => by simp at hm⟩
  | some s =>
    have hc := h3 s hs
    simp only
    split
    · exact ⟨⟨h1, h2, fun sv q => by rw [hs] at q; cases q; exact hc⟩, fun m hm => by simp at hm⟩
    · split
      · exact ⟨⟨h1, h2, fun sv q => by rw [hs] at q; cases q; exact hc⟩, fun m hm => by simp at hm⟩
      · split
        · exact ⟨⟨fun o q => by simp at q; omega, fun x q => by simp at q, fun sv q => by simp at q; subst q; exact hc⟩, fun m hm => by simp at hm; subst hm; exact hc⟩
        · split
          · exact ⟨⟨fun o q => by simp at q; omega, h2, fun sv q => by simp at q; subst q; exact hc⟩, fun m hm => by simp at hm; subst hm; exact hc⟩
          · split
            · exact ⟨⟨h1, h2, fun sv q => by simp at q; subst q; exact hc⟩, fun m hm => by simp at hm; subst hm; exact hc⟩
            · exact ⟨⟨h1, fun x q => by simp at q; rcases q with q | q; exact h2 x q; omega, fun sv q => by simp at q; subst q; exact hc⟩, fun m hm => by simp at hm; subst hm; exact hc⟩
theorem begunH_hom {nc : Nat} {h : Home} {mem : Words} {c : Nat} {ex : Bool} (hc : c < nc) (h1 : ∀ o, h.owner = some o → o < nc) (h2 : ∀ x, x ∈ h.sharers → x < nc) :
    ((∀ o, (begunH h mem c ex).1.owner = some o → o < nc) ∧ (∀ x, x ∈ (begunH h mem c ex).1.sharers → x < nc) ∧ ∀ sv, (begunH h mem c ex).1.serving = some sv → sv.core < nc) ∧ ∀ m, m ∈ (begunH h mem c ex).2 → m.core < nc := by
  unfold begunH
  cases ho : h.owner with
  | some o =>
    refine ⟨⟨fun o' q => h1 o' (by simpa [ho] using q), h2, fun sv q => by simp at q; subst q; exact hc⟩, fun m hm => ?_⟩
    simp at hm; subst hm; exact h1 o ho
  | none =>
    refine ⟨⟨fun o' q => h1 o' (by simpa [ho] using q), h2, fun sv q => by simp at q; subst q; exact hc⟩, fun m hm => ?_⟩
    simp only [List.mem_map] at hm
    obtain ⟨x, hx, rfl⟩ := hm
    refine h2 x ?_
    split at hx
    · exact (List.mem_filter.mp hx).1
    · simp at hx

theorem SInv.to_home {cf : Cfg} {nc nl : Nat} {s : Sys} {w : Words} (I : SInv cf nc nl s w) {i : Nat} {m : Msg} (hi : s.net[i]? = some m) (ht : toCaches m = false) (hr : canRecv (s.home m.line) m = true) :
    ∃ r, homeRecv cf (s.home m.line) (memL cf s.mem m.line) m = some r ∧ r.2.1.length = (memL cf s.mem m.line).length ∧
      SInv cf nc nl { caches := s.caches, homes := s.homes.set m.line r.1, mem := memPut cf s.mem m.line r.2.1, net := s.net.take i ++ s.net.drop (i + 1) ++ r.2.2 } w := by
  obtain ⟨hc, hl⟩ := I.msg m (List.mem_of_getElem? hi)
  obtain ⟨ho1, ho2, ho3⟩ := I.hom m.line
  have hll : m.line < s.homes.length := by rw [I.nh]; exact hl
  have old : ∀ x, x ∈ s.net.take i ++ s.net.drop (i + 1) → x.core < nc ∧ x.line < nl := fun x hx => by
    refine I.msg x ?_
    rcases List.mem_append.mp hx with q | q
    · exact List.mem_of_mem_take q
    · exact List.mem_of_mem_drop q
  have dl : ∀ ms : List Msg, (∀ x, x ∈ ms → x.line = m.line) → _ := fun ms h => net_del (s := s) hi rfl h
  have sp := net_split hi
  generalize hA : s.net.take i = A at *
  generalize hB : s.net.drop (i + 1) = B at *
  have L := I.inv m.line hl
  have hlen : (memL cf w m.line).length = (memL cf s.mem m.line).length := by rw [memL_len, memL_len, I.nm]
  have msg : ∀ ms : List Msg, (∀ x, x ∈ ms → x.core < nc ∧ x.line = m.line) → ∀ x, x ∈ A ++ B ++ ms → x.core < nc ∧ x.line < nl := fun ms h x hx => by
    rcases List.mem_append.mp hx with q | q
    · exact old x q
    · have := h x q; exact ⟨this.1, by rw [this.2]; exact hl⟩
  have svm : ∀ l (ms : List Sv), (∀ y, y ∈ ms → y.core < nc) → ∀ x, x ∈ ms.map (Msg.sv l) → x.core < nc ∧ x.line = l := fun l ms h x hx => by
    obtain ⟨y, hy, rfl⟩ := List.mem_map.mp hx
    exact ⟨h y hy, rfl⟩
  cases m with
  | lv c l mm =>
    cases mm with
    | conf => cases ht
    | give ws d =>
      have hlv : (view cf s l).lv c = A.filterMap (toLv c l) ++ .give ws d :: B.filterMap (toLv c l) := by
        show s.net.filterMap (toLv c l) = _
        rw [sp]; simp [List.filterMap_append, List.filterMap_cons, toLv]
      have hsv : (view cf s l).h.serving = none := by
        have : ((s.home l).serving.isNone || !waits (.lv c l (.give ws d))) = true := hr
        simp [waits] at this
        exact this
      obtain ⟨g1, g2⟩ := L.given hsv hlv
      have hws : (if (s.home l).owner = some c ∧ d = true then ws else memL cf s.mem l).length = (memL cf s.mem l).length := by
        split
        · rename_i q; rw [g2 q.1]; exact hlen
        · rfl
      refine ⟨_, rfl, hws, I.home_step (l0 := l) hl hws (dl _ (by simp [Msg.line])) (msg _ (fun x hx => by simp at hx; subst hx; exact ⟨hc, rfl⟩)) ⟨fun o q => ?_, ho2, fun sv q => by cases q⟩ g1 rfl rfl rfl rfl rfl ?_ (fun d' => ?_) (fun d' => ?_)⟩
      · have q' : (if (s.home l).owner = some c then none else (s.home l).owner) = some o := q
        split at q'
        · cases q'
        · exact ho1 o q'
      · show (A ++ B ++ [Msg.lv c l .conf]).filterMap (toSv l) = s.net.filterMap (toSv l)
        rw [sp]; simp [List.filterMap_append, List.filterMap_cons, toSv]
      · show (A ++ B ++ [Msg.lv c l .conf]).countP (isRq d' l) = s.net.countP (isRq d' l)
        rw [sp]; simp [List.countP_append, List.countP_cons, isRq]
      · show (A ++ B ++ [Msg.lv c l .conf]).filterMap (toLv d' l) = up (fun c => s.net.filterMap (toLv c l)) c (A.filterMap (toLv c l) ++ B.filterMap (toLv c l) ++ [.conf]) d'
        by_cases q : d' = c
        · subst q; simp [up, List.filterMap_append, toLv]
        · have q' : ¬ c = d' := fun z => q z.symm
          rw [sp]; simp [up, List.filterMap_append, List.filterMap_cons, toLv, q, q']
  | rq c l ex =>
    have hsv : (view cf s l).h.serving = none := by
      have : ((s.home l).serving.isNone || !waits (.rq c l ex)) = true := hr
      simp [waits] at this
      exact this
    have hq : 0 < (view cf s l).nreq c := by
      show 0 < s.net.countP (isRq c l)
      rw [sp]; simp [List.countP_append, List.countP_cons, isRq]; omega
    have g := L.served cf.excl ex hsv hq
    have b := begunH_hom (mem := memL cf s.mem l) (ex := ex) hc ho1 ho2
    have gr := grantH_hom (excl := cf.excl) b.1.1 b.1.2.1 b.1.2.2
    have hms : ∀ y, y ∈ (reqH cf.excl (s.home l) (memL cf s.mem l) c ex).2 → y.core < nc := fun y hy => by
      rcases List.mem_append.mp hy with q | q
      · exact b.2 y q
      · exact gr.2 y q
    refine ⟨_, rfl, rfl, I.home_step (l0 := l) hl rfl (dl _ (fun x hx => (svm l _ hms x hx).2)) (msg _ (svm l _ hms)) gr.1 g rfl rfl rfl rfl rfl ?_ (fun d' => ?_) (fun d' => ?_)⟩
    · show (A ++ B ++ (reqH cf.excl (s.home l) (memL cf s.mem l) c ex).2.map (Msg.sv l)).filterMap (toSv l) = s.net.filterMap (toSv l) ++ (reqH cf.excl (s.home l) (memL cf s.mem l) c ex).2
      rw [sp]; simp [List.filterMap_append, List.filterMap_cons, toSv, List.filterMap_map, Function.comp_def]
    · show (A ++ B ++ (reqH cf.excl (s.home l) (memL cf s.mem l) c ex).2.map (Msg.sv l)).countP (isRq d' l) = up (fun c => s.net.countP (isRq c l)) c (s.net.countP (isRq c l) - 1) d'
      have z : ((reqH cf.excl (s.home l) (memL cf s.mem l) c ex).2.map (Msg.sv l)).countP (isRq d' l) = 0 := by
        rw [List.countP_eq_zero]; intro x hx; obtain ⟨y, _, rfl⟩ := List.mem_map.mp hx; simp [isRq]
      rw [List.countP_append, z]
      by_cases q : d' = c
      · subst q; rw [sp]; simp [up, List.countP_append, List.countP_cons, isRq]
      · have q' : ¬ c = d' := fun z => q z.symm
        rw [sp]; simp [up, List.countP_append, List.countP_cons, isRq, q, q']
    · show (A ++ B ++ (reqH cf.excl (s.home l) (memL cf s.mem l) c ex).2.map (Msg.sv l)).filterMap (toLv d' l) = s.net.filterMap (toLv d' l)
      rw [sp]; simp [List.filterMap_append, List.filterMap_cons, toLv, List.filterMap_map, Function.comp_def]
  | sv l mm =>
    have hsv : (view cf s l).svc = A.filterMap (toSv l) ++ mm :: B.filterMap (toSv l) := by
      show s.net.filterMap (toSv l) = _
      rw [sp]; simp [List.filterMap_append, List.filterMap_cons, toSv]
    have e1 : ∀ ys : List Sv, (A ++ B ++ ys.map (Msg.sv l)).filterMap (toSv l) = A.filterMap (toSv l) ++ B.filterMap (toSv l) ++ ys := fun ys => by
      simp [List.filterMap_append, List.filterMap_cons, toSv, List.filterMap_map, Function.comp_def]
    have e2 : ∀ (ys : List Sv) d, (A ++ B ++ ys.map (Msg.sv l)).countP (isRq d l) = s.net.countP (isRq d l) := fun ys d => by
      have z : (ys.map (Msg.sv l)).countP (isRq d l) = 0 := by
        rw [List.countP_eq_zero]; intro x hx; obtain ⟨y, _, rfl⟩ := List.mem_map.mp hx; simp [isRq]
      rw [List.countP_append, z, sp]; simp [List.countP_append, List.countP_cons, isRq]
    have e3 : ∀ (ys : List Sv) d, (A ++ B ++ ys.map (Msg.sv l)).filterMap (toLv d l) = s.net.filterMap (toLv d l) := fun ys d => by
      rw [sp]; simp [List.filterMap_append, List.filterMap_cons, toLv, List.filterMap_map, Function.comp_def]
    cases mm with
    | inv c => cases ht
    | recall c k => cases ht
    | grant c st ws => cases ht
    | rcv c =>
      exact ⟨_, rfl, rfl, I.home_step (l0 := l) hl rfl (dl [] (by simp)) (msg [] (by simp)) ⟨ho1, ho2, fun sv q => by cases q⟩ (L.received hsv) rfl rfl rfl rfl rfl (by have := e1 []; rw [List.append_nil] at this; exact this) (e2 []) (e3 [])⟩
    | invd c =>
      obtain ⟨g, sv, hs⟩ := L.invalidated cf.excl hsv
      have hsi : (s.home l).serving.isSome = true := by
        have : (s.home l).serving = some sv := hs
        rw [this]; rfl
      have hin : ∀ o, (invalidatedH (s.home l) c).owner = some o → o < nc := ho1
      have gr := grantH_hom (excl := cf.excl) (h := invalidatedH (s.home l) c) ho1 (fun x hx => ho2 x (List.mem_filter.mp hx).1) (fun s' q => by
        unfold invalidatedH at q
        simp only [Option.map_eq_some_iff] at q
        obtain ⟨s0, h0, rfl⟩ := q
        exact ho3 s0 h0)
      refine ⟨((invdH cf.excl (s.home l) c).1, memL cf s.mem l, (invdH cf.excl (s.home l) c).2.map (.sv l)), ?_, rfl, I.home_step (l0 := l) hl rfl (dl _ (fun x hx => (svm l _ gr.2 x hx).2)) (msg _ (svm l _ gr.2)) gr.1 g rfl rfl rfl rfl rfl (e1 _) (e2 _) (e3 _)⟩
      show (if (s.home l).serving.isSome = true then some ((invdH cf.excl (s.home l) c).1, memL cf s.mem l, (invdH cf.excl (s.home l) c).2.map (Msg.sv l)) else none) = _
      rw [if_pos hsi]
    | ret c ws d =>
      obtain ⟨g, hws, sv, hs⟩ := L.returned cf.excl hsv
      have hsi : (s.home l).serving = some sv := hs
      have hlen' : (if d = true then ws else memL cf s.mem l).length = (memL cf s.mem l).length := by
        split
        · rw [hws]; exact hlen
        · rfl
      have gr := grantH_hom (nc := nc) (excl := cf.excl) (h := returnedH (s.home l) c ws) (fun o q => by unfold returnedH at q; rw [hsi] at q; cases q) (fun x q => by
          unfold returnedH at q; rw [hsi] at q
          have q' : x ∈ (if sv.ex = true then [] else [c]) := q
          split at q'
          · simp at q'
          · simp at q'; subst q'; exact hc) (fun s' q => by
        unfold returnedH at q; rw [hsi] at q
        have := Option.some.inj q
        subst this
        exact ho3 sv hsi)
      refine ⟨((retH cf.excl (s.home l) c ws).1, if d = true then ws else memL cf s.mem l, (retH cf.excl (s.home l) c ws).2.map (.sv l)), ?_, hlen', I.home_step (l0 := l) hl hlen' (dl _ (fun x hx => (svm l _ gr.2 x hx).2)) (msg _ (svm l _ gr.2)) gr.1 g rfl rfl rfl rfl rfl (e1 _) (e2 _) (e3 _)⟩
      show (if (s.home l).serving.isSome = true then some ((retH cf.excl (s.home l) c ws).1, (if d = true then ws else memL cf s.mem l), (retH cf.excl (s.home l) c ws).2.map (Msg.sv l)) else none) = _
      rw [if_pos (by rw [hsi]; rfl)]

/-! ### what is read -/
def isWordOf (o l : Nat) : Msg → Bool
  | .sv x (.grant c _ _) => c == o && x == l
  | .sv x (.ret c _ _) => c == o && x == l
  | _ => false
def wordsOf : Msg → Words
  | .sv _ (.grant _ _ ws) => ws
  | .sv _ (.ret _ ws _) => ws
  | _ => []
def carriedW (net : List Msg) (o l : Nat) : Option Words := (net.find? (isWordOf o l)).map wordsOf
def cohW (cf : Cfg) (s : Sys) (l : Nat) : Option Words := match (s.home l).owner with
  | none => some (memL cf s.mem l)
  | some o => match fnd (s.cache o).lines l with
    | some e => some e.2.2
    | none => match fnd (s.cache o).leav l with
      | some (_, some ws, _) => some ws
      | _ => carriedW s.net o l
theorem SInv.coh {cf : Cfg} {nc nl : Nat} {s : Sys} {w : Words} (I : SInv cf nc nl s w) {l : Nat} (hl : l < nl) : cohW cf s l = some (memL cf w l) := by
  have L := I.inv l hl
  unfold cohW
  cases ho : (s.home l).owner with
  | none =>
    have : memL cf s.mem l = memL cf w l := L.noOwner ho
    simp only [this]
  | some o =>
    simp only
    cases he : fnd (s.cache o).lines l with
    | some e =>
      have : e.2.2 = memL cf w l := L.copy (c := o) (st := e.2.1) (fl_some he)
      simp only [this]
    | none =>
      simp only
      have car : (∀ ws d, (view cf s l).L o ≠ some (some ws, d)) → carriedW s.net o l = some (memL cf w l) := by
        intro hn
        have hs := L.carried ho (fl_none he) hn
        have hin : ∀ m, m ∈ s.net → isWordOf o l m = true → wordsOf m = memL cf w l := by
          intro m hm hw
          cases m with
          | rq _ _ _ => cases hw
          | lv _ _ _ => cases hw
          | sv x y =>
            have hxl : x = l := by
              cases y <;> simp [isWordOf] at hw
              · exact hw.2
              · exact hw.2
            have hy : y ∈ (view cf s l).svc := List.mem_filterMap.mpr ⟨_, hm, by simp [toSv, hxl]⟩
            rcases hs with ⟨st, e⟩ | ⟨d, e⟩
            · rw [e] at hy; simp at hy; subst hy; rfl
            · rw [e] at hy; simp at hy; subst hy; rfl
        have hex : ∃ m, m ∈ s.net ∧ isWordOf o l m = true := by
          have : ∃ y, y ∈ (view cf s l).svc ∧ (∃ st ws, y = Sv.grant o st ws) ∨ ∃ y, y ∈ (view cf s l).svc ∧ ∃ ws d, y = Sv.ret o ws d := by
            rcases hs with ⟨st, e⟩ | ⟨d, e⟩
            · exact ⟨.grant o st (memL cf w l), .inl ⟨by rw [e]; simp, _, _, rfl⟩⟩
            · exact ⟨.rcv 0, .inr ⟨.ret o (memL cf w l) d, by rw [e]; simp, _, _, rfl⟩⟩
          obtain ⟨_, ⟨hy, st, ws, rfl⟩ | ⟨y, hy, ws, d, rfl⟩⟩ := this
          all_goals
            obtain ⟨m, hm, hmv⟩ := List.mem_filterMap.mp hy
            refine ⟨m, hm, ?_⟩
            cases m <;> simp [toSv] at hmv
            obtain ⟨rfl, rfl⟩ := hmv
            simp [isWordOf]
        unfold carriedW
        cases hf : s.net.find? (isWordOf o l) with
        | none =>
          obtain ⟨m, hm, hw⟩ := hex
          have := List.find?_eq_none.mp hf m hm
          exact absurd hw this
        | some m =>
          have h1 := List.find?_some hf
          have h2 := List.mem_of_find?_eq_some hf
          rw [Option.map_some, hin m h2 h1]
      cases hv : fnd (s.cache o).leav l with
      | none =>
        simp only
        exact car fun ws d q => by have q' : fl (s.cache o).leav l = _ := q; rw [fl_none hv] at q'; cases q'
      | some e =>
        obtain ⟨e1, e2, e3⟩ := e
        cases e2 with
        | none =>
          simp only
          exact car fun ws d q => by have q' : fl (s.cache o).leav l = _ := q; rw [fl_some hv] at q'; cases q'
        | some ws =>
          simp only
          have : (view cf s l).L o = some (some ws, e3) := fl_some hv
          rw [L.left ho this]
/-- every copy -/
theorem SInv.copy {cf : Cfg} {nc nl : Nat} {s : Sys} {w : Words} (I : SInv cf nc nl s w) {c l : Nat} {e : Nat × Ls × Words} (h : fnd (s.cache c).lines l = some e) : l < nl ∧ e.2.2 = memL cf w l := by
  have hl : l < nl := by have := I.lin c e (fnd_line h).2; rw [(fnd_line h).1] at this; exact this
  exact ⟨hl, (I.inv l hl).copy (c := c) (st := e.2.1) (fl_some h)⟩
/-- the word of an address in its line -/
theorem memL_at {cf : Cfg} {w : Words} {a : Nat} (hw : 0 < cf.lw) : (memL cf w (a / cf.lw))[a % cf.lw]? = w[a]? := by
  rw [memL_get, if_pos (Nat.mod_lt _ hw)]
  congr 1
  rw [Nat.mul_comm]; exact Nat.div_add_mod a cf.lw
theorem SInv.start {cf : Cfg} {nc : Nat} {w : Words} (hlw : 0 < cf.lw) : SInv cf nc ((w.length + cf.lw - 1) / cf.lw) (startSys cf nc w) w := by
  have hc : ∀ c, (startSys cf nc w).cache c = .empty := fun c => by
    unfold startSys Sys.cache
    simp only [List.getElem?_replicate]
    split <;> rfl
  have hh : ∀ l, (startSys cf nc w).home l = hStart := fun l => by
    unfold startSys Sys.home
    simp only [List.getElem?_replicate]
    split <;> rfl
  refine ⟨by simp [startSys], by simp [startSys], rfl, hlw, ?_, fun l hl => ?_, fun m hm => by simp [startSys] at hm, fun c e he => by rw [hc] at he; simp [Cache.empty] at he, fun l => by rw [hh]; simp [hStart], fun l hl => ?_⟩
  · have := Nat.div_add_mod (w.length + cf.lw - 1) cf.lw
    have h2 := Nat.mod_lt (w.length + cf.lw - 1) hlw
    rw [Nat.mul_comm] at this
    omega
  · have h1 : (l + 1) * cf.lw ≤ (w.length + cf.lw - 1) / cf.lw * cf.lw := Nat.mul_le_mul_right _ hl
    have h2 := Nat.div_mul_le_self (w.length + cf.lw - 1) cf.lw
    rw [Nat.add_mul, Nat.one_mul] at h1
    omega
  · have e : view cf (startSys cf nc w) l = LS.ini (memL cf w l) := by
      unfold view LS.ini
      simp only [hc, hh]
      rfl
    rw [e]
    exact ini_ok _

/-! ### sizes -/
structure Bd (k : Nat) (s : Sys) : Prop where
  c : ∀ c, (s.cache c).lines.length ≤ k ∧ (s.cache c).req.length ≤ k ∧ (s.cache c).leav.length ≤ k
  h : ∀ l, (s.home l).sharers.length ≤ k ∧ ∀ sv, (s.home l).serving = some sv → sv.aw.length ≤ k
  n : s.net.length ≤ k * k + k
theorem Bd.mono {k : Nat} {s : Sys} (b : Bd k s) : Bd (k + 1) s := by
  refine ⟨fun c => ?_, fun l => ?_, ?_⟩
  · have := b.c c; omega
  · have := b.h l; exact ⟨by omega, fun sv q => by have := this.2 sv q; omega⟩
  · have := b.n
    have e : (k + 1) * (k + 1) + (k + 1) = k * k + k + (2 * k + 2) := by
      rw [Nat.add_mul, Nat.mul_add]; omega
    omega
theorem sq_step {k n : Nat} (h : n ≤ k * k + k + (k + 1)) : n ≤ (k + 1) * (k + 1) + (k + 1) := by
  have e : (k + 1) * (k + 1) + (k + 1) = k * k + k + (2 * k + 2) := by
    rw [Nat.add_mul, Nat.mul_add]; omega
  omega
theorem Bd.caches {k : Nat} {s : Sys} (b : Bd k s) {c : Nat} {ca : Cache} {n : List Msg} (h1 : ca.lines.length ≤ k + 1 ∧ ca.req.length ≤ k + 1 ∧ ca.leav.length ≤ k + 1) (h2 : n.length ≤ k * k + k + (k + 1)) : Bd (k + 1) { s with caches := s.caches.set c ca, net := n } := by
  refine ⟨fun d => ?_, b.mono.h, sq_step h2⟩
  have := b.mono.c d
  unfold Sys.cache at this ⊢
  simp only
  rw [List.getElem?_set]
  split
  · split
    · exact h1
    · simp [Cache.empty]
  · exact this
theorem Bd.homes {k : Nat} {s : Sys} (b : Bd k s) {l : Nat} {h : Home} {mm : Words} {n : List Msg} (h1 : h.sharers.length ≤ k + 1 ∧ ∀ sv, h.serving = some sv → sv.aw.length ≤ k + 1) (h2 : n.length ≤ k * k + k + (k + 1)) : Bd (k + 1) { caches := s.caches, homes := s.homes.set l h, mem := mm, net := n } := by
  refine ⟨b.mono.c, fun d => ?_, sq_step h2⟩
  have := b.mono.h d
  unfold Sys.home at this ⊢
  simp only
  rw [List.getElem?_set]
  split
  · split
    · exact h1
    · simp [hStart]
  · exact this
theorem Bd.start {cf : Cfg} {nc : Nat} {w : Words} : Bd 0 (startSys cf nc w) := by
  refine ⟨fun c => ?_, fun l => ?_, by simp [startSys]⟩
  · unfold startSys Sys.cache
    simp only [List.getElem?_replicate]
    split <;> simp [Cache.empty]
  · unfold startSys Sys.home
    simp only [List.getElem?_replicate]
    split <;> simp [hStart]
theorem Bd.requested {cf : Cfg} {k : Nat} {s s' : Sys} (b : Bd k s) {c l : Nat} {ex : Bool} (h : requested cf s c l ex = some s') : Bd (k + 1) s' := by
  unfold Lit.requested at h
  have hb := b.c c
  have hn := b.n
  cases hr : reqLine cf (s.cache c) c l ex with
  | none => rw [hr] at h; cases h
  | some r =>
    rw [hr] at h
    cases h
    have : r = ({ s.cache c with req := (s.cache c).req ++ [(l, ex)] }, [.rq c l ex]) := by
      unfold reqLine at hr
      repeat' split at hr
      all_goals first | cases hr; done | (cases hr; rfl)
    subst this
    exact b.caches ⟨by simp; omega, by simp; omega, by simp; omega⟩ (by simp; omega)
theorem wout_len {α : Type} (xs : List (Nat × α)) (l : Nat) : (wout xs l).length ≤ xs.length := List.length_filter_le _ _
theorem Bd.evicted {k : Nat} {s s' : Sys} (b : Bd k s) {c l : Nat} (h : evicted s c l = some s') : Bd (k + 1) s' := by
  unfold Lit.evicted at h
  have hb := b.c c
  have hn := b.n
  have hw := wout_len (s.cache c).lines l
  cases hr : giveLine (s.cache c) c l with
  | none => rw [hr] at h; cases h
  | some r =>
    rw [hr] at h
    cases h
    unfold giveLine at hr
    split at hr
    · cases hr
    · split at hr
      · cases hr
      · split at hr
        · cases hr
          exact b.caches ⟨by simp; omega, by simp; omega, by simp; omega⟩ (by simp; omega)
        · cases hr
          exact b.caches ⟨by simp; omega, by simp; omega, by simp; omega⟩ (by simp; omega)
theorem Bd.written {cf : Cfg} {k : Nat} {s s' : Sys} (b : Bd k s) {c a : Nat} {x : Int} (h : writtenS cf s c a x = some s') : Bd (k + 1) s' := by
  unfold writtenS at h
  have hb := b.c c
  have hn := b.n
  cases hr : wrW cf (s.cache c) a x with
  | none => rw [hr] at h; cases h
  | some r =>
    rw [hr] at h
    cases h
    unfold wrW at hr
    split at hr
    · cases hr
    · split at hr
      · cases hr
      · cases hr
        exact b.caches (n := s.net) ⟨by simp [withE]; omega, by simp; omega, by simp; omega⟩ (by omega)
theorem net_len {s : Sys} {i : Nat} {m : Msg} (h : s.net[i]? = some m) : (s.net.take i ++ s.net.drop (i + 1)).length + 1 = s.net.length := by
  have := (List.getElem?_eq_some_iff.mp h).1
  simp; omega
theorem grantH_bd {k : Nat} {excl : Bool} {h : Home} (h1 : h.sharers.length ≤ k) (h2 : ∀ sv, h.serving = some sv → sv.aw.length ≤ k) : ((grantH excl h).1.sharers.length ≤ k + 1 ∧ ∀ sv, (grantH excl h).1.serving = some sv → sv.aw.length ≤ k + 1) ∧ (grantH excl h).2.length ≤ 1 := by
  unfold grantH
  cases hs : h.serving with
  | none => exact ⟨⟨by simp only; omega, fun sv q => by simp only [hs] at q; cases q⟩, by simp⟩
  | some s =>
    have ha := h2 s hs
    simp only
    split
    · exact ⟨⟨by simp only; omega, fun sv q => by simp only [hs] at q; cases q; omega⟩, by simp⟩
    · split
      · exact ⟨⟨by simp only; omega, fun sv q => by simp only [hs] at q; cases q; omega⟩, by simp⟩
      · split
        · exact ⟨⟨by simp, fun sv q => by simp at q; subst q; simp only; omega⟩, by simp⟩
        · split
          · exact ⟨⟨by simp only; omega, fun sv q => by simp at q; subst q; simp only; omega⟩, by simp⟩
          · split
            · exact ⟨⟨by simp only; omega, fun sv q => by simp at q; subst q; simp only; omega⟩, by simp⟩
            · exact ⟨⟨by simp; omega, fun sv q => by simp at q; subst q; simp only; omega⟩, by simp⟩
theorem Bd.delivered {cf : Cfg} {k : Nat} {s s' : Sys} (b : Bd k s) {i : Nat} {m : Msg} (hi : s.net[i]? = some m) (h : delivered cf s i m = some s') : Bd (k + 1) s' := by
  have hl := net_len hi
  have hn := b.n
  unfold Lit.delivered at h
  split at h
  · have hb := b.c m.core
    cases hr : cacheRecv (s.cache m.core) m with
    | none => rw [hr] at h; cases h
    | some r =>
      rw [hr] at h
      cases h
      have hwl := wout_len (s.cache m.core).lines m.line
      have hwr := wout_len (s.cache m.core).req m.line
      have hwv := wout_len (s.cache m.core).leav m.line
      have key : (r.1.lines.length ≤ k + 1 ∧ r.1.req.length ≤ k + 1 ∧ r.1.leav.length ≤ k + 1) ∧ r.2.length ≤ 1 := by
        cases m with
        | rq _ _ _ => cases hr
        | lv c l y => cases y <;> cases hr; exact ⟨⟨by simp only [Msg.core]; simp only [Msg.core] at hb; omega, by simp only [Msg.core]; simp only [Msg.core] at hb; omega, by simp only [Msg.core, Msg.line] at hb hwv ⊢; omega⟩, by simp⟩
        | sv l y =>
          cases y with
          | invd _ => cases hr
          | ret _ _ _ => cases hr
          | rcv _ => cases hr
          | inv c => cases hr; simp only [Msg.core, Msg.line, Sv.core] at *; exact ⟨⟨by omega, by omega, by omega⟩, by simp⟩
          | grant c st ws => cases hr; simp only [Msg.core, Msg.line, Sv.core] at *; exact ⟨⟨by simp; omega, by omega, by omega⟩, by simp⟩
          | recall c keep =>
            have hr' : afterRecall (s.cache c) c l keep = some r := hr
            unfold afterRecall at hr'
            simp only [Msg.core, Msg.line, Sv.core] at *
            split at hr'
            · split at hr'
              · cases hr'; exact ⟨⟨by simp only; omega, by simp only; omega, by simp [withE]; omega⟩, by simp⟩
              · cases hr'
            · cases hr'
              refine ⟨⟨?_, by simp only; omega, by simp only; omega⟩, by simp⟩
              simp only
              split
              · simp [withE]; omega
              · omega
      exact b.caches key.1 (by rw [List.length_append]; have := key.2; omega)
  · have hb := b.h m.line
    cases hr : homeRecv cf (s.home m.line) (memL cf s.mem m.line) m with
    | none => rw [hr] at h; cases h
    | some r =>
      rw [hr] at h
      cases h
      have key : (r.1.sharers.length ≤ k + 1 ∧ ∀ sv, r.1.serving = some sv → sv.aw.length ≤ k + 1) ∧ r.2.2.length ≤ k + 1 := by
        cases m with
        | lv c l y => cases y <;> cases hr; exact ⟨⟨by simp only [Msg.line] at *; omega, fun sv q => by simp at q⟩, by simp⟩
        | rq c l ex =>
          cases hr
          simp only [Msg.line] at *
          have bg : (begunH (s.home l) (memL cf s.mem l) c ex).1.sharers.length ≤ k ∧ (∀ sv, (begunH (s.home l) (memL cf s.mem l) c ex).1.serving = some sv → sv.aw.length ≤ k) ∧ (begunH (s.home l) (memL cf s.mem l) c ex).2.length ≤ k + 1 ∧ ((begunH (s.home l) (memL cf s.mem l) c ex).2.length = k + 1 → k = 0) := by
            unfold begunH
            split
            · exact ⟨hb.1, fun sv q => by simp at q; subst q; simp, by simp, fun q => by simp at q; omega⟩
            · have hf : (if ex = true then (s.home l).sharers.filter (fun x => x != c) else []).length ≤ k := by
                split
                · exact Nat.le_trans (List.length_filter_le _ _) hb.1
                · simp
              exact ⟨hb.1, fun sv q => by simp at q; subst q; exact hf, by simp only [List.length_map]; omega, fun q => by simp only [List.length_map] at q; omega⟩
          have gb := grantH_bd (excl := cf.excl) bg.1 bg.2.1
          refine ⟨gb.1, ?_⟩
          simp only [List.length_map, reqH, List.length_append]
          -- the messages: copies to be dropped or a recall, and at most one grant
          have : (begunH (s.home l) (memL cf s.mem l) c ex).2.length ≤ k ∨ (grantH cf.excl (begunH (s.home l) (memL cf s.mem l) c ex).1).2 = [] := by
            unfold begunH
            split
            · right; simp [grantH]
            · left
              simp only [List.length_map]
              split
              · exact Nat.le_trans (List.length_filter_le _ _) hb.1
              · simp
          rcases this with q | q
          · omega
          · rw [q]; simp; exact bg.2.2.1
        | sv l y =>
          cases y with
          | inv _ => cases hr
          | recall _ _ => cases hr
          | grant _ _ _ => cases hr
          | rcv c => cases hr; exact ⟨⟨by simp only [Msg.line] at *; omega, fun sv q => by simp at q⟩, by simp⟩
          | invd c =>
            have hr' : (if (s.home l).serving.isSome = true then some ((invdH cf.excl (s.home l) c).1, memL cf s.mem l, (invdH cf.excl (s.home l) c).2.map (Msg.sv l)) else none) = some r := hr
            split at hr'
            · cases hr'
              have gb := grantH_bd (k := k) (excl := cf.excl) (h := invalidatedH (s.home l) c) (Nat.le_trans (List.length_filter_le _ _) hb.1) (fun sv q => by
                simp only [invalidatedH, Option.map_eq_some_iff] at q
                obtain ⟨s0, h0, rfl⟩ := q
                exact Nat.le_trans (List.length_filter_le _ _) (hb.2 s0 h0))
              exact ⟨gb.1, by simp only [List.length_map]; have := gb.2; simp only [invdH]; omega⟩
            · cases hr'
          | ret c ws d =>
            have hr' : (if (s.home l).serving.isSome = true then some ((retH cf.excl (s.home l) c ws).1, (if d = true then ws else memL cf s.mem l), (retH cf.excl (s.home l) c ws).2.map (Msg.sv l)) else none) = some r := hr
            split at hr'
            · rename_i hsi
              cases hr'
              obtain ⟨sv0, hs0⟩ := Option.isSome_iff_exists.mp hsi
              have ha := hb.2 sv0 hs0
              -- sharers: at most one
              have e : returnedH (s.home l) c ws = { owner := none, sharers := if sv0.ex = true then [] else [c], serving := some { sv0 with recalled := false, words := some ws } } := by unfold returnedH; rw [hs0]
              unfold retH
              rw [e]
              have hk : 1 ≤ k := by
                cases k with
                | zero => simp at hn; rw [hn] at hl; simp at hl
                | succ k => omega
              have hsh : (if sv0.ex = true then [] else [c] : List Nat).length ≤ 1 := by split <;> simp
              generalize (if sv0.ex = true then [] else [c] : List Nat) = Sx at *
              unfold grantH
              simp only
              split
              · exact ⟨⟨by simp only; omega, fun sv q => by simp at q; subst q; simp only; omega⟩, by simp⟩
              · split
                · exact ⟨⟨by simp, fun sv q => by simp at q; subst q; simp only; omega⟩, by simp⟩
                · split
                  · exact ⟨⟨by simp only; omega, fun sv q => by simp at q; subst q; simp only; omega⟩, by simp⟩
                  · split
                    · exact ⟨⟨by simp only; omega, fun sv q => by simp at q; subst q; simp only; omega⟩, by simp⟩
                    · exact ⟨⟨by simp; omega, fun sv q => by simp at q; subst q; simp only; omega⟩, by simp⟩
            · cases hr'
      exact b.homes key.1 (by rw [List.length_append]; have := key.2; omega)
end Lit
end
section
/-! The typed data of the memory system as deep data, the text by places. -/
namespace Lit
open PySem PySem.Spec PyProof.Rows L2 Dat Proto

def top (i : Nat) : Stmt := PySem.Challenge.pw_litmuscore_k50_whole_one_atomic_memory.main.body.getD i (.Pass ⟨0, 0, 0, 0⟩)

def forBody (s : Stmt) : List Stmt := match s with
  | .For _ _ b _ _ => b
  | _ => []
def stAt (s : Stmt) (i : Nat) : Stmt := (defBody s).getD i (.Pass ⟨0, 0, 0, 0⟩)
abbrev XO (P : Program) (w : World) (K : PySem.W.Frag) (mg : Str → Option Value) (base : Heap) (N : List Str) (q : Str) (st : Stmt) (f : Addr) (cdv : Value) (Ar : Around) (outer : List Env) (sh : Shared) (H : Hp) (E : XK) : Cx :=
  (cxOf CX0 P w K mg base N q (defScope st) f cdv Ar outer sh H E).nox
def nD (n : Nat) : D := .int (n : Int)
def encW (ws : Words) : D := .tup (ws.map .int)
def encS : Ls → D
  | .sh => .str "shared" | .ex => .str "exclusive" | .mo => .str "modified"
def encOW : Option Words → D
  | none => .non | some ws => encW ws
def encE {α : Type} (tl : α → List D) (e : Nat × α) : D := .tup (nD e.1 :: tl e.2)
def encOE {α : Type} (tl : α → List D) : Option (Nat × α) → D
  | none => .non | some e => encE tl e
def tlL (p : Ls × Words) : List D := [encS p.1, encW p.2]
def tlR (b : Bool) : List D := [.bl b]
def tlV (p : Option Words × Bool) : List D := [encOW p.1, .bl p.2]

theorem eqD_nn (a b : Nat) : eqD (nD a) (nD b) = (a == b) := by
  show ((a : Int) == (b : Int)) = (a == b)
  rw [Bool.eq_iff_iff]; simp; omega
theorem eqD_ss (a b : Str) : eqD (.str a) (.str b) = (a == b) := rfl
def encC (k : Cache) : D := .tup [.tup (k.lines.map (encE tlL)), .tup (k.req.map (encE tlR)), .tup (k.leav.map (encE tlV))]
def encON : Option Nat → D
  | none => .non | some n => nD n
def encNs (ns : List Nat) : D := .tup (ns.map nD)
def encServ (s : Serv) : D := .tup [nD s.core, .bl s.ex, encNs s.aw, .bl s.recalled, encOW s.words, .bl s.granted]
def encOS : Option Serv → D
  | none => .non | some s => encServ s
def encH (h : Home) : D := .tup [encON h.owner, encNs h.sharers, encOS h.serving]
def encM : Msg → D
  | .rq c l ex => .tup [.str (if ex = true then "get modified" else "get shared"), nD c, nD l]
  | .lv c l (.give ws d) => .tup [.str "give up", nD c, nD l, encW ws, .bl d]
  | .lv c l .conf => .tup [.str "confirm", nD c, nD l]
  | .sv l (.inv c) => .tup [.str "invalidate", nD c, nD l]
  | .sv l (.invd c) => .tup [.str "invalidated", nD c, nD l]
  | .sv l (.recall c k) => .tup [.str "recall", nD c, nD l, .bl k]
  | .sv l (.grant c st ws) => .tup [.str "grant", nD c, nD l, encS st, encW ws]
  | .sv l (.ret c ws d) => .tup [.str "returned", nD c, nD l, encW ws, .bl d]
  | .sv l (.rcv c) => .tup [.str "received", nD c, nD l]
def encMs (ms : List Msg) : D := .tup (ms.map encM)
def encSys (s : Sys) : D := .tup [.tup (s.caches.map encC), .tup (s.homes.map encH), encW s.mem, encMs s.net]
def encR {α : Type} (f : α → D) : Option α → D
  | none => .non | some a => f a
def encCM (r : Cache × List Msg) : D := .tup [encC r.1, encMs r.2]
/-- a configuration -/
def cfgFs (o : Str) (c : Cfg) : List (Str × V) :=
  [("order", .str o), ("reorder_buffer", .int 4), ("store_buffer", .int 2), ("line_words", .int (c.lw : Int)), ("sets", .int (c.sets : Int)), ("ways", .int (c.ways : Int)), ("requests", .int (c.reqs : Int)), ("exclusive_state", .bl c.excl)]
def cfgS (C : Addr) (o : Str) (c : Cfg) : S := .obj C (cfgFs o c)
structure CfgT (K : PySem.W.Frag) (C : Addr) : Prop where
  cl : Cls K C
  lw : NoAttr K C "line_words"
  sets : NoAttr K C "sets"
  ways : NoAttr K C "ways"
  reqs : NoAttr K C "requests"
  excl : NoAttr K C "exclusive_state"
theorem cfg_lw (o : Str) (c : Cfg) : (cfgFs o c).lookup ("line_words" : Str) = some (.int (c.lw : Int)) := rfl
theorem cfg_sets (o : Str) (c : Cfg) : (cfgFs o c).lookup ("sets" : Str) = some (.int (c.sets : Int)) := rfl
theorem cfg_ways (o : Str) (c : Cfg) : (cfgFs o c).lookup ("ways" : Str) = some (.int (c.ways : Int)) := rfl
theorem cfg_reqs (o : Str) (c : Cfg) : (cfgFs o c).lookup ("requests" : Str) = some (.int (c.reqs : Int)) := rfl
theorem cfg_excl (o : Str) (c : Cfg) : (cfgFs o c).lookup ("exclusive_state" : Str) = some (.bl c.excl) := rfl
section
variable {X : Cx} {G : Gm} {a : Expr} {pos : Pos} {C : Addr} {o : Str} {c : Cfg}
theorem pd_lw (T : CfgT X.K C) (h : PDs X G a (cfgS C o c)) (hb : attributeBase a "line_words" X.env (eval a X.env) = eval a X.env := by rfl) : PD X G (.Attribute a "line_words" pos) (nD c.lw) := pd_fld h T.cl T.lw (cfg_lw o c) (fun _ _ => is_int.mpr rfl) hb
theorem pd_sets (T : CfgT X.K C) (h : PDs X G a (cfgS C o c)) (hb : attributeBase a "sets" X.env (eval a X.env) = eval a X.env := by rfl) : PD X G (.Attribute a "sets" pos) (nD c.sets) := pd_fld h T.cl T.sets (cfg_sets o c) (fun _ _ => is_int.mpr rfl) hb
theorem pd_ways (T : CfgT X.K C) (h : PDs X G a (cfgS C o c)) (hb : attributeBase a "ways" X.env (eval a X.env) = eval a X.env := by rfl) : PD X G (.Attribute a "ways" pos) (nD c.ways) := pd_fld h T.cl T.ways (cfg_ways o c) (fun _ _ => is_int.mpr rfl) hb
theorem pd_reqs (T : CfgT X.K C) (h : PDs X G a (cfgS C o c)) (hb : attributeBase a "requests" X.env (eval a X.env) = eval a X.env := by rfl) : PD X G (.Attribute a "requests" pos) (nD c.reqs) := pd_fld h T.cl T.reqs (cfg_reqs o c) (fun _ _ => is_int.mpr rfl) hb
theorem pd_excl (T : CfgT X.K C) (h : PDs X G a (cfgS C o c)) (hb : attributeBase a "exclusive_state" X.env (eval a X.env) = eval a X.env := by rfl) : PD X G (.Attribute a "exclusive_state" pos) (.bl c.excl) := pd_fld h T.cl T.excl (cfg_excl o c) (fun _ _ => is_bl.mpr rfl) hb
/-- numbers -/
theorem pd_addN {b : Expr} {i j : Nat} (ha : PD X G a (nD i)) (hb : PD X G b (nD j)) : PD X G (.BinOp a .Add b pos) (nD (i + j)) := by
  have := pd_add (pos := pos) ha hb
  rw [show ((i : Int) + (j : Int)) = ((i + j : Nat) : Int) by omega] at this
  exact this
theorem pd_mulN {b : Expr} {i j : Nat} (ha : PD X G a (nD i)) (hb : PD X G b (nD j)) (h : i ≤ 1000000) : PD X G (.BinOp a .Mult b pos) (nD (i * j)) := by
  have := pd_mul (pos := pos) ha hb (.inl ⟨by omega, by omega⟩)
  rw [show ((i : Int) * (j : Int)) = ((i * j : Nat) : Int) by simp] at this
  exact this
theorem pd_divN {b : Expr} {i j : Nat} (ha : PD X G a (nD i)) (hb : PD X G b (nD j)) (h : 0 < j) (h2 : j ≤ 1000000) : PD X G (.BinOp a .FloorDiv b pos) (nD (i / j)) := by
  have := pd_fdiv (pos := pos) ha hb ⟨by omega, by omega⟩
  rw [show ((i : Int) / (j : Int)) = ((i / j : Nat) : Int) by simp] at this
  exact this
theorem pd_modN {b : Expr} {i j : Nat} (ha : PD X G a (nD i)) (hb : PD X G b (nD j)) (h : 0 < j) : PD X G (.BinOp a .Mod b pos) (nD (i % j)) := by
  have := pd_mod (pos := pos) ha hb (by omega)
  rw [show ((i : Int) % (j : Int)) = ((i % j : Nat) : Int) by simp] at this
  exact this
theorem pd_ixN {b : Expr} {xs : List D} {j : Nat} {d : D} (ha : PD X G a (.tup xs)) (hb : PD X G b (nD j)) (hd : xs[j]? = some d) (hp : PlainIx b := by intro _ _; rfl) : PD X G (.Subscript a b pos) d := pd_ix ha hb rfl hd hp
end
theorem inD_n (a : Nat) (xs : List Nat) : inD (nD a) (xs.map nD) = xs.contains a := by
  unfold inD
  induction xs with
  | nil => rfl
  | cons x r ih =>
    rw [List.map_cons, List.any_cons, ih, List.contains_cons]
    congr 1
    show ((x : Int) == (a : Int)) = (a == x)
    rw [Bool.eq_iff_iff]; simp; omega
theorem all_n (xs : List Nat) : (xs.map nD).all flatD = true := by
  rw [List.all_map]; simp [nD, flatD]
theorem cut_to (xs : List D) (n : Nat) : cutT xs none (some (n : Int)) = xs.take n := by
  unfold cutT
  rw [HT.sIx_none, HT.sIx_nat, List.drop_zero, Nat.sub_zero]
  by_cases h : n ≤ xs.length
  · rw [Nat.min_eq_left h]
  · rw [Nat.min_eq_right (by omega), List.take_length, List.take_of_length_le (by omega)]
theorem cut_from (xs : List D) (n : Nat) : cutT xs (some (n : Int)) none = xs.drop n := by
  unfold cutT
  rw [HT.sIx_none, HT.sIx_nat]
  by_cases h : n ≤ xs.length
  · rw [Nat.min_eq_left h, List.take_of_length_le (by simp)]
  · rw [Nat.min_eq_right (show xs.length ≤ n by omega), List.drop_length, List.drop_eq_nil_of_le (show xs.length ≤ n by omega)]; simp
theorem cut_mid (xs : List D) (n m : Nat) : cutT xs (some (n : Int)) (some (m : Int)) = (xs.drop n).take (m - n) := by
  unfold cutT
  rw [HT.sIx_nat, HT.sIx_nat]
  by_cases h : n ≤ xs.length
  · rw [Nat.min_eq_left h]
    by_cases h2 : m ≤ xs.length
    · rw [Nat.min_eq_left h2]
    · rw [Nat.min_eq_right (by omega), List.take_of_length_le (by simp), List.take_of_length_le (by simp; omega)]
  · rw [Nat.min_eq_right (show xs.length ≤ n by omega), List.drop_length, List.drop_eq_nil_of_le (show xs.length ≤ n by omega)]; simp
end Lit
end
section
namespace Lit
open PySem PySem.Spec PyProof.Rows L2 Dat Proto
section
variable {P : Program} {w : World} {K : PySem.W.Frag} {mg : Str → Option Value} {base : Heap}

/-! entry_of -/
def aEntryOf (ss : List S) (s : S) : Prop := ∃ (α : Type) (tl : α → List D) (xs : List (Nat × α)) (l : Nat), ss = [.d (.tup (xs.map (encE tl))), .d (nD l)] ∧ s = .d (encOE tl (fnd xs l))
abbrev sEntryOf : Stmt := top 2
theorem scEntryOf : FnScope ["entries", "line", "entry"] ["entries", "line"] (defScope sEntryOf) := ⟨rfl, rfl, rfl, by decide +kernel, rfl, by decide +kernel, by decide +kernel⟩
theorem dEntryOf {f : Addr} {fd : FuncData} (F : Fun K "entry_of" "entry_of" sEntryOf f fd) (hm : mg "entry_of" = some (.ref f)) (hb : Binds K fd ["entries", "line"] []) : Dfn P w K mg base 1 "entry_of" ["entries", "line"] aEntryOf := by
  refine Dfn.of F hm scEntryOf (fun ss s ⟨_, _, _, _, h, _⟩ => by rw [h]; rfl) hb ?_
  rintro cdv Ar outer sh H E ss s hr ⟨α, tl, xs, l, rfl, rfl⟩
  have nd := scEntryOf.nd
  -- the loop
  have lp : ∀ (ys : List (Nat × α)) (G : Gm), G[1]? = some (some (.d (nD l))) → 2 < G.length →
      (fnd ys l = none → ∃ G', Lp (XO P w K mg base ["entries", "line", "entry"] "entry_of" sEntryOf f cdv Ar outer sh H E) 2 (forBody (stAt sEntryOf 0)) G (ys.map (encE tl)) (.nx G')) ∧
      (∀ e, fnd ys l = some e → Lp (XO P w K mg base ["entries", "line", "entry"] "entry_of" sEntryOf f cdv Ar outer sh H E) 2 (forBody (stAt sEntryOf 0)) G (ys.map (encE tl)) (.ret (.d (encE tl e)))) := by
    intro ys
    induction ys with
    | nil => exact fun G g1 g2 => ⟨fun _ => ⟨G, rfl⟩, fun e h => (by simp [fnd] at h)⟩
    | cons y ys ih =>
      intro G g1 g2
      have h1 : (G.set 2 (some (.d (encE tl y))))[1]? = some (some (.d (nD l))) := by rw [List.getElem?_set_ne (by decide)]; exact g1
      have h2 : (G.set 2 (some (.d (encE tl y))))[2]? = some (some (.d (encE tl y))) := List.getElem?_set_self g2
      by_cases q : y.1 = l
      · have e : fnd (y :: ys) l = some y := by simp [fnd, q]
        refine ⟨fun h => (by rw [e] at h; cases h), fun z h => ?_⟩
        rw [e] at h
        cases h
        exact .inr ⟨_, rfl, bd_ret (sd_if (td_cmp (cd_eq (pd_ixc (j := 0) (pd_var (i := 2) h2) rfl) (pd_var (i := 1) h1))) (fun _ => bd_ret (sd_ret (pd_var (i := 2) h2))) (fun h => by rw [eqD_nn] at h; simp [q] at h))⟩
      · have e : fnd (y :: ys) l = fnd ys l := by simp [fnd, q]
        have b : BD (XO P w K mg base ["entries", "line", "entry"] "entry_of" sEntryOf f cdv Ar outer sh H E) (G.set 2 (some (.d (encE tl y)))) (forBody (stAt sEntryOf 0)) (.nx (G.set 2 (some (.d (encE tl y))))) :=
          bd_cons (sd_if (td_cmp (cd_eq (pd_ixc (j := 0) (pd_var (i := 2) h2) rfl) (pd_var (i := 1) h1))) (fun h => by rw [eqD_nn] at h; simp [q] at h) (fun _ => bd_nil)) bd_nil
        have k := ih (G.set 2 (some (.d (encE tl y)))) h1 (by simpa using g2)
        rw [e]
        refine ⟨fun h => ?_, fun z h => .inl ⟨_, b, k.2 z h⟩⟩
        obtain ⟨G', hl⟩ := k.1 h
        exact ⟨G', .inl ⟨_, b, hl⟩⟩
  cases hf : fnd xs l with
  | none =>
    obtain ⟨G', hl⟩ := (lp xs [some (.d (.tup (xs.map (encE tl)))), some (.d (nD l)), none] rfl (by simp)).1 hf
    exact bd_cons (sd_forT .never rfl nd (pd_var (i := 0) rfl) hl) (bd_ret (sd_ret pd_non))
  | some e =>
    have hl := (lp xs [some (.d (.tup (xs.map (encE tl)))), some (.d (nD l)), none] rfl (by simp)).2 e hf
    exact bd_ret (sd_forT .never rfl nd (pd_var (i := 0) rfl) hl)

/-! without_line -/
def aWithout (ss : List S) (s : S) : Prop := ∃ (α : Type) (tl : α → List D) (xs : List (Nat × α)) (l : Nat), ss = [.d (.tup (xs.map (encE tl))), .d (nD l)] ∧ xs.length ≤ 100000 ∧ s = .d (.tup ((wout xs l).map (encE tl)))
abbrev sWithout : Stmt := top 3
theorem scWithout : FnScope ["entries", "line", "entry"] ["entries", "line"] (defScope sWithout) := ⟨rfl, rfl, rfl, by decide +kernel, rfl, by decide +kernel, by decide +kernel⟩
theorem fm_filter {α : Type} (p : α → Bool) (en : α → D) (xs : List α) : xs.filterMap (fun a => if p a = true then some (en a) else none) = (xs.filter p).map en := by
  induction xs with
  | nil => rfl
  | cons a r ih =>
    rw [List.filterMap_cons, List.filter_cons]
    by_cases k : p a = true <;> simp only [k, if_true, if_false] <;> first | (rw [List.map_cons, ih]) | exact ih
theorem fm_map {α : Type} (en : α → D) (xs : List α) : xs.filterMap (fun a => some (en a)) = xs.map en := congrFun List.filterMap_eq_map xs
theorem some_ite {p : Bool} {d : D} : (if p = true then some d else none).isSome = p := by cases p <;> rfl
theorem of_ite {p : Bool} {d r : D} (h : (if p = true then some d else none) = some r) : p = true ∧ d = r := by cases p <;> simp at h ⊢; exact h
theorem dWithout {f : Addr} {fd : FuncData} (hT : mg "tuple" = none) (F : Fun K "without_line" "without_line" sWithout f fd) (hm : mg "without_line" = some (.ref f)) (hb : Binds K fd ["entries", "line"] []) : Dfn P w K mg base 1 "without_line" ["entries", "line"] aWithout := by
  refine Dfn.of F hm scWithout (fun ss s ⟨_, _, _, _, h, _⟩ => by rw [h]; rfl) hb ?_
  rintro cdv Ar outer sh H E ss s hr ⟨α, tl, xs, l, rfl, hz, rfl⟩
  have nd := scWithout.nd
  have e := fm_filter (fun e : Nat × α => e.1 != l) (encE tl) xs
  unfold wout
  rw [← e]
  refine bd_ret (sd_ret (pd_tupL hT (pd_lcT (j := 2) (xs := xs) (en := encE tl) (y := "entry") ⟨rfl, nd, blkOk_by (N := ["entries", "line", "entry"]) (sc := defScope sWithout) (by decide +kernel), Nat.le_trans hz (by decide), fun y hy => ?_, fun y r hy hr => ?_⟩ (pd_var (i := 0) rfl) (fun _ _ _ _ _ => pg_name (i := 2) nd rfl (Or.inl rfl)))))
  · rw [some_ite, show (y.1 != l) = !eqD (nD y.1) (nD l) by rw [eqD_nn]; rfl]
    exact et_one fun s H C cl fp => td_cmp (cd_ne (pd_ixc (j := 0) (pd_var (i := 2) rfl) rfl) (pd_var (i := 1) rfl))
  · obtain ⟨_, rfl⟩ := of_ite hr
    exact fun s H C cl fp => pd_var (i := 2) rfl

/-! with_entry -/
def aWithE (ss : List S) (s : S) : Prop := ∃ (α : Type) (tl : α → List D) (xs : List (Nat × α)) (n : Nat × α), ss = [.d (.tup (xs.map (encE tl))), .d (encE tl n)] ∧ xs.length ≤ 100000 ∧ s = .d (.tup ((withE xs n).map (encE tl)))
abbrev sWithE : Stmt := top 4
theorem scWithE : FnScope ["entries", "new", "entry"] ["entries", "new"] (defScope sWithE) := ⟨rfl, rfl, rfl, by decide +kernel, rfl, by decide +kernel, by decide +kernel⟩
theorem dWithE {f : Addr} {fd : FuncData} (hT : mg "tuple" = none) (F : Fun K "with_entry" "with_entry" sWithE f fd) (hm : mg "with_entry" = some (.ref f)) (hb : Binds K fd ["entries", "new"] []) : Dfn P w K mg base 1 "with_entry" ["entries", "new"] aWithE := by
  refine Dfn.of F hm scWithE (fun ss s ⟨_, _, _, _, h, _⟩ => by rw [h]; rfl) hb ?_
  rintro cdv Ar outer sh H E ss s hr ⟨α, tl, xs, n, rfl, hz, rfl⟩
  have nd := scWithE.nd
  have e := fm_map (fun e => encE tl (if (e.1 == n.1) = true then n else e)) xs
  unfold withE
  rw [List.map_map, show encE tl ∘ (fun e => if (e.1 == n.1) = true then n else e) = fun e => encE tl (if (e.1 == n.1) = true then n else e) from rfl, ← e]
  refine bd_ret (sd_ret (pd_tupL hT (pd_lcT (j := 2) (xs := xs) (en := encE tl) (y := "entry") ⟨rfl, nd, blkOk_by (N := ["entries", "new", "entry"]) (sc := defScope sWithE) (by decide +kernel), Nat.le_trans hz (by decide), fun y hy => et_nil, fun y r hy hr => ?_⟩ (pd_var (i := 0) rfl) (fun _ _ _ _ _ => pg_name (i := 2) nd rfl (Or.inl rfl)))))
  cases hr
  intro s H C cl fp
  refine pd_if (k := eqD (nD y.1) (nD n.1)) (td_cmp (cd_eq (pd_ixc (j := 0) (pd_var (i := 2) rfl) rfl) (pd_ixc (j := 0) (pd_var (i := 1) rfl) rfl))) (fun k => ?_) (fun k => ?_)
  · rw [eqD_nn] at k
    rw [if_pos k]
    exact pd_var (i := 1) rfl
  · rw [eqD_nn] at k
    rw [if_neg (by rw [k]; exact Bool.false_ne_true)]
    exact pd_var (i := 2) rfl
end
end Lit
end
section
namespace Lit
open PySem PySem.Spec PyProof.Rows L2 Dat Proto
section
variable {P : Program} {w : World} {K : PySem.W.Frag} {mg : Str → Option Value} {base : Heap} {C : Addr}

/-- what the module's names hold that are not its own -/
structure NoG (mg : Str → Option Value) : Prop where
  len : mg "len" = none
  tuple : mg "tuple" = none
  range : mg "range" = none

/-! occupied_ways -/
def aOcc (C : Addr) (ss : List S) (s : S) : Prop := ∃ (o : Str) (cf : Cfg) (k : Cache) (l : Nat), ss = [cfgS C o cf, .d (encC k), .d (nD l)] ∧ 0 < cf.sets ∧ k.lines.length ≤ 100000 ∧ k.req.length ≤ 100000 ∧ s = .d (nD (occ cf k l))
abbrev sOcc : Stmt := top 5
abbrev nOcc : List Str := ["config", "cache", "line", "group", "present", "coming", "entry"]
theorem scOcc : FnScope nOcc ["config", "cache", "line"] (defScope sOcc) := ⟨rfl, rfl, rfl, by decide +kernel, rfl, by decide +kernel, by decide +kernel⟩
theorem dOcc {f : Addr} {fd : FuncData} (N : NoG mg) (T : CfgT K C) (F : Fun K "occupied_ways" "occupied_ways" sOcc f fd) (hm : mg "occupied_ways" = some (.ref f)) (hb : Binds K fd ["config", "cache", "line"] []) : Dfn P w K mg base 1 "occupied_ways" ["config", "cache", "line"] (aOcc C) := by
  refine Dfn.of F hm scOcc (fun ss s ⟨_, _, _, _, h, _⟩ => by rw [h]; rfl) hb ?_
  rintro cdv Ar outer sh H E ss s hr ⟨o, cf, k, l, rfl, hs, hz1, hz2, rfl⟩
  have nd := scOcc.nd
  refine bd_norm (by dsimp only [ini, List.map]) ?_
  have e1 : (present cf k l).map nD = k.lines.filterMap (fun e => if (e.1 % cf.sets == l % cf.sets) = true then some (nD e.1) else none) := by
    rw [fm_filter (fun e : Nat × Ls × Words => e.1 % cf.sets == l % cf.sets) (fun e => nD e.1)]
    unfold present
    rw [List.map_map]; rfl
  have e2 : (coming cf k l).map nD = k.req.filterMap (fun e => if (e.1 % cf.sets == l % cf.sets && !(present cf k l).contains e.1) = true then some (nD e.1) else none) := by
    rw [fm_filter (fun e : Nat × Bool => e.1 % cf.sets == l % cf.sets && !(present cf k l).contains e.1) (fun e => nD e.1)]
    unfold coming
    rw [List.map_map]; rfl
  refine bd_cons (sd_set (i := 3) nd (pd_modN (pd_var (i := 2) rfl) (pd_sets T (pd_var (i := 0) rfl)) hs)) ?_
  refine bd_cons (sd_set (i := 4) (s := .lst ((present cf k l).map nD)) nd ?_) ?_
  · rw [e1]
    refine pd_lcT (j := 6) (xs := k.lines) (en := encE tlL) (y := "entry") ⟨rfl, nd, blkOk_by (N := nOcc) (sc := defScope sOcc) (by decide +kernel), Nat.le_trans hz1 (by decide), fun y hy => ?_, fun y r hy hr => ?_⟩ (pd_ixc (j := 0) (pd_var (i := 1) rfl) rfl) (fun _ _ _ _ _ => pg_name (i := 6) nd rfl (Or.inl rfl))
    · rw [some_ite, ← eqD_nn]
      exact et_one fun s H C cl fp => td_cmp (cd_eq (pd_modN (pd_ixc (j := 0) (pd_var (i := 6) rfl) rfl) (pd_sets T (pd_var (i := 0) rfl)) hs) (pd_var (i := 3) rfl))
    · obtain ⟨_, rfl⟩ := of_ite hr
      exact fun s H C cl fp => pd_ixc (j := 0) (pd_var (i := 6) rfl) rfl
  refine bd_cons (sd_setLcT (i := 5) (j := 6) (xs := k.req) (en := encE tlR) (y := "entry") (f := fun e => if (e.1 % cf.sets == l % cf.sets && !(present cf k l).contains e.1) = true then some (nD e.1) else none) ⟨rfl, nd, blkOk_by (N := nOcc) (sc := defScope sOcc) (by decide +kernel), Nat.le_trans hz2 (by decide), fun y hy => ?_, fun y r hy hr => ?_⟩ (pd_ixc (j := 1) (pd_var (i := 1) rfl) rfl) (fun _ _ _ _ _ => pg_name (i := 6) nd rfl (Or.inl rfl)) (sw_true rfl rfl rfl (by decide +kernel))) ?_
  · rw [some_ite, ← eqD_nn, ← inD_n]
    exact et_one fun s H C cl fp => td_and (td_cmp (cd_eq (pd_modN (pd_ixc (j := 0) (pd_var (i := 6) rfl) rfl) (pd_sets T (pd_var (i := 0) rfl)) hs) (pd_var (i := 3) rfl)))
      (fun _ => td_cmp (cd_notInL (pd_ixc (j := 0) (pd_var (i := 6) rfl) rfl) (pd_var (i := 4) rfl) rfl (all_n _)))
  · obtain ⟨_, rfl⟩ := of_ite hr
    exact fun s H C cl fp => pd_ixc (j := 0) (pd_var (i := 6) rfl) rfl
  rw [← e2]
  refine bd_ret (sd_ret' (pd_add (pd_lenL N.len (pd_var (i := 4) rfl)) (pd_lenL N.len (pd_var (i := 5) rfl))) ?_)
  unfold occ
  rw [List.length_map, List.length_map, show ((present cf k l).length : Int) + ((coming cf k l).length : Int) = (((present cf k l).length + (coming cf k l).length : Nat) : Int) by omega]
  rfl

/-! read_word -/
def encOI : Option Int → D
  | none => .non | some i => .int i
def rdW (cf : Cfg) (k : Cache) (a : Nat) : Option Int := match fnd k.lines (a / cf.lw) with
  | none => none
  | some e => e.2.2[a % cf.lw]?
def aRead (C : Addr) (ss : List S) (s : S) : Prop := ∃ (o : Str) (cf : Cfg) (k : Cache) (a : Nat), ss = [cfgS C o cf, .d (encC k), .d (nD a)] ∧ 0 < cf.lw ∧ cf.lw ≤ 1000 ∧ (∀ e, fnd k.lines (a / cf.lw) = some e → a % cf.lw < e.2.2.length) ∧ s = .d (encOI (rdW cf k a))
abbrev sRead : Stmt := top 6
abbrev nRead : List Str := ["config", "cache", "address", "entry"]
theorem scRead : FnScope nRead ["config", "cache", "address"] (defScope sRead) := ⟨rfl, rfl, rfl, by decide +kernel, rfl, by decide +kernel, by decide +kernel⟩
theorem dRead {f : Addr} {fd : FuncData} (N : NoG mg) (T : CfgT K C) (E1 : Dfn P w K mg base 1 "entry_of" ["entries", "line"] aEntryOf) (F : Fun K "read_word" "read_word" sRead f fd) (hm : mg "read_word" = some (.ref f)) (hb : Binds K fd ["config", "cache", "address"] []) : Dfn P w K mg base 2 "read_word" ["config", "cache", "address"] (aRead C) := by
  refine Dfn.of F hm scRead (fun ss s ⟨_, _, _, _, h, _⟩ => by rw [h]; rfl) hb ?_
  rintro cdv Ar outer sh H E ss s hr ⟨o, cf, k, a, rfl, hs, hs2, hlen, rfl⟩
  have nd := scRead.nd
  refine bd_norm (by dsimp only [ini, List.map]) ?_
  refine bd_cons (sd_set (i := 3) nd (pd_call E1 hr (ad_cons (pd_ixc (j := 0) (pd_var (i := 1) rfl) rfl) (ad_cons (pd_divN (pd_var (i := 2) rfl) (pd_lw T (pd_var (i := 0) rfl)) hs (by omega)) ad_nil)) ⟨_, tlL, k.lines, a / cf.lw, rfl, rfl⟩)) ?_
  unfold rdW
  cases hf : fnd k.lines (a / cf.lw) with
  | none => exact bd_ret (sd_if (td_cmp (cd_isN (pd_var (i := 3) rfl))) (fun _ => bd_ret (sd_ret pd_non)) (fun h => by cases h))
  | some e =>
    have hl := hlen e hf
    have he : (e.2.2.map D.int)[a % cf.lw]? = some (.int (e.2.2[a % cf.lw])) := by rw [List.getElem?_map, List.getElem?_eq_getElem hl]; rfl
    refine bd_cons (sd_if (td_cmp (cd_isN (pd_var (i := 3) rfl))) (fun h => by cases h) (fun _ => bd_nil)) ?_
    simp only [List.getElem?_eq_getElem hl]
    exact bd_ret (sd_ret (pd_ixN (pd_ixc (j := 2) (pd_var (i := 3) rfl) rfl) (pd_modN (pd_var (i := 2) rfl) (pd_lw T (pd_var (i := 0) rfl)) hs) he))

/-! can_write -/
theorem eqD_S (a b : Ls) : eqD (encS a) (encS b) = decide (a = b) := by cases a <;> cases b <;> decide +kernel
theorem scalD_S (a : Ls) (x : Str) : scalD (encS a) (.str x) = true := by cases a <;> rfl
theorem isN_E {α : Type} (tl : α → List D) (e : Nat × α) : isN (encE tl e) = false := rfl
def aCanW (C : Addr) (ss : List S) (s : S) : Prop := ∃ (o : Str) (cf : Cfg) (k : Cache) (a : Nat), ss = [cfgS C o cf, .d (encC k), .d (nD a)] ∧ 0 < cf.lw ∧ cf.lw ≤ 1000 ∧ s = .d (.bl (canW cf k a))
abbrev sCanW : Stmt := top 7
abbrev nCanW : List Str := ["config", "cache", "address", "entry"]
theorem scCanW : FnScope nCanW ["config", "cache", "address"] (defScope sCanW) := ⟨rfl, rfl, rfl, by decide +kernel, rfl, by decide +kernel, by decide +kernel⟩
theorem dCanW {f : Addr} {fd : FuncData} (N : NoG mg) (T : CfgT K C) (E1 : Dfn P w K mg base 1 "entry_of" ["entries", "line"] aEntryOf) (F : Fun K "can_write" "can_write" sCanW f fd) (hm : mg "can_write" = some (.ref f)) (hb : Binds K fd ["config", "cache", "address"] []) : Dfn P w K mg base 2 "can_write" ["config", "cache", "address"] (aCanW C) := by
  refine Dfn.of F hm scCanW (fun ss s ⟨_, _, _, _, h, _⟩ => by rw [h]; rfl) hb ?_
  rintro cdv Ar outer sh H E ss s hr ⟨o, cf, k, a, rfl, hs, hs2, rfl⟩
  have nd := scCanW.nd
  refine bd_norm (by dsimp only [ini, List.map]) ?_
  refine bd_cons (sd_set (i := 3) nd (pd_call E1 hr (ad_cons (pd_ixc (j := 0) (pd_var (i := 1) rfl) rfl) (ad_cons (pd_divN (pd_var (i := 2) rfl) (pd_lw T (pd_var (i := 0) rfl)) hs (by omega)) ad_nil)) ⟨_, tlL, k.lines, a / cf.lw, rfl, rfl⟩)) ?_
  unfold canW
  cases hf : fnd k.lines (a / cf.lw) with
  | none => exact bd_ret (sd_ret' (pd_and (l := true) (pd_cmp (cd_notN (pd_var (i := 3) rfl))) (fun h => by cases h)) rfl)
  | some e =>
    refine bd_ret (sd_ret' (pd_and (pd_cmp (cd_notN (pd_var (i := 3) rfl))) (fun _ => pd_cmp (cd_ne (pd_ixc (j := 1) (pd_var (i := 3) rfl) rfl) pd_str (scalD_S _ _)))) ?_)
    show S.d (.bl (true && !eqD (encS e.2.1) (encS .sh))) = _
    rw [eqD_S, Bool.true_and]
    obtain ⟨_, st, _⟩ := e
    cases st <;> rfl

/-! write_word -/
def aWrite (C : Addr) (ss : List S) (s : S) : Prop := ∃ (o : Str) (cf : Cfg) (k : Cache) (a : Nat) (x : Int), ss = [cfgS C o cf, .d (encC k), .d (nD a), .d (.int x)] ∧ 0 < cf.lw ∧ cf.lw ≤ 1000 ∧ k.lines.length ≤ 100000 ∧ (∀ e, fnd k.lines (a / cf.lw) = some e → e.2.2.length ≤ 1000) ∧ s = .d (encR encC (wrW cf k a x))
abbrev sWrite : Stmt := top 8
abbrev nWrite : List Str := ["config", "cache", "address", "word", "line", "place", "words", "changed"]
theorem scWrite : FnScope nWrite ["config", "cache", "address", "word"] (defScope sWrite) := ⟨rfl, rfl, rfl, by decide +kernel, rfl, by decide +kernel, by decide +kernel⟩
theorem encW_splice (ws : Words) (p : Nat) (x : Int) : (encW (splice ws p x)) = .tup ((ws.map D.int).take p ++ [.int x] ++ (ws.map D.int).drop (p + 1)) := by
  unfold encW splice
  rw [List.map_append, List.map_append, List.map_take, List.map_drop]; rfl
theorem dWrite {f : Addr} {fd : FuncData} (N : NoG mg) (T : CfgT K C) (E1 : Dfn P w K mg base 1 "entry_of" ["entries", "line"] aEntryOf) (E2 : Dfn P w K mg base 2 "can_write" ["config", "cache", "address"] (aCanW C)) (E3 : Dfn P w K mg base 1 "with_entry" ["entries", "new"] aWithE)
    (F : Fun K "write_word" "write_word" sWrite f fd) (hm : mg "write_word" = some (.ref f)) (hb : Binds K fd ["config", "cache", "address", "word"] []) : Dfn P w K mg base 3 "write_word" ["config", "cache", "address", "word"] (aWrite C) := by
  refine Dfn.of F hm scWrite (fun ss s ⟨_, _, _, _, _, h, _⟩ => by rw [h]; rfl) hb ?_
  rintro cdv Ar outer sh H E ss s hr ⟨o, cf, k, a, x, rfl, hs, hs2, hz, hlen, rfl⟩
  have nd := scWrite.nd
  refine bd_norm (by dsimp only [ini, List.map]) ?_
  cases hf : fnd k.lines (a / cf.lw) with
  | none =>
    have hc : canW cf k a = false := by unfold canW; rw [hf]
    have hw : wrW cf k a x = none := by unfold wrW; rw [hf]
    rw [hw]
    exact bd_ret (sd_if (td_not (td_val (pd_call E2 hr (ad_cons (pd_var (i := 0) rfl) (ad_cons (pd_var (i := 1) rfl) (ad_cons (pd_var (i := 2) rfl) ad_nil))) ⟨o, cf, k, a, rfl, hs, hs2, rfl⟩))) (fun _ => bd_ret (sd_ret pd_non)) (fun h => by rw [hc] at h; cases h))
  | some e =>
    by_cases hsh : e.2.1 = .sh
    · have hc : canW cf k a = false := by unfold canW; rw [hf]; simp [hsh]
      have hw : wrW cf k a x = none := by unfold wrW; rw [hf]; simp [hsh]
      rw [hw]
      exact bd_ret (sd_if (td_not (td_val (pd_call E2 hr (ad_cons (pd_var (i := 0) rfl) (ad_cons (pd_var (i := 1) rfl) (ad_cons (pd_var (i := 2) rfl) ad_nil))) ⟨o, cf, k, a, rfl, hs, hs2, rfl⟩))) (fun _ => bd_ret (sd_ret pd_non)) (fun h => by rw [hc] at h; cases h))
    · have hc : canW cf k a = true := by unfold canW; rw [hf]; simp [hsh]
      have hw : wrW cf k a x = some { k with lines := withE k.lines (a / cf.lw, .mo, splice e.2.2 (a % cf.lw) x) } := by unfold wrW; rw [hf]; simp [hsh]
      have hl := hlen e hf
      have hj : (fnd k.lines (a / cf.lw)) = some e := hf
      rw [hw]
      refine bd_cons (sd_if (td_not (td_val (pd_call E2 hr (ad_cons (pd_var (i := 0) rfl) (ad_cons (pd_var (i := 1) rfl) (ad_cons (pd_var (i := 2) rfl) ad_nil))) ⟨o, cf, k, a, rfl, hs, hs2, rfl⟩))) (fun h => by rw [hc] at h; cases h) (fun _ => bd_nil)) ?_
      refine bd_cons (sd_set (i := 4) nd (pd_divN (pd_var (i := 2) rfl) (pd_lw T (pd_var (i := 0) rfl)) hs (by omega))) ?_
      refine bd_cons (sd_set (i := 5) nd (pd_modN (pd_var (i := 2) rfl) (pd_lw T (pd_var (i := 0) rfl)) hs)) ?_
      refine bd_cons (sd_set (i := 6) (s := .d (encW e.2.2)) nd (pd_ixc (j := 2) (pd_call E1 (hr.mono (by decide)) (ad_cons (pd_ixc (j := 0) (pd_var (i := 1) rfl) rfl) (ad_cons (pd_var (i := 4) rfl) ad_nil)) ⟨_, tlL, k.lines, a / cf.lw, rfl, by rw [hf]; rfl⟩) rfl)) ?_
      refine bd_cons (sd_set (i := 7) nd (pd_cat (pd_cat (pd_cut (pd_var (i := 6) rfl) od_none (od_some (pd_var (i := 5) rfl))) (pd_tup (ds := [.int x]) (ad_cons (pd_var (i := 3) rfl) ad_nil)) ?_) (pd_cut (pd_var (i := 6) rfl) (od_some (pd_addN (pd_var (i := 5) rfl) (pd_int (i := ((1 : Nat) : Int))))) od_none) ?_)) ?_
      · rw [cut_to]; simp; omega
      · rw [cut_to, cut_from]; simp; omega
      rw [cut_to, cut_from, ← encW_splice]
      refine bd_ret (sd_ret (pd_tup (ds := [.tup ((withE k.lines (a / cf.lw, .mo, splice e.2.2 (a % cf.lw) x)).map (encE tlL)), .tup (k.req.map (encE tlR)), .tup (k.leav.map (encE tlV))]) (ad_cons (pd_call E3 (hr.mono (by decide)) (ad_cons (pd_ixc (j := 0) (pd_var (i := 1) rfl) rfl) (ad_cons (pd_tup (ds := [nD (a / cf.lw), encS .mo, encW (splice e.2.2 (a % cf.lw) x)]) (ad_cons (pd_var (i := 4) rfl) (ad_cons pd_str (ad_cons (pd_var (i := 7) rfl) ad_nil)))) ad_nil)) ⟨_, tlL, k.lines, (a / cf.lw, .mo, splice e.2.2 (a % cf.lw) x), rfl, hz, rfl⟩)
        (ad_cons (pd_ixc (j := 1) (pd_var (i := 1) rfl) rfl) (ad_cons (pd_ixc (j := 2) (pd_var (i := 1) rfl) rfl) ad_nil)))))
end
end Lit
end
section
namespace Lit
open PySem PySem.Spec PyProof.Rows L2 Dat Proto
section
variable {P : Program} {w : World} {K : PySem.W.Frag} {mg : Str → Option Value} {base : Heap} {C : Addr}

theorem isN_OE {α : Type} (tl : α → List D) (o : Option (Nat × α)) : isN (encOE tl o) = o.isNone := by cases o <;> rfl
structure CSz (k : Cache) : Prop where
  a : k.lines.length ≤ 50000
  b : k.req.length ≤ 50000
  c : k.leav.length ≤ 50000

/-! request_line -/
def aReq (C : Addr) (ss : List S) (s : S) : Prop := ∃ (o : Str) (cf : Cfg) (k : Cache) (c l : Nat) (ex : Bool), ss = [cfgS C o cf, .d (encC k), .d (nD c), .d (nD l), .d (.bl ex)] ∧ 0 < cf.sets ∧ CSz k ∧ s = .d (encR encCM (reqLine cf k c l ex))
abbrev sReq : Stmt := top 9
abbrev nReq : List Str := ["config", "cache", "core", "line", "exclusive", "lines", "requested", "leaving", "entry", "kind"]
abbrev pReq : List Str := ["config", "cache", "core", "line", "exclusive"]
theorem scReq : FnScope nReq pReq (defScope sReq) := ⟨rfl, rfl, rfl, by decide +kernel, rfl, by decide +kernel, by decide +kernel⟩
theorem dReq {f : Addr} {fd : FuncData} (N : NoG mg) (T : CfgT K C) (E1 : Dfn P w K mg base 1 "entry_of" ["entries", "line"] aEntryOf) (E2 : Dfn P w K mg base 1 "occupied_ways" ["config", "cache", "line"] (aOcc C))
    (F : Fun K "request_line" "request_line" sReq f fd) (hm : mg "request_line" = some (.ref f)) (hb : Binds K fd pReq []) : Dfn P w K mg base 2 "request_line" pReq (aReq C) := by
  refine Dfn.of F hm scReq (fun ss s ⟨_, _, _, _, _, _, h, _⟩ => by rw [h]; rfl) hb ?_
  rintro cdv Ar outer sh H E ss s hr ⟨o, cf, k, c, l, ex, rfl, hs, hz, rfl⟩
  have nd := scReq.nd
  refine bd_norm (by dsimp only [ini, List.map]) ?_
  refine bd_cons (sd_unpack rfl (pd_var (i := 1) rfl) (gd_cons (i := 5) nd (gd_cons (i := 6) nd (gd_cons (i := 7) nd gd_nil)))) ?_
  by_cases h1 : (fnd k.req l).isSome = true ∨ (fnd k.leav l).isSome = true
  · have e : reqLine cf k c l ex = none := by unfold reqLine; rw [if_pos h1]
    rw [e]
    refine bd_ret (sd_if (td_or (td_cmp (cd_notN (pd_call E1 hr (ad_cons (pd_var (i := 6) rfl) (ad_cons (pd_var (i := 3) rfl) ad_nil)) ⟨_, tlR, k.req, l, rfl, rfl⟩))) (fun _ => td_cmp (cd_notN (pd_call E1 hr (ad_cons (pd_var (i := 7) rfl) (ad_cons (pd_var (i := 3) rfl) ad_nil)) ⟨_, tlV, k.leav, l, rfl, rfl⟩)))) (fun _ => bd_ret (sd_ret pd_non)) (fun h => ?_))
    rw [isN_OE, isN_OE] at h
    cases ha : fnd k.req l <;> cases hb : fnd k.leav l <;> simp [ha, hb] at h h1
  have h2 : (fnd k.req l).isSome = false ∧ (fnd k.leav l).isSome = false := by
    cases ha : (fnd k.req l).isSome <;> cases hb : (fnd k.leav l).isSome <;> simp [ha, hb] at h1 ⊢
  refine bd_cons (sd_if (td_or (td_cmp (cd_notN (pd_call E1 hr (ad_cons (pd_var (i := 6) rfl) (ad_cons (pd_var (i := 3) rfl) ad_nil)) ⟨_, tlR, k.req, l, rfl, rfl⟩))) (fun _ => td_cmp (cd_notN (pd_call E1 hr (ad_cons (pd_var (i := 7) rfl) (ad_cons (pd_var (i := 3) rfl) ad_nil)) ⟨_, tlV, k.leav, l, rfl, rfl⟩)))) (fun h => ?_) (fun _ => bd_nil)) ?_
  · rw [isN_OE, isN_OE] at h
    cases ha : fnd k.req l <;> cases hb : fnd k.leav l <;> simp [ha, hb] at h h2
  by_cases h3 : cf.reqs ≤ k.req.length
  · have e : reqLine cf k c l ex = none := by unfold reqLine; rw [if_neg h1, if_pos h3]
    rw [e]
    exact bd_ret (sd_if (td_cmp (cd_ge (pd_lenT N.len (pd_var (i := 6) rfl)) (pd_reqs T (pd_var (i := 0) rfl)))) (fun _ => bd_ret (sd_ret pd_non)) (fun h => by simp at h; omega))
  refine bd_cons (sd_if (td_cmp (cd_ge (pd_lenT N.len (pd_var (i := 6) rfl)) (pd_reqs T (pd_var (i := 0) rfl)))) (fun h => by simp at h; omega) (fun _ => bd_nil)) ?_
  refine bd_cons (sd_set (i := 8) nd (pd_call E1 hr (ad_cons (pd_var (i := 5) rfl) (ad_cons (pd_var (i := 3) rfl) ad_nil)) ⟨_, tlL, k.lines, l, rfl, rfl⟩)) ?_
  -- what is handed back at the end
  have fin : ∀ G : Gm, G[2]? = some (some (.d (nD c))) → G[3]? = some (some (.d (nD l))) → G[4]? = some (some (.d (.bl ex))) → G[5]? = some (some (.d (.tup (k.lines.map (encE tlL))))) → G[6]? = some (some (.d (.tup (k.req.map (encE tlR))))) → G[7]? = some (some (.d (.tup (k.leav.map (encE tlV))))) → G.length = 10 →
      BD (XO P w K mg base nReq "request_line" sReq f cdv Ar outer sh H E) G ((defBody sReq).drop 6) (.ret (.d (encCM ({ k with req := k.req ++ [(l, ex)] }, [.rq c l ex])))) := by
    intro G g2 g3 g4 g5 g6 g7 gl
    have gs : ∀ (j : Nat) (x : S), j ≠ 9 → (G.set 9 (some x))[j]? = G[j]? := fun j x hj => List.getElem?_set_ne (fun q => hj q.symm)
    have g9 : ∀ x : S, (G.set 9 (some x))[9]? = some (some x) := fun x => List.getElem?_set_self (by omega)
    refine bd_cons (G1 := G.set 9 (some (.d (.str (if ex = true then "get modified" else "get shared"))))) (sd_set (i := 9) nd ?_) ?_
    · cases ex with
      | true => exact pd_if (td_val (pd_var (i := 4) g4)) (fun _ => pd_str) (fun h => by cases h)
      | false => exact pd_if (td_val (pd_var (i := 4) g4)) (fun h => by cases h) (fun _ => pd_str)
    refine bd_ret (sd_ret' (pd_tu (at_cons (pd_tu (at_cons (pd_var (i := 5) (by rw [gs 5 _ (by decide)]; exact g5)) (at_cons (pd_cat (pd_var (i := 6) (by rw [gs 6 _ (by decide)]; exact g6)) (pd_tu (at_cons (pd_tu (at_cons (pd_var (i := 3) (by rw [gs 3 _ (by decide)]; exact g3)) (at_cons (pd_var (i := 4) (by rw [gs 4 _ (by decide)]; exact g4)) at_nil))) at_nil)) ?_) (at_cons (pd_var (i := 7) (by rw [gs 7 _ (by decide)]; exact g7)) at_nil))))
      (at_cons (pd_tu (at_cons (pd_tu (at_cons (pd_var (i := 9) (g9 _)) (at_cons (pd_var (i := 2) (by rw [gs 2 _ (by decide)]; exact g2)) (at_cons (pd_var (i := 3) (by rw [gs 3 _ (by decide)]; exact g3)) at_nil)))) at_nil)) at_nil))) ?_)
    · have := hz.b; simp; omega
    · simp [encCM, encC, encMs, encM, encE, tlR]
  cases hf : fnd k.lines l with
  | none =>
    by_cases h4 : cf.ways ≤ occ cf k l
    · have e : reqLine cf k c l ex = none := by unfold reqLine; rw [if_neg h1, if_neg h3, hf]; simp [h4]
      rw [e]
      exact bd_ret (sd_if (td_and (td_cmp (cd_isN (pd_var (i := 8) rfl))) (fun _ => td_cmp (cd_ge (pd_call E2 hr (ad_cons (pd_var (i := 0) rfl) (ad_cons (pd_var (i := 1) rfl) (ad_cons (pd_var (i := 3) rfl) ad_nil))) ⟨o, cf, k, l, rfl, hs, by have := hz.a; omega, by have := hz.b; omega, rfl⟩) (pd_ways T (pd_var (i := 0) rfl))))) (fun _ => bd_ret (sd_ret pd_non)) (fun h => by simp [isN, encOE] at h; omega))
    · have e : reqLine cf k c l ex = some ({ k with req := k.req ++ [(l, ex)] }, [.rq c l ex]) := by unfold reqLine; rw [if_neg h1, if_neg h3, hf]; simp [h4]
      rw [e]
      refine bd_cons (sd_if (td_and (td_cmp (cd_isN (pd_var (i := 8) rfl))) (fun _ => td_cmp (cd_ge (pd_call E2 hr (ad_cons (pd_var (i := 0) rfl) (ad_cons (pd_var (i := 1) rfl) (ad_cons (pd_var (i := 3) rfl) ad_nil))) ⟨o, cf, k, l, rfl, hs, by have := hz.a; omega, by have := hz.b; omega, rfl⟩) (pd_ways T (pd_var (i := 0) rfl))))) (fun h => by simp [isN, encOE] at h; omega) (fun _ => bd_nil)) ?_
      refine bd_cons (sd_if (td_and (l := true) (td_cmp (cd_notN (pd_var (i := 8) rfl))) (fun h => by cases h)) (fun h => by cases h) (fun _ => bd_nil)) ?_
      exact fin _ rfl rfl rfl rfl rfl rfl rfl
  | some e =>
    refine bd_cons (sd_if (td_and (l := true) (td_cmp (cd_isN (pd_var (i := 8) rfl))) (fun h => by cases h)) (fun h => by cases h) (fun _ => bd_nil)) ?_
    have t : ∀ (x : Bool), (decide (e.2.1 = .sh)) = x → eqD (encS e.2.1) (.str "shared") = x := fun x hx => by rw [← hx]; exact eqD_S e.2.1 .sh
    by_cases h4 : ex = true ∧ e.2.1 = .sh
    · have e' : reqLine cf k c l ex = some ({ k with req := k.req ++ [(l, ex)] }, [.rq c l ex]) := by unfold reqLine; rw [if_neg h1, if_neg h3, hf]; simp [h4]
      rw [e']
      refine bd_cons (sd_if (td_and (td_cmp (cd_notN (pd_var (i := 8) rfl))) (fun _ => td_not (td_and (td_val (pd_var (i := 4) rfl)) (fun _ => td_cmp (cd_eq (pd_ixc (j := 1) (pd_var (i := 8) rfl) rfl) pd_str (scalD_S _ _)))))) (fun h => ?_) (fun _ => bd_nil)) ?_
      · rw [t true (by simp [h4.2]), h4.1] at h; cases h
      exact fin _ rfl rfl rfl rfl rfl rfl rfl
    · have e' : reqLine cf k c l ex = none := by unfold reqLine; rw [if_neg h1, if_neg h3, hf]; simp only; rw [if_neg h4]
      rw [e']
      refine bd_ret (sd_if (td_and (td_cmp (cd_notN (pd_var (i := 8) rfl))) (fun _ => td_not (td_and (td_val (pd_var (i := 4) rfl)) (fun _ => td_cmp (cd_eq (pd_ixc (j := 1) (pd_var (i := 8) rfl) rfl) pd_str (scalD_S _ _)))))) (fun _ => bd_ret (sd_ret pd_non)) (fun h => ?_))
      rw [t _ rfl] at h
      by_cases h5 : e.2.1 = .sh
      · cases ex with
        | true => exact absurd ⟨rfl, h5⟩ h4
        | false => rw [show isN (encOE tlL (some e)) = false from rfl] at h; simp at h
      · rw [decide_eq_false h5, show isN (encOE tlL (some e)) = false from rfl] at h; simp at h
end
end Lit
end
section
namespace Lit
open PySem PySem.Spec PyProof.Rows L2 Dat Proto
section
variable {P : Program} {w : World} {K : PySem.W.Frag} {mg : Str → Option Value} {base : Heap} {C : Addr}

theorem cat_len {xs ys : List D} {a b : Nat} (h1 : xs.length ≤ a) (h2 : ys.length ≤ b) (h : a + b ≤ 1000000) : xs.length + ys.length ≤ 1000000 := by omega
/-! give_up_line -/
def aGive (ss : List S) (s : S) : Prop := ∃ (k : Cache) (c l : Nat), ss = [.d (encC k), .d (nD c), .d (nD l)] ∧ CSz k ∧ s = .d (encR encCM (giveLine k c l))
abbrev sGive : Stmt := top 10
abbrev nGive : List Str := ["cache", "core", "line", "lines", "requested", "leaving", "entry", "kept", "dirty", "left"]
theorem scGive : FnScope nGive ["cache", "core", "line"] (defScope sGive) := ⟨rfl, rfl, rfl, by decide +kernel, rfl, by decide +kernel, by decide +kernel⟩
theorem dGive {f : Addr} {fd : FuncData} (E1 : Dfn P w K mg base 1 "entry_of" ["entries", "line"] aEntryOf) (E2 : Dfn P w K mg base 1 "without_line" ["entries", "line"] aWithout)
    (F : Fun K "give_up_line" "give_up_line" sGive f fd) (hm : mg "give_up_line" = some (.ref f)) (hb : Binds K fd ["cache", "core", "line"] []) : Dfn P w K mg base 2 "give_up_line" ["cache", "core", "line"] aGive := by
  refine Dfn.of F hm scGive (fun ss s ⟨_, _, _, h, _⟩ => by rw [h]; rfl) hb ?_
  rintro cdv Ar outer sh H E ss s hr ⟨k, c, l, rfl, hz, rfl⟩
  have nd := scGive.nd
  refine bd_norm (by dsimp only [ini, List.map]) ?_
  refine bd_cons (sd_unpack rfl (pd_var (i := 0) rfl) (gd_cons (i := 3) nd (gd_cons (i := 4) nd (gd_cons (i := 5) nd gd_nil)))) ?_
  refine bd_cons (sd_set (i := 6) nd (pd_call E1 hr (ad_cons (pd_var (i := 3) rfl) (ad_cons (pd_var (i := 2) rfl) ad_nil)) ⟨_, tlL, k.lines, l, rfl, rfl⟩)) ?_
  unfold giveLine
  cases hf : fnd k.lines l with
  | none => exact bd_ret (sd_if (td_or (l := true) (td_cmp (cd_isN (pd_var (i := 6) rfl))) (fun h => by cases h)) (fun _ => bd_ret (sd_ret pd_non)) (fun h => by cases h))
  | some e =>
    simp only
    by_cases h1 : (fnd k.req l).isSome = true
    · rw [if_pos h1]
      refine bd_ret (sd_if (td_or (td_cmp (cd_isN (pd_var (i := 6) rfl))) (fun _ => td_cmp (cd_notN (pd_call E1 hr (ad_cons (pd_var (i := 4) rfl) (ad_cons (pd_var (i := 2) rfl) ad_nil)) ⟨_, tlR, k.req, l, rfl, rfl⟩)))) (fun _ => bd_ret (sd_ret pd_non)) (fun h => ?_))
      rw [isN_OE, isN_OE] at h
      cases ha : fnd k.req l <;> simp [ha] at h h1
    rw [if_neg h1]
    refine bd_cons (sd_if (td_or (td_cmp (cd_isN (pd_var (i := 6) rfl))) (fun _ => td_cmp (cd_notN (pd_call E1 hr (ad_cons (pd_var (i := 4) rfl) (ad_cons (pd_var (i := 2) rfl) ad_nil)) ⟨_, tlR, k.req, l, rfl, rfl⟩)))) (fun h => ?_) (fun _ => bd_nil)) ?_
    · rw [isN_OE, isN_OE] at h
      cases ha : fnd k.req l <;> simp [ha] at h h1
    refine bd_cons (sd_set (i := 7) nd (pd_call E2 hr (ad_cons (pd_var (i := 3) rfl) (ad_cons (pd_var (i := 2) rfl) ad_nil)) ⟨_, tlL, k.lines, l, rfl, by have := hz.a; omega, rfl⟩)) ?_
    have t : eqD (encS e.2.1) (.str "shared") = decide (e.2.1 = .sh) := eqD_S e.2.1 .sh
    by_cases h2 : e.2.1 = .sh
    · rw [if_pos h2]
      refine bd_ret (sd_if (td_cmp (cd_eq (pd_ixc (j := 1) (pd_var (i := 6) rfl) rfl) pd_str (scalD_S _ _))) (fun _ => bd_ret (sd_ret (pd_tu (at_cons (pd_tu (at_cons (pd_var (i := 7) rfl) (at_cons (pd_var (i := 4) rfl) (at_cons (pd_var (i := 5) rfl) at_nil)))) (at_cons (pd_tu at_nil) at_nil))))) (fun h => ?_))
      rw [t, decide_eq_true h2] at h; cases h
    · rw [if_neg h2]
      refine bd_cons (sd_if (td_cmp (cd_eq (pd_ixc (j := 1) (pd_var (i := 6) rfl) rfl) pd_str (scalD_S _ _))) (fun h => ?_) (fun _ => bd_nil)) ?_
      · rw [t, decide_eq_false h2] at h; cases h
      refine bd_cons (sd_set (i := 8) nd (pd_cmp (cd_eq (pd_ixc (j := 1) (pd_var (i := 6) rfl) rfl) pd_str (scalD_S _ _)))) ?_
      rw [show eqD (encS e.2.1) (.str "modified") = decide (e.2.1 = .mo) from eqD_S e.2.1 .mo]
      refine bd_cons (sd_set (i := 9) nd (pd_cat (pd_var (i := 5) rfl) (pd_tu (at_cons (pd_tu (at_cons (pd_var (i := 2) rfl) (at_cons (pd_ixc (j := 2) (pd_var (i := 6) rfl) rfl) (at_cons (pd_var (i := 8) rfl) at_nil)))) at_nil)) (by have := hz.c; simp; omega))) ?_
      refine bd_ret (sd_ret' (pd_tu (at_cons (pd_tu (at_cons (pd_var (i := 7) rfl) (at_cons (pd_var (i := 4) rfl) (at_cons (pd_var (i := 9) rfl) at_nil))))
        (at_cons (pd_tu (at_cons (pd_tu (at_cons pd_str (at_cons (pd_var (i := 1) rfl) (at_cons (pd_var (i := 2) rfl) (at_cons (pd_ixc (j := 2) (pd_var (i := 6) rfl) rfl) (at_cons (pd_var (i := 8) rfl) at_nil)))))) at_nil)) at_nil))) ?_)
      simp [encR, encCM, encC, encMs, encM, encE, tlV, encOW]

/-! after_recall -/
def aAfter (ss : List S) (s : S) : Prop := ∃ (k : Cache) (c l : Nat) (keep : Bool) (r : Cache × List Msg), ss = [.d (encC k), .d (encM (.sv l (.recall c keep)))] ∧ CSz k ∧ afterRecall k c l keep = some r ∧ s = .d (encCM r)
abbrev sAfter : Stmt := top 11
abbrev nAfter : List Str := ["cache", "message", "lines", "requested", "leaving", "core", "line", "keep", "entry", "left", "rest", "kept"]
theorem scAfter : FnScope nAfter ["cache", "message"] (defScope sAfter) := ⟨rfl, rfl, rfl, by decide +kernel, rfl, by decide +kernel, by decide +kernel⟩
theorem dAfter {f : Addr} {fd : FuncData} (E1 : Dfn P w K mg base 1 "entry_of" ["entries", "line"] aEntryOf) (E2 : Dfn P w K mg base 1 "without_line" ["entries", "line"] aWithout) (E3 : Dfn P w K mg base 1 "with_entry" ["entries", "new"] aWithE)
    (F : Fun K "after_recall" "after_recall" sAfter f fd) (hm : mg "after_recall" = some (.ref f)) (hb : Binds K fd ["cache", "message"] []) : Dfn P w K mg base 2 "after_recall" ["cache", "message"] aAfter := by
  refine Dfn.of F hm scAfter (fun ss s ⟨_, _, _, _, _, h, _⟩ => by rw [h]; rfl) hb ?_
  rintro cdv Ar outer sh H E ss s hr ⟨k, c, l, keep, r, rfl, hz, ha, rfl⟩
  have nd := scAfter.nd
  refine bd_norm (by dsimp only [ini, List.map]) ?_
  refine bd_cons (sd_unpack rfl (pd_var (i := 0) rfl) (gd_cons (i := 2) nd (gd_cons (i := 3) nd (gd_cons (i := 4) nd gd_nil)))) ?_
  refine bd_cons (sd_par3 (i := 5) (j := 6) (l := 7) rfl nd (ad_cons (pd_ixc (j := 1) (pd_var (i := 1) rfl) rfl) (ad_cons (pd_ixc (j := 2) (pd_var (i := 1) rfl) rfl) (ad_cons (pd_ixc (j := 3) (pd_var (i := 1) rfl) rfl) ad_nil)))) ?_
  refine bd_cons (sd_set (i := 8) nd (pd_call E1 hr (ad_cons (pd_var (i := 2) rfl) (ad_cons (pd_var (i := 6) rfl) ad_nil)) ⟨_, tlL, k.lines, l, rfl, rfl⟩)) ?_
  unfold afterRecall at ha
  cases hf : fnd k.lines l with
  | none =>
    rw [hf] at ha
    simp only at ha
    obtain ⟨ws, d, hv, rfl⟩ : ∃ ws d, fnd k.leav l = some (l, some ws, d) ∧ r = ({ k with leav := withE k.leav (l, none, d) }, [.sv l (.ret c ws d)]) := by
      cases hv : fnd k.leav l with
      | none => rw [hv] at ha; cases ha
      | some e =>
        obtain ⟨e1, e2, e3⟩ := e
        rw [hv] at ha
        cases e2 with
        | none => cases ha
        | some ws =>
          have h1 := (fnd_line hv).1
          simp only at h1
          subst h1
          cases ha
          exact ⟨ws, e3, rfl, rfl⟩
    refine bd_ret (sd_if (td_cmp (cd_isN (pd_var (i := 8) rfl))) (fun _ => ?_) (fun h => by cases h))
    refine bd_cons (sd_set (i := 9) (s := .d (encE tlV (l, some ws, d))) nd (pd_call E1 hr (ad_cons (pd_var (i := 4) rfl) (ad_cons (pd_var (i := 6) rfl) ad_nil)) ⟨_, tlV, k.leav, l, rfl, by rw [hv]; rfl⟩)) ?_
    refine bd_cons (sd_set (i := 10) nd (pd_call E3 hr (ad_cons (pd_var (i := 4) rfl) (ad_cons (pd_tu (ds := [nD l, encOW none, .bl d]) (at_cons (pd_var (i := 6) rfl) (at_cons pd_non (at_cons (pd_ixc (j := 2) (pd_var (i := 9) rfl) rfl) at_nil)))) ad_nil)) ⟨_, tlV, k.leav, (l, none, d), rfl, by have := hz.c; omega, rfl⟩)) ?_
    exact bd_ret (sd_ret (pd_tu (at_cons (pd_tu (at_cons (pd_var (i := 2) rfl) (at_cons (pd_var (i := 3) rfl) (at_cons (pd_var (i := 10) rfl) at_nil))))
      (at_cons (pd_tu (at_cons (pd_tu (at_cons pd_str (at_cons (pd_var (i := 5) rfl) (at_cons (pd_var (i := 6) rfl) (at_cons (pd_ixc (j := 1) (pd_var (i := 9) rfl) rfl) (at_cons (pd_ixc (j := 2) (pd_var (i := 9) rfl) rfl) at_nil)))))) at_nil)) at_nil))))
  | some e =>
    rw [hf] at ha
    cases ha
    refine bd_cons (sd_if (td_cmp (cd_isN (pd_var (i := 8) rfl))) (fun h => by cases h) (fun _ => bd_nil)) ?_
    refine bd_cons (sd_set (i := 11) nd (pd_call E2 hr (ad_cons (pd_var (i := 2) rfl) (ad_cons (pd_var (i := 6) rfl) ad_nil)) ⟨_, tlL, k.lines, l, rfl, by have := hz.a; omega, rfl⟩)) ?_
    have fin : ∀ (ls : List (Nat × Ls × Words)) (G : Gm), G[3]? = some (some (.d (.tup (k.req.map (encE tlR))))) → G[4]? = some (some (.d (.tup (k.leav.map (encE tlV))))) → G[5]? = some (some (.d (nD c))) → G[6]? = some (some (.d (nD l))) → G[8]? = some (some (.d (encE tlL e))) → G[11]? = some (some (.d (.tup (ls.map (encE tlL))))) →
        BD (XO P w K mg base nAfter "after_recall" sAfter f cdv Ar outer sh H E) G ((defBody sAfter).drop 6) (.ret (.d (encCM ({ k with lines := ls }, [.sv l (.ret c e.2.2 (decide (e.2.1 = .mo)))])))) := by
      intro ls G g3 g4 g5 g6 g8 g11
      refine bd_ret (sd_ret' (pd_tu (at_cons (pd_tu (at_cons (pd_var (i := 11) g11) (at_cons (pd_var (i := 3) g3) (at_cons (pd_var (i := 4) g4) at_nil))))
        (at_cons (pd_tu (at_cons (pd_tu (at_cons pd_str (at_cons (pd_var (i := 5) g5) (at_cons (pd_var (i := 6) g6) (at_cons (pd_ixc (j := 2) (pd_var (i := 8) g8) rfl) (at_cons (pd_cmp (cd_eq (pd_ixc (j := 1) (pd_var (i := 8) g8) rfl) pd_str (scalD_S _ _))) at_nil)))))) at_nil)) at_nil))) ?_)
      rw [show eqD (encS e.2.1) (.str "modified") = decide (e.2.1 = .mo) from eqD_S e.2.1 .mo]
      rfl
    cases keep with
    | true =>
      refine bd_cons (sd_if (td_val (pd_var (i := 7) rfl)) (fun _ => bd_cons (sd_set (i := 11) nd (pd_call E3 hr (ad_cons (pd_var (i := 2) rfl) (ad_cons (pd_tu (ds := [nD l, encS .sh, encW e.2.2]) (at_cons (pd_var (i := 6) rfl) (at_cons pd_str (at_cons (pd_ixc (j := 2) (pd_var (i := 8) rfl) rfl) at_nil)))) ad_nil)) ⟨_, tlL, k.lines, (l, .sh, e.2.2), rfl, by have := hz.a; omega, rfl⟩)) bd_nil) (fun h => by cases h)) ?_
      exact fin (withE k.lines (l, .sh, e.2.2)) _ rfl rfl rfl rfl rfl rfl
    | false =>
      refine bd_cons (sd_if (td_val (pd_var (i := 7) rfl)) (fun h => by cases h) (fun _ => bd_nil)) ?_
      exact fin (wout k.lines l) _ rfl rfl rfl rfl rfl rfl

/-! cache_receives -/
def aRecv (ss : List S) (s : S) : Prop := ∃ (k : Cache) (m : Msg) (r : Cache × List Msg), ss = [.d (encC k), .d (encM m)] ∧ CSz k ∧ cacheRecv k m = some r ∧ s = .d (encCM r)
abbrev sRecv : Stmt := top 12
abbrev nRecv : List Str := ["cache", "message", "lines", "requested", "leaving", "kind", "core", "line", "present"]
theorem scRecv : FnScope nRecv ["cache", "message"] (defScope sRecv) := ⟨rfl, rfl, rfl, by decide +kernel, rfl, by decide +kernel, by decide +kernel⟩
theorem dRecv {f : Addr} {fd : FuncData} (E2 : Dfn P w K mg base 1 "without_line" ["entries", "line"] aWithout) (E4 : Dfn P w K mg base 2 "after_recall" ["cache", "message"] aAfter)
    (F : Fun K "cache_receives" "cache_receives" sRecv f fd) (hm : mg "cache_receives" = some (.ref f)) (hb : Binds K fd ["cache", "message"] []) : Dfn P w K mg base 3 "cache_receives" ["cache", "message"] aRecv := by
  refine Dfn.of F hm scRecv (fun ss s ⟨_, _, _, h, _⟩ => by rw [h]; rfl) hb ?_
  rintro cdv Ar outer sh H E ss s hr ⟨k, m, r, rfl, hz, ha, rfl⟩
  have nd := scRecv.nd
  refine bd_norm (by dsimp only [ini, List.map]) ?_
  refine bd_cons (sd_unpack rfl (pd_var (i := 0) rfl) (gd_cons (i := 2) nd (gd_cons (i := 3) nd (gd_cons (i := 4) nd gd_nil)))) ?_
  cases m with
  | rq c l ex => cases ha
  | lv c l y =>
    cases y with
    | give ws d => cases ha
    | conf =>
      cases ha
      refine bd_cons (sd_par3 (i := 5) (j := 6) (l := 7) rfl nd (ad_cons (pd_ixc (j := 0) (pd_var (i := 1) rfl) rfl) (ad_cons (pd_ixc (j := 1) (pd_var (i := 1) rfl) rfl) (ad_cons (pd_ixc (j := 2) (pd_var (i := 1) rfl) rfl) ad_nil)))) ?_
      refine bd_cons (sd_if (td_cmp (cd_eq (pd_var (i := 5) rfl) pd_str)) (fun h => absurd h (by decide +kernel)) (fun _ => bd_nil)) ?_
      refine bd_cons (sd_if (td_cmp (cd_eq (pd_var (i := 5) rfl) pd_str)) (fun h => absurd h (by decide +kernel)) (fun _ => bd_nil)) ?_
      refine bd_cons (sd_if (td_cmp (cd_eq (pd_var (i := 5) rfl) pd_str)) (fun h => absurd h (by decide +kernel)) (fun _ => bd_nil)) ?_
      exact bd_ret (sd_ret (pd_tu (at_cons (pd_tu (at_cons (pd_var (i := 2) rfl) (at_cons (pd_var (i := 3) rfl) (at_cons (pd_call E2 (hr.mono (by decide)) (ad_cons (pd_var (i := 4) rfl) (ad_cons (pd_var (i := 7) rfl) ad_nil)) ⟨_, tlV, k.leav, l, rfl, by have := hz.c; omega, rfl⟩) at_nil)))) (at_cons (pd_tu at_nil) at_nil))))
  | sv l y =>
    cases y with
    | invd c => cases ha
    | ret c ws d => cases ha
    | rcv c => cases ha
    | recall c keep =>
      refine bd_cons (sd_par3 (i := 5) (j := 6) (l := 7) rfl nd (ad_cons (pd_ixc (j := 0) (pd_var (i := 1) rfl) rfl) (ad_cons (pd_ixc (j := 1) (pd_var (i := 1) rfl) rfl) (ad_cons (pd_ixc (j := 2) (pd_var (i := 1) rfl) rfl) ad_nil)))) ?_
      exact bd_ret (sd_if (td_cmp (cd_eq (pd_var (i := 5) rfl) pd_str)) (fun _ => bd_ret (sd_ret (pd_call E4 hr (ad_cons (pd_var (i := 0) rfl) (ad_cons (pd_var (i := 1) rfl) ad_nil)) ⟨k, c, l, keep, r, rfl, hz, ha, rfl⟩))) (fun h => absurd h (by decide +kernel)))
    | inv c =>
      cases ha
      refine bd_cons (sd_par3 (i := 5) (j := 6) (l := 7) rfl nd (ad_cons (pd_ixc (j := 0) (pd_var (i := 1) rfl) rfl) (ad_cons (pd_ixc (j := 1) (pd_var (i := 1) rfl) rfl) (ad_cons (pd_ixc (j := 2) (pd_var (i := 1) rfl) rfl) ad_nil)))) ?_
      refine bd_cons (sd_if (td_cmp (cd_eq (pd_var (i := 5) rfl) pd_str)) (fun h => absurd h (by decide +kernel)) (fun _ => bd_nil)) ?_
      exact bd_ret (sd_if (td_cmp (cd_eq (pd_var (i := 5) rfl) pd_str)) (fun _ => bd_ret (sd_ret (pd_tu (at_cons (pd_tu (at_cons (pd_call E2 (hr.mono (by decide)) (ad_cons (pd_var (i := 2) rfl) (ad_cons (pd_var (i := 7) rfl) ad_nil)) ⟨_, tlL, k.lines, l, rfl, by have := hz.a; omega, rfl⟩) (at_cons (pd_var (i := 3) rfl) (at_cons (pd_var (i := 4) rfl) at_nil))))
        (at_cons (pd_tu (at_cons (pd_tu (at_cons pd_str (at_cons (pd_var (i := 6) rfl) (at_cons (pd_var (i := 7) rfl) at_nil)))) at_nil)) at_nil))))) (fun h => absurd h (by decide +kernel)))
    | grant c st ws =>
      cases ha
      refine bd_cons (sd_par3 (i := 5) (j := 6) (l := 7) rfl nd (ad_cons (pd_ixc (j := 0) (pd_var (i := 1) rfl) rfl) (ad_cons (pd_ixc (j := 1) (pd_var (i := 1) rfl) rfl) (ad_cons (pd_ixc (j := 2) (pd_var (i := 1) rfl) rfl) ad_nil)))) ?_
      refine bd_cons (sd_if (td_cmp (cd_eq (pd_var (i := 5) rfl) pd_str)) (fun h => absurd h (by decide +kernel)) (fun _ => bd_nil)) ?_
      refine bd_cons (sd_if (td_cmp (cd_eq (pd_var (i := 5) rfl) pd_str)) (fun h => absurd h (by decide +kernel)) (fun _ => bd_nil)) ?_
      have hwl := wout_len k.lines l
      refine bd_ret (sd_if (td_cmp (cd_eq (pd_var (i := 5) rfl) pd_str)) (fun _ => ?_) (fun h => absurd h (by decide +kernel)))
      refine bd_cons (sd_set (i := 8) nd (pd_cat (pd_call E2 (hr.mono (by decide)) (ad_cons (pd_var (i := 2) rfl) (ad_cons (pd_var (i := 7) rfl) ad_nil)) ⟨_, tlL, k.lines, l, rfl, by have := hz.a; omega, rfl⟩) (pd_tu (at_cons (pd_tu (at_cons (pd_var (i := 7) rfl) (at_cons (pd_ixc (j := 3) (pd_var (i := 1) rfl) rfl) (at_cons (pd_ixc (j := 4) (pd_var (i := 1) rfl) rfl) at_nil)))) at_nil)) (by have := hz.a; simp; omega))) ?_
      refine bd_ret (sd_ret' (pd_tu (at_cons (pd_tu (at_cons (pd_var (i := 8) rfl) (at_cons (pd_call E2 (hr.mono (by decide)) (ad_cons (pd_var (i := 3) rfl) (ad_cons (pd_var (i := 7) rfl) ad_nil)) ⟨_, tlR, k.req, l, rfl, by have := hz.b; omega, rfl⟩) (at_cons (pd_var (i := 4) rfl) at_nil))))
        (at_cons (pd_tu (at_cons (pd_tu (at_cons pd_str (at_cons (pd_var (i := 6) rfl) (at_cons (pd_var (i := 7) rfl) at_nil)))) at_nil)) at_nil))) ?_)
      simp [encCM, encC, encMs, encM, encE, tlL]
end
end Lit
end
section
namespace Lit
open PySem PySem.Spec PyProof.Rows L2 Dat Proto
section
variable {P : Program} {w : World} {K : PySem.W.Frag} {mg : Str → Option Value} {base : Heap} {C : Addr}

/-! the module's own constants -/
def GlD (K : PySem.W.Frag) (mg : Str → Option Value) (x : Str) (d : D) : Prop := ∃ a, mg x = some (.ref a) ∧ ∀ H, Is K H d (.ref a)
theorem pd_gl {X : Cx} {G : Gm} {x : Str} {d : D} {pos : Pos} (h : GlD X.K X.mg x d) (hg : Gl X x := by rfl) (hd : (x == ("__debug__" : Str)) = false := by decide) : PD X G (.Name x pos) d := by
  obtain ⟨a, hm, k⟩ := h
  exact pd_glob (v := .ref a) hg hm rfl k hd
def dWaits : D := .tup [.str "get shared", .str "get modified", .str "give up"]
def dToC : D := .tup [.str "invalidate", .str "recall", .str "grant", .str "confirm"]
def kindM : Msg → Str
  | .rq _ _ ex => if ex = true then "get modified" else "get shared"
  | .lv _ _ (.give _ _) => "give up"
  | .lv _ _ .conf => "confirm"
  | .sv _ (.inv _) => "invalidate"
  | .sv _ (.invd _) => "invalidated"
  | .sv _ (.recall _ _) => "recall"
  | .sv _ (.grant _ _ _) => "grant"
  | .sv _ (.ret _ _ _) => "returned"
  | .sv _ (.rcv _) => "received"
def restM : Msg → List D
  | .rq _ _ _ => []
  | .lv _ _ (.give ws d) => [encW ws, .bl d]
  | .lv _ _ .conf => []
  | .sv _ (.inv _) => []
  | .sv _ (.invd _) => []
  | .sv _ (.recall _ k) => [.bl k]
  | .sv _ (.grant _ st ws) => [encS st, encW ws]
  | .sv _ (.ret _ ws d) => [encW ws, .bl d]
  | .sv _ (.rcv _) => []
theorem encM_eq (m : Msg) : encM m = .tup (.str (kindM m) :: nD m.core :: nD m.line :: restM m) := by
  cases m with
  | rq c l ex => rfl
  | lv c l y => cases y <;> rfl
  | sv l y => cases y <;> rfl
theorem in_waits (m : Msg) : inD (.str (kindM m)) [.str "get shared", .str "get modified", .str "give up"] = waits m := by
  cases m with
  | rq c l ex => cases ex <;> (simp only [kindM, waits, toCaches]; decide +kernel)
  | lv c l y => cases y <;> (simp only [kindM, waits]; decide +kernel)
  | sv l y => cases y <;> (simp only [kindM, waits]; decide +kernel)
theorem in_toc (m : Msg) : inD (.str (kindM m)) [.str "invalidate", .str "recall", .str "grant", .str "confirm"] = toCaches m := by
  cases m with
  | rq c l ex => cases ex <;> (simp only [kindM, waits, toCaches]; decide +kernel)
  | lv c l y => cases y <;> (simp only [kindM, toCaches]; decide +kernel)
  | sv l y => cases y <;> (simp only [kindM, toCaches]; decide +kernel)
theorem isN_OS (o : Option Serv) : isN (encOS o) = o.isNone := by cases o <;> rfl
theorem isN_ON (o : Option Nat) : isN (encON o) = o.isNone := by cases o <;> rfl
theorem isN_OW (o : Option Words) : isN (encOW o) = o.isNone := by cases o <;> rfl

/-! can_receive -/
def aCanR (ss : List S) (s : S) : Prop := ∃ (h : Home) (m : Msg), ss = [.d (encH h), .d (encM m)] ∧ s = .d (.bl (canRecv h m))
abbrev sCanR : Stmt := top 16
theorem scCanR : FnScope ["home", "message"] ["home", "message"] (defScope sCanR) := ⟨rfl, rfl, rfl, by decide +kernel, rfl, by decide +kernel, by decide +kernel⟩
theorem dCanR {f : Addr} {fd : FuncData} (Gw : GlD K mg "WAITS_FOR_SERVICE" dWaits) (F : Fun K "can_receive" "can_receive" sCanR f fd) (hm : mg "can_receive" = some (.ref f)) (hb : Binds K fd ["home", "message"] []) : Dfn P w K mg base 1 "can_receive" ["home", "message"] aCanR := by
  refine Dfn.of F hm scCanR (fun ss s ⟨_, _, h, _⟩ => by rw [h]; rfl) hb ?_
  rintro cdv Ar outer sh H E ss s hr ⟨h, m, rfl, rfl⟩
  rw [encM_eq]
  refine bd_ret (sd_ret' (pd_or (pd_cmp (cd_isN (pd_ixc (j := 2) (pd_var (i := 0) rfl) rfl))) (fun _ => pd_cmp (cd_notIn (pd_ixc (j := 0) (pd_var (i := 1) rfl) rfl) (pd_gl Gw) rfl rfl))) ?_)
  rw [in_waits, isN_OS]; rfl

/-! begun -/
def encHM (l : Nat) (r : Home × List Sv) : D := .tup [encH r.1, encMs (r.2.map (.sv l))]
def aBegun (ss : List S) (s : S) : Prop := ∃ (h : Home) (mem : Words) (c l : Nat) (ex : Bool), ss = [.d (encH h), .d (encW mem), .d (encM (.rq c l ex))] ∧ h.sharers.length ≤ 50000 ∧ s = .d (encHM l (begunH h mem c ex))
abbrev sBegun : Stmt := top 17
abbrev nBegun : List Str := ["home", "words", "message", "owner", "sharers", "core", "line", "exclusive", "serving", "awaited", "messages", "sharer"]
abbrev pBegun : List Str := ["home", "words", "message"]
theorem scBegun : FnScope nBegun pBegun (defScope sBegun) := ⟨rfl, rfl, rfl, by decide +kernel, rfl, by decide +kernel, by decide +kernel⟩
theorem dBegun {f : Addr} {fd : FuncData} (N : NoG mg) (F : Fun K "begun" "begun" sBegun f fd) (hm : mg "begun" = some (.ref f)) (hb : Binds K fd pBegun []) : Dfn P w K mg base 1 "begun" pBegun aBegun := by
  refine Dfn.of F hm scBegun (fun ss s ⟨_, _, _, _, _, h, _⟩ => by rw [h]; rfl) hb ?_
  rintro cdv Ar outer sh H E ss s hr ⟨h, mem, c, l, ex, rfl, hz, rfl⟩
  have nd := scBegun.nd
  refine bd_norm (by dsimp only [ini, List.map]) ?_
  refine bd_cons (sd_par (i := 3) (j := 4) rfl nd (ad_cons (pd_ixc (j := 0) (pd_var (i := 0) rfl) rfl) (ad_cons (pd_ixc (j := 1) (pd_var (i := 0) rfl) rfl) ad_nil))) ?_
  have hk : eqD (.str (if ex = true then "get modified" else "get shared")) (.str "get modified") = ex := by cases ex <;> decide +kernel
  have hx : ∀ {G : Gm} {p1 p2 p3 p4 p5 : Pos} {i1 i2 : Nat}, G[2]? = some (some (.d (encM (.rq c l ex)))) → PD (XO P w K mg base nBegun "begun" sBegun f cdv Ar outer sh H E) G (.Compare (.Subscript (.Name "message" p1) (.Constant (.int 0) i1 p2) p3) [.Eq] [.Constant (.str "get modified") i2 p4] p5) (.bl ex) := by
    intro G p1 p2 p3 p4 p5 i1 i2 hG
    have := pd_cmp (pos := p5) (cd_eq (X := XO P w K mg base nBegun "begun" sBegun f cdv Ar outer sh H E) (pd_ixc (pos := p3) (k := i1) (p2 := p2) (j := 0) (pd_var (pos := p1) (i := 2) hG) rfl) (pd_str (j := i2) (pos := p4) (x := "get modified")))
    rw [hk] at this
    exact this
  refine bd_cons (sd_unpack (ds := [nD c, nD l, .bl ex]) rfl (pd_tu (at_cons (pd_ixc (j := 1) (pd_var (i := 2) rfl) rfl) (at_cons (pd_ixc (j := 2) (pd_var (i := 2) rfl) rfl) (at_cons (hx rfl) at_nil)))) (gd_cons (i := 5) nd (gd_cons (i := 6) nd (gd_cons (i := 7) nd gd_nil)))) ?_
  obtain ⟨owner, sharers, serving⟩ := h
  cases owner with
  | some o =>
    refine bd_ret (sd_if (td_cmp (cd_notN (pd_var (i := 3) rfl))) (fun _ => ?_) (fun h => by cases h))
    refine bd_cons (sd_set (i := 8) nd (pd_tu (at_cons (pd_var (i := 5) rfl) (at_cons (pd_var (i := 7) rfl) (at_cons (pd_tu at_nil) (at_cons pd_bl (at_cons pd_non (at_cons pd_bl at_nil)))))))) ?_
    exact bd_ret (sd_ret (pd_tu (at_cons (pd_tu (at_cons (pd_var (i := 3) rfl) (at_cons (pd_var (i := 4) rfl) (at_cons (pd_var (i := 8) rfl) at_nil))))
      (at_cons (pd_tu (at_cons (pd_tu (at_cons pd_str (at_cons (pd_var (i := 3) rfl) (at_cons (pd_var (i := 6) rfl) (at_cons (pd_notV (pd_var (i := 7) rfl)) at_nil))))) at_nil)) at_nil))))
  | none =>
    refine bd_cons (sd_if (td_cmp (cd_notN (pd_var (i := 3) rfl))) (fun h => by cases h) (fun _ => bd_nil)) ?_
    refine bd_cons (sd_set (i := 9) nd (pd_tu at_nil)) ?_
    have fin : ∀ (aw : List Nat) (G : Gm), aw.length ≤ 50000 → G[1]? = some (some (.d (encW mem))) → G[3]? = some (some (.d .non)) → G[4]? = some (some (.d (encNs sharers))) → G[5]? = some (some (.d (nD c))) → G[6]? = some (some (.d (nD l))) → G[7]? = some (some (.d (.bl ex))) → G[9]? = some (some (.d (encNs aw))) → G.length = 12 →
        BD (XO P w K mg base nBegun "begun" sBegun f cdv Ar outer sh H E) G ((defBody sBegun).drop 5) (.ret (.d (.tup [.tup [.non, encNs sharers, .tup [nD c, .bl ex, encNs aw, .bl false, encW mem, .bl false]], encMs (aw.map fun x => Msg.sv l (.inv x))]))) := by
      intro aw G hl g1 g3 g4 g5 g6 g7 g9 gl
      have gs : ∀ (j : Nat) (x : Option S), j ≠ 10 → (G.set 10 x)[j]? = G[j]? := fun j x hj => List.getElem?_set_ne (fun q => hj q.symm)
      have g10 : ∀ x : S, (G.set 10 (some x))[10]? = some (some x) := fun x => List.getElem?_set_self (by omega)
      have e : (aw.map fun x => Msg.sv l (.inv x)).map encM = aw.filterMap (fun x => some (D.tup [.str "invalidate", nD x, nD l])) := by
        rw [fm_map, List.map_map]; rfl
      have gt : ∀ x : D, (tG G 11 x)[11]? = some (some (.d x)) := fun x => List.getElem?_set_self (by simp; omega)
      have gu : ∀ (x : D) (j : Nat), j ≠ 11 → (tG G 11 x)[j]? = G[j]? := fun x j hj => by rw [List.getElem?_set_ne (fun q => hj q.symm), List.getElem?_set_ne (fun q => hj q.symm)]
      refine bd_cons (G1 := G.set 10 (some (.d (encMs (aw.map fun x => Msg.sv l (.inv x)))))) (sd_set (i := 10) nd ?_) ?_
      · unfold encMs
        rw [e]
        refine pd_tupL N.tuple (pd_lcT (j := 11) (xs := aw) (en := nD) (y := "sharer") ⟨rfl, nd, blkOk_by (N := nBegun) (sc := defScope sBegun) (by decide +kernel), Nat.le_trans hl (by decide), fun y hy => et_nil, fun y r hy hr => ?_⟩ (pd_var (i := 9) g9) (fun _ _ _ _ _ => pg_name (i := 11) nd rfl (Or.inl rfl)))
        cases hr
        intro s H C cl fp
        exact pd_tu (at_cons pd_str (at_cons (pd_var (i := 11) (gt _)) (at_cons (pd_var (i := 6) (by rw [gu _ 6 (by decide)]; exact g6)) at_nil)))
      exact bd_ret (sd_ret (pd_tu (at_cons (pd_tu (at_cons (pd_var (i := 3) (by rw [gs 3 _ (by decide)]; exact g3)) (at_cons (pd_var (i := 4) (by rw [gs 4 _ (by decide)]; exact g4))
        (at_cons (pd_tu (at_cons (pd_var (i := 5) (by rw [gs 5 _ (by decide)]; exact g5)) (at_cons (pd_var (i := 7) (by rw [gs 7 _ (by decide)]; exact g7)) (at_cons (pd_var (i := 9) (by rw [gs 9 _ (by decide)]; exact g9)) (at_cons pd_bl (at_cons (pd_var (i := 1) (by rw [gs 1 _ (by decide)]; exact g1)) (at_cons pd_bl at_nil))))))) at_nil)))) (at_cons (pd_var (i := 10) (g10 _)) at_nil))))
    have res : ∀ aw : List Nat, (if ex = true then sharers.filter (fun x => x != c) else []) = aw → encHM l (begunH ⟨none, sharers, serving⟩ mem c ex) = .tup [.tup [.non, encNs sharers, .tup [nD c, .bl ex, encNs aw, .bl false, encW mem, .bl false]], encMs (aw.map fun x => Msg.sv l (.inv x))] := by
      intro aw ha
      unfold encHM begunH
      simp only [ha, List.map_map]
      rfl
    cases ex with
    | false =>
      refine bd_cons (sd_if (td_val (pd_var (i := 7) rfl)) (fun h => by cases h) (fun _ => bd_nil)) ?_
      rw [res [] rfl]
      exact fin [] _ (by simp) rfl rfl rfl rfl rfl rfl rfl rfl
    | true =>
      have e := fm_filter (fun x : Nat => x != c) nD sharers
      have hz' : sharers.length ≤ 50000 := hz
      refine bd_cons (sd_if (o := .nx _) (td_val (pd_var (i := 7) rfl)) (fun _ => bd_cons (sd_set (i := 9) (s := .d (encNs (sharers.filter fun x => x != c))) nd ?_) bd_nil) (fun h => by cases h)) ?_
      · unfold encNs
        rw [← e]
        refine pd_tupL N.tuple (pd_lcT (j := 11) (xs := sharers) (en := nD) (y := "sharer") ⟨rfl, nd, blkOk_by (N := nBegun) (sc := defScope sBegun) (by decide +kernel), Nat.le_trans hz' (by decide), fun y hy => ?_, fun y r hy hr => ?_⟩ (pd_var (i := 4) rfl) (fun _ _ _ _ _ => pg_name (i := 11) nd rfl (Or.inl rfl)))
        · rw [some_ite, show (y != c) = !eqD (nD y) (nD c) by rw [eqD_nn]; rfl]
          exact et_one fun s H C cl fp => td_cmp (cd_ne (pd_var (i := 11) rfl) (pd_var (i := 5) rfl))
        · obtain ⟨_, rfl⟩ := of_ite hr
          exact fun s H C cl fp => pd_var (i := 11) rfl
      rw [res _ rfl]
      exact fin _ _ (Nat.le_trans (List.length_filter_le _ _) hz') rfl rfl rfl rfl rfl rfl rfl rfl

/-! invalidated -/
def aInvd (ss : List S) (s : S) : Prop := ∃ (h : Home) (a : Nat) (sv : Serv), ss = [.d (encH h), .d (nD a)] ∧ h.serving = some sv ∧ h.sharers.length ≤ 50000 ∧ sv.aw.length ≤ 50000 ∧ s = .d (encH (invalidatedH h a))
abbrev sInvd : Stmt := top 18
abbrev nInvd : List Str := ["home", "sharer", "owner", "sharers", "serving", "core", "exclusive", "awaited", "recalled", "words", "granted", "other"]
theorem scInvd : FnScope nInvd ["home", "sharer"] (defScope sInvd) := ⟨rfl, rfl, rfl, by decide +kernel, rfl, by decide +kernel, by decide +kernel⟩
theorem dInvd {f : Addr} {fd : FuncData} (N : NoG mg) (F : Fun K "invalidated" "invalidated" sInvd f fd) (hm : mg "invalidated" = some (.ref f)) (hb : Binds K fd ["home", "sharer"] []) : Dfn P w K mg base 1 "invalidated" ["home", "sharer"] aInvd := by
  refine Dfn.of F hm scInvd (fun ss s ⟨_, _, _, h, _⟩ => by rw [h]; rfl) hb ?_
  rintro cdv Ar outer sh H E ss s hr ⟨h, a, sv, rfl, hs, hz1, hz2, rfl⟩
  have nd := scInvd.nd
  refine bd_norm (by dsimp only [ini, List.map]) ?_
  obtain ⟨owner, sharers, serving⟩ := h
  simp only at hs hz1
  subst hs
  obtain ⟨c, ex, aw, rc, ws, gr⟩ := sv
  simp only at hz2
  refine bd_cons (sd_unpack rfl (pd_var (i := 0) rfl) (gd_cons (i := 2) nd (gd_cons (i := 3) nd (gd_cons (i := 4) nd gd_nil)))) ?_
  refine bd_cons (sd_unpack rfl (pd_var (i := 4) rfl) (gd_cons (i := 5) nd (gd_cons (i := 6) nd (gd_cons (i := 7) nd (gd_cons (i := 8) nd (gd_cons (i := 9) nd (gd_cons (i := 10) nd gd_nil))))))) ?_
  have e1 := fm_filter (fun x : Nat => x != a) nD sharers
  have e2 := fm_filter (fun x : Nat => x != a) nD aw
  refine bd_cons (sd_set (i := 3) (s := .d (encNs (sharers.filter fun x => x != a))) nd ?_) ?_
  · unfold encNs
    rw [← e1]
    refine pd_tupL N.tuple (pd_lcT (j := 11) (xs := sharers) (en := nD) (y := "other") ⟨rfl, nd, blkOk_by (N := nInvd) (sc := defScope sInvd) (by decide +kernel), Nat.le_trans hz1 (by decide), fun y hy => ?_, fun y r hy hr => ?_⟩ (pd_var (i := 3) rfl) (fun _ _ _ _ _ => pg_name (i := 11) nd rfl (Or.inl rfl)))
    · rw [some_ite, show (y != a) = !eqD (nD y) (nD a) by rw [eqD_nn]; rfl]
      exact et_one fun s H C cl fp => td_cmp (cd_ne (pd_var (i := 11) rfl) (pd_var (i := 1) rfl))
    · obtain ⟨_, rfl⟩ := of_ite hr
      exact fun s H C cl fp => pd_var (i := 11) rfl
  refine bd_cons (sd_set (i := 7) (s := .d (encNs (aw.filter fun x => x != a))) nd ?_) ?_
  · unfold encNs
    rw [← e2]
    refine pd_tupL N.tuple (pd_lcT (j := 11) (xs := aw) (en := nD) (y := "other") ⟨rfl, nd, blkOk_by (N := nInvd) (sc := defScope sInvd) (by decide +kernel), Nat.le_trans hz2 (by decide), fun y hy => ?_, fun y r hy hr => ?_⟩ (pd_var (i := 7) rfl) (fun _ _ _ _ _ => pg_name (i := 11) nd rfl (Or.inl rfl)))
    · rw [some_ite, show (y != a) = !eqD (nD y) (nD a) by rw [eqD_nn]; rfl]
      exact et_one fun s H C cl fp => td_cmp (cd_ne (pd_var (i := 11) rfl) (pd_var (i := 1) rfl))
    · obtain ⟨_, rfl⟩ := of_ite hr
      exact fun s H C cl fp => pd_var (i := 11) rfl
  exact bd_ret (sd_ret (pd_tu (at_cons (pd_var (i := 2) rfl) (at_cons (pd_var (i := 3) rfl) (at_cons (pd_tu (at_cons (pd_var (i := 5) rfl) (at_cons (pd_var (i := 6) rfl) (at_cons (pd_var (i := 7) rfl) (at_cons (pd_var (i := 8) rfl) (at_cons (pd_var (i := 9) rfl) (at_cons (pd_var (i := 10) rfl) at_nil))))))) at_nil)))))

/-! returned -/
def aRet (ss : List S) (s : S) : Prop := ∃ (h : Home) (c l : Nat) (ws : Words) (d : Bool) (sv : Serv), ss = [.d (encH h), .d (encM (.sv l (.ret c ws d)))] ∧ h.serving = some sv ∧ s = .d (encH (returnedH h c ws))
abbrev sRet : Stmt := top 19
abbrev nRet : List Str := ["home", "message", "serving", "core", "exclusive", "awaited", "granted", "sharers"]
theorem scRet : FnScope nRet ["home", "message"] (defScope sRet) := ⟨rfl, rfl, rfl, by decide +kernel, rfl, by decide +kernel, by decide +kernel⟩
theorem dRet {f : Addr} {fd : FuncData} (F : Fun K "returned" "returned" sRet f fd) (hm : mg "returned" = some (.ref f)) (hb : Binds K fd ["home", "message"] []) : Dfn P w K mg base 1 "returned" ["home", "message"] aRet := by
  refine Dfn.of F hm scRet (fun ss s ⟨_, _, _, _, _, _, h, _⟩ => by rw [h]; rfl) hb ?_
  rintro cdv Ar outer sh H E ss s hr ⟨h, c, l, ws, d, sv, rfl, hs, rfl⟩
  have nd := scRet.nd
  refine bd_norm (by dsimp only [ini, List.map]) ?_
  obtain ⟨owner, sharers, serving⟩ := h
  simp only at hs
  subst hs
  obtain ⟨c', ex, aw, rc, ws', gr⟩ := sv
  refine bd_cons (sd_set (i := 2) nd (pd_ixc (j := 2) (pd_var (i := 0) rfl) rfl)) ?_
  refine bd_cons (sd_unpack rfl (pd_tu (at_cons (pd_ixc (j := 0) (pd_var (i := 2) rfl) rfl) (at_cons (pd_ixc (j := 1) (pd_var (i := 2) rfl) rfl) (at_cons (pd_ixc (j := 2) (pd_var (i := 2) rfl) rfl) (at_cons (pd_ixc (j := 5) (pd_var (i := 2) rfl) rfl) at_nil))))) (gd_cons (i := 3) nd (gd_cons (i := 4) nd (gd_cons (i := 5) nd (gd_cons (i := 6) nd gd_nil))))) ?_
  refine bd_cons (sd_set (i := 7) (s := .d (encNs (if ex = true then [] else [c]))) nd ?_) ?_
  · cases ex with
    | true => exact pd_if (td_val (pd_var (i := 4) rfl)) (fun _ => pd_tu at_nil) (fun h => by cases h)
    | false => exact pd_if (td_val (pd_var (i := 4) rfl)) (fun h => by cases h) (fun _ => pd_tu (at_cons (pd_ixc (j := 1) (pd_var (i := 1) rfl) rfl) at_nil))
  exact bd_ret (sd_ret (pd_tu (at_cons pd_non (at_cons (pd_var (i := 7) rfl) (at_cons (pd_tu (at_cons (pd_var (i := 3) rfl) (at_cons (pd_var (i := 4) rfl) (at_cons (pd_var (i := 5) rfl) (at_cons pd_bl (at_cons (pd_ixc (j := 3) (pd_var (i := 1) rfl) rfl) (at_cons (pd_var (i := 6) rfl) at_nil))))))) at_nil)))))
end
end Lit
end
section
namespace Lit
open PySem PySem.Spec PyProof.Rows L2 Dat Proto
section
variable {P : Program} {w : World} {K : PySem.W.Frag} {mg : Str → Option Value} {base : Heap} {C : Addr}

/-! grant_if_ready -/
def aGrant (C : Addr) (ss : List S) (s : S) : Prop := ∃ (o : Str) (cf : Cfg) (h : Home) (l : Nat) (sv : Serv), ss = [cfgS C o cf, .d (encH h), .d (nD l)] ∧ h.serving = some sv ∧ h.sharers.length ≤ 50000 ∧ s = .d (encHM l (grantH cf.excl h))
abbrev sGrant : Stmt := top 20
abbrev nGrant : List Str := ["config", "home", "line", "owner", "sharers", "serving", "core", "exclusive", "awaited", "recalled", "words", "granted", "state"]
abbrev pGrant : List Str := ["config", "home", "line"]
theorem scGrant : FnScope nGrant pGrant (defScope sGrant) := ⟨rfl, rfl, rfl, by decide +kernel, rfl, by decide +kernel, by decide +kernel⟩
theorem truD_Ns (ns : List Nat) : truD (.d (encNs ns)) = some (!ns.isEmpty) := by
  show some (!(ns.map nD).isEmpty) = _
  cases ns <;> rfl
theorem dGrant {f : Addr} {fd : FuncData} (T : CfgT K C) (F : Fun K "grant_if_ready" "grant_if_ready" sGrant f fd) (hm : mg "grant_if_ready" = some (.ref f)) (hb : Binds K fd pGrant []) : Dfn P w K mg base 1 "grant_if_ready" pGrant (aGrant C) := by
  refine Dfn.of F hm scGrant (fun ss s ⟨_, _, _, _, _, h, _⟩ => by rw [h]; rfl) hb ?_
  rintro cdv Ar outer sh H E ss s hr ⟨o, cf, h, l, sv, rfl, hs, hz, rfl⟩
  have nd := scGrant.nd
  refine bd_norm (by dsimp only [ini, List.map]) ?_
  obtain ⟨owner, sharers, serving⟩ := h
  simp only at hs hz
  subst hs
  obtain ⟨c, ex, aw, rc, ws, gr⟩ := sv
  refine bd_cons (sd_unpack rfl (pd_var (i := 1) rfl) (gd_cons (i := 3) nd (gd_cons (i := 4) nd (gd_cons (i := 5) nd gd_nil)))) ?_
  refine bd_cons (sd_unpack rfl (pd_var (i := 5) rfl) (gd_cons (i := 6) nd (gd_cons (i := 7) nd (gd_cons (i := 8) nd (gd_cons (i := 9) nd (gd_cons (i := 10) nd (gd_cons (i := 11) nd gd_nil))))))) ?_
  by_cases h1 : (gr || (!aw.isEmpty || (rc || ws.isNone))) = true
  · have e : grantH cf.excl ⟨owner, sharers, some ⟨c, ex, aw, rc, ws, gr⟩⟩ = (⟨owner, sharers, some ⟨c, ex, aw, rc, ws, gr⟩⟩, []) := by
      unfold grantH
      simp only
      by_cases h2 : (gr || !aw.isEmpty || rc) = true
      · rw [if_pos h2]
      · rw [if_neg h2]
        cases ws with
        | none => rfl
        | some ws => cases gr <;> cases rc <;> simp_all
    rw [e]
    refine bd_ret (sd_if (PW.pt (wd_or (td_val (pd_var (i := 11) rfl)) (fun _ => wd_or (td_val (pd_var (i := 8) rfl) (truD_Ns aw)) (fun _ => wd_or (td_val (pd_var (i := 9) rfl)) (fun _ => wd_or1 (td_cmp (cd_isN (pd_var (i := 10) rfl)))))))) (fun _ => bd_ret (sd_ret (pd_tu (at_cons (pd_var (i := 1) rfl) (at_cons (pd_tu at_nil) at_nil))))) (fun h => ?_))
    rw [isN_OW] at h
    rw [h] at h1; cases h1
  refine bd_cons (sd_if (PW.pt (wd_or (td_val (pd_var (i := 11) rfl)) (fun _ => wd_or (td_val (pd_var (i := 8) rfl) (truD_Ns aw)) (fun _ => wd_or (td_val (pd_var (i := 9) rfl)) (fun _ => wd_or1 (td_cmp (cd_isN (pd_var (i := 10) rfl)))))))) (fun h => ?_) (fun _ => bd_nil)) ?_
  · rw [isN_OW] at h
    exact absurd h h1
  obtain ⟨w0, rfl⟩ : ∃ w0, ws = some w0 := by
    cases ws with
    | none => exact absurd (by cases gr <;> cases rc <;> simp) h1
    | some w0 => exact ⟨w0, rfl⟩
  have hg : gr = false := by cases gr <;> simp_all
  have ha : aw = [] := by cases aw <;> simp_all
  have hrc : rc = false := by cases rc <;> simp_all
  subst hg ha hrc
  refine bd_cons (sd_set (i := 12) nd pd_str) ?_
  -- the end
  have fin : ∀ (st : Ls) (ow : Option Nat) (shs : List Nat) (G : Gm), G[2]? = some (some (.d (nD l))) → G[3]? = some (some (.d (encON ow))) → G[4]? = some (some (.d (encNs shs))) → G[6]? = some (some (.d (nD c))) → G[7]? = some (some (.d (.bl ex))) → G[8]? = some (some (.d (encNs []))) → G[9]? = some (some (.d (.bl false))) → G[10]? = some (some (.d (encW w0))) → G[12]? = some (some (.d (encS st))) → G.length = 13 →
      BD (XO P w K mg base nGrant "grant_if_ready" sGrant f cdv Ar outer sh H E) G ((defBody sGrant).drop 5) (.ret (.d (encHM l (⟨ow, shs, some ⟨c, ex, [], false, some w0, true⟩⟩, [.grant c st w0])))) := by
    intro st ow shs G g2 g3 g4 g6 g7 g8 g9 g10 g12 gl
    have gs : ∀ (j : Nat) (x : Option S), j ≠ 5 → (G.set 5 x)[j]? = G[j]? := fun j x hj => List.getElem?_set_ne (fun q => hj q.symm)
    have g5 : ∀ x : S, (G.set 5 (some x))[5]? = some (some x) := fun x => List.getElem?_set_self (by omega)
    refine bd_cons0 (sd_set (i := 5) nd (pd_tu (at_cons (pd_var (i := 6) g6) (at_cons (pd_var (i := 7) g7) (at_cons (pd_var (i := 8) g8) (at_cons (pd_var (i := 9) g9) (at_cons (pd_var (i := 10) g10) (at_cons pd_bl at_nil)))))))) ?_
    exact bd_ret (sd_ret (pd_tu (at_cons (pd_tu (at_cons (pd_var (i := 3) (by rw [gs 3 _ (by decide)]; exact g3)) (at_cons (pd_var (i := 4) (by rw [gs 4 _ (by decide)]; exact g4)) (at_cons (pd_var (i := 5) (g5 _)) at_nil))))
      (at_cons (pd_tu (at_cons (pd_tu (at_cons pd_str (at_cons (pd_var (i := 6) (by rw [gs 6 _ (by decide)]; exact g6)) (at_cons (pd_var (i := 2) (by rw [gs 2 _ (by decide)]; exact g2)) (at_cons (pd_var (i := 12) (by rw [gs 12 _ (by decide)]; exact g12)) (at_cons (pd_var (i := 10) (by rw [gs 10 _ (by decide)]; exact g10)) at_nil)))))) at_nil)) at_nil))))
  have res : ∀ r, grantH cf.excl ⟨owner, sharers, some ⟨c, ex, [], false, some w0, false⟩⟩ = r → (if ex = true then ((⟨some c, [], some ⟨c, ex, [], false, some w0, true⟩⟩ : Home), [Sv.grant c .mo w0])
      else if (cf.excl && sharers.isEmpty) = true then (⟨some c, sharers, some ⟨c, ex, [], false, some w0, true⟩⟩, [.grant c .ex w0])
      else if c ∈ sharers then (⟨owner, sharers, some ⟨c, ex, [], false, some w0, true⟩⟩, [.grant c .sh w0]) else (⟨owner, sharers ++ [c], some ⟨c, ex, [], false, some w0, true⟩⟩, [.grant c .sh w0])) = r := by
    intro r hr
    rw [← hr]
    unfold grantH
    simp
  generalize hres : grantH cf.excl ⟨owner, sharers, some ⟨c, ex, [], false, some w0, false⟩⟩ = r
  have hr' := res r hres
  subst hr'
  cases ex with
  | true =>
    rw [if_pos rfl]
    refine bd_cons (sd_if (td_val (pd_var (i := 7) rfl)) (fun _ => bd_cons (sd_par3 (i := 12) (j := 3) (l := 4) rfl nd (ad_cons pd_str (ad_cons (pd_var (i := 6) rfl) (ad_cons (pd_tu at_nil) ad_nil)))) bd_nil) (fun h => by cases h)) ?_
    exact fin .mo (some c) [] _ rfl rfl rfl rfl rfl rfl rfl rfl rfl rfl
  | false =>
    rw [if_neg (by simp)]
    have t2 : ∀ {G : Gm} {a b : Expr} {pos pos2 : Pos}, PD (XO P w K mg base nGrant "grant_if_ready" sGrant f cdv Ar outer sh H E) G a (.bl cf.excl) → PD (XO P w K mg base nGrant "grant_if_ready" sGrant f cdv Ar outer sh H E) G b (encNs sharers) → (∀ whole, isTrue a (XO P w K mg base nGrant "grant_if_ready" sGrant f cdv Ar outer sh H E).env whole = (do let v ← whole; standAt a.pos; holding [v] (truthy v))) → (∀ whole, isTrue b (XO P w K mg base nGrant "grant_if_ready" sGrant f cdv Ar outer sh H E).env whole = (do let v ← whole; standAt b.pos; holding [v] (truthy v))) →
        TD (XO P w K mg base nGrant "grant_if_ready" sGrant f cdv Ar outer sh H E) G (.BoolOp .And [a, .UnaryOp .Not b pos2] pos) (cf.excl && sharers.isEmpty) := by
      intro G a b pos pos2 ha hb h1 h2
      have := td_and (pos := pos) (td_val ha rfl h1) (fun _ => td_not (pos := pos2) (td_val hb (truD_Ns sharers) h2))
      rw [Bool.not_not] at this
      exact this
    by_cases h2 : (cf.excl && sharers.isEmpty) = true
    · rw [if_pos h2]
      refine bd_cons (sd_if (td_val (pd_var (i := 7) rfl)) (fun h => by cases h) (fun _ => bd_cons (sd_if (t2 (pd_excl T (pd_var (i := 0) rfl)) (pd_var (i := 4) rfl) (by intro _; rfl) (by intro _; rfl)) (fun _ => bd_cons (sd_par (i := 12) (j := 3) rfl nd (ad_cons pd_str (ad_cons (pd_var (i := 6) rfl) ad_nil))) bd_nil) (fun h => by rw [h2] at h; cases h)) bd_nil)) ?_
      exact fin .ex (some c) sharers _ rfl rfl rfl rfl rfl rfl rfl rfl rfl rfl
    · rw [if_neg h2]
      have h2' : (cf.excl && sharers.isEmpty) = false := by simpa using h2
      have hin : inD (nD c) (sharers.map nD) = decide (c ∈ sharers) := by rw [inD_n]; rw [Bool.eq_iff_iff]; simp
      by_cases h3 : c ∈ sharers
      · rw [if_pos h3]
        refine bd_cons (sd_if (td_val (pd_var (i := 7) rfl)) (fun h => by cases h) (fun _ => bd_cons (sd_if (t2 (pd_excl T (pd_var (i := 0) rfl)) (pd_var (i := 4) rfl) (by intro _; rfl) (by intro _; rfl)) (fun h => by rw [h2'] at h; cases h)
          (fun _ => bd_cons (sd_if (td_cmp (cd_notIn (pd_var (i := 6) rfl) (pd_var (i := 4) rfl) rfl (all_n _))) (fun h => by rw [hin, decide_eq_true h3] at h; cases h) (fun _ => bd_nil)) bd_nil)) bd_nil)) ?_
        exact fin .sh owner sharers _ rfl rfl rfl rfl rfl rfl rfl rfl rfl rfl
      · rw [if_neg h3]
        refine bd_cons (sd_if (td_val (pd_var (i := 7) rfl)) (fun h => by cases h) (fun _ => bd_cons (sd_if (t2 (pd_excl T (pd_var (i := 0) rfl)) (pd_var (i := 4) rfl) (by intro _; rfl) (by intro _; rfl)) (fun h => by rw [h2'] at h; cases h)
          (fun _ => bd_cons (sd_if (td_cmp (cd_notIn (pd_var (i := 6) rfl) (pd_var (i := 4) rfl) rfl (all_n _))) (fun _ => bd_cons (sd_set (i := 4) nd (pd_cat (pd_var (i := 4) rfl) (pd_tu (at_cons (pd_var (i := 6) rfl) at_nil)) (by simp; omega))) bd_nil) (fun h => by rw [hin, decide_eq_false h3] at h; cases h)) bd_nil)) bd_nil)) ?_
        exact fin .sh owner (sharers ++ [c]) _ rfl rfl (by simp [encNs]) rfl rfl rfl rfl rfl rfl rfl

/-! home_receives -/
def encHWM (r : Home × Words × List Msg) : D := .tup [encH r.1, encW r.2.1, encMs r.2.2]
def aHome (C : Addr) (ss : List S) (s : S) : Prop := ∃ (o : Str) (cf : Cfg) (h : Home) (mem : Words) (m : Msg) (r : Home × Words × List Msg), ss = [cfgS C o cf, .d (encH h), .d (encW mem), .d (encM m)] ∧ homeRecv cf h mem m = some r ∧ h.sharers.length ≤ 40000 ∧ (∀ sv, h.serving = some sv → sv.aw.length ≤ 40000) ∧ s = .d (encHWM r)
abbrev sHome : Stmt := top 21
abbrev nHome : List Str := ["config", "home", "words", "message", "owner", "sharers", "serving", "kind", "core", "line", "messages", "grants"]
abbrev pHome : List Str := ["config", "home", "words", "message"]
theorem scHome : FnScope nHome pHome (defScope sHome) := ⟨rfl, rfl, rfl, by decide +kernel, rfl, by decide +kernel, by decide +kernel⟩
theorem scalD_ON (o : Option Nat) (n : Nat) : scalD (encON o) (nD n) = true := by cases o <;> rfl
theorem eqD_ON (o : Option Nat) (n : Nat) : eqD (encON o) (nD n) = decide (o = some n) := by
  cases o with
  | none => rfl
  | some x => rw [show encON (some x) = nD x from rfl, eqD_nn]; rw [Bool.eq_iff_iff]; simp
theorem begunH_sv (h : Home) (mem : Words) (c : Nat) (ex : Bool) : ∃ sv, (begunH h mem c ex).1.serving = some sv := by
  unfold begunH
  split <;> exact ⟨_, rfl⟩
theorem begunH_sh (h : Home) (mem : Words) (c : Nat) (ex : Bool) : (begunH h mem c ex).1.sharers = h.sharers := by
  unfold begunH
  split <;> rfl
theorem begunH_ms (h : Home) (mem : Words) (c : Nat) (ex : Bool) : (begunH h mem c ex).2.length ≤ h.sharers.length + 1 := by
  unfold begunH
  split
  · simp
  · simp only [List.length_map]
    split
    · exact Nat.le_trans (List.length_filter_le _ _) (by omega)
    · simp
theorem grantH_ms (excl : Bool) (h : Home) : (grantH excl h).2.length ≤ 1 := by
  unfold grantH
  cases h.serving with
  | none => simp
  | some s =>
    simp only
    repeat' split
    all_goals simp
theorem dHome {f : Addr} {fd : FuncData} (T : CfgT K C) (E1 : Dfn P w K mg base 1 "invalidated" ["home", "sharer"] aInvd) (E2 : Dfn P w K mg base 1 "returned" ["home", "message"] aRet) (E3 : Dfn P w K mg base 1 "begun" pBegun aBegun) (E4 : Dfn P w K mg base 1 "grant_if_ready" pGrant (aGrant C))
    (F : Fun K "home_receives" "home_receives" sHome f fd) (hm : mg "home_receives" = some (.ref f)) (hb : Binds K fd pHome []) : Dfn P w K mg base 2 "home_receives" pHome (aHome C) := by
  refine Dfn.of F hm scHome (fun ss s ⟨_, _, _, _, _, _, h, _⟩ => by rw [h]; rfl) hb ?_
  rintro cdv Ar outer sh H E ss s hr ⟨o, cf, h, mem, m, r, rfl, hh, hz1, hz2, rfl⟩
  have nd := scHome.nd
  refine bd_norm (by dsimp only [ini, List.map]) ?_
  refine bd_cons (sd_unpack rfl (pd_var (i := 1) rfl) (gd_cons (i := 4) nd (gd_cons (i := 5) nd (gd_cons (i := 6) nd gd_nil)))) ?_
  -- grants, and the end
  have fin : ∀ (r' : Home × Words × List Msg) (l : Nat) (h1 : Home) (mm : Words) (ms : List Msg) (sv : Serv) (G : Gm), r' = ((grantH cf.excl h1).1, mm, ms ++ (grantH cf.excl h1).2.map (.sv l)) → h1.serving = some sv → h1.sharers.length ≤ 50000 → ms.length ≤ 50000 → G[0]? = some (some (cfgS C o cf)) → G[1]? = some (some (.d (encH h1))) → G[2]? = some (some (.d (encW mm))) → G[9]? = some (some (.d (nD l))) → G[10]? = some (some (.d (encMs ms))) → G.length = 12 →
      BD (XO P w K mg base nHome "home_receives" sHome f cdv Ar outer sh H E) G ((defBody sHome).drop 6) (.ret (.d (encHWM r'))) := by
    intro r' l h1 mm ms sv G hr' hsv hsh hml g0 g1 g2 g9 g10 gl
    have gm := grantH_ms cf.excl h1
    have gs : ∀ (j : Nat) (x y : Option S), j ≠ 1 → j ≠ 11 → ((G.set 1 x).set 11 y)[j]? = G[j]? := fun j x y hj hk => by rw [List.getElem?_set_ne (fun q => hk q.symm), List.getElem?_set_ne (fun q => hj q.symm)]
    have ga : ∀ x y : S, ((G.set 1 (some x)).set 11 (some y))[1]? = some (some x) := fun x y => by rw [List.getElem?_set_ne (by decide)]; exact List.getElem?_set_self (by omega)
    have gb : ∀ x y : S, ((G.set 1 (some x)).set 11 (some y))[11]? = some (some y) := fun x y => List.getElem?_set_self (by simp; omega)
    refine bd_cons0 (sd_unpack (ds := [encH (grantH cf.excl h1).1, encMs ((grantH cf.excl h1).2.map (.sv l))]) rfl (pd_call E4 hr (ad_cons (pd_var (i := 0) g0) (ad_cons (pd_var (i := 1) g1) (ad_cons (pd_var (i := 9) g9) ad_nil))) ⟨o, cf, h1, l, sv, rfl, hsv, hsh, rfl⟩) (gd_cons (i := 1) nd (gd_cons (i := 11) nd gd_nil))) ?_
    refine bd_ret (sd_ret' (pd_tu (at_cons (pd_var (i := 1) (ga _ _)) (at_cons (pd_var (i := 2) (by rw [gs 2 _ _ (by decide) (by decide)]; exact g2)) (at_cons (pd_cat (xs := ms.map encM) (ys := ((grantH cf.excl h1).2.map (.sv l)).map encM) (pd_var (i := 10) (by rw [gs 10 _ _ (by decide) (by decide)]; exact g10)) (pd_var (i := 11) (gb _ _)) (by simp only [List.length_map]; omega)) at_nil)))) ?_)
    rw [hr', ← List.map_append]; rfl
  cases m with
  | lv c l y =>
    cases y with
    | conf => cases hh
    | give ws d =>
      have hh' := Option.some.inj hh
      subst hh'
      refine bd_cons (sd_par3 (i := 7) (j := 8) (l := 9) rfl nd (ad_cons (pd_ixc (j := 0) (pd_var (i := 3) rfl) rfl) (ad_cons (pd_ixc (j := 1) (pd_var (i := 3) rfl) rfl) (ad_cons (pd_ixc (j := 2) (pd_var (i := 3) rfl) rfl) ad_nil)))) ?_
      refine bd_ret (sd_if (td_cmp (cd_eq (pd_var (i := 7) rfl) pd_str)) (fun _ => ?_) (fun h => absurd h (by decide +kernel)))
      by_cases ho : h.owner = some c
      · refine bd_cons (sd_if (td_cmp (cd_eq (pd_var (i := 4) rfl) (pd_var (i := 8) rfl) (scalD_ON _ _))) (fun _ => bd_cons (sd_set (i := 4) nd pd_non) (bd_cons (sd_set (i := 2) (s := .d (encW (if d = true then ws else mem))) nd ?_) bd_nil)) (fun h => by rw [eqD_ON, decide_eq_true ho] at h; cases h)) ?_
        · cases d with
          | true => exact pd_if (td_val (pd_ixc (j := 4) (pd_var (i := 3) rfl) rfl)) (fun _ => pd_ixc (j := 3) (pd_var (i := 3) rfl) rfl) (fun h => by cases h)
          | false => exact pd_if (td_val (pd_ixc (j := 4) (pd_var (i := 3) rfl) rfl)) (fun h => by cases h) (fun _ => pd_var (i := 2) rfl)
        refine bd_ret (sd_ret' (pd_tu (at_cons (pd_tu (at_cons (pd_var (i := 4) rfl) (at_cons (pd_var (i := 5) rfl) (at_cons pd_non at_nil)))) (at_cons (pd_var (i := 2) rfl) (at_cons (pd_tu (at_cons (pd_tu (at_cons pd_str (at_cons (pd_var (i := 8) rfl) (at_cons (pd_var (i := 9) rfl) at_nil)))) at_nil)) at_nil)))) ?_)
        unfold encHWM
        simp only [ho, true_and, if_true]
        rfl
      · refine bd_cons (sd_if (td_cmp (cd_eq (pd_var (i := 4) rfl) (pd_var (i := 8) rfl) (scalD_ON _ _))) (fun h => by rw [eqD_ON, decide_eq_false ho] at h; cases h) (fun _ => bd_nil)) ?_
        refine bd_ret (sd_ret' (pd_tu (at_cons (pd_tu (at_cons (pd_var (i := 4) rfl) (at_cons (pd_var (i := 5) rfl) (at_cons pd_non at_nil)))) (at_cons (pd_var (i := 2) rfl) (at_cons (pd_tu (at_cons (pd_tu (at_cons pd_str (at_cons (pd_var (i := 8) rfl) (at_cons (pd_var (i := 9) rfl) at_nil)))) at_nil)) at_nil)))) ?_)
        unfold encHWM
        simp only [ho, false_and, if_false]
        rfl
  | rq c l ex =>
    have hh' := Option.some.inj hh
    subst hh'
    refine bd_cons (sd_par3 (i := 7) (j := 8) (l := 9) rfl nd (ad_cons (pd_ixc (j := 0) (pd_var (i := 3) rfl) rfl) (ad_cons (pd_ixc (j := 1) (pd_var (i := 3) rfl) rfl) (ad_cons (pd_ixc (j := 2) (pd_var (i := 3) rfl) rfl) ad_nil)))) ?_
    have ne : ∀ x : Str, x ≠ "get modified" → x ≠ "get shared" → eqD (.str (if ex = true then "get modified" else "get shared")) (.str x) = false := by
      intro x h1 h2
      show ((if ex = true then ("get modified" : Str) else "get shared") == x) = false
      cases ex with
      | true => exact beq_eq_false_iff_ne.mpr (fun e => h1 e.symm)
      | false => exact beq_eq_false_iff_ne.mpr (fun e => h2 e.symm)
    refine bd_cons (sd_if (td_cmp (cd_eq (pd_var (i := 7) rfl) pd_str)) (fun h => by rw [ne _ (by decide +kernel) (by decide +kernel)] at h; cases h) (fun _ => bd_nil)) ?_
    refine bd_cons (sd_if (td_cmp (cd_eq (pd_var (i := 7) rfl) pd_str)) (fun h => by rw [ne _ (by decide +kernel) (by decide +kernel)] at h; cases h) (fun _ => bd_nil)) ?_
    refine bd_cons (sd_set (i := 10) nd (pd_tu at_nil)) ?_
    refine bd_cons (sd_if (td_cmp (cd_eq (pd_var (i := 7) rfl) pd_str)) (fun h => by rw [ne _ (by decide +kernel) (by decide +kernel)] at h; cases h) (fun _ => bd_cons (sd_if (td_cmp (cd_eq (pd_var (i := 7) rfl) pd_str)) (fun h => by rw [ne _ (by decide +kernel) (by decide +kernel)] at h; cases h)
      (fun _ => bd_cons (sd_unpack (ds := [encH (begunH h mem c ex).1, encMs ((begunH h mem c ex).2.map (.sv l))]) rfl (pd_call E3 hr (ad_cons (pd_var (i := 1) rfl) (ad_cons (pd_var (i := 2) rfl) (ad_cons (pd_var (i := 3) rfl) ad_nil))) ⟨h, mem, c, l, ex, rfl, by omega, rfl⟩) (gd_cons (i := 1) nd (gd_cons (i := 10) nd gd_nil))) bd_nil)) bd_nil)) ?_
    obtain ⟨sv, hsv⟩ := begunH_sv h mem c ex
    have hms := begunH_ms h mem c ex
    exact fin _ l (begunH h mem c ex).1 mem ((begunH h mem c ex).2.map (.sv l)) sv _ (by unfold reqH; rw [List.map_append]) hsv (by rw [begunH_sh]; omega) (by simp only [List.length_map]; omega) rfl rfl rfl rfl rfl rfl
  | sv l y =>
    cases y with
    | inv c => cases hh
    | recall c k => cases hh
    | grant c st ws => cases hh
    | rcv c =>
      cases hh
      refine bd_cons (sd_par3 (i := 7) (j := 8) (l := 9) rfl nd (ad_cons (pd_ixc (j := 0) (pd_var (i := 3) rfl) rfl) (ad_cons (pd_ixc (j := 1) (pd_var (i := 3) rfl) rfl) (ad_cons (pd_ixc (j := 2) (pd_var (i := 3) rfl) rfl) ad_nil)))) ?_
      refine bd_cons (sd_if (td_cmp (cd_eq (pd_var (i := 7) rfl) pd_str)) (fun h => absurd h (by decide +kernel)) (fun _ => bd_nil)) ?_
      exact bd_ret (sd_if (td_cmp (cd_eq (pd_var (i := 7) rfl) pd_str)) (fun _ => bd_ret (sd_ret (pd_tu (at_cons (pd_tu (at_cons (pd_var (i := 4) rfl) (at_cons (pd_var (i := 5) rfl) (at_cons pd_non at_nil)))) (at_cons (pd_var (i := 2) rfl) (at_cons (pd_tu at_nil) at_nil)))))) (fun h => absurd h (by decide +kernel)))
    | invd c =>
      have hh' : (if h.serving.isSome = true then some ((invdH cf.excl h c).1, mem, (invdH cf.excl h c).2.map (Msg.sv l)) else none) = some r := hh
      by_cases hsi : h.serving.isSome = true
      · rw [if_pos hsi] at hh'
        have hh2 := Option.some.inj hh'
        subst hh2
        obtain ⟨sv, hsv⟩ := Option.isSome_iff_exists.mp hsi
        refine bd_cons (sd_par3 (i := 7) (j := 8) (l := 9) rfl nd (ad_cons (pd_ixc (j := 0) (pd_var (i := 3) rfl) rfl) (ad_cons (pd_ixc (j := 1) (pd_var (i := 3) rfl) rfl) (ad_cons (pd_ixc (j := 2) (pd_var (i := 3) rfl) rfl) ad_nil)))) ?_
        refine bd_cons (sd_if (td_cmp (cd_eq (pd_var (i := 7) rfl) pd_str)) (fun h => absurd h (by decide +kernel)) (fun _ => bd_nil)) ?_
        refine bd_cons (sd_if (td_cmp (cd_eq (pd_var (i := 7) rfl) pd_str)) (fun h => absurd h (by decide +kernel)) (fun _ => bd_nil)) ?_
        refine bd_cons (sd_set (i := 10) nd (pd_tu at_nil)) ?_
        refine bd_cons (sd_if (td_cmp (cd_eq (pd_var (i := 7) rfl) pd_str)) (fun _ => bd_cons (sd_set (i := 1) nd (pd_call E1 hr (ad_cons (pd_var (i := 1) rfl) (ad_cons (pd_var (i := 8) rfl) ad_nil)) ⟨h, c, sv, rfl, hsv, by omega, by have := hz2 sv hsv; omega, rfl⟩)) bd_nil) (fun h => absurd h (by decide +kernel))) ?_
        exact fin _ l (invalidatedH h c) mem [] { sv with aw := sv.aw.filter fun x => x != c } _ rfl (by unfold invalidatedH; rw [hsv]; rfl) (Nat.le_trans (List.length_filter_le _ _) (by omega)) (by simp) rfl rfl rfl rfl rfl rfl
      · rw [if_neg hsi] at hh'; cases hh'
    | ret c ws d =>
      have hh' : (if h.serving.isSome = true then some ((retH cf.excl h c ws).1, (if d = true then ws else mem), (retH cf.excl h c ws).2.map (Msg.sv l)) else none) = some r := hh
      by_cases hsi : h.serving.isSome = true
      · rw [if_pos hsi] at hh'
        have hh2 := Option.some.inj hh'
        subst hh2
        obtain ⟨sv, hsv⟩ := Option.isSome_iff_exists.mp hsi
        refine bd_cons (sd_par3 (i := 7) (j := 8) (l := 9) rfl nd (ad_cons (pd_ixc (j := 0) (pd_var (i := 3) rfl) rfl) (ad_cons (pd_ixc (j := 1) (pd_var (i := 3) rfl) rfl) (ad_cons (pd_ixc (j := 2) (pd_var (i := 3) rfl) rfl) ad_nil)))) ?_
        refine bd_cons (sd_if (td_cmp (cd_eq (pd_var (i := 7) rfl) pd_str)) (fun h => absurd h (by decide +kernel)) (fun _ => bd_nil)) ?_
        refine bd_cons (sd_if (td_cmp (cd_eq (pd_var (i := 7) rfl) pd_str)) (fun h => absurd h (by decide +kernel)) (fun _ => bd_nil)) ?_
        refine bd_cons (sd_set (i := 10) nd (pd_tu at_nil)) ?_
        have hw : ∀ {G : Gm} {p1 p2 p3 p4 p5 p6 p7 p8 : Pos} {i1 i2 : Nat}, G[3]? = some (some (.d (encM (.sv l (.ret c ws d))))) → G[2]? = some (some (.d (encW mem))) → PDs (XO P w K mg base nHome "home_receives" sHome f cdv Ar outer sh H E) G (.IfExp (.Subscript (.Name "message" p1) (.Constant (.int 4) i1 p2) p3) (.Subscript (.Name "message" p4) (.Constant (.int 3) i2 p5) p6) (.Name "words" p7) p8) (.d (encW (if d = true then ws else mem))) := by
          intro G p1 p2 p3 p4 p5 p6 p7 p8 i1 i2 h3 h2
          cases d with
          | true => exact pd_if (td_val (pd_ixc (j := 4) (pd_var (i := 3) h3) rfl)) (fun _ => pd_ixc (j := 3) (pd_var (i := 3) h3) rfl) (fun h => by cases h)
          | false => exact pd_if (td_val (pd_ixc (j := 4) (pd_var (i := 3) h3) rfl)) (fun h => by cases h) (fun _ => pd_var (i := 2) h2)
        refine bd_cons (sd_if (td_cmp (cd_eq (pd_var (i := 7) rfl) pd_str)) (fun h => absurd h (by decide +kernel)) (fun _ => bd_cons (sd_if (td_cmp (cd_eq (pd_var (i := 7) rfl) pd_str)) (fun _ => bd_cons (sd_set (i := 1) nd (pd_call E2 hr (ad_cons (pd_var (i := 1) rfl) (ad_cons (pd_var (i := 3) rfl) ad_nil)) ⟨h, c, l, ws, d, sv, rfl, hsv, rfl⟩)) (bd_cons (sd_set (i := 2) nd (hw rfl rfl)) bd_nil)) (fun h => absurd h (by decide +kernel))) bd_nil)) ?_
        have hsv' : (returnedH h c ws).serving = some { sv with recalled := false, words := some ws } := by unfold returnedH; rw [hsv]
        have hsh' : (returnedH h c ws).sharers.length ≤ 50000 := by
          unfold returnedH; rw [hsv]
          show (if sv.ex = true then [] else [c] : List Nat).length ≤ 50000
          split <;> simp
        exact fin _ l (returnedH h c ws) (if d = true then ws else mem) [] _ _ rfl hsv' hsh' (by simp) rfl rfl rfl rfl rfl rfl
      · rw [if_neg hsi] at hh'; cases hh'
end
end Lit
end
section
namespace Lit
open PySem PySem.Spec PyProof.Rows L2 Dat Proto
section
variable {P : Program} {w : World} {K : PySem.W.Frag} {mg : Str → Option Value} {base : Heap} {C : Addr}

/-! replaced -/
def aRepl (ss : List S) (s : S) : Prop := ∃ (xs : List D) (i : Nat) (d : D), ss = [.d (.tup xs), .d (nD i), .d d] ∧ i < xs.length ∧ xs.length ≤ 300000 ∧ s = .d (.tup (xs.set i d))
abbrev sRepl : Stmt := top 24
abbrev pRepl : List Str := ["parts", "index", "part"]
theorem scRepl : FnScope pRepl pRepl (defScope sRepl) := ⟨rfl, rfl, rfl, by decide +kernel, rfl, by decide +kernel, by decide +kernel⟩
theorem dRepl {f : Addr} {fd : FuncData} (F : Fun K "replaced" "replaced" sRepl f fd) (hm : mg "replaced" = some (.ref f)) (hb : Binds K fd pRepl []) : Dfn P w K mg base 1 "replaced" pRepl aRepl := by
  refine Dfn.of F hm scRepl (fun ss s ⟨_, _, _, h, _⟩ => by rw [h]; rfl) hb ?_
  rintro cdv Ar outer sh H E ss s hr ⟨xs, i, d, rfl, hi, hz, rfl⟩
  refine bd_ret (sd_ret' (pd_cat (pd_cat (pd_cut (pd_var (i := 0) rfl) od_none (od_some (pd_var (i := 1) rfl))) (pd_tu (at_cons (pd_var (i := 2) rfl) at_nil)) ?_) (pd_cut (pd_var (i := 0) rfl) (od_some (pd_addN (pd_var (i := 1) rfl) (pd_int (i := ((1 : Nat) : Int))))) od_none) ?_) ?_)
  · rw [cut_to]; simp; omega
  · rw [cut_to, cut_from]; simp; omega
  · rw [cut_to, cut_from, List.set_eq_take_append_cons_drop, if_pos hi]; simp

theorem pd_conv {X : Cx} {G : Gm} {e : Expr} {d d' : D} (h : PD X G e d) (k : d = d') : PD X G e d' := k ▸ h
/-! start_system -/
def aStart (C : Addr) (ss : List S) (s : S) : Prop := ∃ (o : Str) (cf : Cfg) (p0 : D) (zs : List Int) (ws : Words), ss = [.d (.tup [p0, .tup (zs.map D.int), encW ws]), cfgS C o cf] ∧ 0 < cf.lw ∧ cf.lw ≤ 1000 ∧ zs.length ≤ 1000 ∧ ws.length ≤ 1000 ∧ s = .d (encSys (startSys cf zs.length ws))
abbrev sStart : Stmt := top 25
abbrev nStart : List Str := ["program", "config", "memory", "many", "caches", "entry", "line"]
theorem scStart : FnScope nStart ["program", "config"] (defScope sStart) := ⟨rfl, rfl, rfl, by decide +kernel, rfl, by decide +kernel, by decide +kernel⟩
theorem rep_map {α β : Type} (l : List α) (b : β) : List.replicate l.length b = l.map (fun _ => b) := by
  induction l with
  | nil => rfl
  | cons a r ih => rw [List.length_cons, List.replicate_succ, List.map_cons, ih]
theorem many_eq (a b : Nat) (hb : 0 < b) : ((a : Int) + (b : Int) - 1) / (b : Int) = (((a + b - 1) / b : Nat) : Int) := by
  rw [show ((a : Int) + (b : Int) - 1) = ((a + b - 1 : Nat) : Int) by omega]; simp
theorem dStart {f : Addr} {fd : FuncData} (N : NoG mg) (T : CfgT K C) (Ge : GlD K mg "EMPTY_CACHE" (encC .empty)) (Gh : GlD K mg "START_HOME" (encH hStart)) (F : Fun K "start_system" "start_system" sStart f fd) (hm : mg "start_system" = some (.ref f)) (hb : Binds K fd ["program", "config"] []) : Dfn P w K mg base 1 "start_system" ["program", "config"] (aStart C) := by
  refine Dfn.of F hm scStart (fun ss s ⟨_, _, _, _, _, h, _⟩ => by rw [h]; rfl) hb ?_
  rintro cdv Ar outer sh H E ss s hr ⟨o, cf, p0, zs, ws, rfl, hl, hl2, hz, hw, rfl⟩
  have nd := scStart.nd
  refine bd_norm (by dsimp only [ini, List.map]) ?_
  refine bd_cons (sd_set (i := 2) nd (pd_ixc (j := 2) (pd_var (i := 0) rfl) rfl)) ?_
  have hm1 : (ws.length + cf.lw - 1) / cf.lw ≤ 1000000 := Nat.le_trans (Nat.div_le_self _ _) (by omega)
  refine bd_cons (sd_set (i := 3) (s := .d (nD ((ws.length + cf.lw - 1) / cf.lw))) nd ?_) ?_
  · refine pd_conv (pd_fdiv (pd_sub (pd_add (pd_lenT N.len (pd_var (i := 2) rfl)) (pd_lw T (pd_var (i := 1) rfl))) pd_int) (pd_lw T (pd_var (i := 1) rfl)) ⟨by omega, by omega⟩) ?_
    rw [List.length_map, many_eq _ _ hl]; rfl
  have e1 : (startSys cf zs.length ws).caches.map encC = zs.filterMap (fun _ => some (encC .empty)) := by
    rw [fm_map (fun _ : Int => encC .empty)]
    unfold startSys
    simp only [List.map_replicate]
    exact rep_map zs _
  have e2 : (startSys cf zs.length ws).homes.map encH = (List.range ((ws.length + cf.lw - 1) / cf.lw)).filterMap (fun _ => some (encH hStart)) := by
    rw [fm_map (fun _ : Nat => encH hStart)]
    unfold startSys
    simp only [List.map_replicate]
    have := rep_map (List.range ((ws.length + cf.lw - 1) / cf.lw)) (encH hStart)
    rw [List.length_range] at this
    exact this
  refine bd_cons (sd_set (i := 4) (s := .d (.tup ((startSys cf zs.length ws).caches.map encC))) nd ?_) ?_
  · rw [e1]
    refine pd_tupL N.tuple (pd_lcT (j := 5) (xs := zs) (en := D.int) (y := "entry") ⟨rfl, nd, blkOk_by (N := nStart) (sc := defScope sStart) (by decide +kernel), by omega, fun y hy => et_nil, fun y r hy hr => ?_⟩ (pd_ixc (j := 1) (pd_var (i := 0) rfl) rfl) (fun _ _ _ _ _ => pg_name (i := 5) nd rfl (Or.inl rfl)))
    cases hr
    exact fun s H C cl fp => pd_gl Ge
  refine bd_ret (sd_ret (pd_tu (ds := [.tup ((startSys cf zs.length ws).caches.map encC), .tup ((startSys cf zs.length ws).homes.map encH), encW ws, .tup []]) (at_cons (pd_var (i := 4) rfl) (at_cons ?_ (at_cons (pd_var (i := 2) rfl) (at_cons (pd_tu at_nil) at_nil))))))
  rw [e2]
  refine pd_tupL N.tuple (pd_lcR (j := 6) (y := "line") ⟨rfl, nd, blkOk_by (N := nStart) (sc := defScope sStart) (by decide +kernel), by simpa using hm1, fun y hy => et_nil, fun y r hy hr => ?_⟩ N.range (pd_var (i := 3) rfl) (fun _ _ _ _ _ => pg_name (i := 6) nd rfl (Or.inl rfl)))
  cases hr
  exact fun s H C cl fp => pd_gl Gh

/-! sizes of a system -/
structure SSz (s : Sys) : Prop where
  c : s.caches.length ≤ 1000
  h : s.homes.length ≤ 1000
  m : s.mem.length ≤ 1000
  n : s.net.length ≤ 100000
  k : ∀ c, CSz (s.cache c)
  a : ∀ l, (s.home l).sharers.length ≤ 40000 ∧ ∀ sv, (s.home l).serving = some sv → sv.aw.length ≤ 40000
theorem cache_ix {s : Sys} {c : Nat} (h : c < s.caches.length) : (s.caches.map encC)[c]? = some (encC (s.cache c)) := by
  rw [List.getElem?_map]; unfold Sys.cache; rw [List.getElem?_eq_getElem h]; rfl
theorem home_ix {s : Sys} {l : Nat} (h : l < s.homes.length) : (s.homes.map encH)[l]? = some (encH (s.home l)) := by
  rw [List.getElem?_map]; unfold Sys.home; rw [List.getElem?_eq_getElem h]; rfl
theorem encW_memL (cf : Cfg) (mem : Words) (l : Nat) : encW (memL cf mem l) = .tup (((mem.map D.int).drop (l * cf.lw)).take cf.lw) := by
  unfold encW memL; rw [List.map_take, List.map_drop]
theorem encW_put (cf : Cfg) (mem ws : Words) (l : Nat) : encW (memPut cf mem l ws) = .tup ((mem.map D.int).take (l * cf.lw) ++ ws.map D.int ++ (mem.map D.int).drop (l * cf.lw + cf.lw)) := by
  unfold encW memPut; rw [List.map_append, List.map_append, List.map_take, List.map_drop]

/-! delivered -/
def aDelivd (C : Addr) (ss : List S) (s : S) : Prop := ∃ (o : Str) (cf : Cfg) (t t' : Sys) (i : Nat) (m : Msg), ss = [cfgS C o cf, .d (encSys t), .d (nD i)] ∧ t.net[i]? = some m ∧ m.core < t.caches.length ∧ m.line < t.homes.length ∧ SSz t ∧ 0 < cf.lw ∧ cf.lw ≤ 1000 ∧ Bd 100 t ∧ delivered cf t i m = some t' ∧ t'.mem.length ≤ 1000 ∧ s = .d (encSys t')
abbrev sDelivd : Stmt := top 27
abbrev nDelivd : List Str := ["config", "system", "index", "caches", "homes", "memory", "network", "message", "rest", "core", "line", "cache", "messages", "first", "words", "home"]
abbrev pDelivd : List Str := ["config", "system", "index"]
theorem scDelivd : FnScope nDelivd pDelivd (defScope sDelivd) := ⟨rfl, rfl, rfl, by decide +kernel, rfl, by decide +kernel, by decide +kernel⟩
theorem dDelivd {f : Addr} {fd : FuncData} (T : CfgT K C) (Gt : GlD K mg "TO_CACHES" dToC) (E1 : Dfn P w K mg base 3 "cache_receives" ["cache", "message"] aRecv) (E2 : Dfn P w K mg base 2 "home_receives" pHome (aHome C)) (E3 : Dfn P w K mg base 1 "replaced" pRepl aRepl)
    (F : Fun K "delivered" "delivered" sDelivd f fd) (hm : mg "delivered" = some (.ref f)) (hb : Binds K fd pDelivd []) : Dfn P w K mg base 4 "delivered" pDelivd (aDelivd C) := by
  refine Dfn.of F hm scDelivd (fun ss s ⟨_, _, _, _, _, _, h, _⟩ => by rw [h]; rfl) hb ?_
  rintro cdv Ar outer sh H E ss s hr ⟨o, cf, t, t', i, m, rfl, hi, hc, hl, hz, hlw, hlw2, hbd, hd, hm', rfl⟩
  have nd := scDelivd.nd
  refine bd_norm (by dsimp only [ini, List.map]) ?_
  have hix : (t.net.map encM)[i]? = some (encM m) := by rw [List.getElem?_map, hi]; rfl
  have hnl := net_len hi
  have hbd' := hbd.delivered hi hd
  have hil := (List.getElem?_eq_some_iff.mp hi).1
  have er : cutT (t.net.map encM) none (some (i : Int)) ++ cutT (t.net.map encM) (some ((i + 1 : Nat) : Int)) none = (t.net.take i ++ t.net.drop (i + 1)).map encM := by
    rw [cut_to, cut_from, List.map_append, List.map_take, List.map_drop]
  refine bd_cons (sd_unpack rfl (pd_var (i := 1) rfl) (gd_cons (i := 3) nd (gd_cons (i := 4) nd (gd_cons (i := 5) nd (gd_cons (i := 6) nd gd_nil))))) ?_
  refine bd_cons (sd_set (i := 7) (s := .d (.tup (.str (kindM m) :: nD m.core :: nD m.line :: restM m))) nd (by rw [← encM_eq]; exact pd_ixN (pd_var (i := 6) rfl) (pd_var (i := 2) rfl) hix)) ?_
  refine bd_cons (sd_set (i := 8) (s := .d (.tup ((t.net.take i ++ t.net.drop (i + 1)).map encM))) nd (by
    rw [← er]
    exact pd_cat (pd_cut (pd_var (i := 6) rfl) od_none (od_some (pd_var (i := 2) rfl))) (pd_cut (pd_var (i := 6) rfl) (od_some (pd_addN (pd_var (i := 2) rfl) (pd_int (i := ((1 : Nat) : Int))))) od_none) (by rw [← List.length_append, er, List.length_map]; have := hz.n; omega))) ?_
  refine bd_cons (sd_par (i := 9) (j := 10) rfl nd (ad_cons (pd_ixc (j := 1) (pd_var (i := 7) rfl) rfl) (ad_cons (pd_ixc (j := 2) (pd_var (i := 7) rfl) rfl) ad_nil))) ?_
  unfold Lit.delivered at hd
  by_cases ht : toCaches m = true
  · rw [if_pos ht] at hd
    refine bd_ret (sd_if (td_cmp (cd_in (pd_ixc (j := 0) (pd_var (i := 7) rfl) rfl) (pd_gl Gt) rfl rfl)) (fun _ => ?_) (fun h => by rw [in_toc, ht] at h; cases h))
    cases hcr : cacheRecv (t.cache m.core) m with
    | none => rw [hcr] at hd; cases hd
    | some r =>
      rw [hcr] at hd
      have hd' := Option.some.inj hd
      have hms : r.2.length ≤ 100000 := by
        have := hbd'.n
        rw [← hd'] at this
        simp only [List.length_append] at this
        omega
      refine bd_cons (sd_unpack (ds := [encC r.1, encMs r.2]) rfl (pd_call E1 hr (ad_cons (pd_ixN (pd_var (i := 3) rfl) (pd_var (i := 9) rfl) (cache_ix hc)) (ad_cons (pd_var (i := 7) rfl) ad_nil)) ⟨t.cache m.core, m, r, by rw [encM_eq], hz.k _, hcr, rfl⟩) (gd_cons (i := 11) nd (gd_cons (i := 12) nd gd_nil))) ?_
      refine bd_ret (sd_ret' (pd_tu (at_cons (pd_call E3 (hr.mono (by decide)) (ad_cons (pd_var (i := 3) rfl) (ad_cons (pd_var (i := 9) rfl) (ad_cons (pd_var (i := 11) rfl) ad_nil))) ⟨t.caches.map encC, m.core, encC r.1, rfl, by simpa using hc, by simp; have := hz.c; omega, rfl⟩)
        (at_cons (pd_var (i := 4) rfl) (at_cons (pd_var (i := 5) rfl) (at_cons (pd_cat (ys := r.2.map encM) (pd_var (i := 8) rfl) (pd_var (i := 12) rfl) (by simp only [List.length_map, List.length_append] at *; have := hz.n; omega)) at_nil))))) ?_)
      rw [← hd', ← List.map_append]
      unfold encSys
      rw [List.map_set]; rfl
  · have ht' : toCaches m = false := by simpa using ht
    rw [if_neg ht] at hd
    refine bd_cons (sd_if (td_cmp (cd_in (pd_ixc (j := 0) (pd_var (i := 7) rfl) rfl) (pd_gl Gt) rfl rfl)) (fun h => by rw [in_toc, ht'] at h; cases h) (fun _ => bd_nil)) ?_
    have hl1 : m.line ≤ 1000 := by have := hz.h; omega
    refine bd_cons (sd_set (i := 13) nd (pd_mulN (pd_var (i := 10) rfl) (pd_lw T (pd_var (i := 0) rfl)) (by omega))) ?_
    have ec : cutT (t.mem.map D.int) (some ((m.line * cf.lw : Nat) : Int)) (some ((m.line * cf.lw + cf.lw : Nat) : Int)) = ((t.mem.map D.int).drop (m.line * cf.lw)).take cf.lw := by
      rw [cut_mid, Nat.add_sub_cancel_left]
    refine bd_cons (sd_set (i := 14) (s := .d (encW (memL cf t.mem m.line))) nd (by
      rw [encW_memL, ← ec]
      exact pd_cut (pd_var (i := 5) rfl) (od_some (pd_var (i := 13) rfl)) (od_some (pd_addN (pd_var (i := 13) rfl) (pd_lw T (pd_var (i := 0) rfl)))))) ?_
    cases hcr : homeRecv cf (t.home m.line) (memL cf t.mem m.line) m with
    | none => rw [hcr] at hd; cases hd
    | some r =>
      rw [hcr] at hd
      have hd' := Option.some.inj hd
      have hms : r.2.2.length ≤ 100000 := by
        have := hbd'.n
        rw [← hd'] at this
        simp only [List.length_append] at this
        omega
      have hml : (memPut cf t.mem m.line r.2.1).length ≤ 1000 := by rw [← hd'] at hm'; exact hm'
      refine bd_cons (sd_unpack (ds := [encH r.1, encW r.2.1, encMs r.2.2]) rfl (pd_call E2 (hr.mono (by decide)) (ad_cons (pd_var (i := 0) rfl) (ad_cons (pd_ixN (pd_var (i := 4) rfl) (pd_var (i := 10) rfl) (home_ix hl)) (ad_cons (pd_var (i := 14) rfl) (ad_cons (pd_var (i := 7) rfl) ad_nil)))) ⟨o, cf, t.home m.line, memL cf t.mem m.line, m, r, by rw [encM_eq], hcr, (hz.a _).1, (hz.a _).2, rfl⟩) (gd_cons (i := 15) nd (gd_cons (i := 14) nd (gd_cons (i := 12) nd gd_nil)))) ?_
      have ep : cutT (t.mem.map D.int) none (some ((m.line * cf.lw : Nat) : Int)) ++ r.2.1.map D.int ++ cutT (t.mem.map D.int) (some ((m.line * cf.lw + cf.lw : Nat) : Int)) none = (t.mem.map D.int).take (m.line * cf.lw) ++ r.2.1.map D.int ++ (t.mem.map D.int).drop (m.line * cf.lw + cf.lw) := by
        rw [cut_to, cut_from]
      have el : ((t.mem.map D.int).take (m.line * cf.lw) ++ r.2.1.map D.int ++ (t.mem.map D.int).drop (m.line * cf.lw + cf.lw)).length ≤ 1000 := by
        unfold memPut at hml
        simpa using hml
      have el2 : ((t.mem.map D.int).take (m.line * cf.lw)).length + (r.2.1.map D.int).length ≤ 1000 := by
        rw [List.length_append, List.length_append] at el; omega
      refine bd_cons (sd_set (i := 5) (s := .d (encW (memPut cf t.mem m.line r.2.1))) nd (by
        rw [encW_put, ← ep]
        exact pd_cat (pd_cat (ys := r.2.1.map D.int) (pd_cut (pd_var (i := 5) rfl) od_none (od_some (pd_var (i := 13) rfl))) (pd_var (i := 14) rfl) (by rw [cut_to]; omega)) (pd_cut (pd_var (i := 5) rfl) (od_some (pd_addN (pd_var (i := 13) rfl) (pd_lw T (pd_var (i := 0) rfl)))) od_none) (by rw [cut_to, cut_from]; rw [List.length_append] at el; omega))) ?_
      refine bd_ret (sd_ret' (pd_tu (at_cons (pd_var (i := 3) rfl) (at_cons (pd_call E3 (hr.mono (by decide)) (ad_cons (pd_var (i := 4) rfl) (ad_cons (pd_var (i := 10) rfl) (ad_cons (pd_var (i := 15) rfl) ad_nil))) ⟨t.homes.map encH, m.line, encH r.1, rfl, by simpa using hl, by simp; have := hz.h; omega, rfl⟩)
        (at_cons (pd_var (i := 5) rfl) (at_cons (pd_cat (ys := r.2.2.map encM) (pd_var (i := 8) rfl) (pd_var (i := 12) rfl) (by simp only [List.length_map, List.length_append] at *; have := hz.n; omega)) at_nil))))) ?_)
      rw [← hd', ← List.map_append]
      unfold encSys
      rw [List.map_set]; rfl
end
end Lit
end
section
/-! for i, x in enumerate(a tuple). -/
namespace PySem
open Sem (wp)
set_option maxHeartbeats 4000000 in
theorem lit_meets_enum {v : Value} {o : Obj} {H : Heap → Prop} (B : Begins v o H) :
    Meets (Builtin.«enumerate.__new__» ⟨[.type "enumerate", v], []⟩) (fun _ R s => H s.heap ∧
      R (.ok (.ret (.ref (s.heap.push o).objs.size))) { s with heap := (s.heap.push o).push { cls := .type "enumerate", data := .fields #[.none, .bool false, .ref s.heap.objs.size, rawInt 0, .none, .none] } }) :=
  .of_wp fun prog w A R s h => by
    obtain ⟨hp, g, d, tk, os⟩ := s; obtain ⟨h1, h⟩ := h
    have hsub := sub_enumerate
    have q1 : ∀ {A' : Around} {E : Value → Shared → Prop} {Q : Value → Shared → Prop}, Q (.ref hp.objs.size) ⟨hp.push o, g, d, tk, os⟩ → wpAny (model prog w) A' (pyIter v) Q E ⟨hp, g, d, tk, os⟩ :=
      fun q => B.iter prog w _ _ ⟨hp, g, d, tk, os⟩ _ h1 q
    wp_walk using q1
    refine wpAny_stack_any fun st => wpAny_pure ?_
    split
    · rename_i c _ _ _ _ _
      cases (c == Value.type "enumerate")
      · wp_walk using q1
        exact ⟨_, rfl, h⟩
      · wp_walk using q1
        exact ⟨_, rfl, h⟩
    · wp_walk using q1
      exact ⟨_, rfl, h⟩
section
variable {prog : Program} {w : World} {A : Around} {E : Value → Shared → Prop} {s : Shared}
theorem lit_enum_begins {v : Value} {o : Obj} {H : Heap → Prop} {Q : Value → Shared → Prop} (B : Begins v o H) (h1 : H s.heap)
    (h : ∀ h', IsEnum h' (s.heap.objs.size + 1) s.heap.objs.size 0 .none → h'.get? s.heap.objs.size = some o → h'.objs.size = s.heap.objs.size + 2 →
      (∀ b o, s.heap.get? b = some o → h'.get? b = some o) → Q (.ref (s.heap.objs.size + 1)) { s with heap := h' }) :
    wpAny (model prog w) A (call (.type "enumerate") [v]) Q E s := by
  refine callType_new F.called_enumerate (by decide) (F.typeCall_enumerate_1 _) (F.newCall_enumerate_1 _) (fun obj => F.args_object_init_2 obj _) F.entry_enumerate_new
    (lit_meets_enum B) ⟨h1, ?_⟩
  have hz : (s.heap.push o).objs.size = s.heap.objs.size + 1 := Heap.size_push ..
  show _ ∧ _
  rw [hz]
  have he : IsEnum ((s.heap.push o).push { cls := .type "enumerate", data := .fields #[.none, .bool false, .ref s.heap.objs.size, rawInt 0, .none, .none] }) (s.heap.objs.size + 1) s.heap.objs.size 0 .none := by
    have := Heap.get?_push_size (s.heap.push o) (o := { cls := .type "enumerate", data := .fields #[.none, .bool false, .ref s.heap.objs.size, rawInt 0, .none, .none] }) rfl
    rw [hz] at this; exact this
  refine ⟨⟨_, he, rfl⟩, h _ he (Heap.get?_push_of_some _ (Heap.get?_push_size _ B.free)) (by rw [Heap.size_push, hz]) fun b o x => Heap.get?_push_of_some _ (Heap.get?_push_of_some _ x)⟩
end
end PySem
namespace L2
open PySem PySem.Spec PyProof.Rows
def ItET (K : PySem.W.Frag) (a : Addr) : It :=
  ⟨fun i H => ∃ (xs : List V) (x : V), SqT K H a xs ∧ xs[i]? = some x, fun i H v H' => ∃ T x, v = .ref T ∧ H T = none ∧ H' = upd H T (.tup [.int (i : Nat), x]) ∧ ∀ xs, SqT K H a xs → xs[i]? = some x, fun i H => ∃ xs : List V, SqT K H a xs ∧ xs.length ≤ i⟩
theorem turn_enumT {P : Program} {w : World} {K : PySem.W.Frag} {elts : List Expr} {kk : Nat} {tpos : Pos} (a e it : Addr) :
    Turn P w K (.Tuple elts kk tpos) (ItET K a) [e, it] e (fun i h => (∃ old, IsEnum h e it ((i : Nat) : Int) old) ∧ h.IsTupleIter it a i ∧ e ≠ it) where
  mem := by simp
  obj := fun i h st b hb => by
    obtain ⟨⟨old, he⟩, ⟨o, ho, hc, hd⟩, _⟩ := st
    have e' : b = e ∨ b = it := by simpa using hb
    rcases e' with z | z
    · rw [z]; exact ⟨_, he, fun v q => nomatch q⟩
    · rw [z]; exact ⟨o, ho, fun v q => by rw [hd] at q; cases q⟩
  keep := fun i h h' st k => let ⟨⟨old, he⟩, hi, hne⟩ := st; ⟨⟨old, k e (by simp) _ he⟩, hi.at fun o q => k it (by simp) o q, hne⟩
  item := by
    intro X hP hw hK hc i pins s σ H E I hf st hg
    subst hP hw hK
    obtain ⟨⟨old, he⟩, hit, hne⟩ := st
    obtain ⟨xs, x, hq, hx⟩ := hg
    obtain ⟨its, rv, p, hz⟩ := I.tuple hq
    obtain ⟨u, hu, ru⟩ := rv.get hx
    have pt : s.heap.IsTuple a its.toArray := p
    have hel : e < s.heap.objs.size := Heap.lt_size he
    have hil : it < s.heap.objs.size := by obtain ⟨_, q, _⟩ := hit; exact Heap.lt_size q
    have hai : a ≠ it := by
      rintro rfl
      obtain ⟨o1, h1, c1, _⟩ := pt
      obtain ⟨o2, h2, c2, _⟩ := hit
      rw [h1] at h2; cases h2; rw [c1] at c2; injection c2 with c3; exact absurd c3 (by decide)
    have hea : e ≠ a := by
      rintro rfl
      obtain ⟨o1, h1, c1, _⟩ := pt
      have h2 : s.heap.get? e = some _ := he
      rw [h1] at h2; cases h2; injection c1 with c3; exact absurd c3 (by decide)
    have hi : i < its.toArray.size := by
      have := (List.getElem?_eq_some_iff.mp hu).1
      simpa using this
    refine wpAny_pyNext_enum_itemD (Draws.tuple (A := X.A.in1) (I.ok.hd hc) it a hai its.toArray) he ⟨hit, pt⟩ hi hne (by simp [hne, hea]) fun y h' tk hy ho hst hT hsz hk => ?_
    have hyu : y = u := by
      have : its[i]? = some y := by simpa using hy
      rw [hu] at this; exact (Option.some.inj this).symm
    subst hyu
    refine ⟨_, rfl, wpAny_letOwnedTupleGo_enum (s := { s with heap := h', toks := tk + 1 }) ho fun h'' he' sb => ?_⟩
    have hT2 : h''.get? s.heap.objs.size = some { cls := .type "tuple", data := .seq #[.int i tk, y] } := (sb.2 _ (Nat.ne_of_gt hel)).trans hT
    have new : ObjOk X.prog X.w (upd H s.heap.objs.size (.tup [.int (i : Nat), x])) h'' s.heap.objs.size (.tup [.int (i : Nat), x]) :=
      ⟨by show 2 ≤ sizeLine; decide, [.int i tk, y], .cons ⟨_, rfl⟩ (.cons ru .nil), ⟨_, hT2, rfl, _, rfl⟩⟩
    have I1 : Inv X pins σ (upd H s.heap.objs.size (.tup [.int (i : Nat), x])) { s with heap := h'', toks := tk + 1 } :=
      I.turnedNew (ch := [e, it]) (fun b ob hb q => (sb.2 b (fun z => hb (by simp [z]))).trans (hk b ob (fun z => hb (by simp [z])) (fun z => hb (by simp [z])) q)) hf (Nat.le_refl _) new
    refine ⟨.ref s.heap.objs.size, _, I1, rfl, ⟨_, x, rfl, I.hok.fresh (Nat.le_refl _), rfl, fun ys hy => by rw [I.tuple_inj hy hq]; exact hx⟩, ⟨⟨y, ?_⟩, hst.1.at fun o q => (sb.2 it (Ne.symm hne)).trans q, hne⟩, fun b hb => ?_⟩
    · have e1 : ((i + 1 : Nat) : Int) = (i : Int) + 1 := by omega
      rw [e1]; exact he'
    · have hb' : b < s.heap.objs.size := by
        have e' : b = e ∨ b = it := by simpa using hb
        rcases e' with z | z
        · rw [z]; exact hel
        · rw [z]; exact hil
      rw [upd_ne (Nat.ne_of_lt hb')]
      exact (hf b hb).1
  done := by
    intro X hP hw hK hc i pins s σ H E I hf st hg
    subst hP hw hK
    obtain ⟨⟨old, he⟩, hit, hne⟩ := st
    obtain ⟨xs, hq, hx⟩ := hg
    obtain ⟨its, rv, p, hz⟩ := I.tuple hq
    have pt : s.heap.IsTuple a its.toArray := p
    obtain ⟨f0, f1, f2, f3, f4, f5⟩ := hf it (by simp)
    have hl := rv.length
    have hai : a ≠ it := by
      rintro rfl
      obtain ⟨o1, h1, c1, _⟩ := pt
      obtain ⟨o2, h2, c2, _⟩ := hit
      rw [h1] at h2; cases h2; rw [c1] at c2; injection c2 with c3; exact absurd c3 (by decide)
    have hT : s.TypeIs (.ref e) "enumerate" := ⟨_, he, rfl⟩
    unfold pyNext
    refine wpAny_bind (wpAny_attempt (wpAny_callSpecial?_slot (name := Str.ofString "__next__") hT F.slot_enumerate_next
      (wpAny_call_entry F.slot_enumerate_next hT F.entry_enumerate_next ?_ (F.args_enumerate_next_1 _))))
    show wpAny _ _ (field (.ref e) 2 >>= _) _ _ _
    refine wpAny_bind (wpAny_field he rfl (x := .ref it) rfl ?_)
    refine wpAny_bind (wpAny_nextOf_tuple_end (A := X.A.in1) (I.ok.hd hc) hit pt (by simp; omega) fun h' x he' hx' => ?_)
    obtain ⟨o, ho, hcx⟩ := hx'
    refine wpAny_bind (wpAny_isInstance (T := "StopIteration") (b := true) ⟨o, ho, hcx⟩ isSubtype_stop ?_)
    exact wpAny_pure ⟨rfl, I.turned (t' := s.toks) (fun b o hb q => he' b o hb q) f0 f1 f3 f4 f5⟩
  self := fun A i s Q E st h => let ⟨⟨_, he⟩, _⟩ := st; wpAny_pyIter_enum he h
def iEnumT (K : PySem.W.Frag) (ta : TA) : TI := fun σ H R => ta σ H fun vs H1 => ∃ a xs, vs = [.ref a] ∧ SqT K H1 a xs ∧ R (ItET K a) H1
theorem pi_enumT {X : Cx} {e : Expr} {ta : TA} {p pos tpos : Pos} {elts : List Expr} {kk : Nat} (hg : Gl X "enumerate") (hm : X.mg "enumerate" = none) (ha : PA X [e] ta) (hs : starEach [e] X.env = [(false, eval e X.env)] := by rfl) :
    PI X (.Tuple elts kk tpos) (.Call (.Name "enumerate" p) [e] [] pos) (iEnumT X.K ta) := by
  refine ⟨fun pins s σ H R I h => ?_⟩
  refine Call_ (ld_blt I hg hm boot_enumerate (PyProof.Rows.callWith_type1 (thn (ha.run pos pins s σ H _ I h) fun us s1 ⟨vs, H1, I1, r1, q1⟩ => ?_) hs rfl))
  obtain ⟨a, xs, ex, hq, q⟩ := q1
  subst ex
  cases r1 with
  | cons r rr =>
    cases rr
    cases r
    obtain ⟨its, rv, p', hz⟩ := I1.tuple hq
    have pt : s1.heap.IsTuple a its.toArray := p'
    refine lit_enum_begins (begins_tuple a its.toArray) pt fun h' he hit hsz hk => wpAny_pyIter_enum he ?_
    have I2 : Inv X pins σ H1 { s1 with heap := h' } := I1.kept (t' := s1.toks) hk
    refine ⟨s1.heap.objs.size + 1, [s1.heap.objs.size + 1, s1.heap.objs.size], _, _, H1, rfl, I2, turn_enumT a (s1.heap.objs.size + 1) s1.heap.objs.size, ⟨⟨.none, he⟩, ⟨_, hit, rfl, rfl⟩, Nat.succ_ne_self _⟩, fun b hb => ?_, q⟩
    have e' : b = s1.heap.objs.size + 1 ∨ b = s1.heap.objs.size := by simpa using hb
    have hle : s1.heap.objs.size ≤ b := by
      rcases e' with z | z
      · rw [z]; exact Nat.le_add_right _ _
      · rw [z]; exact Nat.le_refl _
    exact I1.fpOk hle (I1.hok.fresh hle)
theorem walk_enumT {K : PySem.W.Frag} {a : Addr} {xs : List V} : Walk (ItET K a) xs.length (fun H => SqT K H a xs) (YPair (fun i => some (.int (i : Nat))) (fun i => xs[i]?)) := by
  refine ⟨fun i _ hi q => ⟨xs, xs[i], q, by simp [hi]⟩, fun _ q => ⟨xs, q, Nat.le_refl _⟩, fun i H v H' _ q y => ?_⟩
  obtain ⟨T, x, h1, h2, h3, h4⟩ := y
  exact ⟨T, .int (i : Nat), x, h1, h2, h3, rfl, h4 xs q⟩
end L2
end
section
namespace Lit
open PySem PySem.Spec PyProof.Rows L2 Dat Proto
section
variable {P : Program} {w : World} {K : PySem.W.Frag} {mg : Str → Option Value} {base : Heap} {C : Addr}

/-! deliverable -/
def isDel (t : Sys) (i : Nat) : Bool := match t.net[i]? with
  | some m => deliverableM t m
  | none => false
def delIx (t : Sys) : List Nat := (List.range t.net.length).filter (isDel t)
def aDeliv (ss : List S) (s : S) : Prop := ∃ t : Sys, ss = [.d (encSys t)] ∧ (∀ m, m ∈ t.net → m.line < t.homes.length) ∧ t.net.length ≤ 100000 ∧ s = .d (.tup ((delIx t).map nD))
abbrev sDeliv : Stmt := top 26
abbrev nDeliv : List Str := ["system", "homes", "network", "found", "index", "message"]
theorem scDeliv : FnScope nDeliv ["system"] (defScope sDeliv) := ⟨rfl, rfl, rfl, by decide +kernel, rfl, by decide +kernel, by decide +kernel⟩
def ifTest (s : Stmt) : Expr := match s with
  | .If c _ _ _ => c
  | _ => .Constant .none 0 ⟨0, 0, 0, 0⟩
theorem td_any {X : Cx} {e : Expr} : PT X e (fun σ H Q => ∃ (G : Gm) (b : Bool), TD X G e b ∧ tT X.K G b σ H Q) := ⟨fun pins s σ H Q I ⟨_, _, h, q⟩ => h.run pins s σ H Q I q⟩
theorem sd_any {X : Cx} {st : Stmt} : PS X st (fun E σ H => ∃ (G : Gm) (o : Out), SD X G st o ∧ tS X.K G o E σ H) := ⟨fun pins s σ H E I ⟨_, _, h, q⟩ => h.run pins s σ H E I q⟩
theorem Fr.weak {K : PySem.W.Frag} {H : Hp} {G G' : Gm} {σ : L2.St} (f : Fr K H G σ) (hl : G'.length = G.length) (k : ∀ (i : Nat) s, G'[i]? = some (some s) → G[i]? = some (some s)) : Fr K H G' σ := ⟨hl.trans f.1, fun i s h => f.2 i s (k i s h)⟩
/-- data alone: tuples stay -/
theorem Fr.keep {K : PySem.W.Frag} {H H' : Hp} {G : Gm} {σ : L2.St} (f : Fr K H G σ) (e : Tp H H') (k : ∀ (i : Nat) s, G[i]? = some (some s) → ∃ d, s = .d d) : Fr K H' G σ := ⟨f.1, fun i s h => by
  obtain ⟨v, h1, h2⟩ := f.2 i s h
  obtain ⟨d, rfl⟩ := k i s h
  exact ⟨v, h1, Is.mono e h2⟩⟩
theorem isL_ints {K : PySem.W.Frag} {H : Hp} : ∀ ns : List Nat, IsL K H (ns.map nD) (ns.map fun (i : Nat) => V.int (i : Int))
  | [] => isL_nil.mpr rfl
  | n :: ns => isL_cons.mpr ⟨_, _, rfl, is_int.mpr rfl, isL_ints ns⟩
theorem range_take (n k : Nat) (h : k ≤ n) : (List.range n).take k = List.range k := by
  apply List.ext_getElem?
  intro i
  rw [List.getElem?_take]
  by_cases h1 : i < k
  · rw [if_pos h1, List.getElem?_range (by omega), List.getElem?_range h1]
  · rw [if_neg h1, List.getElem?_eq_none (by simp; omega)]
theorem dDeliv {f : Addr} {fd : FuncData} (hEn : mg "enumerate" = none) (hTu : mg "tuple" = none) (Gt : GlD K mg "TO_CACHES" dToC) (E1 : Dfn P w K mg base 1 "can_receive" ["home", "message"] aCanR)
    (F : Fun K "deliverable" "deliverable" sDeliv f fd) (hm : mg "deliverable" = some (.ref f)) (hb : Binds K fd ["system"] []) : Dfn P w K mg base 2 "deliverable" ["system"] aDeliv := by
  refine ⟨f, fd, F.ok scDeliv (fun vs H Q E ⟨ss, s, ⟨_, h, _⟩, hl, _⟩ => by rw [hl, h]; rfl) (fun cdv Ar outer sh H vs Q E hr ⟨ss, s, ⟨t, hss, hml, hz, hs⟩, hl, hv, q⟩ => ?_), hm, F.kp, hb⟩
  subst hss hs
  have ndq := scDeliv.nd
  refine ⟨_, pss_cons (sd_par (G := [some (.d (encSys t)), none, none, none, none, none]) (i := 1) (j := 2) rfl ndq (ad_cons (pd_ixc (j := 1) (pd_var (i := 0) rfl) rfl) (ad_cons (pd_ixc (j := 3) (pd_var (i := 0) rfl) rfl) ad_nil)))
    (pss_cons (ps_set (i := 3) ndq rfl (Or.inl rfl) (pe_lst pa_nil))
    (pss_cons (ps_for PassesOwn.never rfl (pi_enumT rfl hEn (pa_cons (pv 2) pa_nil)) (pg_tup rfl (pgs_cons (pg_name (i := 4) ndq rfl (Or.inl rfl)) (pgs_cons (pg_name (i := 5) ndq rfl (Or.inl rfl)) pgs_nil)))
      (pss_one (ps_if td_any (pss_one (ps_expr (pe_bm PySem.F.plainAttrs_list PySem.F.slot_list_append PySem.F.type_list_append mt_append (pv 3) (pa_cons (pv 4) pa_nil)))) pss_nil)))
    (pss_one sd_any))), ?_⟩
  have fr0 : Fr K H [some (.d (encSys t)), none, none, none, none, none] (L2.start nDeliv vs) := by
    have := Fr.start (N := nDeliv) (K := K) (H := H) hl.symm hv
    exact this
  refine ⟨fr0, fun σ1 H1 e1 f1 => ?_⟩
  refine ⟨by decide, fun l hl0 => ?_⟩
  -- where the network stands
  obtain ⟨vn, hvn, isn⟩ := f1.2 2 (.d (encMs t.net)) rfl
  obtain ⟨a, ns, rfl, p1, p2⟩ := isS_tup.mp isn
  have hlen : ns.length = t.net.length := by rw [p2.len, List.length_map]
  have hal : a ≠ l ∨ True := .inr trivial
  have tp : ∀ {H' : Hp}, (∀ b o, H1 b = some o → H' b = some o) → SqT K H' a ns := fun k => (Tp.of k).sq p1
  have hσ1 : σ1.length = 6 := by rw [← f1.1]; rfl
  have hs2 : (σ1.set 3 (some (.ref l)))[2]? = some (some (.ref a)) := by rw [List.getElem?_set_ne (by decide)]; exact hvn
  refine ⟨_, hs2, a, ns, rfl, (Tp.new hl0).sq p1, ?_⟩
  refine for_it (walk_enumT (K := K) (a := a) (xs := ns)) (fun k σ' H' => Same H1 H' ∧ Fr K H' [some (.d (encSys t)), some (.d (.tup (t.homes.map encH))), none, none, none, none] σ' ∧ σ'[3]? = some (some (.ref l)) ∧ H' l = some (.lst (((List.range k).filter (isDel t)).map fun (i : Nat) => V.int (i : Int))))
    ⟨same_new hl0, ?_, ?_, upd_same⟩ (fun k σ' H' _ ⟨e2, _⟩ => tp e2) ?_ ?_
  · refine ⟨by simp [hσ1], fun i s hs => ?_⟩
    match i, hs with
    | 0, hs =>
      cases hs
      obtain ⟨v0, h0, i0⟩ := f1.2 0 (.d (encSys t)) rfl
      exact ⟨v0, by rw [List.getElem?_set_ne (by decide)]; exact h0, i0.mono (same_new hl0)⟩
    | 1, hs =>
      cases hs
      obtain ⟨v0, h0, i0⟩ := f1.2 1 (.d (.tup (t.homes.map encH))) rfl
      exact ⟨v0, by rw [List.getElem?_set_ne (by decide)]; exact h0, i0.mono (same_new hl0)⟩
    | 2, hs => cases hs
    | 3, hs => cases hs
    | 4, hs => cases hs
    | 5, hs => cases hs
    | i + 6, hs => cases hs
  · exact List.getElem?_set_self (by omega)
  · rintro k v σ' H' H'' hk ⟨e2, f2, h3, h4⟩ ⟨T, x, y, rfl, hT, rfl, hx, hy⟩
    cases hx
    -- the pair, unpacked
    refine ⟨T, _, rfl, .of upd_same, rfl, _, _, rfl, _, _, rfl, rfl, ?_⟩
    have e3 : Same H' (upd H' T (.tup [.int (k : Int), y])) := same_new hT
    obtain ⟨d, hd, iy⟩ := (p2.mono (Tp.of (e2.trans e3))).get' hy
    obtain ⟨m, hm, rfl⟩ : ∃ m, t.net[k]? = some m ∧ encM m = d := by
      rw [List.getElem?_map] at hd
      cases e : t.net[k]? with
      | none => rw [e] at hd; cases hd
      | some z => rw [e] at hd; exact ⟨z, rfl, Option.some.inj hd⟩
    rw [encM_eq] at iy
    have hσ' : σ'.length = 6 := by rw [← f2.1]; rfl
    have hlin := hml m (List.mem_of_getElem? hm)
    have fr : Fr K (upd H' T (.tup [.int (k : Int), y])) [some (.d (encSys t)), some (.d (.tup (t.homes.map encH))), none, none, some (.d (nD k)), some (.d (.tup (.str (kindM m) :: nD m.core :: nD m.line :: restM m)))] ((σ'.set 4 (some (.int (k : Int)))).set 5 (some y)) :=
      Fr.set (i := 5) (Fr.set (i := 4) (s := .d (nD k)) (f2.mono e3) (isS_int.mpr rfl)) iy
    have tst : TD (XO P w K mg base nDeliv "deliverable" sDeliv f cdv Ar outer sh H E) [some (.d (encSys t)), some (.d (.tup (t.homes.map encH))), none, none, some (.d (nD k)), some (.d (.tup (.str (kindM m) :: nD m.core :: nD m.line :: restM m)))] (ifTest ((forBody (stAt sDeliv 2)).getD 0 (.Pass ⟨0, 0, 0, 0⟩))) (deliverableM t m) := by
      have := td_or (X := XO P w K mg base nDeliv "deliverable" sDeliv f cdv Ar outer sh H E) (G := [some (.d (encSys t)), some (.d (.tup (t.homes.map encH))), none, none, some (.d (nD k)), some (.d (.tup (.str (kindM m) :: nD m.core :: nD m.line :: restM m)))])
        (pos := ⟨154, 11, 154, 77⟩) (td_cmp (pos := ⟨154, 11, 154, 34⟩) (cd_in (pd_ixc (pos := ⟨154, 11, 154, 21⟩) (k := 0) (p2 := ⟨154, 19, 154, 20⟩) (j := 0) (pd_var (pos := ⟨154, 11, 154, 18⟩) (i := 5) rfl) rfl) (pd_gl (pos := ⟨154, 25, 154, 34⟩) Gt) rfl rfl))
        (fun _ => td_val (pd_call (p := ⟨154, 38, 154, 49⟩) (pos := ⟨154, 38, 154, 77⟩) E1 hr (ad_cons (pd_ixN (pos := ⟨154, 50, 154, 67⟩) (pd_var (pos := ⟨154, 50, 154, 55⟩) (i := 1) rfl) (pd_ixc (pos := ⟨154, 56, 154, 66⟩) (k := 0) (p2 := ⟨154, 64, 154, 65⟩) (j := 2) (pd_var (pos := ⟨154, 56, 154, 63⟩) (i := 5) rfl) rfl) (home_ix hlin)) (ad_cons (pd_var (pos := ⟨154, 69, 154, 76⟩) (i := 5) rfl) ad_nil)) ⟨t.home m.line, m, by rw [encM_eq], rfl⟩))
      rw [in_toc] at this
      exact this
    have hdm : isDel t k = deliverableM t m := by unfold isDel; rw [hm]
    have hrk : (List.range (k + 1)).filter (isDel t) = (List.range k).filter (isDel t) ++ if deliverableM t m = true then [k] else [] := by
      rw [List.range_succ, List.filter_append, List.filter_cons, hdm]
      split <;> rfl
    have g3 : ((σ'.set 4 (some (.int (k : Int)))).set 5 (some y))[3]? = some (some (.ref l)) := by
      rw [List.getElem?_set_ne (by decide), List.getElem?_set_ne (by decide)]; exact h3
    have g4 : ((σ'.set 4 (some (.int (k : Int)))).set 5 (some y))[4]? = some (some (.int (k : Int))) := by
      rw [List.getElem?_set_ne (by decide)]; exact List.getElem?_set_self (by omega)
    have fw : ∀ {H3 : Hp}, Same (upd H' T (.tup [.int (k : Int), y])) H3 → Fr K H3 [some (.d (encSys t)), some (.d (.tup (t.homes.map encH))), none, none, none, none] ((σ'.set 4 (some (.int (k : Int)))).set 5 (some y)) := fun {H3} e4 =>
      Fr.weak (fr.mono e4) rfl fun i s hs => by
        match i, hs with
        | 0, hs => exact hs
        | 1, hs => exact hs
        | 2, hs => cases hs
        | 3, hs => cases hs
        | 4, hs => cases hs
        | 5, hs => cases hs
        | i + 6, hs => cases hs
    refine ⟨_, _, tst, fr, fun H3 e4 => ?_⟩
    have h5 : H3 l = some (.lst (((List.range k).filter (isDel t)).map fun (i : Nat) => V.int (i : Int))) := e4 _ _ (e3 _ _ h4)
    refine ite2 (fun hb => ?_) (fun hb => ?_)
    · -- found.append(index)
      refine ⟨_, g3, Or.inl ⟨rfl, _, SqL.of h5⟩, _, g4, l, _, _, rfl, rfl, h5, ?_, ?_⟩
      · have := List.length_filter_le (isDel t) (List.range k)
        rw [List.length_range] at this
        rw [List.length_map]
        have hk' : k < 100000 := by omega
        exact Nat.lt_of_le_of_lt this (Nat.lt_of_lt_of_le hk' (by decide))
      · have es : Same H1 (upd H3 l (.lst ((((List.range k).filter (isDel t)).map fun (i : Nat) => V.int (i : Int)) ++ [.int (k : Int)]))) := fun b o hb' => by
          rw [upd_ne (ne_of_none hb' hl0)]; exact e4 _ _ (e3 _ _ (e2 _ _ hb'))
        refine ⟨es, ?_, g3, ?_⟩
        · exact Fr.keep (fw e4) (Tp.lst h5) (fun i s hs => by
            match i, hs with
            | 0, hs => cases hs; exact ⟨_, rfl⟩
            | 1, hs => cases hs; exact ⟨_, rfl⟩
            | 2, hs => cases hs
            | 3, hs => cases hs
            | 4, hs => cases hs
            | 5, hs => cases hs
            | i + 6, hs => cases hs)
        · rw [upd_same, hrk, if_pos hb, List.map_append]; rfl
    · refine ⟨(e2.trans e3).trans e4, fw e4, g3, ?_⟩
      rw [hrk, if_neg hb, List.append_nil]; exact h5
  · rintro σ' H' ⟨e2, f2, h3, h4⟩
    rw [hlen] at h4
    have f3 : Fr K H' [some (.d (encSys t)), some (.d (.tup (t.homes.map encH))), none, some (.lst ((delIx t).map nD)), none, none] σ' := by
      refine ⟨by rw [← f2.1]; rfl, fun i s hs => ?_⟩
      match i, hs with
      | 0, hs => exact f2.2 0 s hs
      | 1, hs => exact f2.2 1 s hs
      | 2, hs => cases hs
      | 3, hs =>
        cases hs
        refine ⟨.ref l, h3, l, _, rfl, h4, ?_⟩
        exact isL_ints _
      | 4, hs => cases hs
      | 5, hs => cases hs
      | i + 6, hs => cases hs
    refine ⟨_, _, sd_ret (pd_tupL hTu (pd_var (i := 3) rfl)), f3, fun v H3 e4 i4 => ?_⟩
    exact q v H3 ((e1.trans e2).trans e4) i4
end
end Lit
end
section
namespace Lit
open PySem PySem.Spec PyProof.Rows L2 Dat Proto
section
variable {P : Program} {w : World} {K : PySem.W.Frag} {mg : Str → Option Value} {base : Heap} {C : Addr}

/-! next_system -/
inductive Act where
  | deliver (i : Nat) | evict (c l : Nat) | request (c l : Nat) (ex : Bool)
def encAct : Act → D
  | .deliver i => .tup [.str "deliver", nD i]
  | .evict c l => .tup [.str "evict", nD c, nD l]
  | .request c l ex => .tup [.str "request", nD c, nD l, .bl ex]
def nextS (cf : Cfg) (t : Sys) : Act → Option Sys
  | .deliver i => match t.net[i]? with
    | some m => if deliverableM t m = true then delivered cf t i m else none
    | none => none
  | .evict c l => evicted t c l
  | .request c l ex => requested cf t c l ex
theorem nextS_del (cf : Cfg) (t : Sys) (i : Nat) : nextS cf t (.deliver i) = (t.net[i]?).bind (fun m => if deliverableM t m = true then delivered cf t i m else none) := by
  unfold nextS
  cases h : t.net[i]? <;> simp [h]
def actOk (cf : Cfg) (t : Sys) : Act → Prop
  | .deliver i => ∀ m, t.net[i]? = some m → deliverableM t m = true → ∃ t', delivered cf t i m = some t' ∧ t'.mem.length ≤ 1000
  | .evict c l => c < t.caches.length ∧ l < t.homes.length
  | .request c l _ => c < t.caches.length ∧ l < t.homes.length
def aNext (C : Addr) (ss : List S) (s : S) : Prop := ∃ (o : Str) (cf : Cfg) (t : Sys) (a : Act), ss = [cfgS C o cf, .d (encSys t), .d (encAct a)] ∧ actOk cf t a ∧ (∀ m, m ∈ t.net → m.core < t.caches.length ∧ m.line < t.homes.length) ∧ SSz t ∧ Bd 100 t ∧ 0 < cf.lw ∧ cf.lw ≤ 1000 ∧ 0 < cf.sets ∧ s = .d (encR encSys (nextS cf t a))
abbrev sNext : Stmt := top 28
abbrev nNext : List Str := ["config", "system", "action", "caches", "homes", "memory", "network", "core", "line", "changed"]
abbrev pNext : List Str := ["config", "system", "action"]
theorem scNext : FnScope nNext pNext (defScope sNext) := ⟨rfl, rfl, rfl, by decide +kernel, rfl, by decide +kernel, by decide +kernel⟩
theorem del_contains (t : Sys) (i : Nat) : (delIx t).contains i = isDel t i := by
  unfold delIx
  rw [Bool.eq_iff_iff]
  simp only [List.contains_iff_mem, List.mem_filter, List.mem_range]
  constructor
  · exact fun h => h.2
  · intro h
    refine ⟨?_, h⟩
    unfold isDel at h
    split at h
    · rename_i m hm; exact (List.getElem?_eq_some_iff.mp hm).1
    · cases h
theorem dNext {f : Addr} {fd : FuncData} (N : NoG mg) (E1 : Dfn P w K mg base 2 "deliverable" ["system"] aDeliv) (E2 : Dfn P w K mg base 4 "delivered" pDelivd (aDelivd C)) (E3 : Dfn P w K mg base 2 "request_line" pReq (aReq C)) (E4 : Dfn P w K mg base 2 "give_up_line" ["cache", "core", "line"] aGive) (E5 : Dfn P w K mg base 1 "replaced" pRepl aRepl)
    (F : Fun K "next_system" "next_system" sNext f fd) (hm : mg "next_system" = some (.ref f)) (hb : Binds K fd pNext []) : Dfn P w K mg base 5 "next_system" pNext (aNext C) := by
  refine Dfn.of F hm scNext (fun ss s ⟨_, _, _, _, h, _⟩ => by rw [h]; rfl) hb ?_
  rintro cdv Ar outer sh H E ss s hr ⟨o, cf, t, a, rfl, hok, hms, hz, hbd, hlw, hlw2, hse, rfl⟩
  have nd := scNext.nd
  refine bd_norm (by dsimp only [ini, List.map]) ?_
  refine bd_cons (sd_unpack rfl (pd_var (i := 1) rfl) (gd_cons (i := 3) nd (gd_cons (i := 4) nd (gd_cons (i := 5) nd (gd_cons (i := 6) nd gd_nil))))) ?_
  -- what is handed back behind a request or a giving up
  have fin : ∀ (r : Option (Cache × List Msg)) (c : Nat) (t' : Option Sys) (G : Gm), c < t.caches.length → (∀ x, r = some x → x.2.length ≤ 100000) → t' = r.map (fun x => { t with caches := t.caches.set c x.1, net := t.net ++ x.2 }) →
      G[3]? = some (some (.d (.tup (t.caches.map encC)))) → G[4]? = some (some (.d (.tup (t.homes.map encH)))) → G[5]? = some (some (.d (encW t.mem))) → G[6]? = some (some (.d (encMs t.net))) → G[7]? = some (some (.d (nD c))) → G[9]? = some (some (.d (encR encCM r))) →
      BD (XO P w K mg base nNext "next_system" sNext f cdv Ar outer sh H E) G ((defBody sNext).drop 5) (.ret (.d (encR encSys t'))) := by
    intro r c t' G hc hrl ht' g3 g4 g5 g6 g7 g9
    subst ht'
    cases r with
    | none => exact bd_ret (sd_if (td_cmp (cd_isN (pd_var (i := 9) g9))) (fun _ => bd_ret (sd_ret pd_non)) (fun h => by cases h))
    | some r =>
      refine bd_cons0 (sd_if (td_cmp (cd_isN (pd_var (i := 9) g9))) (fun h => by cases h) (fun _ => bd_nil)) ?_
      refine bd_ret (sd_ret' (pd_tu (at_cons (pd_call E5 (hr.mono (by decide)) (ad_cons (pd_var (i := 3) g3) (ad_cons (pd_var (i := 7) g7) (ad_cons (pd_ixc (j := 0) (pd_var (i := 9) g9) rfl) ad_nil))) ⟨t.caches.map encC, c, encC r.1, rfl, by simpa using hc, by simp; have := hz.c; omega, rfl⟩)
        (at_cons (pd_var (i := 4) g4) (at_cons (pd_var (i := 5) g5) (at_cons (pd_cat (xs := t.net.map encM) (ys := r.2.map encM) (pd_var (i := 6) g6) (pd_ixc (j := 1) (pd_var (i := 9) g9) rfl) (by have := hrl r rfl; have := hz.n; simp only [List.length_map]; omega)) at_nil))))) ?_)
      rw [← List.map_append]
      show S.d (.tup _) = S.d (encSys _)
      unfold encSys
      rw [List.map_set]; rfl
  cases a with
  | deliver i =>
    refine bd_ret (sd_if (td_cmp (cd_eq (pd_ixc (j := 0) (pd_var (i := 2) rfl) rfl) pd_str)) (fun _ => ?_) (fun h => absurd h (by decide +kernel)))
    have hin : inD (nD i) ((delIx t).map nD) = isDel t i := by rw [inD_n, del_contains]
    by_cases hd : isDel t i = true
    · obtain ⟨m, hm, hdm⟩ : ∃ m, t.net[i]? = some m ∧ deliverableM t m = true := by
        unfold isDel at hd
        split at hd
        · exact ⟨_, by assumption, hd⟩
        · cases hd
      obtain ⟨t', ht', hml⟩ := hok m hm hdm
      have hmm := hms m (List.mem_of_getElem? hm)
      have e : nextS cf t (.deliver i) = some t' := by unfold nextS; simp only [hm, hdm, if_true]; exact ht'
      rw [e]
      refine bd_cons (sd_if (td_cmp (cd_notIn (pd_ixc (j := 1) (pd_var (i := 2) rfl) rfl) (pd_call E1 (hr.mono (by decide)) (ad_cons (pd_var (i := 1) rfl) ad_nil) ⟨t, rfl, fun m h => (hms m h).2, hz.n, rfl⟩) rfl (all_n _))) (fun h => by rw [hin, hd] at h; cases h) (fun _ => bd_nil)) ?_
      exact bd_ret (sd_ret (pd_call E2 hr (ad_cons (pd_var (i := 0) rfl) (ad_cons (pd_var (i := 1) rfl) (ad_cons (pd_ixc (j := 1) (pd_var (i := 2) rfl) rfl) ad_nil))) ⟨o, cf, t, t', i, m, rfl, hm, hmm.1, hmm.2, hz, hlw, hlw2, hbd, ht', hml, rfl⟩))
    · have hd' : isDel t i = false := by simpa using hd
      have e : nextS cf t (.deliver i) = none := by
        rw [nextS_del]
        unfold isDel at hd'
        cases hm : t.net[i]? with
        | none => rfl
        | some m => rw [hm] at hd'; simp only at hd'; simp [hd']
      rw [e]
      exact bd_ret (sd_if (td_cmp (cd_notIn (pd_ixc (j := 1) (pd_var (i := 2) rfl) rfl) (pd_call E1 (hr.mono (by decide)) (ad_cons (pd_var (i := 1) rfl) ad_nil) ⟨t, rfl, fun m h => (hms m h).2, hz.n, rfl⟩) rfl (all_n _))) (fun _ => bd_ret (sd_ret pd_non)) (fun h => by rw [hin, hd'] at h; cases h))
  | evict c l =>
    obtain ⟨hc, hl⟩ := hok
    refine bd_cons (sd_if (td_cmp (cd_eq (pd_ixc (j := 0) (pd_var (i := 2) rfl) rfl) pd_str)) (fun h => absurd h (by decide +kernel)) (fun _ => bd_nil)) ?_
    refine bd_cons (sd_par (i := 7) (j := 8) rfl nd (ad_cons (pd_ixc (j := 1) (pd_var (i := 2) rfl) rfl) (ad_cons (pd_ixc (j := 2) (pd_var (i := 2) rfl) rfl) ad_nil))) ?_
    refine bd_cons (sd_if (td_not (td_and (td_chain (pd_int (i := 0)) (pd_var (i := 7) rfl) (pd_lenT N.len (pd_var (i := 3) rfl))) (fun _ => td_chain (pd_int (i := 0)) (pd_var (i := 8) rfl) (pd_lenT N.len (pd_var (i := 4) rfl))))) (fun h => by simp at h; omega) (fun _ => bd_nil)) ?_
    refine bd_cons (sd_if (td_cmp (cd_eq (pd_ixc (j := 0) (pd_var (i := 2) rfl) rfl) pd_str)) (fun h => absurd h (by decide +kernel)) (fun _ => bd_cons (sd_set (i := 9) nd (pd_call E4 (hr.mono (by decide)) (ad_cons (pd_ixN (pd_var (i := 3) rfl) (pd_var (i := 7) rfl) (cache_ix hc)) (ad_cons (pd_var (i := 7) rfl) (ad_cons (pd_var (i := 8) rfl) ad_nil))) ⟨t.cache c, c, l, rfl, hz.k _, rfl⟩)) bd_nil)) ?_
    refine fin (giveLine (t.cache c) c l) c _ _ hc (fun x hx => ?_) rfl rfl rfl rfl rfl rfl rfl
    unfold giveLine at hx
    repeat' split at hx
    all_goals first | cases hx; done | (cases hx; simp)
  | request c l ex =>
    obtain ⟨hc, hl⟩ := hok
    refine bd_cons (sd_if (td_cmp (cd_eq (pd_ixc (j := 0) (pd_var (i := 2) rfl) rfl) pd_str)) (fun h => absurd h (by decide +kernel)) (fun _ => bd_nil)) ?_
    refine bd_cons (sd_par (i := 7) (j := 8) rfl nd (ad_cons (pd_ixc (j := 1) (pd_var (i := 2) rfl) rfl) (ad_cons (pd_ixc (j := 2) (pd_var (i := 2) rfl) rfl) ad_nil))) ?_
    refine bd_cons (sd_if (td_not (td_and (td_chain (pd_int (i := 0)) (pd_var (i := 7) rfl) (pd_lenT N.len (pd_var (i := 3) rfl))) (fun _ => td_chain (pd_int (i := 0)) (pd_var (i := 8) rfl) (pd_lenT N.len (pd_var (i := 4) rfl))))) (fun h => by simp at h; omega) (fun _ => bd_nil)) ?_
    refine bd_cons (sd_if (td_cmp (cd_eq (pd_ixc (j := 0) (pd_var (i := 2) rfl) rfl) pd_str)) (fun _ => bd_cons (sd_set (i := 9) nd (pd_call E3 (hr.mono (by decide)) (ad_cons (pd_var (i := 0) rfl) (ad_cons (pd_ixN (pd_var (i := 3) rfl) (pd_var (i := 7) rfl) (cache_ix hc)) (ad_cons (pd_var (i := 7) rfl) (ad_cons (pd_var (i := 8) rfl) (ad_cons (pd_ixc (j := 3) (pd_var (i := 2) rfl) rfl) ad_nil))))) ⟨o, cf, t.cache c, c, l, ex, rfl, hse, hz.k _, rfl⟩)) bd_nil) (fun h => absurd h (by decide +kernel))) ?_
    refine fin (reqLine cf (t.cache c) c l ex) c _ _ hc (fun x hx => ?_) rfl rfl rfl rfl rfl rfl rfl
    unfold reqLine at hx
    repeat' split at hx
    all_goals first | cases hx; done | (cases hx; simp)

/-! written -/
def aWrittn (C : Addr) (ss : List S) (s : S) : Prop := ∃ (o : Str) (cf : Cfg) (t : Sys) (c a : Nat) (x : Int), ss = [cfgS C o cf, .d (encSys t), .d (nD c), .d (nD a), .d (.int x)] ∧ c < t.caches.length ∧ SSz t ∧ 0 < cf.lw ∧ cf.lw ≤ 1000 ∧ (∀ e, fnd (t.cache c).lines (a / cf.lw) = some e → e.2.2.length ≤ 1000) ∧ s = .d (encR encSys (writtenS cf t c a x))
abbrev sWrittn : Stmt := top 29
abbrev nWrittn : List Str := ["config", "system", "core", "address", "word", "caches", "homes", "memory", "network", "cache"]
abbrev pWrittn : List Str := ["config", "system", "core", "address", "word"]
theorem scWrittn : FnScope nWrittn pWrittn (defScope sWrittn) := ⟨rfl, rfl, rfl, by decide +kernel, rfl, by decide +kernel, by decide +kernel⟩
theorem dWrittn {f : Addr} {fd : FuncData} (E1 : Dfn P w K mg base 3 "write_word" ["config", "cache", "address", "word"] (aWrite C)) (E5 : Dfn P w K mg base 1 "replaced" pRepl aRepl)
    (F : Fun K "written" "written" sWrittn f fd) (hm : mg "written" = some (.ref f)) (hb : Binds K fd pWrittn []) : Dfn P w K mg base 4 "written" pWrittn (aWrittn C) := by
  refine Dfn.of F hm scWrittn (fun ss s ⟨_, _, _, _, _, _, h, _⟩ => by rw [h]; rfl) hb ?_
  rintro cdv Ar outer sh H E ss s hr ⟨o, cf, t, c, a, x, rfl, hc, hz, hlw, hlw2, hlen, rfl⟩
  have nd := scWrittn.nd
  refine bd_norm (by dsimp only [ini, List.map]) ?_
  refine bd_cons (sd_unpack rfl (pd_var (i := 1) rfl) (gd_cons (i := 5) nd (gd_cons (i := 6) nd (gd_cons (i := 7) nd (gd_cons (i := 8) nd gd_nil))))) ?_
  refine bd_cons (sd_set (i := 9) nd (pd_call E1 hr (ad_cons (pd_var (i := 0) rfl) (ad_cons (pd_ixN (pd_var (i := 5) rfl) (pd_var (i := 2) rfl) (cache_ix hc)) (ad_cons (pd_var (i := 3) rfl) (ad_cons (pd_var (i := 4) rfl) ad_nil)))) ⟨o, cf, t.cache c, a, x, rfl, hlw, hlw2, by have := (hz.k c).a; omega, hlen, rfl⟩)) ?_
  unfold writtenS
  cases hw : wrW cf (t.cache c) a x with
  | none => exact bd_ret (sd_if (td_cmp (cd_isN (pd_var (i := 9) rfl))) (fun _ => bd_ret (sd_ret pd_non)) (fun h => by cases h))
  | some k =>
    refine bd_cons (sd_if (td_cmp (cd_isN (pd_var (i := 9) rfl))) (fun h => by cases h) (fun _ => bd_nil)) ?_
    refine bd_ret (sd_ret' (pd_tu (at_cons (pd_call E5 (hr.mono (by decide)) (ad_cons (pd_var (i := 5) rfl) (ad_cons (pd_var (i := 2) rfl) (ad_cons (pd_var (i := 9) rfl) ad_nil))) ⟨t.caches.map encC, c, encC k, rfl, by simpa using hc, by simp; have := hz.c; omega, rfl⟩)
      (at_cons (pd_var (i := 6) rfl) (at_cons (pd_var (i := 7) rfl) (at_cons (pd_var (i := 8) rfl) at_nil))))) ?_)
    show S.d (.tup _) = S.d (encSys _)
    unfold encSys
    rw [List.map_set]

/-! carried_words -/
def aCarr (ss : List S) (s : S) : Prop := ∃ (net : List Msg) (o l : Nat), ss = [.d (encMs net), .d (nD o), .d (nD l)] ∧ s = .d (encOW (carriedW net o l))
abbrev sCarr : Stmt := top 30
abbrev nCarr : List Str := ["network", "owner", "line", "message"]
abbrev pCarr : List Str := ["network", "owner", "line"]
theorem scCarr : FnScope nCarr pCarr (defScope sCarr) := ⟨rfl, rfl, rfl, by decide +kernel, rfl, by decide +kernel, by decide +kernel⟩
theorem eq_kind (m : Msg) (x : Str) : eqD (.str (kindM m)) (.str x) = (kindM m == x) := rfl
theorem dCarr {f : Addr} {fd : FuncData} (F : Fun K "carried_words" "carried_words" sCarr f fd) (hm : mg "carried_words" = some (.ref f)) (hb : Binds K fd pCarr []) : Dfn P w K mg base 1 "carried_words" pCarr aCarr := by
  refine Dfn.of F hm scCarr (fun ss s ⟨_, _, _, h, _⟩ => by rw [h]; rfl) hb ?_
  rintro cdv Ar outer sh H E ss s hr ⟨net, o, l, rfl, rfl⟩
  have nd := scCarr.nd
  refine bd_norm (by dsimp only [ini, List.map]) ?_
  have lp : ∀ (ys : List Msg) (G : Gm), G[1]? = some (some (.d (nD o))) → G[2]? = some (some (.d (nD l))) → 3 < G.length →
      (carriedW ys o l = none → ∃ G', Lp (XO P w K mg base nCarr "carried_words" sCarr f cdv Ar outer sh H E) 3 (forBody (stAt sCarr 0)) G (ys.map encM) (.nx G')) ∧
      (∀ ws, carriedW ys o l = some ws → Lp (XO P w K mg base nCarr "carried_words" sCarr f cdv Ar outer sh H E) 3 (forBody (stAt sCarr 0)) G (ys.map encM) (.ret (.d (encW ws)))) := by
    intro ys
    induction ys with
    | nil => exact fun G g1 g2 g3 => ⟨fun _ => ⟨G, rfl⟩, fun e h => (by simp [carriedW] at h)⟩
    | cons y ys ih =>
      intro G g1 g2 g3
      have h1 : (G.set 3 (some (.d (encM y))))[1]? = some (some (.d (nD o))) := by rw [List.getElem?_set_ne (by decide)]; exact g1
      have h2 : (G.set 3 (some (.d (encM y))))[2]? = some (some (.d (nD l))) := by rw [List.getElem?_set_ne (by decide)]; exact g2
      have h3 : (G.set 3 (some (.d (encM y))))[3]? = some (some (.d (encM y))) := List.getElem?_set_self g3
      have h3' : (G.set 3 (some (.d (encM y))))[3]? = some (some (.d (.tup (.str (kindM y) :: nD y.core :: nD y.line :: restM y)))) := by rw [h3, encM_eq]
      have k := ih (G.set 3 (some (.d (encM y)))) h1 h2 (by simpa using g3)
      have skip : isWordOf o l y = false → carriedW (y :: ys) o l = carriedW ys o l := fun h => by unfold carriedW; rw [List.find?_cons, h]
      have goOn : isWordOf o l y = false → BD (XO P w K mg base nCarr "carried_words" sCarr f cdv Ar outer sh H E) (G.set 3 (some (.d (encM y)))) (forBody (stAt sCarr 0)) (.nx (G.set 3 (some (.d (encM y))))) →
          (carriedW (y :: ys) o l = none → ∃ G', Lp (XO P w K mg base nCarr "carried_words" sCarr f cdv Ar outer sh H E) 3 (forBody (stAt sCarr 0)) G ((y :: ys).map encM) (.nx G')) ∧
          (∀ ws, carriedW (y :: ys) o l = some ws → Lp (XO P w K mg base nCarr "carried_words" sCarr f cdv Ar outer sh H E) 3 (forBody (stAt sCarr 0)) G ((y :: ys).map encM) (.ret (.d (encW ws)))) := by
        intro hw b
        rw [skip hw]
        refine ⟨fun h => ?_, fun z h => .inl ⟨_, b, k.2 z h⟩⟩
        obtain ⟨G', hl⟩ := k.1 h
        exact ⟨G', .inl ⟨_, b, hl⟩⟩
      by_cases hcl : y.core = o ∧ y.line = l
      · by_cases hg : (kindM y == "grant") = true
        · obtain ⟨l', c, st, ws, rfl⟩ : ∃ l' c st ws, y = .sv l' (.grant c st ws) := by
            cases y with
            | rq c l ex => cases ex <;> exact absurd hg (by simp only [kindM]; decide +kernel)
            | lv c l z => cases z <;> exact absurd hg (by simp only [kindM]; decide +kernel)
            | sv l' z => cases z <;> first | exact ⟨_, _, _, _, rfl⟩ | exact absurd hg (by simp only [kindM]; decide +kernel)
          obtain ⟨hc, hl⟩ := hcl
          simp only [Msg.core, Msg.line, Sv.core] at hc hl
          subst hc hl
          have e : carriedW (.sv l' (.grant c st ws) :: ys) c l' = some ws := by unfold carriedW; rw [List.find?_cons]; simp [isWordOf, wordsOf]
          refine ⟨fun h => (by rw [e] at h; cases h), fun z h => ?_⟩
          rw [e] at h
          cases h
          refine .inr ⟨_, rfl, bd_ret (sd_if (td_and (td_cmp (cd_eq (pd_ixc (j := 1) (pd_var (i := 3) h3') rfl) (pd_var (i := 1) h1))) (fun _ => td_cmp (cd_eq (pd_ixc (j := 2) (pd_var (i := 3) h3') rfl) (pd_var (i := 2) h2)))) (fun _ => ?_) (fun h => ?_))⟩
          · exact bd_ret (sd_if (td_cmp (cd_eq (pd_ixc (j := 0) (pd_var (i := 3) h3') rfl) pd_str)) (fun _ => bd_ret (sd_ret (pd_ixc (j := 4) (pd_var (i := 3) h3) rfl))) (fun h => absurd h (by simp only [kindM]; decide +kernel)))
          · rw [eqD_nn, eqD_nn] at h; simp [Msg.core, Msg.line, Sv.core] at h
        · by_cases hr' : (kindM y == "returned") = true
          · obtain ⟨l', c, ws, d, rfl⟩ : ∃ l' c ws d, y = .sv l' (.ret c ws d) := by
              cases y with
              | rq c l ex => cases ex <;> exact absurd hr' (by simp only [kindM]; decide +kernel)
              | lv c l z => cases z <;> exact absurd hr' (by simp only [kindM]; decide +kernel)
              | sv l' z => cases z <;> first | exact ⟨_, _, _, _, rfl⟩ | exact absurd hr' (by simp only [kindM]; decide +kernel)
            obtain ⟨hc, hl⟩ := hcl
            simp only [Msg.core, Msg.line, Sv.core] at hc hl
            subst hc hl
            have e : carriedW (.sv l' (.ret c ws d) :: ys) c l' = some ws := by unfold carriedW; rw [List.find?_cons]; simp [isWordOf, wordsOf]
            refine ⟨fun h => (by rw [e] at h; cases h), fun z h => ?_⟩
            rw [e] at h
            cases h
            refine .inr ⟨_, rfl, bd_ret (sd_if (td_and (td_cmp (cd_eq (pd_ixc (j := 1) (pd_var (i := 3) h3') rfl) (pd_var (i := 1) h1))) (fun _ => td_cmp (cd_eq (pd_ixc (j := 2) (pd_var (i := 3) h3') rfl) (pd_var (i := 2) h2)))) (fun _ => ?_) (fun h => ?_))⟩
            · exact bd_cons0 (sd_if (td_cmp (cd_eq (pd_ixc (j := 0) (pd_var (i := 3) h3') rfl) pd_str)) (fun h => absurd h (by simp only [kindM]; decide +kernel)) (fun _ => bd_nil))
                (bd_ret (sd_if (td_cmp (cd_eq (pd_ixc (j := 0) (pd_var (i := 3) h3') rfl) pd_str)) (fun _ => bd_ret (sd_ret (pd_ixc (j := 3) (pd_var (i := 3) h3) rfl))) (fun h => absurd h (by simp only [kindM]; decide +kernel))))
            · rw [eqD_nn, eqD_nn] at h; simp [Msg.core, Msg.line, Sv.core] at h
          · refine goOn ?_ ?_
            · cases y with
              | rq c l ex => rfl
              | lv c l z => rfl
              | sv l' z => cases z <;> first | rfl | exact absurd (show (kindM _ == _) = true by simp only [kindM]; decide +kernel) hg | exact absurd (show (kindM _ == _) = true by simp only [kindM]; decide +kernel) hr'
            · refine bd_cons0 (sd_if (td_and (td_cmp (cd_eq (pd_ixc (j := 1) (pd_var (i := 3) h3') rfl) (pd_var (i := 1) h1))) (fun _ => td_cmp (cd_eq (pd_ixc (j := 2) (pd_var (i := 3) h3') rfl) (pd_var (i := 2) h2)))) (fun _ => ?_) (fun h => ?_)) bd_nil
              · exact bd_cons0 (sd_if (td_cmp (cd_eq (pd_ixc (j := 0) (pd_var (i := 3) h3') rfl) pd_str)) (fun h => absurd h hg) (fun _ => bd_nil))
                  (bd_cons0 (sd_if (td_cmp (cd_eq (pd_ixc (j := 0) (pd_var (i := 3) h3') rfl) pd_str)) (fun h => absurd h hr') (fun _ => bd_nil)) bd_nil)
              · exact bd_nil
      · refine goOn ?_ ?_
        · cases y with
          | rq c l ex => rfl
          | lv c l z => rfl
          | sv l' z => cases z <;> first | rfl | (simp only [Msg.core, Msg.line, Sv.core] at hcl; simp [isWordOf]; intro h1 h2; exact hcl ⟨h1, h2⟩)
        · refine bd_cons0 (sd_if (td_and (td_cmp (cd_eq (pd_ixc (j := 1) (pd_var (i := 3) h3') rfl) (pd_var (i := 1) h1))) (fun _ => td_cmp (cd_eq (pd_ixc (j := 2) (pd_var (i := 3) h3') rfl) (pd_var (i := 2) h2)))) (fun h => ?_) (fun _ => bd_nil)) bd_nil
          rw [eqD_nn, eqD_nn] at h
          simp at h
          exact absurd h hcl
  cases hf : carriedW net o l with
  | none =>
    obtain ⟨G', hl⟩ := (lp net [some (.d (encMs net)), some (.d (nD o)), some (.d (nD l)), none] rfl rfl (by simp)).1 hf
    exact bd_cons0 (sd_forT .never rfl nd (pd_var (i := 0) rfl) hl) (bd_ret (sd_ret pd_non))
  | some ws =>
    have hl := (lp net [some (.d (encMs net)), some (.d (nD o)), some (.d (nD l)), none] rfl rfl (by simp)).2 ws hf
    exact bd_ret (sd_forT .never rfl nd (pd_var (i := 0) rfl) hl)
end
end Lit
end
section
namespace Lit
open PySem PySem.Spec PyProof.Rows L2 Dat Proto
section
variable {P : Program} {w : World} {K : PySem.W.Frag} {mg : Str → Option Value} {base : Heap} {C : Addr}

/-! coherent_words -/
def aCohW (C : Addr) (ss : List S) (s : S) : Prop := ∃ (o : Str) (cf : Cfg) (t : Sys) (l : Nat) (ws : Words), ss = [cfgS C o cf, .d (encSys t), .d (nD l)] ∧ l < t.homes.length ∧ (∀ x, (t.home l).owner = some x → x < t.caches.length) ∧ l ≤ 1000 ∧ cohW cf t l = some ws ∧ s = .d (encW ws)
abbrev sCohW : Stmt := top 31
abbrev nCohW : List Str := ["config", "system", "line", "caches", "homes", "memory", "network", "owner", "first", "entry", "left"]
abbrev pCohW : List Str := ["config", "system", "line"]
theorem scCohW : FnScope nCohW pCohW (defScope sCohW) := ⟨rfl, rfl, rfl, by decide +kernel, rfl, by decide +kernel, by decide +kernel⟩
theorem dCohW {f : Addr} {fd : FuncData} (T : CfgT K C) (E1 : Dfn P w K mg base 1 "entry_of" ["entries", "line"] aEntryOf) (E2 : Dfn P w K mg base 1 "carried_words" pCarr aCarr)
    (F : Fun K "coherent_words" "coherent_words" sCohW f fd) (hm : mg "coherent_words" = some (.ref f)) (hb : Binds K fd pCohW []) : Dfn P w K mg base 2 "coherent_words" pCohW (aCohW C) := by
  refine Dfn.of F hm scCohW (fun ss s ⟨_, _, _, _, _, h, _⟩ => by rw [h]; rfl) hb ?_
  rintro cdv Ar outer sh H E ss s hr ⟨o, cf, t, l, ws, rfl, hl, ho, hl2, hw, rfl⟩
  have nd := scCohW.nd
  refine bd_norm (by dsimp only [ini, List.map]) ?_
  refine bd_cons (sd_unpack rfl (pd_var (i := 1) rfl) (gd_cons (i := 3) nd (gd_cons (i := 4) nd (gd_cons (i := 5) nd (gd_cons (i := 6) nd gd_nil))))) ?_
  refine bd_cons (sd_set (i := 7) nd (pd_ixc (j := 0) (pd_ixN (pd_var (i := 4) rfl) (pd_var (i := 2) rfl) (home_ix hl)) rfl)) ?_
  unfold cohW at hw
  cases how : (t.home l).owner with
  | none =>
    rw [how] at hw
    have hw' := Option.some.inj hw
    subst hw'
    refine bd_ret (sd_if (td_cmp (cd_isN (pd_var (i := 7) rfl))) (fun _ => ?_) (fun h => by cases h))
    refine bd_cons (sd_set (i := 8) nd (pd_mulN (pd_var (i := 2) rfl) (pd_lw T (pd_var (i := 0) rfl)) (by omega))) ?_
    have ec : cutT (t.mem.map D.int) (some ((l * cf.lw : Nat) : Int)) (some ((l * cf.lw + cf.lw : Nat) : Int)) = ((t.mem.map D.int).drop (l * cf.lw)).take cf.lw := by
      rw [cut_mid, Nat.add_sub_cancel_left]
    rw [encW_memL, ← ec]
    exact bd_ret (sd_ret (pd_cut (pd_var (i := 5) rfl) (od_some (pd_var (i := 8) rfl)) (od_some (pd_addN (pd_var (i := 8) rfl) (pd_lw T (pd_var (i := 0) rfl))))))
  | some x =>
    rw [how] at hw
    simp only at hw
    have hx := ho x how
    refine bd_cons (sd_if (td_cmp (cd_isN (pd_var (i := 7) rfl))) (fun h => by cases h) (fun _ => bd_nil)) ?_
    refine bd_cons (sd_set (i := 9) (s := .d (encOE tlL (fnd (t.cache x).lines l))) nd (pd_call E1 hr (ad_cons (pd_ixc (j := 0) (pd_ixN (pd_var (i := 3) rfl) (pd_var (i := 7) rfl) (cache_ix hx)) rfl) (ad_cons (pd_var (i := 2) rfl) ad_nil)) ⟨_, tlL, (t.cache x).lines, l, rfl, rfl⟩)) ?_
    cases he : fnd (t.cache x).lines l with
    | some e =>
      rw [he] at hw
      have hw' := Option.some.inj hw
      subst hw'
      exact bd_ret (sd_if (td_cmp (cd_notN (pd_var (i := 9) rfl))) (fun _ => bd_ret (sd_ret (pd_ixc (j := 2) (pd_var (i := 9) rfl) rfl))) (fun h => by cases h))
    | none =>
      rw [he] at hw
      simp only at hw
      refine bd_cons (sd_if (td_cmp (cd_notN (pd_var (i := 9) rfl))) (fun h => by cases h) (fun _ => bd_nil)) ?_
      refine bd_cons (sd_set (i := 10) (s := .d (encOE tlV (fnd (t.cache x).leav l))) nd (pd_call E1 hr (ad_cons (pd_ixc (j := 2) (pd_ixN (pd_var (i := 3) rfl) (pd_var (i := 7) rfl) (cache_ix hx)) rfl) (ad_cons (pd_var (i := 2) rfl) ad_nil)) ⟨_, tlV, (t.cache x).leav, l, rfl, rfl⟩)) ?_
      cases hv : fnd (t.cache x).leav l with
      | none =>
        rw [hv] at hw
        simp only at hw
        refine bd_cons (sd_if (td_and (l := true) (td_cmp (cd_notN (pd_var (i := 10) rfl))) (fun h => by cases h)) (fun h => by cases h) (fun _ => bd_nil)) ?_
        refine bd_ret (sd_ret' (pd_call E2 hr (ad_cons (pd_var (i := 6) rfl) (ad_cons (pd_var (i := 7) rfl) (ad_cons (pd_var (i := 2) rfl) ad_nil))) ⟨t.net, x, l, rfl, rfl⟩) ?_)
        rw [hw]; rfl
      | some e =>
        obtain ⟨e1, e2, e3⟩ := e
        cases e2 with
        | none =>
          rw [hv] at hw
          simp only at hw
          refine bd_cons (sd_if (td_and (td_cmp (cd_notN (pd_var (i := 10) rfl))) (fun _ => td_cmp (cd_notN (pd_ixc (j := 1) (pd_var (i := 10) rfl) rfl)))) (fun h => by cases h) (fun _ => bd_nil)) ?_
          refine bd_ret (sd_ret' (pd_call E2 hr (ad_cons (pd_var (i := 6) rfl) (ad_cons (pd_var (i := 7) rfl) (ad_cons (pd_var (i := 2) rfl) ad_nil))) ⟨t.net, x, l, rfl, rfl⟩) ?_)
          rw [hw]; rfl
        | some ws' =>
          rw [hv] at hw
          have hw' := Option.some.inj hw
          subst hw'
          exact bd_ret (sd_if (td_and (td_cmp (cd_notN (pd_var (i := 10) rfl))) (fun _ => td_cmp (cd_notN (pd_ixc (j := 1) (pd_var (i := 10) rfl) rfl)))) (fun _ => bd_ret (sd_ret (pd_ixc (j := 1) (pd_var (i := 10) rfl) rfl))) (fun h => by cases h))

/-! coherent_word -/
def aCoh (C : Addr) (ss : List S) (s : S) : Prop := ∃ (o : Str) (cf : Cfg) (t : Sys) (a : Nat) (ws : Words) (x : Int), ss = [cfgS C o cf, .d (encSys t), .d (nD a)] ∧ 0 < cf.lw ∧ cf.lw ≤ 1000 ∧ a / cf.lw < t.homes.length ∧ (∀ x, (t.home (a / cf.lw)).owner = some x → x < t.caches.length) ∧ a ≤ 1000 ∧ cohW cf t (a / cf.lw) = some ws ∧ ws[a % cf.lw]? = some x ∧ s = .d (.int x)
abbrev sCoh : Stmt := top 32
abbrev pCoh : List Str := ["config", "system", "address"]
theorem scCoh : FnScope pCoh pCoh (defScope sCoh) := ⟨rfl, rfl, rfl, by decide +kernel, rfl, by decide +kernel, by decide +kernel⟩
theorem dCoh {f : Addr} {fd : FuncData} (T : CfgT K C) (E1 : Dfn P w K mg base 2 "coherent_words" pCohW (aCohW C))
    (F : Fun K "coherent_word" "coherent_word" sCoh f fd) (hm : mg "coherent_word" = some (.ref f)) (hb : Binds K fd pCoh []) : Dfn P w K mg base 3 "coherent_word" pCoh (aCoh C) := by
  refine Dfn.of F hm scCoh (fun ss s ⟨_, _, _, _, _, _, h, _⟩ => by rw [h]; rfl) hb ?_
  rintro cdv Ar outer sh H E ss s hr ⟨o, cf, t, a, ws, x, rfl, hlw, hlw2, hl, ho, ha, hw, hx, rfl⟩
  have hdl : a / cf.lw ≤ 1000 := Nat.le_trans (Nat.div_le_self _ _) ha
  have hx' : (ws.map D.int)[a % cf.lw]? = some (.int x) := by rw [List.getElem?_map, hx]; rfl
  exact bd_ret (sd_ret (pd_ixN (xs := ws.map D.int) (pd_call E1 hr (ad_cons (pd_var (i := 0) rfl) (ad_cons (pd_var (i := 1) rfl) (ad_cons (pd_divN (pd_var (i := 2) rfl) (pd_lw T (pd_var (i := 0) rfl)) hlw (by omega)) ad_nil))) ⟨o, cf, t, a / cf.lw, ws, rfl, hl, ho, hdl, hw, rfl⟩) (pd_modN (pd_var (i := 2) rfl) (pd_lw T (pd_var (i := 0) rfl)) hlw) hx'))
end
end Lit
end
section
namespace Lit
open PySem PySem.Spec PyProof.Rows L2 Dat Proto
section
variable {P : Program} {w : World} {K : PySem.W.Frag} {mg : Str → Option Value} {base : Heap} {C : Addr}

/-! _law_same, of two ints -/
theorem pd_isi {X : Cx} {G : Gm} {a : Expr} {T : Str} {T' : String} {i : Int} {b : Bool} {p1 p2 pos : Pos} (hm : X.mg "isinstance" = none) (hm2 : X.mg T = none) (hv : bootBuiltins T = some (.type T')) (hk : kitB "int" T' = some b) (h : PD X G a (.int i)) (hg : Gl X "isinstance" := by rfl) (hg2 : Gl X T := by rfl) (hn : T ≠ "__name__" := by decide +kernel) (hd : (T == ("__debug__" : Str)) = false := by decide +kernel)
    (he2 : starEach [.Name T p2] X.env = (false, eval (.Name T p2) X.env) :: starEach [] X.env := by rfl)
    (he : starEach [a, .Name T p2] X.env = (false, eval a X.env) :: starEach [.Name T p2] X.env := by rfl) (hpl : (backTo pos (starEach [.Name T p2] X.env)).any (·.1) = false := by rfl) :
    PD X G (.Call (.Name "isinstance" p1) [a, .Name T p2] [] pos) (.bl b) :=
  (pe_callB call_isi hg hm (by decide +kernel) (pa_cons h (pa_cons (pe_bltn (v := .ty T') hg2 hm2 hv rfl hn hd) pa_nil he2) he) (he := he) (hpl := hpl)).wk fun σ H Q ⟨g, q⟩ => ⟨g, fun v H1 e1 i1 => by
    have hv := isS_int.mp i1
    subst hv
    exact ⟨.int i, .ty T', .type "int", .type T', b, rfl, .ty T', .base (.int i), kit_ty hk, q _ H1 e1 (isS_bl.mpr rfl)⟩⟩
theorem pd_and3 {X : Cx} {G : Gm} {a b c : Expr} {pos : Pos} {k l m : Bool} (h : PD X G a (.bl k)) (h2 : k = true → PD X G b (.bl l)) (h3 : k = true → l = true → PD X G c (.bl m)) : PD X G (.BoolOp .And [a, b, c] pos) (.bl (k && (l && m))) := by
  cases k with
  | false => exact (pe_and h (peF (e := .BoolOp .And [b, c] pos))).wk fun σ H Q ⟨f, q⟩ => ⟨f, fun v H1 e1 i1 => ⟨false, isS_bl.mp i1, iteF (q _ H1 e1 (isS_bl.mpr rfl))⟩⟩
  | true => exact (pe_and h (pd_and (pos := pos) (h2 rfl) (h3 rfl))).wk fun σ H Q ⟨f, q⟩ => ⟨f, fun v H1 e1 i1 => ⟨true, isS_bl.mp i1, iteT ⟨f.mono e1, fun w H2 e2 i2 => q w H2 (e1.trans e2) i2⟩⟩⟩
structure NoG2 (mg : Str → Option Value) : Prop where
  isi : mg "isinstance" = none
  tuple : mg "tuple" = none
  bool : mg "bool" = none
  int : mg "int" = none
def aSame (ss : List S) (s : S) : Prop := ∃ x y : Int, ss = [.d (.int x), .d (.int y)] ∧ s = .d (.bl (x == y))
abbrev sSame : Stmt := top 41
abbrev nSame : List Str := ["_law_actual", "_law_due", "_law_k"]
theorem scSame : FnScope nSame ["_law_actual", "_law_due"] (defScope sSame) := ⟨rfl, rfl, rfl, by decide +kernel, rfl, by decide +kernel, by decide +kernel⟩
theorem dSame {f : Addr} {fd : FuncData} (N : NoG2 mg) (F : Fun K "_law_same" "_law_same" sSame f fd) (hm : mg "_law_same" = some (.ref f)) (hb : Binds K fd ["_law_actual", "_law_due"] []) : Dfn P w K mg base 1 "_law_same" ["_law_actual", "_law_due"] aSame := by
  refine Dfn.of F hm scSame (fun ss s ⟨_, _, h, _⟩ => by rw [h]; rfl) hb ?_
  rintro cdv Ar outer sh H E ss s hr ⟨x, y, rfl, rfl⟩
  have nd := scSame.nd
  refine bd_norm (by dsimp only [ini, List.map]) ?_
  refine bd_cons (sd_if (td_val (pd_isi (T' := "tuple") (b := false) N.isi N.tuple (by decide +kernel) (by decide +kernel) (pd_var (i := 1) rfl))) (fun h => by cases h) (fun _ => bd_nil)) ?_
  refine bd_cons (sd_if (td_cmp (cd_isN (pd_var (i := 1) rfl))) (fun h => by cases h) (fun _ => bd_nil)) ?_
  refine bd_cons (sd_if (td_val (pd_isi (T' := "bool") (b := false) N.isi N.bool (by decide +kernel) (by decide +kernel) (pd_var (i := 1) rfl))) (fun h => by cases h) (fun _ => bd_nil)) ?_
  refine bd_ret (sd_if (td_val (pd_isi (T' := "int") (b := true) N.isi N.int (by decide +kernel) (by decide +kernel) (pd_var (i := 1) rfl))) (fun _ => ?_) (fun h => by cases h))
  exact bd_ret (sd_ret' (pd_and3 (pd_isi (T' := "int") (b := true) N.isi N.int (by decide +kernel) (by decide +kernel) (pd_var (i := 0) rfl)) (fun _ => pd_notV (pd_isi (T' := "bool") (b := false) N.isi N.bool (by decide +kernel) (by decide +kernel) (pd_var (i := 0) rfl))) (fun _ _ => pd_cmp (cd_eq (pd_var (i := 0) rfl) (pd_var (i := 1) rfl)))) rfl)

/-! _law_agrees -/
theorem lp_inv {X : Cx} {i : Nat} {body : List Stmt} (I : Gm → Prop) : ∀ (ds : List D) (G : Gm), (∀ G d, d ∈ ds → I G → ∃ G1, BD X (G.set i (some (.d d))) body (.nx G1) ∧ I G1) → I G → ∃ G', Lp X i body G ds (.nx G') ∧ I G'
  | [], G, _, h => ⟨G, rfl, h⟩
  | d :: ds, G, k, h => by
    obtain ⟨G1, b, h1⟩ := k G d (List.mem_cons_self ..) h
    obtain ⟨G', l, h2⟩ := lp_inv I ds G1 (fun G d hd => k G d (List.mem_cons_of_mem _ hd)) h1
    exact ⟨G', .inl ⟨G1, b, l⟩, h2⟩
def aAgr (C : Addr) (ss : List S) (s : S) : Prop := ∃ (o : Str) (cf : Cfg) (nc nl : Nat) (t : Sys) (ws : Words), ss = [cfgS C o cf, .d (encSys t), .lst (ws.map D.int)] ∧ SInv cf nc nl t ws ∧ cf.lw ≤ 1000 ∧ ws.length ≤ 1000 ∧ s = .d (.bl true)
abbrev sAgr : Stmt := top 44
abbrev nAgr : List Str := ["_law_config_here", "_law_system", "_law_words", "_law_address", "_law_cache", "_law_told"]
abbrev pAgr : List Str := ["_law_config_here", "_law_system", "_law_words"]
theorem scAgr : FnScope nAgr pAgr (defScope sAgr) := ⟨rfl, rfl, rfl, by decide +kernel, rfl, by decide +kernel, by decide +kernel⟩
theorem agr_read {cf : Cfg} {nc nl : Nat} {t : Sys} {ws : Words} (I : SInv cf nc nl t ws) {a : Nat} (ha : a < ws.length) {k : Cache} (hk : k ∈ t.caches) : (∀ e, fnd k.lines (a / cf.lw) = some e → a % cf.lw < e.2.2.length) ∧ (rdW cf k a = none ∨ rdW cf k a = ws[a]?) := by
  obtain ⟨c, hc⟩ := List.getElem?_of_mem hk
  have hck : t.cache c = k := by unfold Sys.cache; rw [hc]; rfl
  have hat := memL_at (cf := cf) (w := ws) (a := a) I.lwp
  have key : ∀ e, fnd k.lines (a / cf.lw) = some e → e.2.2 = memL cf ws (a / cf.lw) := fun e he => (I.copy (c := c) (by rw [hck]; exact he)).2
  refine ⟨fun e he => ?_, ?_⟩
  · rw [key e he]
    have : (memL cf ws (a / cf.lw))[a % cf.lw]? = some ws[a] := by rw [hat]; exact List.getElem?_eq_getElem ha
    exact (List.getElem?_eq_some_iff.mp this).1
  · unfold rdW
    cases he : fnd k.lines (a / cf.lw) with
    | none => exact .inl rfl
    | some e => right; simp only; rw [key e he, hat]
theorem dAgr {f : Addr} {fd : FuncData} (N : NoG mg) (E1 : Dfn P w K mg base 3 "coherent_word" pCoh (aCoh C)) (E2 : Dfn P w K mg base 2 "read_word" ["config", "cache", "address"] (aRead C)) (E3 : Dfn P w K mg base 1 "_law_same" ["_law_actual", "_law_due"] aSame)
    (F : Fun K "_law_agrees" "_law_agrees" sAgr f fd) (hm : mg "_law_agrees" = some (.ref f)) (hb : Binds K fd pAgr []) : Dfn P w K mg base 4 "_law_agrees" pAgr (aAgr C) := by
  refine Dfn.of F hm scAgr (fun ss s ⟨_, _, _, _, _, _, h, _⟩ => by rw [h]; rfl) hb ?_
  rintro cdv Ar outer sh H E ss s hr ⟨o, cf, nc, nl, t, ws, rfl, I, hl2, hz, rfl⟩
  have nd := scAgr.nd
  refine bd_norm (by dsimp only [ini, List.map]) ?_
  let Iv : Gm → Prop := fun G => G[0]? = some (some (cfgS C o cf)) ∧ G[1]? = some (some (.d (encSys t))) ∧ G[2]? = some (some (.lst (ws.map D.int))) ∧ G.length = 6
  have turn : ∀ G d, d ∈ (List.range ws.length).map (fun (k : Nat) => D.int (k : Int)) → Iv G → ∃ G1, BD (XO P w K mg base nAgr "_law_agrees" sAgr f cdv Ar outer sh H E) (G.set 3 (some (.d d))) (forBody (stAt sAgr 0)) (.nx G1) ∧ Iv G1 := by
    intro G d hd ⟨g0, g1, g2, gl⟩
    obtain ⟨a, ha, rfl⟩ := List.mem_map.mp hd
    rw [List.mem_range] at ha
    have hal : a / cf.lw < nl := by
      have := I.fit
      exact Nat.div_lt_of_lt_mul (by rw [Nat.mul_comm]; omega)
    have hwa : (ws.map D.int)[a]? = some (.int ws[a]) := by rw [List.getElem?_map, List.getElem?_eq_getElem ha]; rfl
    have hat : (memL cf ws (a / cf.lw))[a % cf.lw]? = some ws[a] := by rw [memL_at I.lwp]; exact List.getElem?_eq_getElem ha
    have s0 : ∀ (j : Nat) (x : Option S), j ≠ 3 → (G.set 3 x)[j]? = G[j]? := fun j x hj => List.getElem?_set_ne (fun q => hj q.symm)
    have s3 : (G.set 3 (some (.d (nD a))))[3]? = some (some (.d (nD a))) := List.getElem?_set_self (by omega)
    let Jv : Gm → Prop := fun G => Iv G ∧ G[3]? = some (some (.d (nD a)))
    have turn2 : ∀ G d, d ∈ t.caches.map encC → Jv G → ∃ G1, BD (XO P w K mg base nAgr "_law_agrees" sAgr f cdv Ar outer sh H E) (G.set 4 (some (.d d))) (forBody ((forBody (stAt sAgr 0)).getD 1 (.Pass ⟨0, 0, 0, 0⟩))) (.nx G1) ∧ Jv G1 := by
      intro G d hd ⟨⟨g0, g1, g2, gl⟩, g3⟩
      obtain ⟨k, hk, rfl⟩ := List.mem_map.mp hd
      obtain ⟨r1, r2⟩ := agr_read I ha hk
      have u : ∀ (j : Nat) (x : Option S), j ≠ 4 → (G.set 4 x)[j]? = G[j]? := fun j x hj => List.getElem?_set_ne (fun q => hj q.symm)
      have u4 : (G.set 4 (some (.d (encC k))))[4]? = some (some (.d (encC k))) := List.getElem?_set_self (by omega)
      have v : ∀ (j : Nat) (x y : Option S), j ≠ 4 → j ≠ 5 → ((G.set 4 x).set 5 y)[j]? = G[j]? := fun j x y hj hk => by rw [List.getElem?_set_ne (fun q => hk q.symm), List.getElem?_set_ne (fun q => hj q.symm)]
      have v5 : ∀ y : S, ((G.set 4 (some (.d (encC k)))).set 5 (some y))[5]? = some (some y) := fun y => List.getElem?_set_self (by simp; omega)
      refine ⟨_, bd_cons0 (sd_set (i := 5) nd (pd_call E2 (hr.mono (by decide)) (ad_cons (pd_var (i := 0) (by rw [u 0 _ (by decide)]; exact g0)) (ad_cons (pd_var (i := 4) u4) (ad_cons (pd_var (i := 3) (by rw [u 3 _ (by decide)]; exact g3)) ad_nil))) ⟨o, cf, k, a, rfl, I.lwp, hl2, r1, rfl⟩))
        (bd_cons0 (sd_if (o := .nx ((G.set 4 (some (.d (encC k)))).set 5 (some (.d (encOI (rdW cf k a)))))) (td_and (l := false) (td_cmp (cd_notN (pd_var (i := 5) (v5 _)))) (fun h => ?_)) (fun h => ?_) (fun _ => bd_nil)) bd_nil), ⟨⟨?_, ?_, ?_, ?_⟩, ?_⟩⟩
      · -- the word that is told is the word that is due
        rcases r2 with e | e
        · rw [e] at h; cases h
        · rw [List.getElem?_eq_getElem ha] at e
          rw [show false = !(ws[a] == ws[a]) by simp]
          refine td_not (td_val (pd_call E3 (hr.mono (by decide)) (ad_cons (s := .d (.int ws[a])) (pd_var (i := 5) (by rw [v5, e]; rfl)) (ad_cons (pd_ixl (j := a) (pd_var (i := 2) (by rw [v 2 _ _ (by decide) (by decide)]; exact g2)) (pd_var (i := 3) (by rw [v 3 _ _ (by decide) (by decide)]; exact g3)) rfl hwa) ad_nil)) ⟨_, _, rfl, rfl⟩))
      · simp at h
      · rw [v 0 _ _ (by decide) (by decide)]; exact g0
      · rw [v 1 _ _ (by decide) (by decide)]; exact g1
      · rw [v 2 _ _ (by decide) (by decide)]; exact g2
      · simp [gl]
      · rw [v 3 _ _ (by decide) (by decide)]; exact g3
    obtain ⟨G2, L2, hI2, _⟩ := lp_inv Jv (t.caches.map encC) (G.set 3 (some (.d (nD a)))) turn2 ⟨⟨by rw [s0 0 _ (by decide)]; exact g0, by rw [s0 1 _ (by decide)]; exact g1, by rw [s0 2 _ (by decide)]; exact g2, by simp [gl]⟩, s3⟩
    refine ⟨G2, bd_cons0 (sd_if (td_not (td_val (pd_call E3 (hr.mono (by decide)) (ad_cons (pd_call E1 hr (ad_cons (pd_var (i := 0) (by rw [s0 0 _ (by decide)]; exact g0)) (ad_cons (pd_var (i := 1) (by rw [s0 1 _ (by decide)]; exact g1)) (ad_cons (pd_var (i := 3) s3) ad_nil))) ⟨o, cf, t, a, memL cf ws (a / cf.lw), ws[a], rfl, I.lwp, hl2, by rw [I.nh]; exact hal, fun x hx => by rw [I.ncl]; exact (I.hom _).1 x hx, by omega, I.coh hal, hat, rfl⟩) (ad_cons (pd_ixl (j := a) (pd_var (i := 2) (by rw [s0 2 _ (by decide)]; exact g2)) (pd_var (i := 3) s3) rfl hwa) ad_nil)) ⟨_, _, rfl, rfl⟩))) (fun h => by simp at h) (fun _ => bd_nil))
      (bd_cons0 (sd_forT .never rfl nd (pd_ixc (j := 0) (pd_var (i := 1) (by rw [s0 1 _ (by decide)]; exact g1)) rfl) L2) bd_nil), hI2⟩
  obtain ⟨G2, L2, _⟩ := lp_inv Iv ((List.range ws.length).map (fun (k : Nat) => D.int (k : Int))) [some (cfgS C o cf), some (.d (encSys t)), some (.lst (ws.map D.int)), none, none, none] turn ⟨rfl, rfl, rfl, rfl⟩
  have hlen : ∀ {G : Gm} {p1 p2 p3 : Pos}, G[2]? = some (some (.lst (ws.map D.int))) → PD (XO P w K mg base nAgr "_law_agrees" sAgr f cdv Ar outer sh H E) G (.Call (.Name "len" p1) [.Name "_law_words" p2] [] p3) (.int (ws.length : Int)) := by
    intro G p1 p2 p3 h
    have := pd_lenL (X := XO P w K mg base nAgr "_law_agrees" sAgr f cdv Ar outer sh H E) (pn := p1) (pos := p3) N.len (pd_var (i := 2) (pos := p2) (x := "_law_words") h)
    rw [List.length_map] at this
    exact this
  exact bd_cons0 (sd_forR .never rfl nd N.range (hlen rfl) (by omega) L2) (bd_ret (sd_ret pd_bl))
end
end Lit
end
section
namespace Lit
open PySem PySem.Spec PyProof.Rows L2 Dat Proto
section
variable {P : Program} {w : World} {K : PySem.W.Frag} {mg : Str → Option Value} {base : Heap} {C : Addr}

structure NoL (mg : Str → Option Value) : Prop where
  int : mg "int" = none
  abs : mg "abs" = none
  len : mg "len" = none
  max : mg "max" = none
  min : mg "min" = none
  list : mg "list" = none
  range : mg "range" = none
  tuple : mg "tuple" = none
def aDraw (ss : List S) (Φ : S → Prop) : Prop := ∃ m : Int, ss = [.d (.int m)] ∧ 1 ≤ m ∧ m ≤ 65536 ∧ Φ = iN fun v => 0 ≤ v ∧ v < m
abbrev sDraw : Stmt := top 37
abbrev nDraw : List Str := ["_law_many", "_law_place", "_law_number"]
theorem scDraw : FnScope ("_law_tape_here" :: nDraw) ["_law_tape_here", "_law_many"] (defScope sDraw) := ⟨rfl, rfl, rfl, by decide +kernel, rfl, by decide +kernel, by decide +kernel⟩
theorem draw_end {X : Cx} {T : Tk} {G : Gm} {e : Expr} {n m : Int} (h1 : 1 ≤ m) (h : PD X G e (.int (n % (if (1 : Int) > m then 1 else m)))) : ND X T G e (iN fun v => 0 ≤ v ∧ v < m) :=
  nd_wk (nd_i h) fun s ⟨i, e, hi⟩ => ⟨i, e, by
    rw [if_neg (by omega)] at hi
    have a := Int.emod_nonneg n (show m ≠ 0 by omega)
    have b := Int.emod_lt_of_pos n (show 0 < m by omega)
    omega⟩
theorem dDraw {f : Addr} {fd : FuncData} (N : NoL mg) (F : Fun K "_law_draw" "_law_draw" sDraw f fd) (hm : mg "_law_draw" = some (.ref f)) (hb : Binds K fd ["_law_tape_here", "_law_many"] []) : NDfn P w K mg base 1 "_law_draw" ["_law_tape_here", "_law_many"] aDraw := by
  refine NDfn.of 1000 F hm scDraw (fun ss Φ ⟨_, h, _⟩ => by rw [h]; rfl) hb (by decide) ?_
  rintro cdv Ar outer sh H E t b ns ss Φ hr ⟨m, rfl, h1, h2, rfl⟩
  have nd := scDraw.nd
  refine nb_eq (by dsimp only [ini, List.map]) ?_
  refine nb_cons (Ψ1 := fun G' => GLe [none, some (.d (.int m)), none, none] G') (ns_if (nt_eqi (nd_tp (j := 2) (P := fun _ => True) (.inr ⟨.inl rfl, fun _ => trivial⟩)) (nd_i pd_int)) (fun _ => ?_) (fun _ => nb_wk nb_nil fun G' e => e ▸ GLe.refl _)) ?_
  · refine nb_set (j := 2) nd (nd_tp (j := 1) (P := fun i => 0 ≤ i) (.inl ⟨rfl, fun _ h => h⟩)) ?_
    rintro _ ⟨pl, rfl, h0⟩
    refine nb_eq (by dsimp only [ini, List.map, List.set]) ?_
    refine nb_set (j := 3) nd (nd_i pd_int) ?_
    rintro _ ⟨z, rfl, rfl⟩
    refine nb_eq (by dsimp only [ini, List.map, List.set]) ?_
    refine nb_cons (Ψ1 := fun G' => ∃ n : Int, G' = [none, some (.d (.int m)), some (.d (.int pl)), some (.d (.int n))]) (ns_if (nt_lt (nd_i (pd_var (i := 2) rfl)) (nd_len (Φ := iN fun n => n = (ns.length : Int)) N.len nd_tp0 (fun s hs => ⟨_, hs, _, rfl, by simp⟩))) ?_ ?_) ?_
    · rintro ⟨i, j, rfl, rfl, hlt⟩
      have hlt := of_decide_eq_true hlt.symm
      refine nb_cons (ns_set (j := 3) nd (nd_abs N.abs (nd_int (P := fun _ => True) N.int (nd_ixl nd_tp0 (nd_i (pd_var (i := 2) rfl)) (fun s i hs hi => by
        subst hs hi
        have hl : i.toNat < ns.length := by omega
        exact ⟨_, .int ns[i.toNat], rfl, h0, by rw [List.getElem?_map, List.getElem?_eq_getElem hl]; rfl, _, rfl, trivial⟩))))) ?_
      rintro _ ⟨_, ⟨n, rfl, _⟩, rfl⟩
      exact nb_wk nb_nil fun G' e => ⟨n, e⟩
    · rintro -
      refine nb_cons (ns_tset (j := 3) (nd_mod (Q := fun i => i = 2147483647) (nd_int N.int (nd_add (nd_add (nd_mul (nd_tp (j := 3) (P := fun _ => True) (.inr ⟨.inr rfl, fun _ => trivial⟩)) (nd_i pd_int) (fun i j _ hj => .inr (by subst hj; decide))) (nd_i (pd_var (i := 2) rfl))) (nd_i pd_int))) (nd_i pd_int) (fun j hj => by subst hj; decide)) (.inr (.inr rfl))) ?_
      rintro _ rfl
      refine nb_cons (ns_set (j := 3) nd (nd_tp (j := 3) (P := fun _ => True) (.inr ⟨.inr rfl, fun _ => trivial⟩))) ?_
      rintro _ ⟨_, ⟨n, rfl, _⟩, rfl⟩
      exact nb_wk nb_nil fun G' e => ⟨n, e⟩
    · rintro _ ⟨n, rfl⟩
      refine nb_cons (ns_tset (j := 1) (nd_i (pd_add (pd_var (i := 2) rfl) pd_int)) (.inl ⟨rfl, fun i hi => by omega⟩)) ?_
      rintro _ rfl
      refine nb_cons (Ψ1 := fun G' => G' = _) (ns_if (nt_of (td_cmp (cd_lt (pd_var (i := 3) rfl) (pd_pow pd_int pd_int ⟨by decide, by decide, by decide⟩)))) (fun _ => ?_) (fun _ => nb_nil)) ?_
      · refine nb_set (j := 3) nd (nd_i (pd_mod (pd_int1 N.int (pd_add (pd_add (pd_mul (pd_var (i := 3) rfl) pd_int (.inr (by decide))) (pd_mul (pd_var (i := 2) rfl) pd_int (.inr (by decide)))) pd_int)) pd_int (by decide))) ?_
        rintro _ ⟨n2, rfl, _⟩
        refine nb_eq (by dsimp only [ini, List.map, List.set]) ?_
        refine nb_set (j := 3) nd (nd_i (pd_mod (pd_int1 N.int (pd_mul (pd_var (i := 3) rfl) pd_int (.inr (by decide)))) pd_int (by decide))) ?_
        rintro _ ⟨n3, rfl, _⟩
        refine nb_eq (by dsimp only [ini, List.map, List.set]) ?_
        exact nb_ret (draw_end (n := n3) h1 (pd_mod (pd_int1 N.int (pd_var (i := 3) rfl)) (pd_max rfl N.max (pd_var (i := 1) rfl) pd_int) (by rw [if_neg (by omega)]; omega)))
      · rintro _ rfl
        refine nb_cons (ns_tset (j := 2) (nd_i (pd_var (i := 3) rfl)) (.inr (.inl rfl))) ?_
        rintro _ rfl
        exact nb_wk nb_nil fun G' e => e ▸ gle_none (gle_same (gle_none (gle_none gle_nil)))
  · intro G' hle
    refine nb_le hle ?_
    refine nb_set (j := 3) nd (nd_tp (j := 2) (P := fun _ => True) (.inr ⟨.inl rfl, fun _ => trivial⟩)) ?_
    rintro _ ⟨n, rfl, _⟩
    refine nb_eq (by dsimp only [ini, List.map, List.set]) ?_
    refine nb_cons (ns_tset (j := 2) (nd_i (pd_fdiv (pd_var (i := 3) rfl) (pd_max rfl N.max (pd_var (i := 1) rfl) pd_int) ⟨by split <;> omega, by split <;> omega⟩)) (.inr (.inl rfl))) ?_
    rintro _ rfl
    exact nb_ret (draw_end (n := n) h1 (pd_mod (pd_int1 N.int (pd_var (i := 3) rfl)) (pd_max rfl N.max (pd_var (i := 1) rfl) pd_int) (by rw [if_neg (by omega)]; omega)))
/-- a draw below a known number -/
theorem nd_draw {X : Cx} {T : Tk} {G : Gm} {e : Expr} {m : Int} {p p1 pos : Pos} (F : NDfn X.prog X.w X.K X.mg X.base 1 "_law_draw" ["_law_tape_here", "_law_many"] aDraw) (hr : Room 1 X.A) (h : PD X G e (.int m)) (h1 : 1 ≤ m) (h2 : m ≤ 65536) (hg : Gl X "_law_draw" := by rfl)
    (hN : X.N[T.i]? = some ("_law_tape_here" : Str) := by rfl) (hv : Vis X.env.scope "_law_tape_here" := by first | exact Or.inl rfl | exact Or.inr (Or.inl rfl) | exact Or.inr (Or.inr rfl))
    (he : starEach (.Name "_law_tape_here" p1 :: [e]) X.env = (false, eval (.Name "_law_tape_here" p1) X.env) :: starEach [e] X.env := by rfl) (he2 : starEach [e] X.env = (false, eval e X.env) :: starEach [] X.env := by rfl) (hpl : (backTo pos (starEach [e] X.env)).any (·.1) = false := by rfl) :
    ND X T G (.Call (.Name "_law_draw" p) [.Name "_law_tape_here" p1, e] [] pos) (iN fun v => 0 ≤ v ∧ v < m) :=
  nd_call F hr (na_cons (nd_i h) na_nil he2) (fun ss ⟨s, r, e, ⟨i, e2, hi⟩, hr⟩ => by subst e e2 hi hr; exact ⟨_, rfl, h1, h2, rfl⟩) hg (by decide) hN hv (by decide) (by decide) he hpl
end
end Lit
end
section
namespace Lit
open PySem PySem.Spec PyProof.Rows L2 Dat Proto
section
variable {P : Program} {w : World} {K : PySem.W.Frag} {mg : Str → Option Value} {base : Heap} {C : Addr}

abbrev pDraw : List Str := ["_law_tape_here", "_law_many"]
def encWd (nc sz wd st wy rq : Nat) (al : Bool) : D := .tup [nD nc, nD sz, nD wd, nD ((sz + wd - 1) / wd), .tup [nD st, nD wy, nD rq], .bl al]
structure WdOk (nc sz wd st wy rq : Nat) : Prop where
  nc1 : 1 ≤ nc
  nc2 : nc ≤ 4
  sz1 : 1 ≤ sz
  sz2 : sz ≤ 16
  wd1 : 1 ≤ wd
  wd2 : wd ≤ 16
  st1 : 1 ≤ st
  st2 : st ≤ 8
  wy1 : 1 ≤ wy
  rq1 : 1 ≤ rq
def aWorld (ss : List S) (Φ : S → Prop) : Prop := ss = [] ∧ Φ = fun s => ∃ nc sz wd st wy rq al, s = .d (encWd nc sz wd st wy rq al) ∧ WdOk nc sz wd st wy rq
abbrev sWorld : Stmt := top 38
abbrev nWorld : List Str := ["_law_cores", "_law_size", "_law_width", "_law_many_sets", "_law_many_ways", "_law_many_requests", "_law_alone"]
theorem scWorld : FnScope ("_law_tape_here" :: nWorld) ["_law_tape_here"] (defScope sWorld) := ⟨rfl, rfl, rfl, by decide +kernel, rfl, by decide +kernel, by decide +kernel⟩
theorem dWorld {f : Addr} {fd : FuncData} (E1 : NDfn P w K mg base 1 "_law_draw" pDraw aDraw) (F : Fun K "_law_world" "_law_world" sWorld f fd) (hm : mg "_law_world" = some (.ref f)) (hb : Binds K fd ["_law_tape_here"] []) : NDfn P w K mg base 2 "_law_world" ["_law_tape_here"] aWorld := by
  refine NDfn.of 1000 F hm scWorld (fun ss Φ ⟨h, _⟩ => by rw [h]; rfl) hb (by decide) ?_
  rintro cdv Ar outer sh H E t b ns ss Φ hr ⟨rfl, rfl⟩
  have nd := scWorld.nd
  refine nb_eq (by dsimp only [ini, List.map]) ?_
  refine nb_set (j := 1) nd (nd_pick (R := fun i => 1 ≤ i ∧ i ≤ 4) (ni_cons (nd_i pd_int) (ni_cons (nd_i pd_int) (ni_cons (nd_i pd_int) (ni_cons (nd_i pd_int) (ni_cons (nd_i pd_int) (ni_cons (nd_i pd_int) (ni_nil))))))) (nd_draw E1 hr pd_int (by decide) (by decide)) (fun i h => by simp only [AnyP, or_false] at h; omega)) ?_
  rintro _ ⟨nc, rfl, h1⟩
  refine nb_eq (by dsimp only [ini, List.map, List.set]) ?_
  obtain ⟨nc, rfl⟩ := Int.eq_ofNat_of_zero_le (show 0 ≤ nc by omega)
  refine nb_set (j := 2) nd (nd_wk (nd_add (nd_i pd_int) (nd_pick (R := fun i => 0 ≤ i ∧ i < 16) (ni_cons (nd_draw E1 hr pd_int (by decide) (by decide)) (ni_cons (nd_draw E1 hr pd_int (by decide) (by decide)) (ni_nil))) (nd_draw E1 hr pd_int (by decide) (by decide)) (fun i h => by simp only [AnyP, or_false] at h; omega))) (fun s ⟨i, e, a, b, h1, h2, h3⟩ => (⟨i, e, by omega⟩ : iN (fun i => 1 ≤ i ∧ i ≤ 16) s))) ?_
  rintro _ ⟨sz, rfl, h2⟩
  refine nb_eq (by dsimp only [ini, List.map, List.set]) ?_
  obtain ⟨sz, rfl⟩ := Int.eq_ofNat_of_zero_le (show 0 ≤ sz by omega)
  refine nb_set (j := 3) nd (nd_pick (R := fun i => 1 ≤ i ∧ i ≤ 16) (ni_cons (nd_i pd_int) (ni_cons (nd_i pd_int) (ni_cons (nd_i pd_int) (ni_cons (nd_wk (nd_add (nd_i pd_int) (nd_draw E1 hr pd_int (by decide) (by decide))) (fun s ⟨i, e, a, b, h1, h2, h3⟩ => (⟨i, e, by omega⟩ : iN (fun i => 1 ≤ i ∧ i ≤ 16) s))) (ni_nil))))) (nd_draw E1 hr pd_int (by decide) (by decide)) (fun i h => by simp only [AnyP, or_false] at h; omega)) ?_
  rintro _ ⟨wd, rfl, h3⟩
  refine nb_eq (by dsimp only [ini, List.map, List.set]) ?_
  obtain ⟨wd, rfl⟩ := Int.eq_ofNat_of_zero_le (show 0 ≤ wd by omega)
  refine nb_set (j := 4) nd (nd_pick (R := fun i => 1 ≤ i ∧ i ≤ 8) (ni_cons (nd_i pd_int) (ni_cons (nd_i pd_int) (ni_cons (nd_i pd_int) (ni_cons (nd_wk (nd_add (nd_i pd_int) (nd_draw E1 hr pd_int (by decide) (by decide))) (fun s ⟨i, e, a, b, h1, h2, h3⟩ => (⟨i, e, by omega⟩ : iN (fun i => 1 ≤ i ∧ i ≤ 8) s))) (ni_nil))))) (nd_draw E1 hr pd_int (by decide) (by decide)) (fun i h => by simp only [AnyP, or_false] at h; omega)) ?_
  rintro _ ⟨st, rfl, h4⟩
  refine nb_eq (by dsimp only [ini, List.map, List.set]) ?_
  obtain ⟨st, rfl⟩ := Int.eq_ofNat_of_zero_le (show 0 ≤ st by omega)
  refine nb_set (j := 5) nd (nd_pick (R := fun i => 1 ≤ i ∧ i ≤ 16) (ni_cons (nd_i pd_int) (ni_cons (nd_i pd_int) (ni_cons (nd_wk (nd_add (nd_i pd_int) (nd_draw E1 hr pd_int (by decide) (by decide))) (fun s ⟨i, e, a, b, h1, h2, h3⟩ => (⟨i, e, by omega⟩ : iN (fun i => 1 ≤ i ∧ i ≤ 16) s))) (ni_nil)))) (nd_draw E1 hr pd_int (by decide) (by decide)) (fun i h => by simp only [AnyP, or_false] at h; omega)) ?_
  rintro _ ⟨wy, rfl, h5⟩
  refine nb_eq (by dsimp only [ini, List.map, List.set]) ?_
  obtain ⟨wy, rfl⟩ := Int.eq_ofNat_of_zero_le (show 0 ≤ wy by omega)
  refine nb_set (j := 6) nd (nd_wk (nd_add (nd_i pd_int) (nd_draw E1 hr pd_int (by decide) (by decide))) (fun s ⟨i, e, a, b, h1, h2, h3⟩ => (⟨i, e, by omega⟩ : iN (fun i => 1 ≤ i ∧ i ≤ 3) s))) ?_
  rintro _ ⟨rq, rfl, h6⟩
  refine nb_eq (by dsimp only [ini, List.map, List.set]) ?_
  obtain ⟨rq, rfl⟩ := Int.eq_ofNat_of_zero_le (show 0 ≤ rq by omega)
  refine nb_set (j := 7) nd (nd_eqi (nd_draw E1 hr pd_int (by decide) (by decide)) (nd_i pd_int)) ?_
  rintro _ ⟨al, rfl⟩
  refine nb_eq (by dsimp only [ini, List.map, List.set]) ?_
  have hl : ((sz : Int) + (wd : Int) - 1) / (wd : Int) = (((sz + wd - 1) / wd : Nat) : Int) := by
    rw [show (sz : Int) + (wd : Int) - 1 = ((sz + wd - 1 : Nat) : Int) by omega]; rfl
  refine nb_ret (nd_wk (nd_d (pd_tu (at_cons (pd_var (i := 1) rfl) (at_cons (pd_var (i := 2) rfl) (at_cons (pd_var (i := 3) rfl) (at_cons (pd_fdiv (pd_sub (pd_add (pd_var (i := 2) rfl) (pd_var (i := 3) rfl)) pd_int) (pd_var (i := 3) rfl) ⟨by omega, by omega⟩) (at_cons (pd_tu (at_cons (pd_var (i := 4) rfl) (at_cons (pd_var (i := 5) rfl) (at_cons (pd_var (i := 6) rfl) at_nil)))) (at_cons (pd_var (i := 7) rfl) at_nil)))))))) fun s hs => ⟨nc, sz, wd, st, wy, rq, al, ?_, ⟨by omega, by omega, by omega, by omega, by omega, by omega, by omega, by omega, by omega, by omega⟩⟩)
  rw [hs, hl]
  rfl

/-! Config -/
abbrev sInit : Stmt := inClass (top 34) 0
abbrev nInit : List Str := ["self", "order", "reorder_buffer", "store_buffer", "line_words", "sets", "ways", "requests", "exclusive_state"]
theorem scInit : FnScope nInit nInit (defScope sInit) := ⟨rfl, rfl, rfl, by decide +kernel, rfl, by decide +kernel, by decide +kernel⟩
def dfInit : List (Str × V) := [("reorder_buffer", .int 4), ("store_buffer", .int 2), ("line_words", .int 1), ("sets", .int 1), ("ways", .int 4), ("requests", .int 1), ("exclusive_state", .bl true)]
def spInit (C : Addr) : Sp := fun vs H Q _ => ∃ (x dx : Addr) (o : Str) (cf : Cfg), vs = [.ref x, .str o, .int 4, .int 2, .int (cf.lw : Int), .int (cf.sets : Int), .int (cf.ways : Int), .int (cf.reqs : Int), .bl cf.excl] ∧ H x = some (.ins C dx []) ∧ Q .non (upd H x (.ins C dx (cfgFs o cf)))
structure CfgN (K : PySem.W.Frag) (C : Addr) : Prop extends CfgT K C where
  ord : NoAttr K C "order"
  rob : NoAttr K C "reorder_buffer"
  sto : NoAttr K C "store_buffer"
theorem okInit {f : Addr} {fd : FuncData} (T : CfgN K C) (F : FunD K "__init__" "Config.__init__" (defArgs sInit) (defBody sInit) (defScope sInit) [] dfInit f fd) : FnOk P w K mg base CX0 1 f fd nInit (spInit C) := by
  refine F.ok scInit (fun vs H Q E ⟨_, _, _, _, h, _⟩ => by rw [h]; rfl) ?_
  rintro cdv A outer s H vs Q E hr ⟨x, dx, o, cf, rfl, hx, q⟩
  refine ⟨_, pss_cons (ps_fld (pv 0) (pv 1) rfl) (pss_cons (ps_fld (pv 0) (pv 2) rfl) (pss_cons (ps_fld (pv 0) (pv 3) rfl) (pss_cons (ps_fld (pv 0) (pv 4) rfl) (pss_cons (ps_fld (pv 0) (pv 5) rfl) (pss_cons (ps_fld (pv 0) (pv 6) rfl) (pss_cons (ps_fld (pv 0) (pv 7) rfl) (pss_cons (ps_fld (pv 0) (pv 8) rfl) pss_nil))))))), ?_⟩
  refine ⟨_, rfl, _, rfl, x, C, dx, _, rfl, hx, T.cl, T.ord, Nat.le_of_ble_eq_true rfl, ?_⟩
  refine ⟨_, rfl, _, rfl, x, C, dx, _, rfl, upd_same, T.cl, T.rob, Nat.le_of_ble_eq_true rfl, ?_⟩
  refine ⟨_, rfl, _, rfl, x, C, dx, _, rfl, upd_same, T.cl, T.sto, Nat.le_of_ble_eq_true rfl, ?_⟩
  refine ⟨_, rfl, _, rfl, x, C, dx, _, rfl, upd_same, T.cl, T.lw, Nat.le_of_ble_eq_true rfl, ?_⟩
  refine ⟨_, rfl, _, rfl, x, C, dx, _, rfl, upd_same, T.cl, T.sets, Nat.le_of_ble_eq_true rfl, ?_⟩
  refine ⟨_, rfl, _, rfl, x, C, dx, _, rfl, upd_same, T.cl, T.ways, Nat.le_of_ble_eq_true rfl, ?_⟩
  refine ⟨_, rfl, _, rfl, x, C, dx, _, rfl, upd_same, T.cl, T.reqs, Nat.le_of_ble_eq_true rfl, ?_⟩
  refine ⟨_, rfl, _, rfl, x, C, dx, _, rfl, upd_same, T.cl, T.excl, Nat.le_of_ble_eq_true rfl, ?_⟩
  have e : ∀ (a b : HO), upd (upd H x a) x b = upd H x b := fun a b => by
    funext y
    by_cases hy : y = x
    · subst hy; rw [upd_same, upd_same]
    · rw [upd_ne hy, upd_ne hy, upd_ne hy]
  simp only [e]
  exact q
structure CfgM (P : Program) (w : World) (K : PySem.W.Frag) (mg : Str → Option Value) (base : Heap) (C : Addr) : Prop where
  ex : ∃ (f : Addr) (fd : FuncData), Mk K C f ∧ FunD K "__init__" "Config.__init__" (defArgs sInit) (defBody sInit) (defScope sInit) [] dfInit f fd
  ok : CfgN K C
  mg : mg "Config" = some (.ref C)

end
end Lit
end
section
namespace Lit
open PySem PySem.Spec PyProof.Rows L2 Dat Proto
section
variable {P : Program} {w : World} {K : PySem.W.Frag} {mg : Str → Option Value} {base : Heap} {C : Addr}

def ksCfg : List Str := ["line_words", "sets", "ways", "requests", "exclusive_state"]
theorem kbCfg {f : Addr} {fd : FuncData} (F : FunD K "__init__" "Config.__init__" (defArgs sInit) (defBody sInit) (defScope sInit) [] dfInit f fd) :
    ∃ mv : List Value, KBn K fd nInit 2 ksCfg (fun us ws => us ++ mv ++ ws) (fun vs zs => vs ++ [V.int 4, V.int 2] ++ zs) := by
  refine F.kbinds0 (ps := nInit) 2 ksCfg [("reorder_buffer", .int 4), ("store_buffer", .int 2)] (fun us mv ws => us ++ mv ++ ws) (by decide) (fun q hq => ?_) (fun r1 r2 r3 => (r1.append r2).append r3) ?_
  · rcases List.mem_cons.mp hq with rfl | hq
    · exact List.mem_cons_self ..
    · rcases List.mem_cons.mp hq with rfl | hq
      · exact List.mem_cons_of_mem _ (List.mem_cons_self ..)
      · cases hq
  · intro D doc pm an cdv ct us mv ws l1 l2 l3
    match us, l1, mv, l2, ws, l3 with
    | [u0, u1], _, [m0, m1], _, [w0, w1, w2, w3, w4], _ =>
      exact ⟨_, _, _, _, _, _, rfl, rfl, _, _, _, _, _, _, rfl, rfl, rfl⟩
section
variable {X : Cx} {T : Tk} {G : Gm} {e e1 e2 e3 e4 e5 : Expr} {pos p q1 q2 q3 q4 q5 : Pos}
theorem pd_config {o : Str} {cf : Cfg} (M : CfgM X.prog X.w X.K X.mg X.base C) (hr : Room 2 X.A) (h0 : PD X G e (.str o)) (h1 : PD X G e1 (nD cf.lw)) (h2 : PD X G e2 (nD cf.sets)) (h3 : PD X G e3 (nD cf.ways)) (h4 : PD X G e4 (nD cf.reqs)) (h5 : PD X G e5 (.bl cf.excl)) (hg : Gl X "Config" := by rfl)
    (hall : (backToKw pos (keywordEach [⟨some "line_words", e1, q1⟩, ⟨some "sets", e2, q2⟩, ⟨some "ways", e3, q3⟩, ⟨some "requests", e4, q4⟩, ⟨some "exclusive_state", e5, q5⟩] X.env)).all (·.1.isSome) = true := by rfl)
    (hks : (backToKw pos (keywordEach [⟨some "line_words", e1, q1⟩, ⟨some "sets", e2, q2⟩, ⟨some "ways", e3, q3⟩, ⟨some "requests", e4, q4⟩, ⟨some "exclusive_state", e5, q5⟩] X.env)).filterMap (·.1) = ksCfg := by rfl)
    (he : starEach [e] X.env = (false, eval e X.env) :: starEach [] X.env := by rfl)
    (hpl : ((backTo pos (starEach [e] X.env)).any (·.1) || (backToKw pos (keywordEach [⟨some "line_words", e1, q1⟩, ⟨some "sets", e2, q2⟩, ⟨some "ways", e3, q3⟩, ⟨some "requests", e4, q4⟩, ⟨some "exclusive_state", e5, q5⟩] X.env)).any (·.1.isNone)) = false := by rfl) :
    PDs X G (.Call (.Name "Config" p) [e] [⟨some "line_words", e1, q1⟩, ⟨some "sets", e2, q2⟩, ⟨some "ways", e3, q3⟩, ⟨some "requests", e4, q4⟩, ⟨some "exclusive_state", e5, q5⟩] pos) (cfgS C o cf) := by
  obtain ⟨f, fd, mk, F⟩ := M.ex
  obtain ⟨mv, kb⟩ := kbCfg F
  refine (pe_makeK (E := fun _ _ _ => False) mk (okInit (P := X.prog) (w := X.w) (mg := X.mg) (base := X.base) M.ok F) hr hg M.mg kb pass0 (pa_cons h0 pa_nil he) (pk_cons h1 (pk_cons h2 (pk_cons h3 (pk_cons h4 (pk_cons h5 pk_nil))))) hall hks (by decide) he hpl).wk fun σ H Q ⟨f, q⟩ => ?_
  refine ⟨f, fun v H1 e1 i1 => ⟨f.mono e1, fun v1 H2 e2 i2 => ⟨(f.mono e1).mono e2, fun v2 H3 e3 i3 => ⟨((f.mono e1).mono e2).mono e3, fun v3 H4 e4 i4 => ⟨(((f.mono e1).mono e2).mono e3).mono e4, fun v4 H5 e5 i5 => ⟨((((f.mono e1).mono e2).mono e3).mono e4).mono e5, fun v5 H6 e6 i6 => ⟨rfl, rfl, fun x dx hx hd hne => ?_⟩⟩⟩⟩⟩⟩⟩
  have E : Same H H6 := ((((e1.trans e2).trans e3).trans e4).trans e5).trans e6
  rw [isS_str.mp i1, isS_int.mp i2, isS_int.mp i3, isS_int.mp i4, isS_int.mp i5, isS_bl.mp i6]
  refine ⟨x, dx, o, cf, rfl, upd_same, rfl, q _ _ (fun a u ha => ?_) ⟨x, dx, rfl, upd_same⟩⟩
  have h6 := E a u ha
  rw [upd_ne (ne_of_none h6 hx), upd_ne (ne_of_none h6 hx), upd_ne (ne_of_none h6 hd)]
  exact h6
end
theorem ord_at : ∀ n, n < 4 → ∃ o : Str, ([.str "sc", .str "tso", .str "pso", .str "wmm"] : List D)[n]? = some (.str o)
  | 0, _ => ⟨_, rfl⟩
  | 1, _ => ⟨_, rfl⟩
  | 2, _ => ⟨_, rfl⟩
  | 3, _ => ⟨_, rfl⟩
def aConf (C : Addr) (ss : List S) (Φ : S → Prop) : Prop := ∃ (nc sz wd st wy rq : Nat) (al : Bool), ss = [.d (encWd nc sz wd st wy rq al)] ∧ Φ = fun s => ∃ o, s = cfgS C o ⟨wd, st, wy, rq, al⟩
abbrev sConf : Stmt := top 39
abbrev nConf : List Str := ["_law_world_here", "_law_bounds", "_law_order"]
theorem scConf : FnScope ("_law_tape_here" :: nConf) ["_law_tape_here", "_law_world_here"] (defScope sConf) := ⟨rfl, rfl, rfl, by decide +kernel, rfl, by decide +kernel, by decide +kernel⟩
theorem dConf {f : Addr} {fd : FuncData} (M : CfgM P w K mg base C) (E1 : NDfn P w K mg base 1 "_law_draw" pDraw aDraw) (F : Fun K "_law_config" "_law_config" sConf f fd) (hm : mg "_law_config" = some (.ref f)) (hb : Binds K fd ["_law_tape_here", "_law_world_here"] []) : NDfn P w K mg base 3 "_law_config" ["_law_tape_here", "_law_world_here"] (aConf C) := by
  refine NDfn.of 1000 F hm scConf (fun ss Φ ⟨_, _, _, _, _, _, _, h, _⟩ => by rw [h]; rfl) hb (by decide) ?_
  rintro cdv Ar outer sh H E t b ns ss Φ hr ⟨nc, sz, wd, st, wy, rq, al, rfl, rfl⟩
  have nd := scConf.nd
  refine nb_eq (by dsimp only [ini, List.map]) ?_
  refine nb_set (j := 2) nd (nd_d (pd_ixc (j := 4) (pd_var (i := 1) rfl) rfl)) ?_
  rintro _ rfl
  refine nb_eq (by dsimp only [ini, List.map, List.set]) ?_
  refine nb_set (j := 3) nd (nd_ixl (Φ := fun s => ∃ o, s = .d (.str o)) (nd_lst (Φ := fun s => s = .lst [.str "sc", .str "tso", .str "pso", .str "wmm"]) (na_cons (nd_d pd_str) (na_cons (nd_d pd_str) (na_cons (nd_d pd_str) (na_cons (nd_d pd_str) na_nil))))
    (fun ss ⟨s1, r1, e1, h1, s2, r2, e2, h2, s3, r3, e3, h3, s4, r4, e4, h4, h5⟩ => ⟨[.str "sc", .str "tso", .str "pso", .str "wmm"], by subst h5 h4 h3 h2 h1 e4 e3 e2 e1; rfl, by decide, (fun _ _ h => by cases h), rfl⟩)) (nd_draw E1 (hr.mono (by decide)) pd_int (by decide) (by decide)) (fun s i hs ⟨h0, h1⟩ => by
      subst hs
      obtain ⟨o, ho⟩ := ord_at i.toNat (by omega)
      exact ⟨_, _, rfl, h0, ho, o, rfl⟩)) ?_
  rintro _ ⟨o, rfl⟩
  refine nb_eq (by dsimp only [ini, List.map, List.set]) ?_
  exact nb_ret (nd_wk (nd_of (pd_config (cf := ⟨wd, st, wy, rq, al⟩) M hr (pd_var (i := 3) rfl) (pd_ixc (j := 2) (pd_var (i := 1) rfl) rfl) (pd_ixc (j := 0) (pd_var (i := 2) rfl) rfl) (pd_ixc (j := 1) (pd_var (i := 2) rfl) rfl) (pd_ixc (j := 2) (pd_var (i := 2) rfl) rfl) (pd_ixc (j := 5) (pd_var (i := 1) rfl) rfl)) okS_obj) fun s hs => ⟨o, hs⟩)

end
end Lit
end
section
namespace Lit
open PySem PySem.Spec PyProof.Rows L2 Dat Proto
section
variable {P : Program} {w : World} {K : PySem.W.Frag} {mg : Str → Option Value} {base : Heap} {C : Addr}

/-! _law_fresh -/
def aFresh (ss : List S) (Φ : S → Prop) : Prop := ∃ n : Nat, ss = [.d (nD n)] ∧ n ≤ 1000 ∧ Φ = fun s => ∃ ws : List Int, s = .d (.tup (ws.map D.int)) ∧ ws.length = n
abbrev sFresh : Stmt := top 40
abbrev nFresh : List Str := ["_law_many", "_law_words", "_law_k"]
theorem scFresh : FnScope ("_law_tape_here" :: nFresh) ["_law_tape_here", "_law_many"] (defScope sFresh) := ⟨rfl, rfl, rfl, by decide +kernel, rfl, by decide +kernel, by decide +kernel⟩
theorem dFresh {f : Addr} {fd : FuncData} (N : NoL mg) (E1 : NDfn P w K mg base 1 "_law_draw" pDraw aDraw) (F : Fun K "_law_fresh" "_law_fresh" sFresh f fd) (hm : mg "_law_fresh" = some (.ref f)) (hb : Binds K fd ["_law_tape_here", "_law_many"] []) : NDfn P w K mg base 2 "_law_fresh" ["_law_tape_here", "_law_many"] aFresh := by
  refine NDfn.of 2 F hm scFresh (fun ss Φ ⟨_, h, _⟩ => by rw [h]; rfl) hb (by decide) ?_
  rintro cdv Ar outer sh H E t b ns ss Φ hr ⟨n, rfl, hn, rfl⟩
  have nd := scFresh.nd
  refine nb_eq (by dsimp only [ini, List.map]) ?_
  refine nb_cons (ns_setF (j := 2) nd (nf_lst (Φ := fun s => s = .lst (([] : List Int).map D.int)) na_nil (fun ss h => ⟨[], by rw [h]; rfl, by decide, okS_ints (xs := []), rfl⟩))) ?_
  rintro _ ⟨_, rfl, rfl⟩
  refine nb_eq (G2 := [none, some (.d (nD n)), some (.lst (([] : List Int).map D.int)), none]) rfl ?_
  refine nb_cons (ns_forR (i := 3) (I := fun k G => ∃ xs : List Int, xs.length = k ∧ G = [none, some (.d (nD n)), some (.lst (xs.map D.int)), none]) (M := 1000) (R := fun k => k = n) .never rfl nd N.range (nd_wk (nd_i (pd_var (i := 1) rfl)) (fun s ⟨i, e, h⟩ => ⟨i, e, n, h, rfl⟩)) (fun k h => by omega) (by decide) ⟨[], rfl, rfl⟩ ?_) ?_
  · rintro k _ hk ⟨xs, hx, rfl⟩
    refine nb_eq (G2 := [none, some (.d (nD n)), some (.lst (xs.map D.int)), some (.d (.int (k : Int)))]) rfl ?_
    have ho : ∀ j zs, j ≠ 2 → ([none, some (.d (nD n)), some (.lst (xs.map D.int)), some (.d (.int (k : Int)))] : Gm)[j]? ≠ some (some (.lst zs)) := by
      intro j zs hj h
      match j with
      | 0 => cases h
      | 1 => cases h
      | 2 => exact hj rfl
      | 3 => cases h
      | j + 4 => simp at h
    refine nb_cons (Ψ1 := fun G' => ∃ i, G' = [none, some (.d (nD n)), some (.lst ((xs ++ [i]).map D.int)), some (.d (.int (k : Int)))]) (ns_if (nt_eqi (nd_draw E1 hr pd_int (by decide) (by decide)) (nd_i pd_int)) (fun _ => ?_) (fun _ => ?_)) (fun G' ⟨i, e⟩ => nb_wk nb_nil (fun G2 e2 => ⟨[none, some (.d (nD n)), some (.lst ((xs ++ [i]).map D.int)), none], by rw [e2, e]; exact gle_same (gle_same (gle_same (gle_none gle_nil))), xs ++ [i], by simp [hx], rfl⟩))
    · refine nb_cons (ns_app (xs := xs) rfl ho (by omega) (nd_pick (R := fun _ => True) (ni_cons (nd_i pd_int) (ni_cons (nd_i pd_int) (ni_cons (nd_i pd_int) (ni_cons (nd_i pd_int) ni_nil)))) (nd_draw E1 hr pd_int (by decide) (by decide)) (fun _ _ => trivial))) ?_
      rintro _ ⟨i, _, rfl⟩
      exact nb_wk nb_nil fun G' e => ⟨i, e⟩
    · refine nb_cons (ns_app (xs := xs) rfl ho (by omega) (nd_draw E1 hr pd_int (by decide) (by decide))) ?_
      rintro _ ⟨i, _, rfl⟩
      exact nb_wk nb_nil fun G' e => ⟨i, e⟩
  · rintro _ ⟨k, rfl, xs, hx, rfl⟩
    exact nb_ret (nd_wk (nd_d (pd_tupL N.tuple (pd_var (i := 2) rfl))) (fun s hs => ⟨xs, hs, hx⟩))

/-! _law_action -/
def actIn (nc nl : Nat) : Act → Prop
  | .deliver _ => True
  | .evict c l => c < nc ∧ l < nl
  | .request c l _ => c < nc ∧ l < nl
def aAction (ss : List S) (Φ : S → Prop) : Prop := ∃ (t : Sys) (nc sz wd st wy rq : Nat) (al : Bool), ss = [.d (encSys t), .d (encWd nc sz wd st wy rq al)] ∧ WdOk nc sz wd st wy rq ∧ t.caches.length = nc ∧ t.net.length ≤ 60000 ∧
  (∀ c, (t.cache c).lines.length ≤ 1000 ∧ ∀ e, e ∈ (t.cache c).lines → e.1 < (sz + wd - 1) / wd) ∧ Φ = fun s => ∃ a, s = .d (encAct a) ∧ actIn nc ((sz + wd - 1) / wd) a
abbrev sAction : Stmt := top 42
abbrev nAction : List Str := ["_law_system", "_law_world_here", "_law_choice", "_law_core", "_law_line", "_law_lines"]
abbrev pAction : List Str := ["_law_tape_here", "_law_system", "_law_world_here"]
theorem scAction : FnScope ("_law_tape_here" :: nAction) pAction (defScope sAction) := ⟨rfl, rfl, rfl, by decide +kernel, rfl, by decide +kernel, by decide +kernel⟩
theorem nl_pos {sz wd : Nat} (h : 1 ≤ sz) (h2 : 1 ≤ wd) : 1 ≤ (sz + wd - 1) / wd := (Nat.le_div_iff_mul_le (by omega)).mpr (by omega)
theorem nl_le {sz wd : Nat} (h : sz ≤ 16) (h2 : wd ≤ 16) : (sz + wd - 1) / wd ≤ 31 := Nat.le_trans (Nat.div_le_self ..) (by omega)
theorem dAction {f : Addr} {fd : FuncData} (N : NoL mg) (E1 : NDfn P w K mg base 1 "_law_draw" pDraw aDraw) (F : Fun K "_law_action" "_law_action" sAction f fd) (hm : mg "_law_action" = some (.ref f)) (hb : Binds K fd pAction []) : NDfn P w K mg base 2 "_law_action" pAction aAction := by
  refine NDfn.of 1000 F hm scAction (fun ss Φ ⟨_, _, _, _, _, _, _, _, h, _⟩ => by rw [h]; rfl) hb (by decide) ?_
  rintro cdv Ar outer sh H E tt b ns ss Φ hr ⟨t, nc, sz, wd, st, wy, rq, al, rfl, ok, hnc, hnet, hlin, rfl⟩
  have nd := scAction.nd
  obtain ⟨nc1, nc2, sz1, sz2, wd1, wd2, _, _, _, _⟩ := ok
  have l1 := nl_pos sz1 wd1
  have l2 := nl_le sz2 wd2
  refine nb_eq (by dsimp only [ini, List.map]) ?_
  refine nb_set (j := 3) nd (nd_draw E1 hr pd_int (by decide) (by decide)) ?_
  rintro _ ⟨ch, rfl, _⟩
  refine nb_eq (by dsimp only [ini, List.map, List.set]) ?_
  refine nb_set (j := 4) nd (nd_draw (m := (nc : Int)) E1 hr (pd_ixc (j := 0) (pd_var (i := 2) rfl) rfl) (by omega) (by omega)) ?_
  rintro _ ⟨c, rfl, hc⟩
  obtain ⟨c, rfl⟩ := Int.eq_ofNat_of_zero_le hc.1
  refine nb_eq (by dsimp only [ini, List.map, List.set]) ?_
  refine nb_set (j := 5) nd (nd_draw (m := (((sz + wd - 1) / wd : Nat) : Int)) E1 hr (pd_ixc (j := 3) (pd_var (i := 2) rfl) rfl) (by omega) (by omega)) ?_
  rintro _ ⟨l, rfl, hl⟩
  obtain ⟨l, rfl⟩ := Int.eq_ofNat_of_zero_le hl.1
  refine nb_eq (by dsimp only [ini, List.map, List.set]) ?_
  have hcl : c < t.caches.length := by omega
  refine nb_set (j := 6) nd (nd_d (pd_ixc (j := 0) (pd_ixN (j := c) (pd_ixc (j := 0) (pd_var (i := 1) rfl) rfl) (pd_var (i := 4) rfl) (cache_ix hcl)) rfl)) ?_
  rintro _ rfl
  refine nb_eq (by dsimp only [ini, List.map, List.set]) ?_
  obtain ⟨hz, hlt⟩ := hlin c
  refine nb_cons (Ψ1 := fun G' => G' = _) (ns_if (nt_of (td_and (td_cmp (cd_lt (pd_var (i := 3) rfl) pd_int)) (fun _ => td_val (pd_ixc (j := 3) (pd_var (i := 1) rfl) rfl)))) (fun h => ?_) (fun _ => nb_nil)) ?_
  · have hne : 1 ≤ t.net.length := by
      cases hn : t.net with
      | nil => rw [hn] at h; simp at h
      | cons a r => simp
    refine nb_ret (nd_tup (na_cons (nd_d pd_str) (na_cons (nd_draw E1 hr (pd_lenT N.len (pd_ixc (j := 3) (pd_var (i := 1) rfl) rfl)) (by rw [List.length_map]; omega) (by rw [List.length_map]; omega)) na_nil)) (fun ss ⟨s1, r1, e1, h1, s2, r2, e2, ⟨i, h2, h3⟩, h4⟩ => ?_))
    obtain ⟨n, rfl⟩ := Int.eq_ofNat_of_zero_le h3.1
    subst h4 h2 h1 e2 e1
    exact ⟨[.str "deliver", nD n], rfl, Nat.le_of_ble_eq_true rfl, .deliver n, rfl, trivial⟩
  · rintro _ rfl
    refine nb_cons (Ψ1 := fun G' => G' = _) (ns_if (nt_of (td_and (td_cmp (cd_lt (pd_var (i := 3) rfl) pd_int)) (fun _ => td_val (pd_var (i := 6) rfl)))) (fun h => ?_) (fun _ => nb_nil)) ?_
    · have hne : 1 ≤ (t.cache c).lines.length := by
        cases hn : (t.cache c).lines with
        | nil => rw [hn] at h; simp at h
        | cons a r => simp
      refine nb_ret (nd_tup (na_cons (nd_d pd_str) (na_cons (nd_d (pd_var (i := 4) rfl)) (na_cons (nd_ixt (Φ := iN fun i => ∃ e, e ∈ (t.cache c).lines ∧ i = ((e.1 : Nat) : Int)) (nd_ixt (Φ := fun s => ∃ e, e ∈ (t.cache c).lines ∧ s = .d (encE tlL e)) (nd_d (pd_var (i := 6) rfl)) (nd_draw E1 hr (pd_lenT N.len (pd_var (i := 6) rfl)) (by rw [List.length_map]; omega) (by rw [List.length_map]; omega)) (fun s i hs ⟨h0, h1⟩ => ?_)) (nd_i pd_int) (fun s i ⟨e, he, hs⟩ hi => ?_)) na_nil))) (fun ss ⟨s1, r1, e1, h1, s2, r2, e2, h2, s3, r3, e3, ⟨i, h3, e, he, h5⟩, h4⟩ => ?_))
      · rw [List.length_map] at h1
        have hi : i.toNat < (t.cache c).lines.length := by omega
        exact ⟨_, encE tlL (t.cache c).lines[i.toNat], hs, h0, by rw [List.getElem?_map, List.getElem?_eq_getElem hi]; rfl, _, List.getElem_mem hi, rfl⟩
      · subst hi
        exact ⟨_, nD e.1, hs, by decide, rfl, _, rfl, e, he, rfl⟩
      · subst h5 h4 h3 h2 h1 e3 e2 e1
        exact ⟨[.str "evict", nD c, nD e.1], rfl, Nat.le_of_ble_eq_true rfl, .evict c e.1, rfl, by omega, hlt e he⟩
    · rintro _ rfl
      refine nb_cons (Ψ1 := fun G' => G' = _) (ns_if (nt_of (td_cmp (cd_eq (pd_var (i := 3) rfl) pd_int))) (fun h => ?_) (fun _ => nb_nil)) ?_
      · exact nb_ret (nd_wk (nd_d (pd_tu (at_cons pd_str (at_cons (pd_var (i := 4) rfl) (at_cons (pd_var (i := 5) rfl) at_nil))))) fun s hs => ⟨.evict c l, hs, by omega, by omega⟩)
      · rintro _ rfl
        refine nb_ret (nd_tup (na_cons (nd_d pd_str) (na_cons (nd_d (pd_var (i := 4) rfl)) (na_cons (nd_d (pd_var (i := 5) rfl)) (na_cons (nd_eqi (nd_draw E1 hr pd_int (by decide) (by decide)) (nd_i pd_int)) na_nil)))) (fun ss ⟨s1, r1, e1, h1, s2, r2, e2, h2, s3, r3, e3, h3, s4, r4, e4, ⟨k, h4⟩, h5⟩ => ?_))
        subst h5 h4 h3 h2 h1 e4 e3 e2 e1
        exact ⟨[.str "request", nD c, nD l, .bl k], rfl, Nat.le_of_ble_eq_true rfl, .request c l k, rfl, by omega, by omega⟩
end
end Lit
end
section
namespace Lit
open PySem PySem.Spec PyProof.Rows L2 Dat Proto
section
variable {P : Program} {w : World} {K : PySem.W.Frag} {mg : Str → Option Value} {base : Heap} {C : Addr}

/-! _law_writable -/
def aWrable (ss : List S) (Φ : S → Prop) : Prop := ∃ (t : Sys) (c nc sz wd st wy rq : Nat) (al : Bool), ss = [.d (encSys t), .d (nD c), .d (encWd nc sz wd st wy rq al)] ∧ WdOk nc sz wd st wy rq ∧ c < t.caches.length ∧
  (t.cache c).lines.length ≤ 1000 ∧ (∀ e, e ∈ (t.cache c).lines → e.1 * wd < sz) ∧ Φ = iN fun v => 0 ≤ v ∧ v < (sz : Int)
abbrev sWrable : Stmt := top 43
abbrev nWrable : List Str := ["_law_system", "_law_core", "_law_world_here", "_law_lines", "_law_first", "_law_entry"]
abbrev pWrable : List Str := ["_law_tape_here", "_law_system", "_law_core", "_law_world_here"]
theorem scWrable : FnScope ("_law_tape_here" :: nWrable) pWrable (defScope sWrable) := ⟨rfl, rfl, rfl, by decide +kernel, rfl, by decide +kernel, by decide +kernel⟩
def notSh : Ls → Bool
  | .sh => false
  | _ => true
theorem okS_nD {xs : List Nat} : okS (.lst (xs.map nD)) := fun _ _ h => by cases xs <;> simp [nD] at h
theorem dWrable {f : Addr} {fd : FuncData} (N : NoL mg) (E1 : NDfn P w K mg base 1 "_law_draw" pDraw aDraw) (F : Fun K "_law_writable" "_law_writable" sWrable f fd) (hm : mg "_law_writable" = some (.ref f)) (hb : Binds K fd pWrable []) : NDfn P w K mg base 2 "_law_writable" pWrable aWrable := by
  refine NDfn.of 1000 F hm scWrable (fun ss Φ ⟨_, _, _, _, _, _, _, _, _, h, _⟩ => by rw [h]; rfl) hb (by decide) ?_
  rintro cdv Ar outer sh H E tt b ns ss Φ hr ⟨t, c, nc, sz, wd, st, wy, rq, al, rfl, ok, hcl, hz, hlin, rfl⟩
  have nd := scWrable.nd
  obtain ⟨nc1, nc2, sz1, sz2, wd1, wd2, _, _, _, _⟩ := ok
  refine nb_eq (by dsimp only [ini, List.map]) ?_
  have e := fm_filter (fun e : Nat × Ls × Words => notSh e.2.1) (fun e => nD e.1) (t.cache c).lines
  have e2 : ((t.cache c).lines.filter (fun e : Nat × Ls × Words => notSh e.2.1)).map (fun e => nD e.1) = (((t.cache c).lines.filter (fun e : Nat × Ls × Words => notSh e.2.1)).map (fun e => e.1)).map nD := by rw [List.map_map]; rfl
  have e3 := e.trans e2
  refine nb_cons (ns_setLcT (i := 4) (j := 6) (xs := (t.cache c).lines) (en := encE tlL) (y := "_law_entry") (f := fun e => if notSh e.2.1 = true then some (nD e.1) else none) ⟨rfl, nd, blkOk_by (N := "_law_tape_here" :: nWrable) (sc := defScope sWrable) (by decide +kernel), Nat.le_trans hz (by decide), fun y hy => ?_, fun y r hy hr => ?_⟩ (pd_ixc (j := 0) (pd_ixN (j := c) (pd_ixc (j := 0) (pd_var (i := 1) rfl) rfl) (pd_var (i := 2) rfl) (cache_ix hcl)) rfl) (by rw [e3]; exact okS_nD) (fun _ _ _ _ _ => pg_name (i := 6) nd rfl (Or.inl rfl)) (sw_true rfl rfl rfl (by decide +kernel))) ?_
  · rw [some_ite]
    have k : notSh y.2.1 = !eqD (encS y.2.1) (.str "shared") := by cases y.2.1 <;> decide +kernel
    rw [k]
    have hs : scalD (encS y.2.1) (.str "shared") = true := by cases y.2.1 <;> rfl
    exact et_one fun s H C cl fp => td_cmp (cd_ne (pd_ixc (j := 1) (pd_var (i := 6) rfl) rfl) pd_str hs)
  · obtain ⟨_, rfl⟩ := of_ite hr
    exact fun s H C cl fp => pd_ixc (j := 0) (pd_var (i := 6) rfl) rfl
  rintro _ rfl
  rw [e3]
  have hmem : ∀ l, l ∈ ((t.cache c).lines.filter (fun e : Nat × Ls × Words => notSh e.2.1)).map (fun e => e.1) → l * wd < sz := by
    intro l hl
    obtain ⟨y, hy, rfl⟩ := List.mem_map.mp hl
    exact hlin y (List.mem_filter.mp hy).1
  have hlen : (((t.cache c).lines.filter (fun e : Nat × Ls × Words => notSh e.2.1)).map (fun e => e.1)).length ≤ 1000 := by
    rw [List.length_map]; exact Nat.le_trans (List.length_filter_le ..) hz
  generalize ((t.cache c).lines.filter (fun e : Nat × Ls × Words => notSh e.2.1)).map (fun e => e.1) = ls at hmem hlen ⊢
  refine nb_eq (by dsimp only [ini, List.map, List.set]) ?_
  refine nb_cons (Ψ1 := fun G' => G' = _ ∧ 1 ≤ ls.length) (ns_if (nt_of (td_not (td_val (pd_var (i := 4) rfl)))) (fun h => ?_) (fun h => nb_wk nb_nil fun G' e => ⟨e, by cases ls <;> simp at h ⊢⟩)) ?_
  · exact nb_ret (nd_draw (m := (sz : Int)) E1 hr (pd_ixc (j := 1) (pd_var (i := 3) rfl) rfl) (by omega) (by omega))
  rintro _ ⟨rfl, hne⟩
  refine nb_set (j := 5) (Φ1 := iN fun i => ∃ l : Nat, i = ((l * wd : Nat) : Int) ∧ l * wd < sz) nd (nd_wk (nd_mul (nd_ixl (Φ := iN fun i => ∃ l : Nat, i = (l : Int) ∧ l * wd < sz) (nd_of (pd_var (i := 4) rfl) okS_nD) (nd_draw E1 hr (pd_lenL N.len (pd_var (i := 4) rfl)) (by rw [List.length_map]; omega) (by rw [List.length_map]; omega)) (fun s i hs ⟨h0, h1⟩ => ?_)) (nd_i (pd_ixc (j := 2) (pd_var (i := 3) rfl) rfl)) (fun i j _ hj => .inr (by subst hj; exact ⟨by omega, by omega⟩))) (fun s ⟨i, e, a, b, ⟨l, h1, h3⟩, h2, h4⟩ => ⟨i, e, l, by rw [h4, h1, h2]; simp, h3⟩)) ?_
  · rw [List.length_map] at h1
    have hi : i.toNat < ls.length := by omega
    exact ⟨_, nD ls[i.toNat], hs, h0, by rw [List.getElem?_map, List.getElem?_eq_getElem hi]; rfl, _, rfl, _, rfl, hmem _ (List.getElem_mem hi)⟩
  rintro _ ⟨_, rfl, l, rfl, hl⟩
  generalize l * wd = fst at hl
  refine nb_eq (by dsimp only [ini, List.map, List.set]) ?_
  refine nb_ret (nd_wk (nd_add (nd_i (pd_var (i := 5) rfl)) (nd_draw E1 hr (pd_min rfl N.min (pd_ixc (j := 2) (pd_var (i := 3) rfl) rfl) (pd_sub (pd_ixc (j := 1) (pd_var (i := 3) rfl) rfl) (pd_var (i := 5) rfl))) (by split <;> omega) (by split <;> omega))) fun s ⟨i, e, a, b, h1, ⟨h2, h3⟩, h4⟩ => ⟨i, e, ?_⟩)
  subst h1 h4
  split at h3 <;> omega
end
end Lit
end
section
namespace Lit
open PySem PySem.Spec PyProof.Rows L2 Dat Proto
section
variable {P : Program} {w : World} {K : PySem.W.Frag} {mg : Str → Option Value} {base : Heap} {C : Addr}

/-! the steps keep the invariant -/
theorem inv_del {cf : Cfg} {nc nl : Nat} {s : Sys} {ws : Words} (I : SInv cf nc nl s ws) {i : Nat} {m : Msg} (hi : s.net[i]? = some m) (hd : deliverableM s m = true) : ∃ s', delivered cf s i m = some s' ∧ SInv cf nc nl s' ws := by
  unfold delivered
  by_cases ht : toCaches m = true
  · obtain ⟨r, h1, h2⟩ := I.to_cache hi ht
    exact ⟨_, by rw [if_pos ht, h1]; rfl, h2⟩
  · have ht' : toCaches m = false := by simpa using ht
    have hr : canRecv (s.home m.line) m = true := by
      unfold deliverableM at hd
      rw [ht', Bool.false_or] at hd
      exact hd
    obtain ⟨r, h1, _, h2⟩ := I.to_home hi ht' hr
    exact ⟨_, by rw [if_neg ht, h1]; rfl, h2⟩
theorem inv_next {cf : Cfg} {nc nl : Nat} {s s' : Sys} {ws : Words} (I : SInv cf nc nl s ws) {a : Act} (ha : actIn nc nl a) (h : nextS cf s a = some s') : SInv cf nc nl s' ws := by
  cases a with
  | deliver i =>
    rw [nextS_del] at h
    cases hi : s.net[i]? with
    | none => rw [hi] at h; cases h
    | some m =>
      rw [hi] at h
      by_cases hd : deliverableM s m = true
      · obtain ⟨t, h1, h2⟩ := inv_del I hi hd
        simp only [Option.bind_some, if_pos hd, h1] at h
        cases h
        exact h2
      · simp only [Option.bind_some, if_neg hd] at h
        cases h
  | evict c l => exact I.evicted ha.1 ha.2 h
  | request c l ex => exact I.requested ha.1 ha.2 h
theorem bd_next {cf : Cfg} {k : Nat} {s s' : Sys} (b : Bd k s) {a : Act} (h : nextS cf s a = some s') : Bd (k + 1) s' := by
  cases a with
  | deliver i =>
    rw [nextS_del] at h
    cases hi : s.net[i]? with
    | none => rw [hi] at h; cases h
    | some m =>
      rw [hi] at h
      by_cases hd : deliverableM s m = true
      · simp only [Option.bind_some, if_pos hd] at h
        exact b.delivered hi h
      · simp only [Option.bind_some, if_neg hd] at h
        cases h
  | evict c l => exact b.evicted h
  | request c l ex => exact b.requested h
theorem ok_next {cf : Cfg} {nc nl : Nat} {s : Sys} {ws : Words} (I : SInv cf nc nl s ws) (hw : ws.length ≤ 1000) {a : Act} (ha : actIn nc nl a) : actOk cf s a := by
  cases a with
  | deliver i =>
    intro m hi hd
    obtain ⟨t, h1, h2⟩ := inv_del I hi hd
    exact ⟨t, h1, by rw [h2.nm]; exact hw⟩
  | evict c l => exact ⟨by rw [I.ncl]; exact ha.1, by rw [I.nh]; exact ha.2⟩
  | request c l ex => exact ⟨by rw [I.ncl]; exact ha.1, by rw [I.nh]; exact ha.2⟩
theorem bd_up {s : Sys} : ∀ (d k : Nat), Bd k s → Bd (k + d) s
  | 0, _, h => h
  | d + 1, k, h => (bd_up d k h).mono
theorem bd_le {s : Sys} {k m : Nat} (h : Bd k s) (l : k ≤ m) : Bd m s := by
  have := bd_up (m - k) k h
  rwa [show k + (m - k) = m by omega] at this
theorem ssz_of {cf : Cfg} {nc nl : Nat} {s : Sys} {ws : Words} (I : SInv cf nc nl s ws) (h1 : nc ≤ 1000) (h2 : nl ≤ 1000) (h3 : ws.length ≤ 1000) (b : Bd 100 s) : SSz s :=
  ⟨by rw [I.ncl]; exact h1, by rw [I.nh]; exact h2, by rw [I.nm]; exact h3, Nat.le_trans b.n (by decide), fun c => ⟨Nat.le_trans (b.c c).1 (by decide), Nat.le_trans (b.c c).2.1 (by decide), Nat.le_trans (b.c c).2.2 (by decide)⟩,
    fun l => ⟨Nat.le_trans (b.h l).1 (by decide), fun sv h => Nat.le_trans ((b.h l).2 sv h) (by decide)⟩⟩
theorem rep_zero (n : Nat) : (List.replicate n [D.int 0]).flatten = (List.replicate n (0 : Int)).map D.int := by
  induction n with
  | zero => rfl
  | succ n ih => rw [List.replicate_succ, List.replicate_succ, List.flatten_cons, List.map_cons, ih]; rfl

/-! _law_tape -/
abbrev sTape : Stmt := top 36
abbrev nTape : List Str := ["_law_script", "_law_total", "_law_cell"]
theorem scTape : FnScope nTape ["_law_script"] (defScope sTape) := ⟨rfl, rfl, rfl, by decide +kernel, rfl, by decide +kernel, by decide +kernel⟩
def spTape (K : PySem.W.Frag) : Sp := fun vs H Q _ => ∃ (a : Addr) (ns : List Int), vs = [.ref a] ∧ SqL K H a (ns.map V.int) ∧ ∀ t b H', TapeAt H' t b ns → Q (.ref t) H'
theorem okTape {f : Addr} {fd : FuncData} (N : NoL mg) (F : Fun K "_law_tape" "_law_tape" sTape f fd) : FnOk P w K mg base CX0 1 f fd ["_law_script"] (spTape K) := by
  refine F.ok scTape (fun vs H Q E ⟨_, _, h, _⟩ => by rw [h]; rfl) ?_
  rintro cdv A outer s H vs Q E hr ⟨a, ns, rfl, hS, q⟩
  have nd := scTape.nd
  refine ⟨_, pss_cons (ps_set (i := 1) nd rfl (Or.inl rfl) pe_int) (pss_cons (ps_for .never rfl (pi_list (pv 0)) (pg_name (i := 2) nd rfl (Or.inl rfl))
    (pss_cons (ps_set (i := 1) nd rfl (Or.inl rfl) (pe_op op_mod (pe_callTy call_int1 rfl N.int (by decide +kernel) (pa_cons (pe_op op_add (pe_op op_mul (pv 1) pe_int) (pe_callB call_abs rfl N.abs (by decide +kernel) (pa_cons (pe_callTy call_int1 rfl N.int (by decide +kernel) (pa_cons (pv 2) pa_nil)) pa_nil))) pa_nil)) pe_int)) pss_nil))
    (pss_cons (ps_ret (pe_lst (pa_cons (pe_callTy call_list_of rfl N.list (by decide +kernel) (pa_cons (pv 0) pa_nil)) (pa_cons pe_int (pa_cons pe_int (pa_cons (pv 1) pa_nil)))))) pss_nil)), ?_⟩
  refine ⟨_, rfl, a, rfl, ⟨_, hS⟩, for_list (xs := ns.map V.int) (fun i σ' H' => H' = H ∧ ∃ (z : Int) (c : Option V), σ' = [some (.ref a), some (.int z), c]) ⟨rfl, 7, none, rfl⟩ (fun i σ' H' _ ⟨e, _⟩ => e ▸ hS) ?_ ?_⟩
  · rintro i x σ' H' hx ⟨rfl, z, c, rfl⟩
    obtain ⟨n, rfl⟩ : ∃ n : Int, x = .int n := by
      rw [List.getElem?_map] at hx
      cases h : ns[i]? with
      | none => rw [h] at hx; cases hx
      | some n => rw [h] at hx; exact ⟨n, (Option.some.inj hx).symm⟩
    exact ⟨.int z, rfl, z, 31, rfl, rfl, .inr (by decide), .int n, rfl, .inl ⟨n, rfl, n, rfl, _, _, rfl, rfl, .inl ⟨_, rfl, _, _, rfl, rfl, show (0:Int) < 2147483647 by decide, rfl, _, _, rfl⟩⟩⟩
  · rintro σ' H' ⟨rfl, z, c, rfl⟩
    refine ⟨.ref a, rfl, a, _, rfl, .inl hS, fun b hb => ⟨.int z, rfl, show 4 ≤ sizeLine by decide, fun t ht => q t b _ ⟨0, 0, z, upd_same, ?_, by decide⟩⟩⟩
    have htb : b ≠ t := by
      rintro rfl
      rw [upd_same] at ht; cases ht
    rw [upd_ne htb, upd_same]
end
end Lit
end
section
namespace Lit
open PySem PySem.Spec PyProof.Rows L2 Dat Proto
section
variable {P : Program} {w : World} {K : PySem.W.Frag} {mg : Str → Option Value} {base : Heap} {C : Addr}

/-! law -/
abbrev sLaw : Stmt := top 45
abbrev nLaw : List Str := ["_law_script", "_law_tape_here", "_law_world_here", "_law_config_here", "_law_words", "_law_system", "_law_k", "_law_core", "_law_address", "_law_word", "_law_told"]
theorem scLaw : FnScope nLaw ["_law_script"] (defScope sLaw) := ⟨rfl, rfl, rfl, by decide +kernel, rfl, by decide +kernel, by decide +kernel⟩
def spLaw (K : PySem.W.Frag) : Sp := fun vs H Q _ => ∃ (a : Addr) (ns : List Int), vs = [.ref a] ∧ SqL K H a (ns.map V.int) ∧ ns.length ≤ 63 ∧ ∀ H', Q (.bl true) H'
/-- what law calls -/
structure LawC (P : Program) (w : World) (K : PySem.W.Frag) (mg : Str → Option Value) (base : Heap) (C : Addr) : Prop where
  draw : NDfn P w K mg base 1 "_law_draw" pDraw aDraw
  world : NDfn P w K mg base 2 "_law_world" ["_law_tape_here"] aWorld
  conf : NDfn P w K mg base 3 "_law_config" ["_law_tape_here", "_law_world_here"] (aConf C)
  fresh : NDfn P w K mg base 2 "_law_fresh" ["_law_tape_here", "_law_many"] aFresh
  action : NDfn P w K mg base 2 "_law_action" pAction aAction
  wrable : NDfn P w K mg base 2 "_law_writable" pWrable aWrable
  start : Dfn P w K mg base 1 "start_system" ["program", "config"] (aStart C)
  agr : Dfn P w K mg base 4 "_law_agrees" pAgr (aAgr C)
  wrt : Dfn P w K mg base 4 "written" pWrittn (aWrittn C)
  read : Dfn P w K mg base 2 "read_word" ["config", "cache", "address"] (aRead C)
  same : Dfn P w K mg base 1 "_law_same" ["_law_actual", "_law_due"] aSame
  next : Dfn P w K mg base 5 "next_system" pNext (aNext C)
abbrev tLaw (t b : Addr) (ns : List Int) (H : Hp) : Tk := ⟨t, b, ns, 1, 4, H⟩
abbrev gLaw (wd cf : S) (ws : List Int) (sy : Sys) (k c a x d : Option S) : Gm := [none, none, some wd, some cf, some (.lst (ws.map D.int)), some (.d (encSys sy)), k, c, a, x, d]
def iLaw (C : Addr) (o : Str) (nc sz wd st wy rq : Nat) (al : Bool) (k : Nat) (G : Gm) : Prop := ∃ (t : Sys) (ws : List Int), SInv ⟨wd, st, wy, rq, al⟩ nc ((sz + wd - 1) / wd) t ws ∧ Bd k t ∧ ws.length = sz ∧
  G = gLaw (.d (encWd nc sz wd st wy rq al)) (cfgS C o ⟨wd, st, wy, rq, al⟩) ws t none none none none none
theorem law_ho {W Cf : S} {ws : List Int} {sy : Sys} {k c a x d : Option D} (hW : ∀ zs, W ≠ .lst zs) (hC : ∀ zs, Cf ≠ .lst zs) : ∀ j zs, j ≠ 4 → (gLaw W Cf ws sy (k.map S.d) (c.map S.d) (a.map S.d) (x.map S.d) (d.map S.d))[j]? ≠ some (some (.lst zs)) := by
  intro j zs hj h
  have hm : ∀ (o : Option D), some (o.map S.d) ≠ some (some (S.lst zs)) := fun o h => by cases o <;> simp at h
  match j with
  | 0 => cases h
  | 1 => cases h
  | 2 => exact hW zs (by simpa using h)
  | 3 => exact hC zs (by simpa using h)
  | 4 => exact hj rfl
  | 5 => cases h
  | 6 => exact hm k (by simpa using h)
  | 7 => exact hm c (by simpa using h)
  | 8 => exact hm a (by simpa using h)
  | 9 => exact hm x (by simpa using h)
  | 10 => exact hm d (by simpa using h)
  | j + 11 => simp at h
/-- what stands behind the first test of a turn: what was told, r; the words are ws' -/
def midLaw (C : Addr) (o : Str) (nc sz wd st wy rq : Nat) (al : Bool) (k : Nat) (t : Sys) (ws : List Int) (G : Gm) : Prop := ∃ (r : Option Sys) (ws' : List Int), (r = none → ws' = ws) ∧ (∀ t', r = some t' → SInv ⟨wd, st, wy, rq, al⟩ nc ((sz + wd - 1) / wd) t' ws' ∧ Bd (k + 1) t' ∧ ws'.length = sz) ∧
  GLe (gLaw (.d (encWd nc sz wd st wy rq al)) (cfgS C o ⟨wd, st, wy, rq, al⟩) ws' t none none none none (some (.d (encR encSys r)))) G
abbrev lawFor : Stmt := stAt sLaw 6
abbrev lawIf1 : Stmt := (forBody lawFor).getD 0 (.Pass ⟨0, 0, 0, 0⟩)
abbrev lawIf2 : Stmt := (forBody lawFor).getD 1 (.Pass ⟨0, 0, 0, 0⟩)
section
variable {f : Addr} {cdv : Value} {Ar : Around} {outer : List Env} {sh : Shared} {H H1 : Hp} {E : XK} {tt b : Addr} {ns : List Int} {o : Str} {nc sz wd st wy rq : Nat} {al : Bool} {k : Nat} {t : Sys} {ws : List Int}
theorem law_agr (L : LawC P w K mg base C) {G : Gm} {p p1 p2 p3 pos pos2 : Pos} (hr : Room 5 ((XO P w K mg base nLaw "law" sLaw f cdv Ar outer sh H E).A)) (ok : WdOk nc sz wd st wy rq) (I : SInv ⟨wd, st, wy, rq, al⟩ nc ((sz + wd - 1) / wd) t ws) (hw : ws.length = sz) (h3 : G[3]? = some (some (cfgS C o ⟨wd, st, wy, rq, al⟩))) (h5 : G[5]? = some (some (.d (encSys t)))) (h4 : G[4]? = some (some (.lst (ws.map D.int)))) :
    TD (XO P w K mg base nLaw "law" sLaw f cdv Ar outer sh H E) G (.UnaryOp .Not (.Call (.Name "_law_agrees" p) [.Name "_law_config_here" p1, .Name "_law_system" p2, .Name "_law_words" p3] [] pos) pos2) false :=
  td_not (td_val (pd_call L.agr (hr.mono (by decide)) (ad_cons (pd_var (i := 3) h3) (ad_cons (pd_var (i := 5) h5) (ad_cons (pd_var (i := 4) h4) ad_nil))) ⟨o, _, nc, _, t, ws, rfl, I, Nat.le_trans ok.wd2 (by decide), by have := ok.sz2; omega, rfl⟩))

abbrev gSub (k : Nat) (W Cf : S) (ws : List Int) (t : Sys) (c a x d : Option S) : Gm := gLaw W Cf ws t (some (.d (.int (k : Int)))) c a x d
theorem law_if1 (N : NoL mg) (L : LawC P w K mg base C) {Φ : S → Prop} (hr : Room 5 ((XO P w K mg base nLaw "law" sLaw f cdv Ar outer sh H E).A)) (ok : WdOk nc sz wd st wy rq) (I : SInv ⟨wd, st, wy, rq, al⟩ nc ((sz + wd - 1) / wd) t ws) (hb : Bd k t) (hk : k < 45) (hw : ws.length = sz) :
    NS (XO P w K mg base nLaw "law" sLaw f cdv Ar outer sh H E) (tLaw tt b ns H1) (gLaw (.d (encWd nc sz wd st wy rq al)) (cfgS C o ⟨wd, st, wy, rq, al⟩) ws t (some (.d (.int (k : Int)))) none none none none) lawIf1 (midLaw C o nc sz wd st wy rq al k t ws) Φ := by
  have nd := scLaw.nd
  obtain ⟨nc1, nc2, sz1, sz2, wd1, wd2, st1, st2, wy1, rq1⟩ := id ok
  have l1 := nl_pos sz1 wd1
  have l2 := nl_le sz2 wd2
  have b100 := bd_le hb (show k ≤ 100 by omega)
  have ssz := ssz_of I (by omega) (by omega) (by omega) b100
  have hlin : ∀ c e, e ∈ (t.cache c).lines → e.1 * wd < sz := fun c e he => by
    have := I.tig e.1 (I.lin c e he)
    rw [hw] at this
    exact this
  refine ns_if (nt_eqi (nd_draw L.draw (hr.mono (by decide)) pd_int (by decide) (by decide)) (nd_i pd_int)) (fun _ => ?_) (fun _ => ?_)
  · -- a word is written
    refine nb_set (j := 7) nd (nd_draw (m := (nc : Int)) L.draw (hr.mono (by decide)) (pd_ixc (j := 0) (pd_var (i := 2) rfl) rfl) (by omega) (by omega)) ?_
    rintro _ ⟨c, rfl, hc⟩
    obtain ⟨c, rfl⟩ := Int.eq_ofNat_of_zero_le hc.1
    have hcl : c < t.caches.length := by rw [I.ncl]; omega
    have hcn : c < nc := by omega
    refine nb_eq (by dsimp only [ini, List.map, List.set]) ?_
    refine nb_set (j := 8) nd (nd_call L.wrable (hr.mono (by decide)) (na_cons (nd_d (pd_var (i := 5) rfl)) (na_cons (nd_d (pd_var (i := 7) rfl)) (na_cons (nd_d (pd_var (i := 2) rfl)) na_nil))) (fun ss ⟨s1, r1, e1, h1, s2, r2, e2, h2, s3, r3, e3, h3, h4⟩ => by
      subst h4 h3 h2 h1 e3 e2 e1
      exact ⟨t, c, nc, sz, wd, st, wy, rq, al, rfl, ok, hcl, Nat.le_trans (b100.c c).1 (by decide), hlin c, rfl⟩)) ?_
    rintro _ ⟨a, rfl, ha⟩
    obtain ⟨a, rfl⟩ := Int.eq_ofNat_of_zero_le ha.1
    have haw : a < ws.length := by omega
    refine nb_eq (by dsimp only [ini, List.map, List.set]) ?_
    refine nb_set (j := 9) nd (nd_draw (m := 65536) L.draw (hr.mono (by decide)) pd_int (by decide) (by decide)) ?_
    rintro _ ⟨x, rfl, hx⟩
    refine nb_eq (by dsimp only [ini, List.map, List.set]) ?_
    refine nb_set (j := 10) nd (nd_d (pd_call L.wrt (hr.mono (by decide)) (ad_cons (pd_var (i := 3) rfl) (ad_cons (pd_var (i := 5) rfl) (ad_cons (pd_var (i := 7) rfl) (ad_cons (pd_var (i := 8) rfl) (ad_cons (pd_var (i := 9) rfl) ad_nil))))) ⟨o, ⟨wd, st, wy, rq, al⟩, t, c, a, x, rfl, hcl, ssz, I.lwp, Nat.le_trans wd2 (by decide), fun e he => ?_, rfl⟩)) ?_
    · have := (I.copy he).2
      rw [this, memL_len]
      exact Nat.le_trans (Nat.min_le_left ..) (Nat.le_trans wd2 (by decide))
    rintro _ rfl
    cases hwr : writtenS ⟨wd, st, wy, rq, al⟩ t c a x with
    | none =>
      refine nb_eq (by dsimp only [ini, List.map, List.set]) ?_
      refine nb_cons (Ψ1 := fun G' => G' = _) (ns_if (nt_of (td_cmp (cd_notN (pd_var (i := 10) rfl)))) (fun h => by cases h) (fun _ => nb_nil)) ?_
      rintro _ rfl
      exact nb_wk nb_nil fun G' e => ⟨none, ws, fun _ => rfl, (fun _ h => by cases h), by rw [e]; exact gle_same (gle_same (gle_same (gle_same (gle_same (gle_same (gle_none (gle_none (gle_none (gle_none (gle_same gle_nil))))))))))⟩
    | some t' =>
      obtain ⟨I2, e, he, hex⟩ := I.written hcn haw hwr
      have hcl2 : c < t'.caches.length := by rw [I2.ncl]; exact hcn
      have hrd : rdW ⟨wd, st, wy, rq, al⟩ (t'.cache c) a = some x := by
        unfold rdW
        rw [he]; exact hex
      have hb2 := hb.written hwr
      refine nb_eq (by dsimp only [ini, List.map, List.set]) ?_
      refine nb_cons (Ψ1 := fun G' => G' = gSub k (.d (encWd nc sz wd st wy rq al)) (cfgS C o ⟨wd, st, wy, rq, al⟩) (ws.set a x) t (some (.d (nD c))) (some (.d (nD a))) (some (.d (.int x))) (some (.d (encSys t')))) (ns_if (nt_of (td_cmp (cd_notN (pd_var (i := 10) rfl)))) (fun _ => ?_) (fun h => by cases h)) ?_
      · refine nb_cons (ns_lset (xs := ws) (i := a) (v := x) rfl (law_ho (k := some (.int k)) (c := some (nD c)) (a := some (nD a)) (x := some (.int x)) (d := some (encSys t')) (fun _ h => by cases h) (fun _ h => by cases h)) haw (pd_var (i := 9) rfl) (pd_var (i := 8) rfl)) ?_
        rintro _ rfl
        refine nb_eq (G2 := gSub k (.d (encWd nc sz wd st wy rq al)) (cfgS C o ⟨wd, st, wy, rq, al⟩) (ws.set a x) t (some (.d (nD c))) (some (.d (nD a))) (some (.d (.int x))) (some (.d (encSys t')))) rfl ?_
        refine nb_cons (Ψ1 := fun G' => G' = _) (ns_if (nt_of (td_not (td_val (pd_call L.same (hr.mono (by decide)) (ad_cons (pd_call L.read (hr.mono (by decide)) (ad_cons (pd_var (i := 3) rfl) (ad_cons (pd_ixN (j := c) (pd_ixc (j := 0) (pd_var (i := 10) rfl) rfl) (pd_var (i := 7) rfl) (cache_ix hcl2)) (ad_cons (pd_var (i := 8) rfl) ad_nil))) ⟨o, ⟨wd, st, wy, rq, al⟩, t'.cache c, a, rfl, I.lwp, Nat.le_trans wd2 (by decide), fun e' he' => ?_, by rw [hrd]; rfl⟩) (ad_cons (pd_var (i := 9) rfl) ad_nil)) ⟨x, x, rfl, rfl⟩)))) (fun h => by simp at h) (fun _ => nb_nil)) ?_
        · rw [he] at he'
          cases he'
          exact (List.getElem?_eq_some_iff.mp hex).1
        · rintro _ rfl
          exact nb_nil
      · rintro _ rfl
        exact nb_wk nb_nil fun G' e => ⟨some t', ws.set a x, (fun h => by cases h), (fun _ h => by cases h; exact ⟨I2, hb2, by simp [hw]⟩), by rw [e]; exact gle_same (gle_same (gle_same (gle_same (gle_same (gle_same (gle_none (gle_none (gle_none (gle_none (gle_same gle_nil))))))))))⟩
  · refine nb_cons (ns_set (j := 10) (Φ1 := fun s => ∃ a, actIn nc ((sz + wd - 1) / wd) a ∧ s = .d (encR encSys (nextS ⟨wd, st, wy, rq, al⟩ t a))) nd (nd_callD L.next hr (na_cons (nd_of (pd_var (i := 3) rfl) okS_obj) (na_cons (nd_d (pd_var (i := 5) rfl)) (na_cons (nd_call (Φ := fun s => ∃ a, s = .d (encAct a) ∧ actIn nc ((sz + wd - 1) / wd) a) L.action (hr.mono (by decide)) (na_cons (nd_d (pd_var (i := 5) rfl)) (na_cons (nd_d (pd_var (i := 2) rfl)) na_nil)) (fun ss ⟨s1, r1, e1, h1, s2, r2, e2, h2, h3⟩ => by
      subst h3 h2 h1 e2 e1
      exact ⟨t, nc, sz, wd, st, wy, rq, al, rfl, ok, I.ncl, Nat.le_trans b100.n (by decide), fun c => ⟨Nat.le_trans (b100.c c).1 (by decide), I.lin c⟩, rfl⟩)) na_nil))) (fun ss ⟨s1, r1, e1, h1, s2, r2, e2, h2, s3, r3, e3, ⟨a, h3, ha⟩, h4⟩ => by
      subst h4 h3 h2 h1 e3 e2 e1
      exact ⟨_, ⟨o, ⟨wd, st, wy, rq, al⟩, t, a, rfl, ok_next I (by omega) ha, (fun m hm => by rw [I.ncl, I.nh]; exact I.msg m hm), ssz, b100, I.lwp, Nat.le_trans wd2 (by decide), st1, rfl⟩, okS_d, a, ha, rfl⟩))) ?_
    rintro _ ⟨_, ⟨a, ha, rfl⟩, rfl⟩
    exact nb_wk nb_nil fun G' e => ⟨nextS ⟨wd, st, wy, rq, al⟩ t a, ws, fun _ => rfl, fun t' h => ⟨inv_next I ha h, bd_next hb h, hw⟩, by rw [e]; exact gle_same (gle_same (gle_same (gle_same (gle_same (gle_same (gle_none (gle_none (gle_none (gle_none (gle_same gle_nil))))))))))⟩
end
end
end Lit
end
section
namespace Lit
open PySem PySem.Spec PyProof.Rows L2 Dat Proto
section
variable {P : Program} {w : World} {K : PySem.W.Frag} {mg : Str → Option Value} {base : Heap} {C : Addr}

section
variable {f : Addr} {cdv : Value} {Ar : Around} {outer : List Env} {sh : Shared} {H H1 : Hp} {E : XK} {tt b : Addr} {ns : List Int} {o : Str} {nc sz wd st wy rq : Nat} {al : Bool} {k : Nat} {t : Sys} {ws : List Int}
abbrev isT (s : S) : Prop := s = .d (.bl true)
theorem law_turn (N : NoL mg) (L : LawC P w K mg base C) (hr : Room 5 ((XO P w K mg base nLaw "law" sLaw f cdv Ar outer sh H E).A)) (ok : WdOk nc sz wd st wy rq) (k : Nat) (G : Gm) (hk : k < 45) (hI : iLaw C o nc sz wd st wy rq al k G) :
    NB (XO P w K mg base nLaw "law" sLaw f cdv Ar outer sh H E) (tLaw tt b ns H1) (G.set 6 (some (.d (.int (k : Int))))) (forBody lawFor) (fun G' => ∃ G2, GLe G2 G' ∧ iLaw C o nc sz wd st wy rq al (k + 1) G2) isT := by
  have nd := scLaw.nd
  obtain ⟨t, ws, I, hb, hw, rfl⟩ := hI
  refine nb_eq (G2 := gLaw (.d (encWd nc sz wd st wy rq al)) (cfgS C o ⟨wd, st, wy, rq, al⟩) ws t (some (.d (.int (k : Int)))) none none none none) rfl ?_
  refine nb_cons (law_if1 N L hr ok I hb hk hw) ?_
  rintro G' ⟨r, ws', h1, h2, hle⟩
  refine nb_le hle ?_
  cases r with
  | none =>
    have := h1 rfl
    subst this
    refine nb_cons (Ψ1 := fun G' => G' = _) (ns_if (nt_of (td_cmp (cd_notN (pd_var (i := 10) rfl)))) (fun h => by cases h) (fun _ => nb_nil)) ?_
    rintro _ rfl
    exact nb_wk nb_nil fun G' e => ⟨gLaw (.d (encWd nc sz wd st wy rq al)) (cfgS C o ⟨wd, st, wy, rq, al⟩) ws' t none none none none none, by rw [e]; exact gle_same (gle_same (gle_same (gle_same (gle_same (gle_same (gle_none (gle_none (gle_none (gle_none (gle_none gle_nil)))))))))), t, ws', I, hb.mono, hw, rfl⟩
  | some t' =>
    obtain ⟨I2, hb2, hw2⟩ := h2 t' rfl
    refine nb_cons (Ψ1 := fun G' => G' = gLaw (.d (encWd nc sz wd st wy rq al)) (cfgS C o ⟨wd, st, wy, rq, al⟩) ws' t' none none none none (some (.d (encSys t')))) (ns_if (nt_of (td_cmp (cd_notN (pd_var (i := 10) rfl)))) (fun _ => ?_) (fun h => by cases h)) ?_
    · refine nb_set (j := 5) nd (nd_d (pd_var (i := 10) rfl)) ?_
      rintro _ rfl
      refine nb_eq (G2 := gLaw (.d (encWd nc sz wd st wy rq al)) (cfgS C o ⟨wd, st, wy, rq, al⟩) ws' t' none none none none (some (.d (encSys t')))) rfl ?_
      refine nb_cons (Ψ1 := fun G' => G' = _) (ns_if (nt_of (law_agr L hr ok I2 hw2 rfl rfl rfl)) (fun h => by cases h) (fun _ => nb_nil)) ?_
      rintro _ rfl
      exact nb_nil
    · rintro _ rfl
      exact nb_wk nb_nil fun G' e => ⟨gLaw (.d (encWd nc sz wd st wy rq al)) (cfgS C o ⟨wd, st, wy, rq, al⟩) ws' t' none none none none none, by rw [e]; exact gle_same (gle_same (gle_same (gle_same (gle_same (gle_same (gle_none (gle_none (gle_none (gle_none (gle_none gle_nil)))))))))), t', ws', I2, hb2, hw2, rfl⟩
theorem law_rest (N : NoL mg) (L : LawC P w K mg base C) (hr : Room 5 ((XO P w K mg base nLaw "law" sLaw f cdv Ar outer sh H E).A)) :
    NB (XO P w K mg base nLaw "law" sLaw f cdv Ar outer sh H E) (tLaw tt b ns H1) [none, none, none, none, none, none, none, none, none, none, none] ((defBody sLaw).drop 1) (fun _ => False) isT := by
  have nd := scLaw.nd
  refine nb_set (j := 2) nd (nd_call L.world (hr.mono (by decide)) na_nil (fun ss h => ⟨h, rfl⟩)) ?_
  rintro _ ⟨nc, sz, wd, st, wy, rq, al, rfl, ok⟩
  obtain ⟨nc1, nc2, sz1, sz2, wd1, wd2, st1, st2, wy1, rq1⟩ := id ok
  refine nb_eq (by dsimp only [ini, List.map, List.set]) ?_
  refine nb_set (j := 3) (Φ1 := fun s => ∃ o, s = cfgS C o ⟨wd, st, wy, rq, al⟩) nd (nd_call L.conf (hr.mono (by decide)) (na_cons (nd_d (pd_var (i := 2) rfl)) na_nil) (fun ss ⟨s1, r1, e1, h1, h2⟩ => by
    subst h2 h1 e1
    exact ⟨nc, sz, wd, st, wy, rq, al, rfl, rfl⟩)) ?_
  rintro _ ⟨o, rfl⟩
  refine nb_eq (by dsimp only [ini, List.map, List.set]) ?_
  refine nb_cons (ns_setF (j := 4) nd (nf_list (Φ := fun s => ∃ ws : List Int, s = .lst (ws.map D.int) ∧ ws.length = sz) N.list (nd_call (Φ := fun s => ∃ ws : List Int, s = .d (.tup (ws.map D.int)) ∧ ws.length = sz) L.fresh (hr.mono (by decide)) (na_cons (nd_d (pd_ixc (j := 1) (pd_var (i := 2) rfl) rfl)) na_nil) (fun ss ⟨s1, r1, e1, h1, h2⟩ => by
    subst h2 h1 e1
    exact ⟨sz, rfl, by omega, rfl⟩)) (fun s ⟨ws, h1, h2⟩ => ⟨ws, h1, ws, rfl, h2⟩))) ?_
  rintro _ ⟨_, ⟨ws, rfl, hws⟩, rfl⟩
  refine nb_eq (G2 := [none, none, some (.d (encWd nc sz wd st wy rq al)), some (cfgS C o ⟨wd, st, wy, rq, al⟩), some (.lst (ws.map D.int)), none, none, none, none, none, none]) rfl ?_
  have hz : PD (XO P w K mg base nLaw "law" sLaw f cdv Ar outer sh H E) [none, none, some (.d (encWd nc sz wd st wy rq al)), some (cfgS C o ⟨wd, st, wy, rq, al⟩), some (.lst (ws.map D.int)), none, none, none, none, none, none] (.Constant (.int 0) 0 ⟨0, 0, 0, 0⟩) (.int 0) := pd_int
  refine nb_set (j := 5) (Φ1 := fun s => s = .d (encSys (startSys ⟨wd, st, wy, rq, al⟩ nc ws))) nd (nd_d (pd_call L.start (hr.mono (by decide)) (ad_cons (pd_tu (at_cons (pd_tu (at_cons (pd_tu (at_cons pd_str at_nil)) at_nil)) (at_cons (pd_rep (n := nc) (pd_tu (at_cons pd_int at_nil)) (pd_ixc (j := 0) (pd_var (i := 2) rfl) rfl) (by simp) nc1 (by omega) (by decide)) (at_cons (pd_tupL N.tuple (pd_var (i := 4) rfl)) at_nil)))) (ad_cons (pd_var (i := 3) rfl) ad_nil)) ⟨o, ⟨wd, st, wy, rq, al⟩, _, List.replicate nc 0, ws, by rw [rep_zero]; rfl, wd1, Nat.le_trans wd2 (by decide), by simp; omega, by omega, by rw [List.length_replicate]⟩)) ?_
  rintro _ rfl
  have I0 : SInv ⟨wd, st, wy, rq, al⟩ nc ((sz + wd - 1) / wd) (startSys ⟨wd, st, wy, rq, al⟩ nc ws) ws := by
    have := SInv.start (cf := ⟨wd, st, wy, rq, al⟩) (nc := nc) (w := ws) wd1
    rw [hws] at this
    exact this
  refine nb_eq (G2 := gLaw (.d (encWd nc sz wd st wy rq al)) (cfgS C o ⟨wd, st, wy, rq, al⟩) ws (startSys ⟨wd, st, wy, rq, al⟩ nc ws) none none none none none) rfl ?_
  refine nb_cons (Ψ1 := fun G' => G' = _) (ns_if (nt_of (law_agr L hr ok I0 hws rfl rfl rfl)) (fun h => by cases h) (fun _ => nb_nil)) ?_
  rintro _ rfl
  refine nb_cons (ns_forR (i := 6) (I := iLaw C o nc sz wd st wy rq al) (M := 45) (R := fun n => n ≤ 45) .never rfl nd N.range (nd_wk (nd_draw (m := 46) L.draw (hr.mono (by decide)) pd_int (by decide) (by decide)) (fun s ⟨i, e, h⟩ => ⟨i, e, i.toNat, by omega, by omega⟩)) (fun n h => h) (by decide) ⟨_, ws, I0, Bd.start, hws, rfl⟩ (law_turn N L hr ok)) ?_
  rintro G' ⟨n, hn, hI⟩
  exact nb_ret (nd_d pd_bl)
end
theorem okLaw {f ft : Addr} {fd ftd : FuncData} (N : NoL mg) (L : LawC P w K mg base C) (FT' : Fun K "_law_tape" "_law_tape" sTape ft ftd) (hmt : mg "_law_tape" = some (.ref ft)) (hbt : Binds K ftd ["_law_script"] []) (F : Fun K "law" "law" sLaw f fd) : FnOk P w K mg base CX0 6 f fd ["_law_script"] (spLaw K) := by
  refine F.ok scLaw (fun vs H Q E ⟨_, _, h, _⟩ => by rw [h]; rfl) ?_
  rintro cdv A outer s H vs Q E hr ⟨a, ns, rfl, hS, hl, q⟩
  have nd := scLaw.nd
  have rest : PSs (XO P w K mg base nLaw "law" sLaw f cdv A outer s H E) ((defBody sLaw).drop 1) (fun D σ H' => ∃ (t b : Addr), σ = [some (.ref a), some (.ref t), none, none, none, none, none, none, none, none, none] ∧ TapeAt H' t b ns ∧ ∀ v H'', v = .bl true → D.rt v H'') := by
    refine ⟨fun pins s' σ H' D I ⟨t, b, hσ, ht, hd⟩ => (law_rest (tt := t) (b := b) (ns := ns) (H1 := H') N L hr).run pins s' σ H' D I ⟨⟨⟨by rw [hσ]; rfl, fun j s h => ?_⟩, ht, by rw [hσ]; rfl, fun j s h => ?_, .refl _ _, ht, fun c h => by rw [hσ] at h; cases h⟩, fun _ _ _ h => h.elim, fun s v H'' hs _ _ _ hi => ?_⟩⟩
    · exfalso
      match j with
      | 0 => cases h
      | 1 => cases h
      | 2 => cases h
      | 3 => cases h
      | 4 => cases h
      | 5 => cases h
      | 6 => cases h
      | 7 => cases h
      | 8 => cases h
      | 9 => cases h
      | 10 => cases h
      | j + 11 => simp at h
    · exfalso
      match j with
      | 0 => cases h
      | 1 => cases h
      | 2 => cases h
      | 3 => cases h
      | 4 => cases h
      | 5 => cases h
      | 6 => cases h
      | 7 => cases h
      | 8 => cases h
      | 9 => cases h
      | 10 => cases h
      | j + 11 => simp at h
    · have hs : s = .d (.bl true) := hs
      subst hs
      exact hd v H'' (isS_bl.mp hi)
  refine ⟨_, pss_cons (ps_set (i := 1) nd rfl (Or.inl rfl) (pe_call (okTape N FT') (hr.mono (by decide)) rfl hmt FT'.kp hbt .nil pass0 (pa_cons (pv 0) pa_nil))) rest, ?_⟩
  exact ⟨.ref a, rfl, a, ns, rfl, hS, fun t b H' ht => ⟨t, b, rfl, ht, fun v H'' hv => by subst hv; exact q H''⟩⟩

end
end Lit
end
section
namespace Lit
open PySem PySem.Spec PyProof.Rows L2 Dat Proto
theorem tup_of {K : PySem.W.Frag} {a : Addr} {od : Option Addr} {its : List Value} {n : Nat} {sl : Array (Option Value)} {ds : List D} {vs : List V} (l : K.lookup a = some ⟨.type "tuple", od, .seq its.toArray n, sl⟩) (hz : its.length ≤ 1000) (hv : Vals vs its) (hd : ∀ H, IsL K H ds vs) : ∀ H, Is K H (.tup ds) (.ref a) :=
  fun H => is_tup.mpr ⟨a, vs, rfl, .inr ⟨_, _, _, l, rfl, rfl, by rw [List.size_toArray]; exact Nat.le_trans hz (by decide), hv⟩, hd H⟩
theorem isL_c {K : PySem.W.Frag} {d : D} {ds : List D} {v : V} {vs : List V} (h : ∀ H, Is K H d v) (k : ∀ H, IsL K H ds vs) : ∀ H, IsL K H (d :: ds) (v :: vs) := fun H => isL_cons.mpr ⟨v, vs, rfl, h H, k H⟩
theorem isL_n {K : PySem.W.Frag} : ∀ H, IsL K H [] [] := fun H => isL_nil.mpr rfl
theorem all_mk {l : PySem.W.OpenLaw} {w : World} {K : PySem.W.Frag} {h : Heap} {mg : Str → Option Value}
  {fa C fI DI E0 E1 E2 E3 H0 H1 W0 T0a f0 f1 f2 f3 f4 f5 f6 f7 f8 f9 f10 f11 f12 f13 f14 f15 f16 f17 f18 f19 f20 f21 f22 f23 f24 f25 f26 f27 f28 f29 f30 f31 f32 f33 f34 f35 : Addr}
  {odI anI eod eod1 eod2 eod3 hod hod1 wod tod od0 an0 od1 an1 od2 an2 od3 an3 od4 an4 od5 an5 od6 an6 od7 an7 od8 an8 od9 an9 od10 an10 od11 an11 od12 an12 od13 an13 od14 an14 od15 an15 od16 an16 od17 an17 od18 an18 od19 an19 od20 an20 od21 an21 od22 an22 od23 an23 od24 an24 od25 an25 od26 an26 od27 an27 od28 an28 od29 an29 od30 an30 od31 an31 od32 an32 od33 an33 od34 an34 od35 an35 : Option Addr}
  {slI esl esl1 esl2 esl3 hsl hsl1 wsl tsl sl0 sl1 sl2 sl3 sl4 sl5 sl6 sl7 sl8 sl9 sl10 sl11 sl12 sl13 sl14 sl15 sl16 sl17 sl18 sl19 sl20 sl21 sl22 sl23 sl24 sl25 sl26 sl27 sl28 sl29 sl30 sl31 sl32 sl33 sl34 sl35 : Array (Option Value)}
  {ocI dcI pmI cdI ctI oc0 kV0 dc0 pm0 cd0 ct0 oc1 kV1 dc1 pm1 cd1 ct1 oc2 kV2 dc2 pm2 cd2 ct2 oc3 kV3 dc3 pm3 cd3 ct3 oc4 kV4 dc4 pm4 cd4 ct4 oc5 kV5 dc5 pm5 cd5 ct5 oc6 kV6 dc6 pm6 cd6 ct6 oc7 kV7 dc7 pm7 cd7 ct7 oc8 kV8 dc8 pm8 cd8 ct8 oc9 kV9 dc9 pm9 cd9 ct9 oc10 kV10 dc10 pm10 cd10 ct10 oc11 kV11 dc11 pm11 cd11 ct11 oc12 kV12 dc12 pm12 cd12 ct12 oc13 kV13 dc13 pm13 cd13 ct13 oc14 kV14 dc14 pm14 cd14 ct14 oc15 kV15 dc15 pm15 cd15 ct15 oc16 kV16 dc16 pm16 cd16 ct16 oc17 kV17 dc17 pm17 cd17 ct17 oc18 kV18 dc18 pm18 cd18 ct18 oc19 kV19 dc19 pm19 cd19 ct19 oc20 kV20 dc20 pm20 cd20 ct20 oc21 kV21 dc21 pm21 cd21 ct21 oc22 kV22 dc22 pm22 cd22 ct22 oc23 kV23 dc23 pm23 cd23 ct23 oc24 kV24 dc24 pm24 cd24 ct24 oc25 kV25 dc25 pm25 cd25 ct25 oc26 kV26 dc26 pm26 cd26 ct26 oc27 kV27 dc27 pm27 cd27 ct27 oc28 kV28 dc28 pm28 cd28 ct28 oc29 kV29 dc29 pm29 cd29 ct29 oc30 kV30 dc30 pm30 cd30 ct30 oc31 kV31 dc31 pm31 cd31 ct31 oc32 kV32 dc32 pm32 cd32 ct32 oc33 kV33 dc33 pm33 cd33 ct33 oc34 kV34 dc34 pm34 cd34 ct34 oc35 kV35 dc35 pm35 cd35 ct35 : Value}
  {enn enn1 enn2 enn3 hnn hnn1 wnn tnn : Nat} {t1 t3 t2 t4 t5 t6 wt1 wt2 wt3 tt1 tt2 tt3 tt4 : Tok}
  (X : K.In h) (G : h.Ns mainGlobals mg) (hfa : mg "law" = some (.ref fa))
  (a0 : PySem.W.nsIn K mainGlobals "entry_of" = some (some (.ref f0)))
  (l0 : K.lookup f0 = some ⟨oc0, od0, .func (PySem.W.fnOf "entry_of" "entry_of" (defArgs sEntryOf) (defBody sEntryOf) (defScope sEntryOf) .none kV0 dc0 pm0 an0 cd0 ct0), sl0⟩)
  (c0 : PySem.W.codeIn K cd0 "entry_of" = true)
  (k0 : PySem.W.keepIn K (.ref f0) = true)
  (a1 : PySem.W.nsIn K mainGlobals "without_line" = some (some (.ref f1)))
  (l1 : K.lookup f1 = some ⟨oc1, od1, .func (PySem.W.fnOf "without_line" "without_line" (defArgs sWithout) (defBody sWithout) (defScope sWithout) .none kV1 dc1 pm1 an1 cd1 ct1), sl1⟩)
  (c1 : PySem.W.codeIn K cd1 "without_line" = true)
  (k1 : PySem.W.keepIn K (.ref f1) = true)
  (a2 : PySem.W.nsIn K mainGlobals "with_entry" = some (some (.ref f2)))
  (l2 : K.lookup f2 = some ⟨oc2, od2, .func (PySem.W.fnOf "with_entry" "with_entry" (defArgs sWithE) (defBody sWithE) (defScope sWithE) .none kV2 dc2 pm2 an2 cd2 ct2), sl2⟩)
  (c2 : PySem.W.codeIn K cd2 "with_entry" = true)
  (k2 : PySem.W.keepIn K (.ref f2) = true)
  (a3 : PySem.W.nsIn K mainGlobals "occupied_ways" = some (some (.ref f3)))
  (l3 : K.lookup f3 = some ⟨oc3, od3, .func (PySem.W.fnOf "occupied_ways" "occupied_ways" (defArgs sOcc) (defBody sOcc) (defScope sOcc) .none kV3 dc3 pm3 an3 cd3 ct3), sl3⟩)
  (c3 : PySem.W.codeIn K cd3 "occupied_ways" = true)
  (k3 : PySem.W.keepIn K (.ref f3) = true)
  (a4 : PySem.W.nsIn K mainGlobals "read_word" = some (some (.ref f4)))
  (l4 : K.lookup f4 = some ⟨oc4, od4, .func (PySem.W.fnOf "read_word" "read_word" (defArgs sRead) (defBody sRead) (defScope sRead) .none kV4 dc4 pm4 an4 cd4 ct4), sl4⟩)
  (c4 : PySem.W.codeIn K cd4 "read_word" = true)
  (k4 : PySem.W.keepIn K (.ref f4) = true)
  (a5 : PySem.W.nsIn K mainGlobals "can_write" = some (some (.ref f5)))
  (l5 : K.lookup f5 = some ⟨oc5, od5, .func (PySem.W.fnOf "can_write" "can_write" (defArgs sCanW) (defBody sCanW) (defScope sCanW) .none kV5 dc5 pm5 an5 cd5 ct5), sl5⟩)
  (c5 : PySem.W.codeIn K cd5 "can_write" = true)
  (k5 : PySem.W.keepIn K (.ref f5) = true)
  (a6 : PySem.W.nsIn K mainGlobals "write_word" = some (some (.ref f6)))
  (l6 : K.lookup f6 = some ⟨oc6, od6, .func (PySem.W.fnOf "write_word" "write_word" (defArgs sWrite) (defBody sWrite) (defScope sWrite) .none kV6 dc6 pm6 an6 cd6 ct6), sl6⟩)
  (c6 : PySem.W.codeIn K cd6 "write_word" = true)
  (k6 : PySem.W.keepIn K (.ref f6) = true)
  (a7 : PySem.W.nsIn K mainGlobals "request_line" = some (some (.ref f7)))
  (l7 : K.lookup f7 = some ⟨oc7, od7, .func (PySem.W.fnOf "request_line" "request_line" (defArgs sReq) (defBody sReq) (defScope sReq) .none kV7 dc7 pm7 an7 cd7 ct7), sl7⟩)
  (c7 : PySem.W.codeIn K cd7 "request_line" = true)
  (k7 : PySem.W.keepIn K (.ref f7) = true)
  (a8 : PySem.W.nsIn K mainGlobals "give_up_line" = some (some (.ref f8)))
  (l8 : K.lookup f8 = some ⟨oc8, od8, .func (PySem.W.fnOf "give_up_line" "give_up_line" (defArgs sGive) (defBody sGive) (defScope sGive) .none kV8 dc8 pm8 an8 cd8 ct8), sl8⟩)
  (c8 : PySem.W.codeIn K cd8 "give_up_line" = true)
  (k8 : PySem.W.keepIn K (.ref f8) = true)
  (a9 : PySem.W.nsIn K mainGlobals "after_recall" = some (some (.ref f9)))
  (l9 : K.lookup f9 = some ⟨oc9, od9, .func (PySem.W.fnOf "after_recall" "after_recall" (defArgs sAfter) (defBody sAfter) (defScope sAfter) .none kV9 dc9 pm9 an9 cd9 ct9), sl9⟩)
  (c9 : PySem.W.codeIn K cd9 "after_recall" = true)
  (k9 : PySem.W.keepIn K (.ref f9) = true)
  (a10 : PySem.W.nsIn K mainGlobals "cache_receives" = some (some (.ref f10)))
  (l10 : K.lookup f10 = some ⟨oc10, od10, .func (PySem.W.fnOf "cache_receives" "cache_receives" (defArgs sRecv) (defBody sRecv) (defScope sRecv) .none kV10 dc10 pm10 an10 cd10 ct10), sl10⟩)
  (c10 : PySem.W.codeIn K cd10 "cache_receives" = true)
  (k10 : PySem.W.keepIn K (.ref f10) = true)
  (a11 : PySem.W.nsIn K mainGlobals "can_receive" = some (some (.ref f11)))
  (l11 : K.lookup f11 = some ⟨oc11, od11, .func (PySem.W.fnOf "can_receive" "can_receive" (defArgs sCanR) (defBody sCanR) (defScope sCanR) .none kV11 dc11 pm11 an11 cd11 ct11), sl11⟩)
  (c11 : PySem.W.codeIn K cd11 "can_receive" = true)
  (k11 : PySem.W.keepIn K (.ref f11) = true)
  (a12 : PySem.W.nsIn K mainGlobals "begun" = some (some (.ref f12)))
  (l12 : K.lookup f12 = some ⟨oc12, od12, .func (PySem.W.fnOf "begun" "begun" (defArgs sBegun) (defBody sBegun) (defScope sBegun) .none kV12 dc12 pm12 an12 cd12 ct12), sl12⟩)
  (c12 : PySem.W.codeIn K cd12 "begun" = true)
  (k12 : PySem.W.keepIn K (.ref f12) = true)
  (a13 : PySem.W.nsIn K mainGlobals "invalidated" = some (some (.ref f13)))
  (l13 : K.lookup f13 = some ⟨oc13, od13, .func (PySem.W.fnOf "invalidated" "invalidated" (defArgs sInvd) (defBody sInvd) (defScope sInvd) .none kV13 dc13 pm13 an13 cd13 ct13), sl13⟩)
  (c13 : PySem.W.codeIn K cd13 "invalidated" = true)
  (k13 : PySem.W.keepIn K (.ref f13) = true)
  (a14 : PySem.W.nsIn K mainGlobals "returned" = some (some (.ref f14)))
  (l14 : K.lookup f14 = some ⟨oc14, od14, .func (PySem.W.fnOf "returned" "returned" (defArgs sRet) (defBody sRet) (defScope sRet) .none kV14 dc14 pm14 an14 cd14 ct14), sl14⟩)
  (c14 : PySem.W.codeIn K cd14 "returned" = true)
  (k14 : PySem.W.keepIn K (.ref f14) = true)
  (a15 : PySem.W.nsIn K mainGlobals "grant_if_ready" = some (some (.ref f15)))
  (l15 : K.lookup f15 = some ⟨oc15, od15, .func (PySem.W.fnOf "grant_if_ready" "grant_if_ready" (defArgs sGrant) (defBody sGrant) (defScope sGrant) .none kV15 dc15 pm15 an15 cd15 ct15), sl15⟩)
  (c15 : PySem.W.codeIn K cd15 "grant_if_ready" = true)
  (k15 : PySem.W.keepIn K (.ref f15) = true)
  (a16 : PySem.W.nsIn K mainGlobals "home_receives" = some (some (.ref f16)))
  (l16 : K.lookup f16 = some ⟨oc16, od16, .func (PySem.W.fnOf "home_receives" "home_receives" (defArgs sHome) (defBody sHome) (defScope sHome) .none kV16 dc16 pm16 an16 cd16 ct16), sl16⟩)
  (c16 : PySem.W.codeIn K cd16 "home_receives" = true)
  (k16 : PySem.W.keepIn K (.ref f16) = true)
  (a17 : PySem.W.nsIn K mainGlobals "replaced" = some (some (.ref f17)))
  (l17 : K.lookup f17 = some ⟨oc17, od17, .func (PySem.W.fnOf "replaced" "replaced" (defArgs sRepl) (defBody sRepl) (defScope sRepl) .none kV17 dc17 pm17 an17 cd17 ct17), sl17⟩)
  (c17 : PySem.W.codeIn K cd17 "replaced" = true)
  (k17 : PySem.W.keepIn K (.ref f17) = true)
  (a18 : PySem.W.nsIn K mainGlobals "start_system" = some (some (.ref f18)))
  (l18 : K.lookup f18 = some ⟨oc18, od18, .func (PySem.W.fnOf "start_system" "start_system" (defArgs sStart) (defBody sStart) (defScope sStart) .none kV18 dc18 pm18 an18 cd18 ct18), sl18⟩)
  (c18 : PySem.W.codeIn K cd18 "start_system" = true)
  (k18 : PySem.W.keepIn K (.ref f18) = true)
  (a19 : PySem.W.nsIn K mainGlobals "deliverable" = some (some (.ref f19)))
  (l19 : K.lookup f19 = some ⟨oc19, od19, .func (PySem.W.fnOf "deliverable" "deliverable" (defArgs sDeliv) (defBody sDeliv) (defScope sDeliv) .none kV19 dc19 pm19 an19 cd19 ct19), sl19⟩)
  (c19 : PySem.W.codeIn K cd19 "deliverable" = true)
  (k19 : PySem.W.keepIn K (.ref f19) = true)
  (a20 : PySem.W.nsIn K mainGlobals "delivered" = some (some (.ref f20)))
  (l20 : K.lookup f20 = some ⟨oc20, od20, .func (PySem.W.fnOf "delivered" "delivered" (defArgs sDelivd) (defBody sDelivd) (defScope sDelivd) .none kV20 dc20 pm20 an20 cd20 ct20), sl20⟩)
  (c20 : PySem.W.codeIn K cd20 "delivered" = true)
  (k20 : PySem.W.keepIn K (.ref f20) = true)
  (a21 : PySem.W.nsIn K mainGlobals "next_system" = some (some (.ref f21)))
  (l21 : K.lookup f21 = some ⟨oc21, od21, .func (PySem.W.fnOf "next_system" "next_system" (defArgs sNext) (defBody sNext) (defScope sNext) .none kV21 dc21 pm21 an21 cd21 ct21), sl21⟩)
  (c21 : PySem.W.codeIn K cd21 "next_system" = true)
  (k21 : PySem.W.keepIn K (.ref f21) = true)
  (a22 : PySem.W.nsIn K mainGlobals "written" = some (some (.ref f22)))
  (l22 : K.lookup f22 = some ⟨oc22, od22, .func (PySem.W.fnOf "written" "written" (defArgs sWrittn) (defBody sWrittn) (defScope sWrittn) .none kV22 dc22 pm22 an22 cd22 ct22), sl22⟩)
  (c22 : PySem.W.codeIn K cd22 "written" = true)
  (k22 : PySem.W.keepIn K (.ref f22) = true)
  (a23 : PySem.W.nsIn K mainGlobals "carried_words" = some (some (.ref f23)))
  (l23 : K.lookup f23 = some ⟨oc23, od23, .func (PySem.W.fnOf "carried_words" "carried_words" (defArgs sCarr) (defBody sCarr) (defScope sCarr) .none kV23 dc23 pm23 an23 cd23 ct23), sl23⟩)
  (c23 : PySem.W.codeIn K cd23 "carried_words" = true)
  (k23 : PySem.W.keepIn K (.ref f23) = true)
  (a24 : PySem.W.nsIn K mainGlobals "coherent_words" = some (some (.ref f24)))
  (l24 : K.lookup f24 = some ⟨oc24, od24, .func (PySem.W.fnOf "coherent_words" "coherent_words" (defArgs sCohW) (defBody sCohW) (defScope sCohW) .none kV24 dc24 pm24 an24 cd24 ct24), sl24⟩)
  (c24 : PySem.W.codeIn K cd24 "coherent_words" = true)
  (k24 : PySem.W.keepIn K (.ref f24) = true)
  (a25 : PySem.W.nsIn K mainGlobals "coherent_word" = some (some (.ref f25)))
  (l25 : K.lookup f25 = some ⟨oc25, od25, .func (PySem.W.fnOf "coherent_word" "coherent_word" (defArgs sCoh) (defBody sCoh) (defScope sCoh) .none kV25 dc25 pm25 an25 cd25 ct25), sl25⟩)
  (c25 : PySem.W.codeIn K cd25 "coherent_word" = true)
  (k25 : PySem.W.keepIn K (.ref f25) = true)
  (a26 : PySem.W.nsIn K mainGlobals "_law_tape" = some (some (.ref f26)))
  (l26 : K.lookup f26 = some ⟨oc26, od26, .func (PySem.W.fnOf "_law_tape" "_law_tape" (defArgs sTape) (defBody sTape) (defScope sTape) .none kV26 dc26 pm26 an26 cd26 ct26), sl26⟩)
  (c26 : PySem.W.codeIn K cd26 "_law_tape" = true)
  (k26 : PySem.W.keepIn K (.ref f26) = true)
  (a27 : PySem.W.nsIn K mainGlobals "_law_draw" = some (some (.ref f27)))
  (l27 : K.lookup f27 = some ⟨oc27, od27, .func (PySem.W.fnOf "_law_draw" "_law_draw" (defArgs sDraw) (defBody sDraw) (defScope sDraw) .none kV27 dc27 pm27 an27 cd27 ct27), sl27⟩)
  (c27 : PySem.W.codeIn K cd27 "_law_draw" = true)
  (k27 : PySem.W.keepIn K (.ref f27) = true)
  (a28 : PySem.W.nsIn K mainGlobals "_law_world" = some (some (.ref f28)))
  (l28 : K.lookup f28 = some ⟨oc28, od28, .func (PySem.W.fnOf "_law_world" "_law_world" (defArgs sWorld) (defBody sWorld) (defScope sWorld) .none kV28 dc28 pm28 an28 cd28 ct28), sl28⟩)
  (c28 : PySem.W.codeIn K cd28 "_law_world" = true)
  (k28 : PySem.W.keepIn K (.ref f28) = true)
  (a29 : PySem.W.nsIn K mainGlobals "_law_config" = some (some (.ref f29)))
  (l29 : K.lookup f29 = some ⟨oc29, od29, .func (PySem.W.fnOf "_law_config" "_law_config" (defArgs sConf) (defBody sConf) (defScope sConf) .none kV29 dc29 pm29 an29 cd29 ct29), sl29⟩)
  (c29 : PySem.W.codeIn K cd29 "_law_config" = true)
  (k29 : PySem.W.keepIn K (.ref f29) = true)
  (a30 : PySem.W.nsIn K mainGlobals "_law_fresh" = some (some (.ref f30)))
  (l30 : K.lookup f30 = some ⟨oc30, od30, .func (PySem.W.fnOf "_law_fresh" "_law_fresh" (defArgs sFresh) (defBody sFresh) (defScope sFresh) .none kV30 dc30 pm30 an30 cd30 ct30), sl30⟩)
  (c30 : PySem.W.codeIn K cd30 "_law_fresh" = true)
  (k30 : PySem.W.keepIn K (.ref f30) = true)
  (a31 : PySem.W.nsIn K mainGlobals "_law_same" = some (some (.ref f31)))
  (l31 : K.lookup f31 = some ⟨oc31, od31, .func (PySem.W.fnOf "_law_same" "_law_same" (defArgs sSame) (defBody sSame) (defScope sSame) .none kV31 dc31 pm31 an31 cd31 ct31), sl31⟩)
  (c31 : PySem.W.codeIn K cd31 "_law_same" = true)
  (k31 : PySem.W.keepIn K (.ref f31) = true)
  (a32 : PySem.W.nsIn K mainGlobals "_law_action" = some (some (.ref f32)))
  (l32 : K.lookup f32 = some ⟨oc32, od32, .func (PySem.W.fnOf "_law_action" "_law_action" (defArgs sAction) (defBody sAction) (defScope sAction) .none kV32 dc32 pm32 an32 cd32 ct32), sl32⟩)
  (c32 : PySem.W.codeIn K cd32 "_law_action" = true)
  (k32 : PySem.W.keepIn K (.ref f32) = true)
  (a33 : PySem.W.nsIn K mainGlobals "_law_writable" = some (some (.ref f33)))
  (l33 : K.lookup f33 = some ⟨oc33, od33, .func (PySem.W.fnOf "_law_writable" "_law_writable" (defArgs sWrable) (defBody sWrable) (defScope sWrable) .none kV33 dc33 pm33 an33 cd33 ct33), sl33⟩)
  (c33 : PySem.W.codeIn K cd33 "_law_writable" = true)
  (k33 : PySem.W.keepIn K (.ref f33) = true)
  (a34 : PySem.W.nsIn K mainGlobals "_law_agrees" = some (some (.ref f34)))
  (l34 : K.lookup f34 = some ⟨oc34, od34, .func (PySem.W.fnOf "_law_agrees" "_law_agrees" (defArgs sAgr) (defBody sAgr) (defScope sAgr) .none kV34 dc34 pm34 an34 cd34 ct34), sl34⟩)
  (c34 : PySem.W.codeIn K cd34 "_law_agrees" = true)
  (k34 : PySem.W.keepIn K (.ref f34) = true)
  (a35 : PySem.W.nsIn K mainGlobals "law" = some (some (.ref f35)))
  (l35 : K.lookup f35 = some ⟨oc35, od35, .func (PySem.W.fnOf "law" "law" (defArgs sLaw) (defBody sLaw) (defScope sLaw) .none kV35 dc35 pm35 an35 cd35 ct35), sl35⟩)
  (c35 : PySem.W.codeIn K cd35 "law" = true)
  (k35 : PySem.W.keepIn K (.ref f35) = true)
  (aC : PySem.W.nsIn K mainGlobals "Config" = some (some (.ref C)))
  (iA : PySem.W.findIn K (.ref C) "__init__" = some (some (.ref fI)))
  (iB : PySem.W.isFn K (.ref fI) = true)
  (iL : K.lookup fI = some ⟨ocI, odI, .func (PySem.W.fnOf "__init__" "Config.__init__" (defArgs sInit) (defBody sInit) (defScope sInit) .none (.ref DI) dcI pmI anI cdI ctI), slI⟩)
  (iC : PySem.W.codeIn K cdI "Config.__init__" = true)
  (iK : PySem.W.keepIn K (.ref fI) = true)
  (d1 : PySem.W.nsIn K DI "reorder_buffer" = some (some (.int 4 t1)))
  (d2 : PySem.W.nsIn K DI "store_buffer" = some (some (.int 2 t2)))
  (d3 : PySem.W.nsIn K DI "line_words" = some (some (.int 1 t3)))
  (d4 : PySem.W.nsIn K DI "sets" = some (some (.int 1 t4)))
  (d5 : PySem.W.nsIn K DI "ways" = some (some (.int 4 t5)))
  (d6 : PySem.W.nsIn K DI "requests" = some (some (.int 1 t6)))
  (d7 : PySem.W.nsIn K DI "exclusive_state" = some (some (.bool true)))
  (pgC : PySem.W.plainGet K C Str.empty = true)
  (hdC : PySem.W.hasDictIn K C = true)
  (poC : PySem.W.plainOver K C = true)
  (saC : PySem.W.findIn K (.ref C) "__setattr__" = some (some (.builtin "object.__setattr__")))
  (mkC : PySem.W.makesIn K C = true)
  (kcC : PySem.W.keepIn K (.ref C) = true)
  (n0 : PySem.W.findIn K (.ref C) "order" = some none)
  (n1 : PySem.W.findIn K (.ref C) "reorder_buffer" = some none)
  (n2 : PySem.W.findIn K (.ref C) "store_buffer" = some none)
  (n3 : PySem.W.findIn K (.ref C) "line_words" = some none)
  (n4 : PySem.W.findIn K (.ref C) "sets" = some none)
  (n5 : PySem.W.findIn K (.ref C) "ways" = some none)
  (n6 : PySem.W.findIn K (.ref C) "requests" = some none)
  (n7 : PySem.W.findIn K (.ref C) "exclusive_state" = some none)
  (z0 : PySem.W.nsIn K mainGlobals "len" = some none)
  (z1 : PySem.W.nsIn K mainGlobals "tuple" = some none)
  (z2 : PySem.W.nsIn K mainGlobals "range" = some none)
  (z3 : PySem.W.nsIn K mainGlobals "enumerate" = some none)
  (z4 : PySem.W.nsIn K mainGlobals "int" = some none)
  (z5 : PySem.W.nsIn K mainGlobals "abs" = some none)
  (z6 : PySem.W.nsIn K mainGlobals "max" = some none)
  (z7 : PySem.W.nsIn K mainGlobals "min" = some none)
  (z8 : PySem.W.nsIn K mainGlobals "list" = some none)
  (z9 : PySem.W.nsIn K mainGlobals "isinstance" = some none)
  (z10 : PySem.W.nsIn K mainGlobals "bool" = some none)
  (z11 : PySem.W.nsIn K mainGlobals "str" = some none)
  (gE : PySem.W.nsIn K mainGlobals "EMPTY_CACHE" = some (some (.ref E0)))
  (gEl : K.lookup E0 = some ⟨.type "tuple", eod, .seq #[.ref E1, .ref E2, .ref E3] enn, esl⟩)
  (gE1 : K.lookup E1 = some ⟨.type "tuple", eod1, .seq #[] enn1, esl1⟩)
  (gE2 : K.lookup E2 = some ⟨.type "tuple", eod2, .seq #[] enn2, esl2⟩)
  (gE3 : K.lookup E3 = some ⟨.type "tuple", eod3, .seq #[] enn3, esl3⟩)
  (gH : PySem.W.nsIn K mainGlobals "START_HOME" = some (some (.ref H0)))
  (gHl : K.lookup H0 = some ⟨.type "tuple", hod, .seq #[.none, .ref H1, .none] hnn, hsl⟩)
  (gH1 : K.lookup H1 = some ⟨.type "tuple", hod1, .seq #[] hnn1, hsl1⟩)
  (gW : PySem.W.nsIn K mainGlobals "WAITS_FOR_SERVICE" = some (some (.ref W0)))
  (gWl : K.lookup W0 = some ⟨.type "tuple", wod, .seq #[.str "get shared" wt1, .str "get modified" wt2, .str "give up" wt3] wnn, wsl⟩)
  (gT : PySem.W.nsIn K mainGlobals "TO_CACHES" = some (some (.ref T0a)))
  (gTl : K.lookup T0a = some ⟨.type "tuple", tod, .seq #[.str "invalidate" tt1, .str "recall" tt2, .str "grant" tt3, .str "confirm" tt4] tnn, tsl⟩)
  : ∃ fd : FuncData, (∀ (s : Shared) (v : Value), BindsTo s fd ⟨[v], []⟩ [("_law_script", v)]) ∧ ∀ base : Heap, K.In base → base.Ns mainGlobals mg → FnOk l.prog w K mg base CX0 6 fa fd ["_law_script"] (spLaw K) := by
  have e := hfa.symm.trans (PySem.W.mg_of X G a35)
  cases e
  have y0 := PySem.W.mg_none_of X G z0
  have y1 := PySem.W.mg_none_of X G z1
  have y2 := PySem.W.mg_none_of X G z2
  have y3 := PySem.W.mg_none_of X G z3
  have y4 := PySem.W.mg_none_of X G z4
  have y5 := PySem.W.mg_none_of X G z5
  have y6 := PySem.W.mg_none_of X G z6
  have y7 := PySem.W.mg_none_of X G z7
  have y8 := PySem.W.mg_none_of X G z8
  have y9 := PySem.W.mg_none_of X G z9
  have y10 := PySem.W.mg_none_of X G z10
  have y11 := PySem.W.mg_none_of X G z11
  have N : NoG mg := ⟨y0, y1, y2⟩
  have N2 : NoG2 mg := ⟨y9, y1, y10, y4⟩
  have N3 : NoL mg := ⟨y4, y5, y0, y6, y7, y8, y2, y1⟩
  have T : CfgN K C := ⟨⟨⟨pgC, hdC, poC, saC⟩, n3, n4, n5, n6, n7⟩, n0, n1, n2⟩
  have T0 := T.toCfgT
  have FI : FunD K "__init__" "Config.__init__" (defArgs sInit) (defBody sInit) (defScope sInit) [] dfInit fI _ := ⟨⟨_, _, _, _, _, _, _, _, _, _, rfl, iL, iC, .inl ⟨rfl, rfl⟩, .inr ⟨DI, rfl, fun q hq => by
    simp only [dfInit, List.mem_cons, List.not_mem_nil, or_false] at hq
    rcases hq with rfl | rfl | rfl | rfl | rfl | rfl | rfl
    · exact ⟨_, d1, _, rfl⟩
    · exact ⟨_, d2, _, rfl⟩
    · exact ⟨_, d3, _, rfl⟩
    · exact ⟨_, d4, _, rfl⟩
    · exact ⟨_, d5, _, rfl⟩
    · exact ⟨_, d6, _, rfl⟩
    · exact ⟨_, d7, rfl⟩⟩⟩, iK⟩
  have Ge : GlD K mg "EMPTY_CACHE" (encC .empty) := ⟨E0, PySem.W.mg_of X G gE, tup_of (vs := [.ref E1, .ref E2, .ref E3]) gEl (Nat.le_of_ble_eq_true rfl) (.cons rfl (.cons rfl (.cons rfl .nil))) (isL_c (tup_of (vs := []) (its := []) gE1 (by decide) .nil isL_n) (isL_c (tup_of (vs := []) (its := []) gE2 (by decide) .nil isL_n) (isL_c (tup_of (vs := []) (its := []) gE3 (by decide) .nil isL_n) isL_n)))⟩
  have Gh : GlD K mg "START_HOME" (encH hStart) := ⟨H0, PySem.W.mg_of X G gH, tup_of (vs := [.non, .ref H1, .non]) gHl (Nat.le_of_ble_eq_true rfl) (.cons rfl (.cons rfl (.cons rfl .nil))) (isL_c (fun _ => is_non.mpr rfl) (isL_c (tup_of (vs := []) (its := []) gH1 (by decide) .nil isL_n) (isL_c (fun _ => is_non.mpr rfl) isL_n)))⟩
  have Gw : GlD K mg "WAITS_FOR_SERVICE" dWaits := ⟨W0, PySem.W.mg_of X G gW, tup_of (vs := [.str "get shared", .str "get modified", .str "give up"]) gWl (Nat.le_of_ble_eq_true rfl) (.cons ⟨_, rfl⟩ (.cons ⟨_, rfl⟩ (.cons ⟨_, rfl⟩ .nil))) (isL_c (fun _ => is_str.mpr rfl) (isL_c (fun _ => is_str.mpr rfl) (isL_c (fun _ => is_str.mpr rfl) isL_n)))⟩
  have Gt : GlD K mg "TO_CACHES" dToC := ⟨T0a, PySem.W.mg_of X G gT, tup_of (vs := [.str "invalidate", .str "recall", .str "grant", .str "confirm"]) gTl (Nat.le_of_ble_eq_true rfl) (.cons ⟨_, rfl⟩ (.cons ⟨_, rfl⟩ (.cons ⟨_, rfl⟩ (.cons ⟨_, rfl⟩ .nil)))) (isL_c (fun _ => is_str.mpr rfl) (isL_c (fun _ => is_str.mpr rfl) (isL_c (fun _ => is_str.mpr rfl) (isL_c (fun _ => is_str.mpr rfl) isL_n))))⟩
  have F0 := fun_mk (st := sEntryOf) l0 c0 k0
  have b0 := F0.binds (ps := ["entries", "line"]) fun _ _ _ _ _ _ us hl => match us, hl with | [_, _], _ => rfl
  have m0 := PySem.W.mg_of X G a0
  have F1 := fun_mk (st := sWithout) l1 c1 k1
  have b1 := F1.binds (ps := ["entries", "line"]) fun _ _ _ _ _ _ us hl => match us, hl with | [_, _], _ => rfl
  have m1 := PySem.W.mg_of X G a1
  have F2 := fun_mk (st := sWithE) l2 c2 k2
  have b2 := F2.binds (ps := ["entries", "new"]) fun _ _ _ _ _ _ us hl => match us, hl with | [_, _], _ => rfl
  have m2 := PySem.W.mg_of X G a2
  have F3 := fun_mk (st := sOcc) l3 c3 k3
  have b3 := F3.binds (ps := ["config", "cache", "line"]) fun _ _ _ _ _ _ us hl => match us, hl with | [_, _, _], _ => rfl
  have m3 := PySem.W.mg_of X G a3
  have F4 := fun_mk (st := sRead) l4 c4 k4
  have b4 := F4.binds (ps := ["config", "cache", "address"]) fun _ _ _ _ _ _ us hl => match us, hl with | [_, _, _], _ => rfl
  have m4 := PySem.W.mg_of X G a4
  have F5 := fun_mk (st := sCanW) l5 c5 k5
  have b5 := F5.binds (ps := ["config", "cache", "address"]) fun _ _ _ _ _ _ us hl => match us, hl with | [_, _, _], _ => rfl
  have m5 := PySem.W.mg_of X G a5
  have F6 := fun_mk (st := sWrite) l6 c6 k6
  have b6 := F6.binds (ps := ["config", "cache", "address", "word"]) fun _ _ _ _ _ _ us hl => match us, hl with | [_, _, _, _], _ => rfl
  have m6 := PySem.W.mg_of X G a6
  have F7 := fun_mk (st := sReq) l7 c7 k7
  have b7 := F7.binds (ps := ["config", "cache", "core", "line", "exclusive"]) fun _ _ _ _ _ _ us hl => match us, hl with | [_, _, _, _, _], _ => rfl
  have m7 := PySem.W.mg_of X G a7
  have F8 := fun_mk (st := sGive) l8 c8 k8
  have b8 := F8.binds (ps := ["cache", "core", "line"]) fun _ _ _ _ _ _ us hl => match us, hl with | [_, _, _], _ => rfl
  have m8 := PySem.W.mg_of X G a8
  have F9 := fun_mk (st := sAfter) l9 c9 k9
  have b9 := F9.binds (ps := ["cache", "message"]) fun _ _ _ _ _ _ us hl => match us, hl with | [_, _], _ => rfl
  have m9 := PySem.W.mg_of X G a9
  have F10 := fun_mk (st := sRecv) l10 c10 k10
  have b10 := F10.binds (ps := ["cache", "message"]) fun _ _ _ _ _ _ us hl => match us, hl with | [_, _], _ => rfl
  have m10 := PySem.W.mg_of X G a10
  have F11 := fun_mk (st := sCanR) l11 c11 k11
  have b11 := F11.binds (ps := ["home", "message"]) fun _ _ _ _ _ _ us hl => match us, hl with | [_, _], _ => rfl
  have m11 := PySem.W.mg_of X G a11
  have F12 := fun_mk (st := sBegun) l12 c12 k12
  have b12 := F12.binds (ps := ["home", "words", "message"]) fun _ _ _ _ _ _ us hl => match us, hl with | [_, _, _], _ => rfl
  have m12 := PySem.W.mg_of X G a12
  have F13 := fun_mk (st := sInvd) l13 c13 k13
  have b13 := F13.binds (ps := ["home", "sharer"]) fun _ _ _ _ _ _ us hl => match us, hl with | [_, _], _ => rfl
  have m13 := PySem.W.mg_of X G a13
  have F14 := fun_mk (st := sRet) l14 c14 k14
  have b14 := F14.binds (ps := ["home", "message"]) fun _ _ _ _ _ _ us hl => match us, hl with | [_, _], _ => rfl
  have m14 := PySem.W.mg_of X G a14
  have F15 := fun_mk (st := sGrant) l15 c15 k15
  have b15 := F15.binds (ps := ["config", "home", "line"]) fun _ _ _ _ _ _ us hl => match us, hl with | [_, _, _], _ => rfl
  have m15 := PySem.W.mg_of X G a15
  have F16 := fun_mk (st := sHome) l16 c16 k16
  have b16 := F16.binds (ps := ["config", "home", "words", "message"]) fun _ _ _ _ _ _ us hl => match us, hl with | [_, _, _, _], _ => rfl
  have m16 := PySem.W.mg_of X G a16
  have F17 := fun_mk (st := sRepl) l17 c17 k17
  have b17 := F17.binds (ps := ["parts", "index", "part"]) fun _ _ _ _ _ _ us hl => match us, hl with | [_, _, _], _ => rfl
  have m17 := PySem.W.mg_of X G a17
  have F18 := fun_mk (st := sStart) l18 c18 k18
  have b18 := F18.binds (ps := ["program", "config"]) fun _ _ _ _ _ _ us hl => match us, hl with | [_, _], _ => rfl
  have m18 := PySem.W.mg_of X G a18
  have F19 := fun_mk (st := sDeliv) l19 c19 k19
  have b19 := F19.binds (ps := ["system"]) fun _ _ _ _ _ _ us hl => match us, hl with | [_], _ => rfl
  have m19 := PySem.W.mg_of X G a19
  have F20 := fun_mk (st := sDelivd) l20 c20 k20
  have b20 := F20.binds (ps := ["config", "system", "index"]) fun _ _ _ _ _ _ us hl => match us, hl with | [_, _, _], _ => rfl
  have m20 := PySem.W.mg_of X G a20
  have F21 := fun_mk (st := sNext) l21 c21 k21
  have b21 := F21.binds (ps := ["config", "system", "action"]) fun _ _ _ _ _ _ us hl => match us, hl with | [_, _, _], _ => rfl
  have m21 := PySem.W.mg_of X G a21
  have F22 := fun_mk (st := sWrittn) l22 c22 k22
  have b22 := F22.binds (ps := ["config", "system", "core", "address", "word"]) fun _ _ _ _ _ _ us hl => match us, hl with | [_, _, _, _, _], _ => rfl
  have m22 := PySem.W.mg_of X G a22
  have F23 := fun_mk (st := sCarr) l23 c23 k23
  have b23 := F23.binds (ps := ["network", "owner", "line"]) fun _ _ _ _ _ _ us hl => match us, hl with | [_, _, _], _ => rfl
  have m23 := PySem.W.mg_of X G a23
  have F24 := fun_mk (st := sCohW) l24 c24 k24
  have b24 := F24.binds (ps := ["config", "system", "line"]) fun _ _ _ _ _ _ us hl => match us, hl with | [_, _, _], _ => rfl
  have m24 := PySem.W.mg_of X G a24
  have F25 := fun_mk (st := sCoh) l25 c25 k25
  have b25 := F25.binds (ps := ["config", "system", "address"]) fun _ _ _ _ _ _ us hl => match us, hl with | [_, _, _], _ => rfl
  have m25 := PySem.W.mg_of X G a25
  have F26 := fun_mk (st := sTape) l26 c26 k26
  have b26 := F26.binds (ps := ["_law_script"]) fun _ _ _ _ _ _ us hl => match us, hl with | [_], _ => rfl
  have m26 := PySem.W.mg_of X G a26
  have F27 := fun_mk (st := sDraw) l27 c27 k27
  have b27 := F27.binds (ps := ["_law_tape_here", "_law_many"]) fun _ _ _ _ _ _ us hl => match us, hl with | [_, _], _ => rfl
  have m27 := PySem.W.mg_of X G a27
  have F28 := fun_mk (st := sWorld) l28 c28 k28
  have b28 := F28.binds (ps := ["_law_tape_here"]) fun _ _ _ _ _ _ us hl => match us, hl with | [_], _ => rfl
  have m28 := PySem.W.mg_of X G a28
  have F29 := fun_mk (st := sConf) l29 c29 k29
  have b29 := F29.binds (ps := ["_law_tape_here", "_law_world_here"]) fun _ _ _ _ _ _ us hl => match us, hl with | [_, _], _ => rfl
  have m29 := PySem.W.mg_of X G a29
  have F30 := fun_mk (st := sFresh) l30 c30 k30
  have b30 := F30.binds (ps := ["_law_tape_here", "_law_many"]) fun _ _ _ _ _ _ us hl => match us, hl with | [_, _], _ => rfl
  have m30 := PySem.W.mg_of X G a30
  have F31 := fun_mk (st := sSame) l31 c31 k31
  have b31 := F31.binds (ps := ["_law_actual", "_law_due"]) fun _ _ _ _ _ _ us hl => match us, hl with | [_, _], _ => rfl
  have m31 := PySem.W.mg_of X G a31
  have F32 := fun_mk (st := sAction) l32 c32 k32
  have b32 := F32.binds (ps := ["_law_tape_here", "_law_system", "_law_world_here"]) fun _ _ _ _ _ _ us hl => match us, hl with | [_, _, _], _ => rfl
  have m32 := PySem.W.mg_of X G a32
  have F33 := fun_mk (st := sWrable) l33 c33 k33
  have b33 := F33.binds (ps := ["_law_tape_here", "_law_system", "_law_core", "_law_world_here"]) fun _ _ _ _ _ _ us hl => match us, hl with | [_, _, _, _], _ => rfl
  have m33 := PySem.W.mg_of X G a33
  have F34 := fun_mk (st := sAgr) l34 c34 k34
  have b34 := F34.binds (ps := ["_law_config_here", "_law_system", "_law_words"]) fun _ _ _ _ _ _ us hl => match us, hl with | [_, _, _], _ => rfl
  have m34 := PySem.W.mg_of X G a34
  have F35 := fun_mk (st := sLaw) l35 c35 k35
  refine ⟨PySem.W.fnOf "law" "law" (defArgs sLaw) (defBody sLaw) (defScope sLaw) .none kV35 dc35 pm35 an35 cd35 ct35, fun s v => .of_eq rfl, fun base _ _ => ?_⟩
  have M : CfgM l.prog w K mg base C := ⟨⟨fI, _, ⟨mkC, iA, iB, kcC⟩, FI⟩, T, PySem.W.mg_of X G aC⟩
  have D0 := dEntryOf (P := l.prog) (w := w) (base := base) F0 m0 b0
  have D1 := dWithout (P := l.prog) (w := w) (base := base) y1 F1 m1 b1
  have D2 := dWithE (P := l.prog) (w := w) (base := base) y1 F2 m2 b2
  have D3 := dOcc (P := l.prog) (w := w) (base := base) N T0 F3 m3 b3
  have D4 := dRead (P := l.prog) (w := w) (base := base) N T0 D0 F4 m4 b4
  have D5 := dCanW (P := l.prog) (w := w) (base := base) N T0 D0 F5 m5 b5
  have D6 := dWrite (P := l.prog) (w := w) (base := base) N T0 D0 D5 D2 F6 m6 b6
  have D7 := dReq (P := l.prog) (w := w) (base := base) N T0 D0 D3 F7 m7 b7
  have D8 := dGive (P := l.prog) (w := w) (base := base) D0 D1 F8 m8 b8
  have D9 := dAfter (P := l.prog) (w := w) (base := base) D0 D1 D2 F9 m9 b9
  have D10 := dRecv (P := l.prog) (w := w) (base := base) D1 D9 F10 m10 b10
  have D11 := dCanR (P := l.prog) (w := w) (base := base) Gw F11 m11 b11
  have D12 := dBegun (P := l.prog) (w := w) (base := base) N F12 m12 b12
  have D13 := dInvd (P := l.prog) (w := w) (base := base) N F13 m13 b13
  have D14 := dRet (P := l.prog) (w := w) (base := base) F14 m14 b14
  have D15 := dGrant (P := l.prog) (w := w) (base := base) T0 F15 m15 b15
  have D16 := dHome (P := l.prog) (w := w) (base := base) T0 D13 D14 D12 D15 F16 m16 b16
  have D17 := dRepl (P := l.prog) (w := w) (base := base) F17 m17 b17
  have D18 := dStart (P := l.prog) (w := w) (base := base) N T0 Ge Gh F18 m18 b18
  have D20 := dDelivd (P := l.prog) (w := w) (base := base) T0 Gt D10 D16 D17 F20 m20 b20
  have D19 := dDeliv (P := l.prog) (w := w) (base := base) y3 y1 Gt D11 F19 m19 b19
  have D21 := dNext (P := l.prog) (w := w) (base := base) N D19 D20 D7 D8 D17 F21 m21 b21
  have D22 := dWrittn (P := l.prog) (w := w) (base := base) D6 D17 F22 m22 b22
  have D23 := dCarr (P := l.prog) (w := w) (base := base) F23 m23 b23
  have D24 := dCohW (P := l.prog) (w := w) (base := base) T0 D0 D23 F24 m24 b24
  have D25 := dCoh (P := l.prog) (w := w) (base := base) T0 D24 F25 m25 b25
  have D31 := dSame (P := l.prog) (w := w) (base := base) N2 F31 m31 b31
  have D34 := dAgr (P := l.prog) (w := w) (base := base) N D25 D4 D31 F34 m34 b34
  have D27 := dDraw (P := l.prog) (w := w) (base := base) N3 F27 m27 b27
  have D28 := dWorld (P := l.prog) (w := w) (base := base) D27 F28 m28 b28
  have D29 := dConf (P := l.prog) (w := w) (base := base) M D27 F29 m29 b29
  have D30 := dFresh (P := l.prog) (w := w) (base := base) N3 D27 F30 m30 b30
  have D32 := dAction (P := l.prog) (w := w) (base := base) N3 D27 F32 m32 b32
  have D33 := dWrable (P := l.prog) (w := w) (base := base) N3 D27 F33 m33 b33
  exact okLaw (C := C) N3 ⟨D27, D28, D29, D30, D32, D33, D18, D34, D22, D4, D31, D21⟩ F26 m26 b26 F35
theorem walk {l : PySem.W.OpenLaw} {q : Program} {loose : List Str} {XP : (Str → Option Value) → Heap → Prop} {YP : World → Heap → Prop} {d : DefRec} {K : Params → PySem.W.Frag} (hn : l.most = some 63) (hdf : d.params.defaults = [])
    (hY : ∀ (w : World) (h : Heap), YP w h → (K w.params).In h)
    (F : ∀ (w : World) (mg : Str → Option Value) (fa : Addr) (h : Heap), (K w.params).In h → h.Ns mainGlobals mg → mg d.name = some (.ref fa) →
      ∃ fd : FuncData, (∀ (s : Shared) (u : Value), BindsTo s fd ⟨[u], []⟩ [("_law_script", u)]) ∧ ∀ base : Heap, (K w.params).In base → base.Ns mainGlobals mg → FnOk l.prog w (K w.params) mg base CX0 6 fa fd ["_law_script"] (spLaw (K w.params))) :
    PySem.W.WalkO q loose XP YP l.row.toRowW d [] (fun f vs => PySem.call f vs) :=
  L2.walk_of (n := 63) (k := 6) (x := "_law_script") (CX := fun _ => CX0) (sp := fun w => spLaw (K w.params)) hn (by decide) hdf ⟨rfl, by decide, by decide⟩ hY F (fun _ _ a ns hl _ hS => ⟨a, ns, rfl, hS, hl, fun _ => rfl⟩) fun _ _ _ _ _ z => z
end Lit
end
open PySem PySem.W PyProof.Rows
set_option maxRecDepth 100000 in
set_option maxHeartbeats 0 in
theorem Lit.lit_all : PySem.Challenge.rw_litmuscore_k50_whole_one_atomic_memory.Holds := by
  w_on; o_law; k_head; (case hw => w_witness2)
  k_fill
  refine Lit.walk (l := PySem.Challenge.rw_litmuscore_k50_whole_one_atomic_memory) rfl rfl (fun w h Y => PySem.W.kIn_of Y) ?F
  case F =>
    intro w mg fa h KX G hmg
    refine' Lit.all_mk KX G hmg ?a0 ?l0 ?c0 ?k0 ?a1 ?l1 ?c1 ?k1 ?a2 ?l2 ?c2 ?k2 ?a3 ?l3 ?c3 ?k3 ?a4 ?l4 ?c4 ?k4 ?a5 ?l5 ?c5 ?k5 ?a6 ?l6 ?c6 ?k6 ?a7 ?l7 ?c7 ?k7 ?a8 ?l8 ?c8 ?k8 ?a9 ?l9 ?c9 ?k9 ?a10 ?l10 ?c10 ?k10 ?a11 ?l11 ?c11 ?k11 ?a12 ?l12 ?c12 ?k12 ?a13 ?l13 ?c13 ?k13 ?a14 ?l14 ?c14 ?k14 ?a15 ?l15 ?c15 ?k15 ?a16 ?l16 ?c16 ?k16 ?a17 ?l17 ?c17 ?k17 ?a18 ?l18 ?c18 ?k18 ?a19 ?l19 ?c19 ?k19 ?a20 ?l20 ?c20 ?k20 ?a21 ?l21 ?c21 ?k21 ?a22 ?l22 ?c22 ?k22 ?a23 ?l23 ?c23 ?k23 ?a24 ?l24 ?c24 ?k24 ?a25 ?l25 ?c25 ?k25 ?a26 ?l26 ?c26 ?k26 ?a27 ?l27 ?c27 ?k27 ?a28 ?l28 ?c28 ?k28 ?a29 ?l29 ?c29 ?k29 ?a30 ?l30 ?c30 ?k30 ?a31 ?l31 ?c31 ?k31 ?a32 ?l32 ?c32 ?k32 ?a33 ?l33 ?c33 ?k33 ?a34 ?l34 ?c34 ?k34 ?a35 ?l35 ?c35 ?k35 ?aC ?iA ?iB ?iL ?iC ?iK ?d1 ?d2 ?d3 ?d4 ?d5 ?d6 ?d7 ?pgC ?hdC ?poC ?saC ?mkC ?kcC ?n0 ?n1 ?n2 ?n3 ?n4 ?n5 ?n6 ?n7 ?z0 ?z1 ?z2 ?z3 ?z4 ?z5 ?z6 ?z7 ?z8 ?z9 ?z10 ?z11 ?gE ?gEl ?gE1 ?gE2 ?gE3 ?gH ?gHl ?gH1 ?gW ?gWl ?gT ?gTl
    (case a0 => k_is)
    (case l0 => k_is)
    (case c0 => k_is)
    (case k0 => k_is)
    (case a1 => k_is)
    (case l1 => k_is)
    (case c1 => k_is)
    (case k1 => k_is)
    (case a2 => k_is)
    (case l2 => k_is)
    (case c2 => k_is)
    (case k2 => k_is)
    (case a3 => k_is)
    (case l3 => k_is)
    (case c3 => k_is)
    (case k3 => k_is)
    (case a4 => k_is)
    (case l4 => k_is)
    (case c4 => k_is)
    (case k4 => k_is)
    (case a5 => k_is)
    (case l5 => k_is)
    (case c5 => k_is)
    (case k5 => k_is)
    (case a6 => k_is)
    (case l6 => k_is)
    (case c6 => k_is)
    (case k6 => k_is)
    (case a7 => k_is)
    (case l7 => k_is)
    (case c7 => k_is)
    (case k7 => k_is)
    (case a8 => k_is)
    (case l8 => k_is)
    (case c8 => k_is)
    (case k8 => k_is)
    (case a9 => k_is)
    (case l9 => k_is)
    (case c9 => k_is)
    (case k9 => k_is)
    (case a10 => k_is)
    (case l10 => k_is)
    (case c10 => k_is)
    (case k10 => k_is)
    (case a11 => k_is)
    (case l11 => k_is)
    (case c11 => k_is)
    (case k11 => k_is)
    (case a12 => k_is)
    (case l12 => k_is)
    (case c12 => k_is)
    (case k12 => k_is)
    (case a13 => k_is)
    (case l13 => k_is)
    (case c13 => k_is)
    (case k13 => k_is)
    (case a14 => k_is)
    (case l14 => k_is)
    (case c14 => k_is)
    (case k14 => k_is)
    (case a15 => k_is)
    (case l15 => k_is)
    (case c15 => k_is)
    (case k15 => k_is)
    (case a16 => k_is)
    (case l16 => k_is)
    (case c16 => k_is)
    (case k16 => k_is)
    (case a17 => k_is)
    (case l17 => k_is)
    (case c17 => k_is)
    (case k17 => k_is)
    (case a18 => k_is)
    (case l18 => k_is)
    (case c18 => k_is)
    (case k18 => k_is)
    (case a19 => k_is)
    (case l19 => k_is)
    (case c19 => k_is)
    (case k19 => k_is)
    (case a20 => k_is)
    (case l20 => k_is)
    (case c20 => k_is)
    (case k20 => k_is)
    (case a21 => k_is)
    (case l21 => k_is)
    (case c21 => k_is)
    (case k21 => k_is)
    (case a22 => k_is)
    (case l22 => k_is)
    (case c22 => k_is)
    (case k22 => k_is)
    (case a23 => k_is)
    (case l23 => k_is)
    (case c23 => k_is)
    (case k23 => k_is)
    (case a24 => k_is)
    (case l24 => k_is)
    (case c24 => k_is)
    (case k24 => k_is)
    (case a25 => k_is)
    (case l25 => k_is)
    (case c25 => k_is)
    (case k25 => k_is)
    (case a26 => k_is)
    (case l26 => k_is)
    (case c26 => k_is)
    (case k26 => k_is)
    (case a27 => k_is)
    (case l27 => k_is)
    (case c27 => k_is)
    (case k27 => k_is)
    (case a28 => k_is)
    (case l28 => k_is)
    (case c28 => k_is)
    (case k28 => k_is)
    (case a29 => k_is)
    (case l29 => k_is)
    (case c29 => k_is)
    (case k29 => k_is)
    (case a30 => k_is)
    (case l30 => k_is)
    (case c30 => k_is)
    (case k30 => k_is)
    (case a31 => k_is)
    (case l31 => k_is)
    (case c31 => k_is)
    (case k31 => k_is)
    (case a32 => k_is)
    (case l32 => k_is)
    (case c32 => k_is)
    (case k32 => k_is)
    (case a33 => k_is)
    (case l33 => k_is)
    (case c33 => k_is)
    (case k33 => k_is)
    (case a34 => k_is)
    (case l34 => k_is)
    (case c34 => k_is)
    (case k34 => k_is)
    (case a35 => k_is)
    (case l35 => k_is)
    (case c35 => k_is)
    (case k35 => k_is)
    (case aC => k_is)
    (case iA => k_is)
    (case iB => k_is)
    (case iL => k_is)
    (case iC => k_is)
    (case iK => k_is)
    (case d1 => k_is)
    (case d2 => k_is)
    (case d3 => k_is)
    (case d4 => k_is)
    (case d5 => k_is)
    (case d6 => k_is)
    (case d7 => k_is)
    (case pgC => k_is)
    (case hdC => k_is)
    (case poC => k_is)
    (case saC => k_is)
    (case mkC => k_is)
    (case kcC => k_is)
    (case n0 => k_is)
    (case n1 => k_is)
    (case n2 => k_is)
    (case n3 => k_is)
    (case n4 => k_is)
    (case n5 => k_is)
    (case n6 => k_is)
    (case n7 => k_is)
    (case z0 => k_is)
    (case z1 => k_is)
    (case z2 => k_is)
    (case z3 => k_is)
    (case z4 => k_is)
    (case z5 => k_is)
    (case z6 => k_is)
    (case z7 => k_is)
    (case z8 => k_is)
    (case z9 => k_is)
    (case z10 => k_is)
    (case z11 => k_is)
    (case gE => k_is)
    (case gEl => k_is)
    (case gE1 => k_is)
    (case gE2 => k_is)
    (case gE3 => k_is)
    (case gH => k_is)
    (case gHl => k_is)
    (case gH1 => k_is)
    (case gW => k_is)
    (case gWl => k_is)
    (case gT => k_is)
    (case gTl => k_is)
theorem PySem.Challenge.cw_litmuscore_k50_whole_one_atomic_memory_holds : PySem.Challenge.rw_litmuscore_k50_whole_one_atomic_memory.Holds := by
  exact Lit.lit_all
