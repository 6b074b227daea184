import PyProof.Rows.All
import Wide.All
import OpenK.AllK
import Wide.FinOn
import HandS.ForMost
import HandS.ForExc
import HandS.IsInst
import HandS.Deep
import HandS.TupAny
import HandS.TupMul
import HandS.Zip
import HandS.Wide
import HandS.EndBits
import HandS.CallLocal
import KE.GoesMore
import HandS.TryMany
import HandS.ExcOwn
import HandS.SetFor
import HandS.TryOnly
import HandS.More
import HandS.Style
import HandS.Strs
import HandS.SortInts
import PySem.Challenge.RW_stalelocks_k09_whole_joined_rows_are_don
set_option Elab.async false
set_option linter.all false
set_option maxRecDepth 100000
/-! L3: data values over the abstract heap, a continuation semantics of expressions and statements over data, and its rules. -/
namespace L3
open PySem PySem.Spec PyProof.Rows L2

/-- data: None, bools, ints, texts, tuples, lists that are never changed; ref: an object by its address; ty: a built-in class -/
inductive Z where
  | non | bl (b : Bool) | int (i : Int) | str (x : Str) | tup (zs : List Z) | lst (zs : List Z) | ref (a : Addr) | ty (n : String) | scr (zs : List Z)
  deriving Inhabited

/-- a list that is never changed -/
def FzL (K : PySem.W.Frag) (H : Hp) (a : Addr) (xs : List V) : Prop := ∃ o, H a = some (.frz o (.lst xs))
/-- the law's script: a list that is known, or of the written part -/
def SqF (K : PySem.W.Frag) (H : Hp) (a : Addr) (xs : List V) : Prop := (∃ o, H a = some (.frz o (.lst xs))) ∨
    ∃ (o : Obj) (its : Array Value) (n : Nat), K.lookup a = some o ∧ o.cls = .type "list" ∧ o.dict = none ∧ o.data = .seq its n ∧ its.size ≤ sizeLine ∧ Vals xs its.toList
theorem SqF.sq {K : PySem.W.Frag} {H : Hp} {a : Addr} {xs : List V} (h : SqF K H a xs) : SqL K H a xs := by
  rcases h with h | h
  · exact .inl (.inr h)
  · exact .inr h
theorem FzL.sq {K : PySem.W.Frag} {H : Hp} {a : Addr} {xs : List V} (h : FzL K H a xs) : SqL K H a xs := .inl (.inr h)

mutual
def RZ (K : PySem.W.Frag) (H : Hp) : Z → V → Prop
  | .non, v => v = .non
  | .bl b, v => v = .bl b
  | .int i, v => v = .int i
  | .str x, v => v = .str x
  | .tup zs, v => ∃ a vs, v = .ref a ∧ SqT K H a vs ∧ RZs K H zs vs
  | .lst zs, v => ∃ a vs, v = .ref a ∧ FzL K H a vs ∧ RZs K H zs vs
  | .ref a, v => v = .ref a
  | .ty n, v => v = .ty n
  | .scr zs, v => ∃ a vs, v = .ref a ∧ SqF K H a vs ∧ RZs K H zs vs
def RZs (K : PySem.W.Frag) (H : Hp) : List Z → List V → Prop
  | [], vs => vs = []
  | z :: zs, vs => ∃ v r, vs = v :: r ∧ RZ K H z v ∧ RZs K H zs r
end
theorem RZs.length {K : PySem.W.Frag} {H : Hp} : ∀ {zs : List Z} {vs : List V}, RZs K H zs vs → vs.length = zs.length
  | [], vs, h => by
    unfold RZs at h
    rw [h]; rfl
  | z :: zs, vs, h => by
    unfold RZs at h
    obtain ⟨v, r, rfl, _, h2⟩ := h
    rw [List.length_cons, List.length_cons, RZs.length h2]
theorem RZs.nil {K : PySem.W.Frag} {H : Hp} : RZs K H [] [] := by unfold RZs; rfl
theorem RZs.cons {K : PySem.W.Frag} {H : Hp} {z : Z} {v : V} {zs : List Z} {vs : List V} (h : RZ K H z v) (t : RZs K H zs vs) : RZs K H (z :: zs) (v :: vs) := by
  unfold RZs; exact ⟨v, vs, rfl, h, t⟩
theorem RZs.get {K : PySem.W.Frag} {H : Hp} : ∀ {zs : List Z} {vs : List V} {i : Nat} {z : Z}, RZs K H zs vs → zs[i]? = some z → ∃ v, vs[i]? = some v ∧ RZ K H z v
  | [], vs, i, z, h, e => by simp at e
  | y :: zs, vs, 0, z, h, e => by
    unfold RZs at h
    obtain ⟨v, r, rfl, h1, h2⟩ := h
    have e' : y = z := by simpa using e
    subst e'
    exact ⟨v, rfl, h1⟩
  | y :: zs, vs, i + 1, z, h, e => by
    unfold RZs at h
    obtain ⟨v, r, rfl, h1, h2⟩ := h
    have e' : zs[i]? = some z := by simpa using e
    obtain ⟨w, hw, rw'⟩ := RZs.get h2 e'
    exact ⟨w, by simpa using hw, rw'⟩
theorem RZs.append {K : PySem.W.Frag} {H : Hp} : ∀ {zs : List Z} {vs : List V} {ys : List Z} {us : List V}, RZs K H zs vs → RZs K H ys us → RZs K H (zs ++ ys) (vs ++ us)
  | [], vs, ys, us, h, t => by
    unfold RZs at h
    subst h
    exact t
  | z :: zs, vs, ys, us, h, t => by
    unfold RZs at h
    obtain ⟨v, r, rfl, h1, h2⟩ := h
    exact RZs.cons h1 (RZs.append h2 t)
theorem RZs.take {K : PySem.W.Frag} {H : Hp} : ∀ {zs : List Z} {vs : List V} (n : Nat), RZs K H zs vs → RZs K H (zs.take n) (vs.take n)
  | [], vs, n, h => by
    unfold RZs at h
    subst h
    rw [List.take_nil, List.take_nil]
    exact RZs.nil
  | z :: zs, vs, 0, h => RZs.nil
  | z :: zs, vs, n + 1, h => by
    unfold RZs at h
    obtain ⟨v, r, rfl, h1, h2⟩ := h
    exact RZs.cons h1 (RZs.take n h2)
theorem RZs.drop {K : PySem.W.Frag} {H : Hp} : ∀ {zs : List Z} {vs : List V} (n : Nat), RZs K H zs vs → RZs K H (zs.drop n) (vs.drop n)
  | [], vs, n, h => by
    unfold RZs at h
    subst h
    rw [List.drop_nil, List.drop_nil]
    exact RZs.nil
  | z :: zs, vs, 0, h => h
  | z :: zs, vs, n + 1, h => by
    unfold RZs at h
    obtain ⟨v, r, rfl, h1, h2⟩ := h
    exact RZs.drop n h2
theorem RZs.set {K : PySem.W.Frag} {H : Hp} : ∀ {zs : List Z} {vs : List V} (n : Nat) {y : Z} {u : V}, RZs K H zs vs → RZ K H y u → RZs K H (zs.set n y) (vs.set n u)
  | [], vs, n, y, u, h, t => by
    unfold RZs at h
    subst h
    exact RZs.nil
  | z :: zs, vs, 0, y, u, h, t => by
    unfold RZs at h
    obtain ⟨v, r, rfl, h1, h2⟩ := h
    exact RZs.cons t h2
  | z :: zs, vs, n + 1, y, u, h, t => by
    unfold RZs at h
    obtain ⟨v, r, rfl, h1, h2⟩ := h
    exact RZs.cons h1 (RZs.set n h2 t)
theorem RZs.mem {K : PySem.W.Frag} {H : Hp} {zs : List Z} {vs : List V} (h : RZs K H zs vs) {i : Nat} {v : V} (e : vs[i]? = some v) : ∃ z, zs[i]? = some z ∧ RZ K H z v := by
  have hl := h.length
  obtain ⟨hi, _⟩ := List.getElem?_eq_some_iff.mp e
  have hz : zs[i]? = some (zs[i]'(by omega)) := List.getElem?_eq_getElem (by omega)
  obtain ⟨w, hw, r⟩ := h.get hz
  rw [e] at hw
  cases hw
  exact ⟨_, hz, r⟩

/-! ### what is changed: told apart from the rest of the heap -/
inductive MO where
  | lst (zs : List Z)
  | src
  | ins (C : Addr) (fs : List (Str × Z))
abbrev Sm := Addr → Option MO
/-- a source of draws: a list of two ints, within bounds; what they are is not told -/
def SRC (a : Addr) : HO := .ext fun h => ∃ (x y : Int) (t u : Tok) (n : Nat), 0 ≤ x ∧ 0 ≤ y ∧ y < 2147483647 ∧
  h.get? a = some { cls := .type "list", data := .seq (#[.int x t, .int y u] : Array Value) n }
def RFs (K : PySem.W.Frag) (H : Hp) : List (Str × Z) → List (Str × V) → Prop
  | [], gs => gs = []
  | (f, z) :: fs, gs => ∃ v r, gs = (f, v) :: r ∧ RZ K H z v ∧ RFs K H fs r
def TieO (K : PySem.W.Frag) (H : Hp) (a : Addr) : MO → Prop
  | .lst zs => ∃ vs, H a = some (.lst vs) ∧ RZs K H zs vs
  | .src => H a = some (SRC a)
  | .ins C fs => ∃ dx gs, H a = some (.ins C dx gs) ∧ RFs K H fs gs
def Tie (K : PySem.W.Frag) (H : Hp) (S : Sm) : Prop := ∀ a o, S a = some o → TieO K H a o
def Ext (H : Hp) (S : Sm) (H' : Hp) (S' : Sm) : Prop := ∀ b o, H b = some o → S b = none → H' b = some o ∧ S' b = none
theorem Ext.refl {H : Hp} {S : Sm} : Ext H S H S := fun _ _ h s => ⟨h, s⟩
theorem Ext.trans {H H1 H2 : Hp} {S S1 S2 : Sm} (a : Ext H S H1 S1) (b : Ext H1 S1 H2 S2) : Ext H S H2 S2 := fun c o h s =>
  let ⟨h1, s1⟩ := a c o h s
  b c o h1 s1
theorem Tie.tup {K : PySem.W.Frag} {H : Hp} {S : Sm} (t : Tie K H S) {a : Addr} {xs : List V} (h : H a = some (.tup xs)) : S a = none := by
  cases e : S a with
  | none => rfl
  | some o =>
    have q := t a o e
    cases o with
    | lst zs => obtain ⟨vs, q, _⟩ := q; rw [h] at q; cases q
    | src => have q' : H a = some (SRC a) := q; rw [h] at q'; cases q'
    | ins C fs => obtain ⟨dx, gs, q, _⟩ := q; rw [h] at q; cases q
theorem Tie.frz {K : PySem.W.Frag} {H : Hp} {S : Sm} (t : Tie K H S) {a : Addr} {ob : Obj} {u : HO} (h : H a = some (.frz ob u)) : S a = none := by
  cases e : S a with
  | none => rfl
  | some o =>
    have q := t a o e
    cases o with
    | lst zs => obtain ⟨vs, q, _⟩ := q; rw [h] at q; cases q
    | src => have q' : H a = some (SRC a) := q; rw [h] at q'; cases q'
    | ins C fs => obtain ⟨dx, gs, q, _⟩ := q; rw [h] at q; cases q
theorem sqT_ext {K : PySem.W.Frag} {H H' : Hp} {S S' : Sm} (t : Tie K H S) (e : Ext H S H' S') {a : Addr} {xs : List V} (h : SqT K H a xs) : SqT K H' a xs := by
  rcases h with (h | ⟨o, h⟩) | h
  · exact .inl (.inl (e _ _ h (t.tup h)).1)
  · exact .inl (.inr ⟨o, (e _ _ h (t.frz h)).1⟩)
  · exact .inr h
theorem fzL_ext {K : PySem.W.Frag} {H H' : Hp} {S S' : Sm} (t : Tie K H S) (e : Ext H S H' S') {a : Addr} {xs : List V} (h : FzL K H a xs) : FzL K H' a xs := by
  obtain ⟨o, h⟩ := h
  exact ⟨o, (e _ _ h (t.frz h)).1⟩
theorem sqF_ext {K : PySem.W.Frag} {H H' : Hp} {S S' : Sm} (t : Tie K H S) (e : Ext H S H' S') {a : Addr} {xs : List V} (h : SqF K H a xs) : SqF K H' a xs := by
  rcases h with ⟨o, h⟩ | h
  · exact .inl ⟨o, (e _ _ h (t.frz h)).1⟩
  · exact .inr h
mutual
theorem RZ.ext {K : PySem.W.Frag} {H H' : Hp} {S S' : Sm} (t : Tie K H S) (e : Ext H S H' S') : ∀ (z : Z) (v : V), RZ K H z v → RZ K H' z v
  | .non, v, h => by unfold RZ at h ⊢; exact h
  | .bl b, v, h => by unfold RZ at h ⊢; exact h
  | .int i, v, h => by unfold RZ at h ⊢; exact h
  | .str x, v, h => by unfold RZ at h ⊢; exact h
  | .tup zs, v, h => by
    unfold RZ at h ⊢
    obtain ⟨a, vs, h1, h2, h3⟩ := h
    exact ⟨a, vs, h1, sqT_ext t e h2, RZs.ext t e zs vs h3⟩
  | .lst zs, v, h => by
    unfold RZ at h ⊢
    obtain ⟨a, vs, h1, h2, h3⟩ := h
    exact ⟨a, vs, h1, fzL_ext t e h2, RZs.ext t e zs vs h3⟩
  | .ref a, v, h => by unfold RZ at h ⊢; exact h
  | .ty n, v, h => by unfold RZ at h ⊢; exact h
  | .scr zs, v, h => by
    unfold RZ at h ⊢
    obtain ⟨a, vs, h1, h2, h3⟩ := h
    exact ⟨a, vs, h1, sqF_ext t e h2, RZs.ext t e zs vs h3⟩
theorem RZs.ext {K : PySem.W.Frag} {H H' : Hp} {S S' : Sm} (t : Tie K H S) (e : Ext H S H' S') : ∀ (zs : List Z) (vs : List V), RZs K H zs vs → RZs K H' zs vs
  | [], vs, h => by unfold RZs at h ⊢; exact h
  | z :: zs, vs, h => by
    unfold RZs at h ⊢
    obtain ⟨v, r, h1, h2, h3⟩ := h
    exact ⟨v, r, h1, RZ.ext t e z v h2, RZs.ext t e zs r h3⟩
end
theorem RFs.ext {K : PySem.W.Frag} {H H' : Hp} {S S' : Sm} (t : Tie K H S) (e : Ext H S H' S') : ∀ (fs : List (Str × Z)) (gs : List (Str × V)), RFs K H fs gs → RFs K H' fs gs
  | [], gs, h => by unfold RFs at h ⊢; exact h
  | (f, z) :: fs, gs, h => by
    unfold RFs at h ⊢
    obtain ⟨v, r, h1, h2, h3⟩ := h
    exact ⟨v, r, h1, RZ.ext t e z v h2, RFs.ext t e fs r h3⟩
/-- the tie behind a heap that keeps what S names -/
theorem Tie.ext {K : PySem.W.Frag} {H H' : Hp} {S : Sm} (t : Tie K H S) (e : ∀ b o, H b = some o → H' b = some o) : Tie K H' S := by
  have x : Ext H S H' S := fun b o h s => ⟨e b o h, s⟩
  intro a o h
  have q := t a o h
  cases o with
  | lst zs =>
    obtain ⟨vs, q1, q2⟩ := q
    exact ⟨vs, e _ _ q1, RZs.ext t x _ _ q2⟩
  | src => exact e a (SRC a) q
  | ins C fs =>
    obtain ⟨dx, gs, q1, q2⟩ := q
    exact ⟨dx, gs, e _ _ q1, RFs.ext t x _ _ q2⟩
theorem Ext.same {H H' : Hp} {S : Sm} (e : ∀ b o, H b = some o → H' b = some o) : Ext H S H' S := fun b o h s => ⟨e b o h, s⟩

/-! ### names -/
abbrev Env := List (Option Z)
structure REnv (K : PySem.W.Frag) (H : Hp) (σ : L2.St) (env : Env) : Prop where
  len : env.length = σ.length
  at_ : ∀ (i : Nat) (z : Z), env[i]? = some (some z) → ∃ v : V, (σ : List (Option V))[i]? = some (some v) ∧ RZ K H z v
theorem REnv.ext {K : PySem.W.Frag} {H H' : Hp} {S S' : Sm} {σ : L2.St} {env : Env} (r : REnv K H σ env) (t : Tie K H S) (e : Ext H S H' S') : REnv K H' σ env :=
  ⟨r.len, fun i z h => let ⟨v, h1, h2⟩ := r.at_ i z h; ⟨v, h1, RZ.ext t e _ _ h2⟩⟩
theorem REnv.set {K : PySem.W.Frag} {H : Hp} {σ : L2.St} {env : Env} (r : REnv K H σ env) {i : Nat} {z : Z} {v : V} (h : RZ K H z v) : REnv K H (List.set σ i (some v)) (env.set i (some z)) := by
  refine ⟨by rw [List.length_set, List.length_set]; exact r.len, fun j y hj => ?_⟩
  by_cases e : i = j
  · subst e
    by_cases hi : i < env.length
    · rw [List.getElem?_set_self hi] at hj
      cases hj
      exact ⟨v, by rw [List.getElem?_set_self (by rw [← r.len]; exact hi)], h⟩
    · rw [List.getElem?_eq_none (by simpa using hi)] at hj
      cases hj
  · rw [List.getElem?_set_ne e] at hj
    obtain ⟨w, h1, h2⟩ := r.at_ j y hj
    exact ⟨w, by rw [List.getElem?_set_ne e]; exact h1, h2⟩

/-! ### exceptions: the class's name and, where it has one, its field -/
structure Exc where
  cls : Str
  arg : Option (Str × Z) := none
def XR (mg : Str → Option Value) (K : PySem.W.Frag) (H : Hp) (e : Exc) (cls : Value) (d : Option Addr) : Prop :=
  ∃ C, mg e.cls = some (.ref C) ∧ cls = .ref C ∧ match e.arg with
    | none => d = none
    | some (f, z) => ∃ dd v, d = some dd ∧ H dd = some (.xd [(f, v)]) ∧ RZ K H z v
abbrev EK := Exc → Env → Sm → Prop
abbrev DE := EK → Env → Sm → (Z → Sm → Prop) → Prop
abbrev DT := EK → Env → Sm → (Bool → Sm → Prop) → Prop
abbrev DA := EK → Env → Sm → (List Z → Sm → Prop) → Prop
structure Ks where
  nx : Env → Sm → Prop
  rt : Z → Sm → Prop
  bk : Env → Sm → Prop := fun _ _ => False
  ct : Env → Sm → Prop := fun _ _ => False
abbrev DS := EK → Env → Sm → Ks → Prop

section
variable (K : PySem.W.Frag) (mg : Str → Option Value) (W : WX)
/-- what is raised is wished for -/
def EOk (E : EK) (H : Hp) (S : Sm) : Prop := ∀ e env' S', E e env' S' → ∀ cls d σ' H', Ext H S H' S' → Tie K H' S' → REnv K H' σ' env' → XR mg K H' e cls d → W cls d σ' H'
/-- the reading of an expression: by its data semantics m -/
def tD (m : DE) : TE := fun σ H Q => ∃ env S R E, REnv K H σ env ∧ Tie K H S ∧ EOk K mg W E H S ∧ m E env S R ∧ ∀ z S', R z S' → ∀ v H', Ext H S H' S' → Tie K H' S' → RZ K H' z v → Q v H'
def tDT (m : DT) : TT := fun σ H Q => ∃ env S R E, REnv K H σ env ∧ Tie K H S ∧ EOk K mg W E H S ∧ m E env S R ∧ ∀ z S', R z S' → ∀ H', Ext H S H' S' → Tie K H' S' → Q z H'
def tDA (m : DA) : TA := fun σ H Q => ∃ env S R E, REnv K H σ env ∧ Tie K H S ∧ EOk K mg W E H S ∧ m E env S R ∧ ∀ zs S', R zs S' → ∀ vs H', Ext H S H' S' → Tie K H' S' → RZs K H' zs vs → Q vs H'
structure KOk (R : Ks) (D : Ends) (H : Hp) (S : Sm) : Prop where
  nx : ∀ env' S', R.nx env' S' → ∀ σ' H', Ext H S H' S' → Tie K H' S' → REnv K H' σ' env' → D.nx σ' H'
  rt : ∀ z S', R.rt z S' → ∀ v H', Ext H S H' S' → Tie K H' S' → RZ K H' z v → D.rt v H'
  bk : ∀ env' S', R.bk env' S' → ∀ σ' H', Ext H S H' S' → Tie K H' S' → REnv K H' σ' env' → D.bk σ' H'
  ct : ∀ env' S', R.ct env' S' → ∀ σ' H', Ext H S H' S' → Tie K H' S' → REnv K H' σ' env' → D.ct σ' H'
def tDS (m : DS) : TS := fun D σ H => ∃ env S R E, REnv K H σ env ∧ Tie K H S ∧ EOk K mg W E H S ∧ m E env S R ∧ KOk K R D H S
end
theorem EOk.ext {K : PySem.W.Frag} {mg : Str → Option Value} {W : WX} {E : EK} {H H' : Hp} {S S' : Sm} (h : EOk K mg W E H S) (x : Ext H S H' S') : EOk K mg W E H' S' :=
  fun e env1 S1 he cls d σ1 H1 x1 t1 r1 q => h e env1 S1 he cls d σ1 H1 (x.trans x1) t1 r1 q
theorem KOk.ext {K : PySem.W.Frag} {R : Ks} {D : Ends} {H H' : Hp} {S S' : Sm} (h : KOk K R D H S) (x : Ext H S H' S') : KOk K R D H' S' :=
  ⟨fun a b c d e x1 => h.nx a b c d e (x.trans x1), fun a b c d e x1 => h.rt a b c d e (x.trans x1), fun a b c d e x1 => h.bk a b c d e (x.trans x1), fun a b c d e x1 => h.ct a b c d e (x.trans x1)⟩

/-! ### the judgements -/
section
variable (X : Cx) (W : WX)
structure FE (e : Expr) (m : DE) : Prop where pe : PE X e (tD X.K X.mg W m)
structure FT (e : Expr) (m : DT) : Prop where pt : PT X e (tDT X.K X.mg W m)
structure FW (e : Expr) (m : DT) : Prop where pw : PW X e (tDT X.K X.mg W m)
structure FA (es : List Expr) (m : DA) : Prop where pa : PA X es (tDA X.K X.mg W m)
structure FS (st : Stmt) (m : DS) : Prop where ps : PS X st (tDS X.K X.mg W m)
structure FSs (st : List Stmt) (m : DS) : Prop where pss : PSs X st (tDS X.K X.mg W m)
end
section
variable {X : Cx} {W : WX} {e : Expr}
theorem PE.imp {t t' : TE} (h : PE X e t) (i : ∀ σ H Q, t' σ H Q → t σ H Q) : PE X e t' := ⟨fun pins s σ H Q I q => h.run pins s σ H Q I (i σ H Q q)⟩
theorem PT.imp {t t' : TT} (h : PT X e t) (i : ∀ σ H Q, t' σ H Q → t σ H Q) : PT X e t' := ⟨fun pins s σ H Q I q => h.run pins s σ H Q I (i σ H Q q)⟩
theorem PW.imp {t t' : TT} (h : PW X e t) (i : ∀ σ H Q, t' σ H Q → t σ H Q) : PW X e t' := ⟨fun wh pins s σ H Q I q => h.run wh pins s σ H Q I (i σ H Q q)⟩
theorem PA.imp {es : List Expr} {t t' : TA} (h : PA X es t) (i : ∀ σ H Q, t' σ H Q → t σ H Q) : PA X es t' := ⟨fun pos pins s σ H Q I q => h.run pos pins s σ H Q I (i σ H Q q)⟩
theorem PS.imp {st : Stmt} {t t' : TS} (h : PS X st t) (i : ∀ D σ H, t' D σ H → t D σ H) : PS X st t' := ⟨fun pins s σ H D I q => h.run pins s σ H D I (i D σ H q)⟩
theorem PSs.imp {st : List Stmt} {t t' : TS} (h : PSs X st t) (i : ∀ D σ H, t' D σ H → t D σ H) : PSs X st t' := ⟨fun pins s σ H D I q => h.run pins s σ H D I (i D σ H q)⟩
theorem tD.mk {K : PySem.W.Frag} {mg : Str → Option Value} {m : DE} {σ : L2.St} {H : Hp} {Q : VK} {env : Env} {S : Sm} {R : Z → Sm → Prop} {E : EK}
    (hr : REnv K H σ env) (ht : Tie K H S) (he : EOk K mg W E H S) (hm : m E env S R)
    (hk : ∀ z S', R z S' → ∀ v H', Ext H S H' S' → Tie K H' S' → RZ K H' z v → REnv K H' σ env → EOk K mg W E H' S' → Q v H') : tD K mg W m σ H Q :=
  ⟨env, S, R, E, hr, ht, he, hm, fun z S' h v H' x t r => hk z S' h v H' x t r (hr.ext ht x) (he.ext x)⟩
theorem tDT.mk {K : PySem.W.Frag} {mg : Str → Option Value} {m : DT} {σ : L2.St} {H : Hp} {Q : Bool → Hp → Prop} {env : Env} {S : Sm} {R : Bool → Sm → Prop} {E : EK}
    (hr : REnv K H σ env) (ht : Tie K H S) (he : EOk K mg W E H S) (hm : m E env S R)
    (hk : ∀ z S', R z S' → ∀ H', Ext H S H' S' → Tie K H' S' → REnv K H' σ env → EOk K mg W E H' S' → Q z H') : tDT K mg W m σ H Q :=
  ⟨env, S, R, E, hr, ht, he, hm, fun z S' h H' x t => hk z S' h H' x t (hr.ext ht x) (he.ext x)⟩
theorem tDA.mk {K : PySem.W.Frag} {mg : Str → Option Value} {m : DA} {σ : L2.St} {H : Hp} {Q : List V → Hp → Prop} {env : Env} {S : Sm} {R : List Z → Sm → Prop} {E : EK}
    (hr : REnv K H σ env) (ht : Tie K H S) (he : EOk K mg W E H S) (hm : m E env S R)
    (hk : ∀ z S', R z S' → ∀ v H', Ext H S H' S' → Tie K H' S' → RZs K H' z v → REnv K H' σ env → EOk K mg W E H' S' → Q v H') : tDA K mg W m σ H Q :=
  ⟨env, S, R, E, hr, ht, he, hm, fun z S' h v H' x t r => hk z S' h v H' x t r (hr.ext ht x) (he.ext x)⟩
end
end L3
namespace L3
open PySem PySem.Spec PyProof.Rows L2

/-! ### data as the library's data -/
mutual
def py : Z → PyData
  | .non => .none
  | .bl b => .bool b
  | .int i => .int i
  | .str x => .str x
  | .tup zs => .tuple (pys zs)
  | .lst zs => .list (pys zs)
  | .ref _ => .none
  | .ty _ => .none
  | .scr _ => .none
def pys : List Z → List PyData
  | [] => []
  | z :: zs => py z :: pys zs
end
mutual
def dat : Z → Bool
  | .non => true
  | .bl _ => true
  | .int _ => true
  | .str x => PyData.strOk x
  | .tup zs => dats zs
  | .lst zs => dats zs
  | .ref _ => false
  | .ty _ => false
  | .scr _ => false
def dats : List Z → Bool
  | [] => true
  | z :: zs => dat z && dats zs
end
mutual
def dep : Z → Nat
  | .non => 0
  | .bl _ => 0
  | .int _ => 0
  | .str _ => 0
  | .tup zs => deps zs + 1
  | .lst zs => deps zs + 1
  | .ref _ => 0
  | .ty _ => 0
  | .scr _ => 0
def deps : List Z → Nat
  | [] => 0
  | z :: zs => max (dep z) (deps zs)
end
mutual
/-- == of data -/
def zeq : Z → Z → Bool
  | .non, .non => true
  | .bl a, .bl b => a == b
  | .bl a, .int j => (if a then 1 else 0) == j
  | .int i, .bl b => i == (if b then 1 else 0)
  | .int i, .int j => i == j
  | .str x, .str y => x == y
  | .lst xs, .lst ys => zeqs xs ys
  | .tup xs, .tup ys => zeqs xs ys
  | _, _ => false
def zeqs : List Z → List Z → Bool
  | [], [] => true
  | x :: xs, y :: ys => zeq x y && zeqs xs ys
  | _, _ => false
end
mutual
theorem dat_lay : ∀ z : Z, dat z = true → PyData.canLay0 (py z) = true
  | .non, _ => by simp [py, PyData.canLay0]
  | .bl _, _ => by simp [py, PyData.canLay0]
  | .int _, _ => by simp [py, PyData.canLay0]
  | .str x, h => by simpa [py, PyData.canLay0, dat] using h
  | .tup zs, h => by
    simp only [py, PyData.canLay0]
    exact dats_lay zs (by simpa [dat] using h)
  | .lst zs, h => by
    simp only [py, PyData.canLay0]
    exact dats_lay zs (by simpa [dat] using h)
  | .ref _, h => by simp [dat] at h
  | .ty _, h => by simp [dat] at h
  | .scr _, h => by simp [dat] at h
theorem dats_lay : ∀ zs : List Z, dats zs = true → PyData.canLayAll0 (pys zs) = true
  | [], _ => by simp [pys, PyData.canLayAll0]
  | z :: zs, h => by
    simp only [dats, Bool.and_eq_true] at h
    simp only [pys, PyData.canLayAll0, Bool.and_eq_true]
    exact ⟨dat_lay z h.1, dats_lay zs h.2⟩
end
mutual
theorem dep_py : ∀ z : Z, (py z).depth ≤ dep z
  | .non => by simp [py, PyData.depth]
  | .bl _ => by simp [py, PyData.depth]
  | .int _ => by simp [py, PyData.depth]
  | .str x => by simp [py, PyData.depth]
  | .tup zs => by
    have := deps_py zs
    simp only [py, PyData.depth, dep]
    omega
  | .lst zs => by
    have := deps_py zs
    simp only [py, PyData.depth, dep]
    omega
  | .ref _ => by simp [py, PyData.depth]
  | .ty _ => by simp [py, PyData.depth]
  | .scr _ => by simp [py, PyData.depth]
theorem deps_py : ∀ zs : List Z, PyData.depthAll (pys zs) ≤ deps zs
  | [] => by simp [pys, PyData.depthAll]
  | z :: zs => by
    have h1 := dep_py z
    have h2 := deps_py zs
    simp only [pys, PyData.depthAll, deps]
    omega
end
theorem shaped_of {z : Z} (h : dat z = true) (d : dep z ≤ 60) : SeqAt.shaped (py z) = true := by
  have h2 := dep_py z
  unfold SeqAt.shaped
  rw [Bool.and_eq_true]
  exact ⟨dat_lay z h, decide_eq_true (by omega)⟩
mutual
theorem zeq_py : ∀ x y : Z, dat x = true → dat y = true → PyData.eqv (py x) (py y) = zeq x y
  | x, .ref _, _, h => by simp [dat] at h
  | x, .ty _, _, h => by simp [dat] at h
  | x, .scr _, _, h => by simp [dat] at h
  | .ref _, y, h, _ => by simp [dat] at h
  | .ty _, y, h, _ => by simp [dat] at h
  | .scr _, y, h, _ => by simp [dat] at h
  | .non, .non, _, _ => by simp [py, PyData.eqv, zeq]
  | .non, .bl _, _, _ => by simp [py, PyData.eqv, zeq]
  | .non, .int _, _, _ => by simp [py, PyData.eqv, zeq]
  | .non, .str _, _, _ => by simp [py, PyData.eqv, zeq]
  | .non, .tup _, _, _ => by simp [py, PyData.eqv, zeq]
  | .non, .lst _, _, _ => by simp [py, PyData.eqv, zeq]
  | .bl _, .non, _, _ => by simp [py, PyData.eqv, zeq]
  | .bl _, .bl _, _, _ => by simp [py, PyData.eqv, zeq]
  | .bl _, .int _, _, _ => by simp [py, PyData.eqv, zeq]
  | .bl _, .str _, _, _ => by simp [py, PyData.eqv, zeq]
  | .bl _, .tup _, _, _ => by simp [py, PyData.eqv, zeq]
  | .bl _, .lst _, _, _ => by simp [py, PyData.eqv, zeq]
  | .int _, .non, _, _ => by simp [py, PyData.eqv, zeq]
  | .int _, .bl _, _, _ => by simp [py, PyData.eqv, zeq]
  | .int _, .int _, _, _ => by simp [py, PyData.eqv, zeq]
  | .int _, .str _, _, _ => by simp [py, PyData.eqv, zeq]
  | .int _, .tup _, _, _ => by simp [py, PyData.eqv, zeq]
  | .int _, .lst _, _, _ => by simp [py, PyData.eqv, zeq]
  | .str _, .non, _, _ => by simp [py, PyData.eqv, zeq]
  | .str _, .bl _, _, _ => by simp [py, PyData.eqv, zeq]
  | .str _, .int _, _, _ => by simp [py, PyData.eqv, zeq]
  | .str _, .str _, _, _ => by simp [py, PyData.eqv, zeq]
  | .str _, .tup _, _, _ => by simp [py, PyData.eqv, zeq]
  | .str _, .lst _, _, _ => by simp [py, PyData.eqv, zeq]
  | .tup _, .non, _, _ => by simp [py, PyData.eqv, zeq]
  | .tup _, .bl _, _, _ => by simp [py, PyData.eqv, zeq]
  | .tup _, .int _, _, _ => by simp [py, PyData.eqv, zeq]
  | .tup _, .str _, _, _ => by simp [py, PyData.eqv, zeq]
  | .tup xs, .tup ys, h, k => by
    simp only [py, PyData.eqv, zeq]
    exact zeqs_py xs ys (by simpa [dat] using h) (by simpa [dat] using k)
  | .tup _, .lst _, _, _ => by simp [py, PyData.eqv, zeq]
  | .lst _, .non, _, _ => by simp [py, PyData.eqv, zeq]
  | .lst _, .bl _, _, _ => by simp [py, PyData.eqv, zeq]
  | .lst _, .int _, _, _ => by simp [py, PyData.eqv, zeq]
  | .lst _, .str _, _, _ => by simp [py, PyData.eqv, zeq]
  | .lst _, .tup _, _, _ => by simp [py, PyData.eqv, zeq]
  | .lst xs, .lst ys, h, k => by
    simp only [py, PyData.eqv, zeq]
    exact zeqs_py xs ys (by simpa [dat] using h) (by simpa [dat] using k)
theorem zeqs_py : ∀ xs ys : List Z, dats xs = true → dats ys = true → PyData.eqvAll (pys xs) (pys ys) = zeqs xs ys
  | [], [], _, _ => by simp [pys, PyData.eqvAll, zeqs]
  | [], _ :: _, _, _ => by simp [pys, PyData.eqvAll, zeqs]
  | _ :: _, [], _, _ => by simp [pys, PyData.eqvAll, zeqs]
  | x :: xs, y :: ys, h, k => by
    simp only [dats, Bool.and_eq_true] at h k
    simp only [pys, PyData.eqvAll, zeqs]
    rw [zeq_py x y h.1 k.1, zeqs_py xs ys h.2 k.2]
end
theorem any_py (d : Z) (hd : dat d = true) : ∀ zs : List Z, dats zs = true → (pys zs).any (fun z => PyData.eqv z (py d)) = zs.any fun z => zeq z d
  | [], _ => by simp [pys]
  | z :: zs, h => by
    simp only [dats, Bool.and_eq_true] at h
    simp only [pys, List.any_cons]
    rw [zeq_py z d h.1 hd, any_py d hd zs h.2]
mutual
theorem dp_of {K : PySem.W.Frag} {H : Hp} : ∀ (z : Z) (v : V), dat z = true → RZ K H z v → Dp K H v (py z)
  | .non, v, _, h => by unfold RZ at h; subst h; unfold py; exact .non
  | .bl b, v, _, h => by unfold RZ at h; subst h; unfold py; exact .bl b
  | .int i, v, _, h => by unfold RZ at h; subst h; unfold py; exact .int i
  | .str x, v, _, h => by unfold RZ at h; subst h; unfold py; exact .str x
  | .tup zs, v, d, h => by
    unfold RZ at h
    obtain ⟨a, vs, rfl, hs, hr⟩ := h
    unfold py
    exact .tup hs (dps_of zs vs (by simpa [dat] using d) hr)
  | .lst zs, v, d, h => by
    unfold RZ at h
    obtain ⟨a, vs, rfl, hs, hr⟩ := h
    unfold py
    exact .lst hs.sq (dps_of zs vs (by simpa [dat] using d) hr)
  | .ref _, v, d, _ => by simp [dat] at d
  | .ty _, v, d, _ => by simp [dat] at d
  | .scr _, v, d, _ => by simp [dat] at d
theorem dps_of {K : PySem.W.Frag} {H : Hp} : ∀ (zs : List Z) (vs : List V), dats zs = true → RZs K H zs vs → DpAll K H vs (pys zs)
  | [], vs, _, h => by
    unfold RZs at h
    subst h
    unfold pys
    exact .nil
  | z :: zs, vs, d, h => by
    unfold RZs at h
    obtain ⟨v, r, rfl, h1, h2⟩ := h
    simp only [dats, Bool.and_eq_true] at d
    unfold pys
    exact .cons (dp_of z v d.1 h1) (dps_of zs r d.2 h2)
end

/-! ### operations on data -/
/-- the items of a tuple, a list, a list that is changed -/
def seqOf (S : Sm) : Z → Option (List Z)
  | .tup zs => some zs
  | .lst zs => some zs
  | .scr zs => some zs
  | .ref a => match S a with
    | some (.lst zs) => some zs
    | _ => none
  | _ => none
theorem seqOf_ok {K : PySem.W.Frag} {H : Hp} {S : Sm} {z : Z} {v : V} {zs : List Z} (h : seqOf S z = some zs) (r : RZ K H z v) (t : Tie K H S) :
    ∃ a vs, v = .ref a ∧ (SqL K H a vs ∨ SqT K H a vs) ∧ RZs K H zs vs := by
  cases z with
  | tup ys =>
    cases h
    unfold RZ at r
    obtain ⟨a, vs, e, h1, h2⟩ := r
    exact ⟨a, vs, e, .inr h1, h2⟩
  | lst ys =>
    cases h
    unfold RZ at r
    obtain ⟨a, vs, e, h1, h2⟩ := r
    exact ⟨a, vs, e, .inl h1.sq, h2⟩
  | scr ys =>
    cases h
    unfold RZ at r
    obtain ⟨a, vs, e, h1, h2⟩ := r
    exact ⟨a, vs, e, .inl h1.sq, h2⟩
  | ref a =>
    unfold RZ at r
    unfold seqOf at h
    cases q : S a with
    | none => simp [q] at h
    | some o =>
      cases o with
      | lst ys =>
        simp [q] at h
        subst h
        obtain ⟨vs, h1, h2⟩ := t a _ q
        exact ⟨a, vs, r, .inl (SqL.of h1), h2⟩
      | src => simp [q] at h
      | ins C fs => simp [q] at h
  | _ => simp [seqOf] at h
def szOk (n : Nat) : Bool := decide (n ≤ sizeLine)
theorem szOk_le {n : Nat} (h : szOk n = true) : n ≤ sizeLine := of_decide_eq_true h
def pAdd : Z → Z → Option Z
  | .int a, .int b => some (.int (a + b))
  | .str a, .str b => if szOk (a.length + b.length) then some (.str (a ++ b)) else none
  | .tup a, .tup b => if szOk (a.length + b.length) then some (.tup (a ++ b)) else none
  | .lst a, .lst b => if szOk (a.length + b.length) then some (.lst (a ++ b)) else none
  | _, _ => none
def pSub : Z → Z → Option Z
  | .int a, .int b => some (.int (a - b))
  | _, _ => none
def small (a : Int) : Bool := decide (-(2 ^ 64) < a) && decide (a < 2 ^ 64)
def pMul : Z → Z → Option Z
  | .int a, .int b => if small a || small b then some (.int (a * b)) else none
  | .tup zs, .int k => if !zs.isEmpty && decide (0 ≤ k) && decide (k ≤ 1000) && decide (zs.length ≤ 1000) then some (.tup (List.replicate k.toNat zs).flatten) else none
  | .lst zs, .int k => if decide (0 ≤ k) && decide (k ≤ 1000) && decide (zs.length ≤ 1000) then some (.lst (List.replicate k.toNat zs).flatten) else none
  | _, _ => none
def pFdiv : Z → Z → Option Z
  | .int a, .int b => if decide (0 < b) && decide (b < 1073741824) then some (.int (a / b)) else none
  | _, _ => none
def pMod : Z → Z → Option Z
  | .int a, .int b => if decide (0 < b) then some (.int (a % b)) else none
  | _, _ => none
def pPow : Z → Z → Option Z
  | .int a, .int b => if decide (0 ≤ b) && decide (b ≤ 1000000) && decide (a.natAbs < 2 ^ 64) then some (.int (a ^ b.toNat)) else none
  | _, _ => none
/-- comparisons -/
def pEq (x y : Z) : Option Bool := if dat x && dat y && decide (dep x ≤ 60) && decide (dep y ≤ 60) then some (zeq x y) else none
def pNe (x y : Z) : Option Bool := if dat x && dat y && decide (dep x ≤ 60) && decide (dep y ≤ 60) then some (!zeq x y) else none
def pLt : Z → Z → Option Bool
  | .int a, .int b => some (decide (a < b))
  | .str a, .str b => some (decide (a.cps.toList < b.cps.toList))
  | _, _ => none
def pLe : Z → Z → Option Bool
  | .int a, .int b => some (decide (a ≤ b))
  | _, _ => none
def pGt : Z → Z → Option Bool
  | .int a, .int b => some (decide (b < a))
  | _, _ => none
def pGe : Z → Z → Option Bool
  | .int a, .int b => some (decide (b ≤ a))
  | _, _ => none
def pIsN : Z → Z → Option Bool
  | .non, .non => some true
  | _, .non => some false
  | _, _ => none
def pNotN : Z → Z → Option Bool
  | .non, .non => some false
  | _, .non => some true
  | _, _ => none
def inZ (x : Z) (ys : List Z) : Bool := ys.any fun z => zeq z x
def pIn (S : Sm) (x y : Z) : Option Bool := match seqOf S y with
  | some ys => if dat x && dats ys && decide (dep x ≤ 60) && decide (deps ys ≤ 59) then some (inZ x ys) else none
  | none => none
def pNotIn (S : Sm) (x y : Z) : Option Bool := (pIn S x y).map (!·)
def pLen (S : Sm) (x : Z) : Option Z := match x with
  | .str s => if szOk s.length then some (.int s.length) else none
  | _ => (seqOf S x).map fun ys => .int ys.length
end L3
namespace L3
open PySem PySem.Spec PyProof.Rows L2

/-! ### freezing: a list that was just made is never changed -/
section
variable {X : Cx} {pins : List (Addr × Obj)} {σ : L2.St} {H : Hp} {s : Shared} {a : Addr} {xs : List V}
theorem Inv.freeze (I : L2.Inv X pins σ H s) (h : H a = some (.lst xs)) : ∃ o, L2.Inv X pins σ (upd H a (.frz o (.lst xs))) s := by
  obtain ⟨z, its, n, r, e⟩ := I.hok a _ h
  exact ⟨_, I.write (x := a) (e := a) (h' := s.heap) (t' := s.toks) (by rw [h]; trivial) (.inl rfl) (fun b u _ q => q) ⟨_, e⟩ ⟨e, z, its, n, r, e⟩⟩
end
section
variable {X : Cx} {W : WX} {e : Expr}
/-- the value's list is frozen -/
def tFrz (t : TE) : TE := fun σ H Q => t σ H fun v H' => ∃ a xs, v = .ref a ∧ H' a = some (.lst xs) ∧ ∀ o, Q v (upd H' a (.frz o (.lst xs)))
theorem pe_frz {t : TE} (h : PE X e t) : PE X e (tFrz t) := by
  refine ⟨fun pins s σ H Q I q => ?_⟩
  refine thn (h.run pins s σ H _ I q) fun u s1 ⟨v, H1, I1, r1, a, xs, e1, e2, q1⟩ => ?_
  obtain ⟨o, I2⟩ := Inv.freeze I1 e2
  exact ⟨v, _, I2, r1, q1 o⟩
end
theorem sub_new {K : PySem.W.Frag} {H : Hp} {S : Sm} {p : Addr} {o : HO} (n : H p = none) : ∀ b ob, H b = some ob → upd H p o b = some ob := fun b ob h => by
  rw [upd_ne (ne_of_none h n)]; exact h
theorem frz_new {K : PySem.W.Frag} {H : Hp} {p : Addr} {u w : HO} (n : H p = none) : upd (upd H p u) p w = upd H p w := upd_upd
theorem rz_lst_new {K : PySem.W.Frag} {H : Hp} {S : Sm} {p : Addr} {o : Obj} {zs : List Z} {vs : List V} (t : Tie K H S) (n : H p = none) (r : RZs K H zs vs) :
    RZ K (upd H p (.frz o (.lst vs))) (.lst zs) (.ref p) := by
  unfold RZ
  exact ⟨p, vs, rfl, ⟨o, upd_same⟩, RZs.ext t (Ext.same (sub_new (K := K) (S := S) n)) _ _ r⟩
theorem rz_tup_new {K : PySem.W.Frag} {H : Hp} {S : Sm} {p : Addr} {zs : List Z} {vs : List V} (t : Tie K H S) (n : H p = none) (r : RZs K H zs vs) :
    RZ K (upd H p (.tup vs)) (.tup zs) (.ref p) := by
  unfold RZ
  exact ⟨p, vs, rfl, .inl (.inl upd_same), RZs.ext t (Ext.same (sub_new (K := K) (S := S) n)) _ _ r⟩
theorem new_none {K : PySem.W.Frag} {H : Hp} {S : Sm} {p : Addr} (t : Tie K H S) (n : H p = none) : S p = none := by
  cases e : S p with
  | none => rfl
  | some o =>
    have q := t p o e
    cases o with
    | lst zs => obtain ⟨vs, q, _⟩ := q; rw [n] at q; cases q
    | src => have q' : H p = some (SRC p) := q; rw [n] at q'; cases q'
    | ins C fs => obtain ⟨dx, gs, q, _⟩ := q; rw [n] at q; cases q
def sUpd (S : Sm) (a : Addr) (o : MO) : Sm := fun b => if b = a then some o else S b
theorem sUpd_same {S : Sm} {a : Addr} {o : MO} : sUpd S a o a = some o := by unfold sUpd; rw [if_pos rfl]
theorem sUpd_ne {S : Sm} {a b : Addr} {o : MO} (h : b ≠ a) : sUpd S a o b = S b := by unfold sUpd; rw [if_neg h]
/-- a new tracked object that may change -/
theorem tie_new {K : PySem.W.Frag} {H : Hp} {S : Sm} {p : Addr} {o : HO} {m : MO} (t : Tie K H S) (n : H p = none) (q : TieO K (upd H p o) p m) : Tie K (upd H p o) (sUpd S p m) := by
  intro a u h
  by_cases e : a = p
  · subst e
    rw [sUpd_same] at h
    cases h
    exact q
  · rw [sUpd_ne e] at h
    exact (t.ext (sub_new (K := K) (S := S) n)) a u h
theorem ext_new {H : Hp} {S : Sm} {p : Addr} {o : HO} {m : MO} (n : H p = none) : Ext H S (upd H p o) (sUpd S p m) := fun b ob h s => by
  have ne := ne_of_none h n
  exact ⟨by rw [upd_ne ne]; exact h, by rw [sUpd_ne ne]; exact s⟩

/-! ### names, constants -/
def getE (env : Env) (i : Nat) : Option Z := match env[i]? with
  | some (some z) => some z
  | _ => none
def dVar (i : Nat) : DE := fun E env S k => ∃ z, getE env i = some z ∧ k z S
def dC (z : Z) : DE := fun E env S k => k z S
section
variable {X : Cx} {W : WX} {a b c e : Expr} {ma mb mc : DE} {pos : Pos}
theorem fe_of {t : TE} {m : DE} (h : PE X e t) (i : ∀ σ H Q, tD X.K X.mg W m σ H Q → t σ H Q) : FE X W e m := ⟨PE.imp h i⟩
theorem fe_var (i : Nat) {x : Str} (hN : X.N[i]? = some x := by rfl) (hv : Vis X.env.scope x := by first | exact Or.inl rfl | exact Or.inr (Or.inl rfl) | exact Or.inr (Or.inr rfl)) (hd : (x == ("__debug__" : Str)) = false := by decide)
    (hcd : (x == ("__classdict__" : Str)) = false := by decide) : FE X W (.Name x pos) (dVar i) := by
  refine fe_of (pe_var hN hv hd hcd) fun σ H Q ⟨env, S, R, E, hr, ht, he, ⟨z, hz, q⟩, hk⟩ => ?_
  have hz' : env[i]? = some (some z) := by
    unfold getE at hz
    split at hz
    · rename_i y hy
      cases hz
      exact hy
    · cases hz
  obtain ⟨v, h1, h2⟩ := hr.at_ i z hz'
  exact ⟨v, h1, hk z S q v H Ext.refl ht h2⟩
theorem fe_const {v : V} {z : Z} (h : PE X e (tC v)) (hz : ∀ H, RZ X.K H z v) : FE X W e (dC z) :=
  fe_of h fun σ H Q ⟨env, S, R, E, hr, ht, he, q, hk⟩ => hk z S q v H Ext.refl ht (hz H)
theorem fe_int {i : Int} {j} : FE X W (.Constant (.int i) j pos) (dC (.int i)) := fe_const pe_int fun _ => by unfold RZ; rfl
theorem fe_bl {i : Bool} {j} : FE X W (.Constant (.bool i) j pos) (dC (.bl i)) := fe_const pe_bl fun _ => by unfold RZ; rfl
theorem fe_non {j} : FE X W (.Constant .none j pos) (dC .non) := fe_const pe_non fun _ => by unfold RZ; rfl
theorem fe_str {x : Str} {j} : FE X W (.Constant (.str x) j pos) (dC (.str x)) := fe_const pe_str fun _ => by unfold RZ; rfl
/-- a constant of the module -/
def GlobZ (K : PySem.W.Frag) (mg : Str → Option Value) (x : Str) (z : Z) : Prop := ∃ u v, mg x = some u ∧ RelV v u ∧ ∀ H, RZ K H z v
theorem fe_glob {x : Str} {z : Z} (h : GlobZ X.K X.mg x z) (hg : Gl X x) (hd : (x == ("__debug__" : Str)) = false := by decide) : FE X W (.Name x pos) (dC z) := by
  obtain ⟨u, v, h1, h2, h3⟩ := h
  exact fe_const (pe_glob hg h1 h2 hd) h3
theorem fe_type {x : Str} {n : String} (hm : X.mg x = none) (hg : Gl X x) (hv : bootBuiltins x = some (.type n)) (hn : x ≠ "__name__" := by decide) (hd : (x == ("__debug__" : Str)) = false := by decide) : FE X W (.Name x pos) (dC (.ty n)) :=
  fe_const (v := .ty n) (pe_bltn hg hm hv rfl hn hd) fun _ => by unfold RZ; rfl

/-! ### operators -/
def dOp (f : Z → Z → Option Z) (ma mb : DE) : DE := fun E env S k => ma E env S fun x S1 => mb E env S1 fun y S2 => ∃ z, f x y = some z ∧ k z S2
def OpOk (K : PySem.W.Frag) (r : R2) (f : Z → Z → Option Z) : Prop := ∀ (H : Hp) (S : Sm) (x y z : Z) (vx vy : V) (Q : VK), f x y = some z → Tie K H S → RZ K H x vx → RZ K H y vy →
  (∀ v H', Ext H S H' S → Tie K H' S → RZ K H' z v → Q v H') → r vx vy H Q
theorem fe_bin {op : Operator} {r : R2} {f : Z → Z → Option Z} (ho : OpR X (binaryOp op) r) (hf : OpOk X.K r f) (ha : FE X W a ma) (hb : FE X W b mb) : FE X W (.BinOp a op b pos) (dOp f ma mb) := by
  refine fe_of (pe_op ho ha.pe hb.pe) fun σ H Q ⟨env, S, R, E, hr, ht, he, q, hk⟩ => ?_
  refine tD.mk hr ht he q fun x S1 q1 vx H1 x1 t1 r1 hr1 he1 => ?_
  refine tD.mk hr1 t1 he1 q1 fun y S2 ⟨z, hz, q2⟩ vy H2 x2 t2 r2 hr2 he2 => ?_
  exact hf H2 S2 x y z vx vy Q hz t2 (RZ.ext t1 x2 _ _ r1) r2 fun v H3 x3 t3 r3 => hk z S2 q2 v H3 (x1.trans (x2.trans x3)) t3 r3
/-- a list of the heap, as an object -/
theorem lst_obj {pins : List (Addr × Obj)} {s : Shared} {σ : L2.St} {H : Hp} {a : Addr} {xs : List V} (I : L2.Inv X pins σ H s) (h : H a = some (.lst xs) ∨ FzL X.K H a xs) :
    xs.length ≤ sizeLine ∧ ∃ (its : List Value) (n : Nat), Vals xs its ∧ s.heap.get? a = some { cls := .type "list", data := .seq its.toArray n } := by
  rcases h with h | ⟨o, h⟩
  · obtain ⟨z, its, n, r, e⟩ := I.hok a _ h
    exact ⟨z, its, n, r, e⟩
  · obtain ⟨_, z, its, n, r, e⟩ := I.hok a _ h
    exact ⟨z, its, n, r, e⟩
/-- list + list, of any that is read -/
def rCatL (K : PySem.W.Frag) : R2 := fun x y H Q => ∃ l b xs zs, x = .ref l ∧ y = .ref b ∧ (H l = some (.lst xs) ∨ FzL K H l xs) ∧ (H b = some (.lst zs) ∨ FzL K H b zs) ∧ xs.length + zs.length ≤ sizeLine ∧ ∀ p, H p = none → ∀ o, Q (.ref p) (upd H p (.frz o (.lst (xs ++ zs))))
theorem op_catL : OpR X (binaryOp .Add) (rCatL X.K) := by
  intro pins s σ H x y v u Q I rx ry h
  obtain ⟨l, b, xs, zs, rfl, rfl, hH, hB, hz, q⟩ := h
  cases rx
  cases ry
  obtain ⟨z, its, n, r, e⟩ := lst_obj I hH
  obtain ⟨z2, its2, n2, r2, e2⟩ := lst_obj I hB
  have hl := r.length
  have hl2 := r2.length
  refine PySem.P.add_list e e2 ?_ (by rw [List.size_toArray, List.size_toArray]; omega)
  have ea : its.toArray ++ its2.toArray = (its ++ its2).toArray := by simp
  rw [ea]
  have I1 := I.lnew (t' := s.toks) (r.append r2) (by rw [List.length_append]; omega)
  obtain ⟨o, I2⟩ := Inv.freeze I1 upd_same
  rw [upd_upd] at I2
  exact ⟨.ref _, _, I2, rfl, q _ I.fresh o⟩
def rAddZ (K : PySem.W.Frag) : R2 := fun x y H Q => rI0 (fun i j => .int (i + j)) x y H Q ∨ (fun x y H Q => ∃ i j, x = .str i ∧ y = .str j ∧ i.length + j.length ≤ sizeLine ∧ Q (.str (i ++ j)) H : R2) x y H Q ∨ rCatA K x y H Q ∨ rCatL K x y H Q
theorem op_addZ : OpR X (binaryOp .Add) (rAddZ X.K) := op_add.or (op_add_str.or (op_catA.or op_catL))
theorem rzs_app_len {K : PySem.W.Frag} {H : Hp} {xs ys : List Z} {vs us : List V} (r : RZs K H xs vs) (q : RZs K H ys us) {n : Nat} (h : xs.length + ys.length ≤ n) : vs.length + us.length ≤ n := by
  rw [r.length, q.length]; exact h
theorem ok_add {K : PySem.W.Frag} : OpOk K (rAddZ K) pAdd := by
  intro H S x y z vx vy Q h t rx ry k
  cases x <;> cases y <;> simp only [pAdd] at h <;> try cases h
  · unfold RZ at rx ry
    exact .inl ⟨_, _, rx, ry, k _ _ Ext.refl t (by unfold RZ; rfl)⟩
  · split at h
    · rename_i hs
      cases h
      unfold RZ at rx ry
      exact .inr (.inl ⟨_, _, rx, ry, szOk_le hs, k _ _ Ext.refl t (by unfold RZ; rfl)⟩)
    · cases h
  · split at h
    · rename_i hs
      cases h
      have rx0 := rx
      have ry0 := ry
      unfold RZ at rx ry
      obtain ⟨a, vs, rfl, ha, hva⟩ := rx
      obtain ⟨b, us, rfl, hb, hvb⟩ := ry
      refine .inr (.inr (.inl ⟨a, b, vs, us, rfl, rfl, ha, hb, rzs_app_len hva hvb (szOk_le hs), fun e => ?_, fun e1 e2 => ?_, fun e1 e2 p hp => ?_⟩))
      · subst e
        have hl := hva.length
        have : ∀ l : List Z, l.length = 0 → l = [] := fun l h => List.eq_nil_of_length_eq_zero h
        rename_i xs ys
        have e3 : xs = [] := this xs (by simpa using hl.symm)
        subst e3
        exact k _ _ Ext.refl t (by rw [List.nil_append]; exact ry0)
      · subst e2
        have hl := hvb.length
        rename_i xs ys
        have e3 : ys = [] := List.eq_nil_of_length_eq_zero (by simpa using hl.symm)
        subst e3
        exact k _ _ Ext.refl t (by rw [List.append_nil]; exact rx0)
      · exact k _ _ (Ext.same (sub_new (K := K) (S := S) hp)) (t.ext (sub_new (K := K) (S := S) hp)) (rz_tup_new t hp (hva.append hvb))
    · cases h
  · split at h
    · rename_i hs
      cases h
      unfold RZ at rx ry
      obtain ⟨a, vs, rfl, ha, hva⟩ := rx
      obtain ⟨b, us, rfl, hb, hvb⟩ := ry
      refine .inr (.inr (.inr ⟨a, b, vs, us, rfl, rfl, .inr ha, .inr hb, rzs_app_len hva hvb (szOk_le hs), fun p hp o => ?_⟩))
      exact k _ _ (Ext.same (sub_new (K := K) (S := S) hp)) (t.ext (sub_new (K := K) (S := S) hp)) (rz_lst_new t hp (hva.append hvb))
    · cases h
theorem fe_add (ha : FE X W a ma) (hb : FE X W b mb) : FE X W (.BinOp a .Add b pos) (dOp pAdd ma mb) := fe_bin op_addZ ok_add ha hb
theorem fe_sub (ha : FE X W a ma) (hb : FE X W b mb) : FE X W (.BinOp a .Sub b pos) (dOp pSub ma mb) := by
  refine fe_bin op_sub (fun H S x y z vx vy Q h t rx ry k => ?_) ha hb
  cases x <;> cases y <;> simp only [pSub] at h <;> try cases h
  unfold RZ at rx ry
  exact ⟨_, _, rx, ry, k _ _ Ext.refl t (by unfold RZ; rfl)⟩
theorem fe_fdiv (ha : FE X W a ma) (hb : FE X W b mb) : FE X W (.BinOp a .FloorDiv b pos) (dOp pFdiv ma mb) := by
  refine fe_bin op_fdiv (fun H S x y z vx vy Q h t rx ry k => ?_) ha hb
  cases x <;> cases y <;> simp only [pFdiv] at h <;> try cases h
  split at h
  · rename_i hs
    cases h
    rw [Bool.and_eq_true, decide_eq_true_eq, decide_eq_true_eq] at hs
    unfold RZ at rx ry
    exact ⟨_, _, rx, ry, hs, k _ _ Ext.refl t (by unfold RZ; rfl)⟩
  · cases h
theorem fe_mod (ha : FE X W a ma) (hb : FE X W b mb) : FE X W (.BinOp a .Mod b pos) (dOp pMod ma mb) := by
  refine fe_bin op_mod (fun H S x y z vx vy Q h t rx ry k => ?_) ha hb
  cases x <;> cases y <;> simp only [pMod] at h <;> try cases h
  split at h
  · rename_i hs
    cases h
    unfold RZ at rx ry
    exact ⟨_, _, rx, ry, of_decide_eq_true hs, k _ _ Ext.refl t (by unfold RZ; rfl)⟩
  · cases h
theorem fe_pow (ha : FE X W a ma) (hb : FE X W b mb) : FE X W (.BinOp a .Pow b pos) (dOp pPow ma mb) := by
  refine fe_bin op_pow (fun H S x y z vx vy Q h t rx ry k => ?_) ha hb
  cases x <;> cases y <;> simp only [pPow] at h <;> try cases h
  split at h
  · rename_i hs
    cases h
    rw [Bool.and_eq_true, Bool.and_eq_true, decide_eq_true_eq, decide_eq_true_eq, decide_eq_true_eq] at hs
    unfold RZ at rx ry
    exact ⟨_, _, rx, ry, ⟨hs.1.1, hs.1.2, hs.2⟩, k _ _ Ext.refl t (by unfold RZ; rfl)⟩
  · cases h
theorem rzs_rep {K : PySem.W.Frag} {H : Hp} {zs : List Z} {vs : List V} (r : RZs K H zs vs) : ∀ n : Nat, RZs K H (List.replicate n zs).flatten (List.replicate n vs).flatten
  | 0 => RZs.nil
  | n + 1 => by
    rw [List.replicate_succ, List.replicate_succ, List.flatten_cons, List.flatten_cons]
    exact r.append (rzs_rep r n)
/-- a tuple times 1 is itself -/
theorem tuple_mul1 (l : Addr) (items : Array Value) (n : Nat) (dd : Option Addr) (sl : Array (Option Value)) (u : Tok) :
    Meets (Builtin.«tuple.__mul__» ⟨[.ref l, .int 1 u], []⟩) (fun _ R s => s.heap.get? l = some { cls := .type "tuple", dict := dd, data := .seq items n, slots := sl } ∧ R (.ok (.ret (Value.ref l))) s) :=
  .of_wp fun prog w A R s h => by
    obtain ⟨hp, g, d, tk, os⟩ := s
    obtain ⟨hl, h⟩ := h
    have f1 := AutoSeq1.idx_int
    have c1 : (items.isEmpty || (1 : Int) == 1) = true := by simp
    wp_walk using AutoSeq1.wpAny_loadPart' hl
    repeat (first
      | (refine wpAny_ite_true (decide_eq_true c1) ?_; wp_walk using AutoSeq1.wpAny_loadPart' hl)
      | (refine wpAny_ite_true (by simp) ?_; wp_walk using AutoSeq1.wpAny_loadPart' hl))
    exact ⟨_, rfl, h⟩
def rRepT1 (K : PySem.W.Frag) : R2 := fun x y H Q => ∃ l xs, x = .ref l ∧ y = .int 1 ∧ SqT K H l xs ∧ Q (.ref l) H
theorem op_repT1 : OpR X (binaryOp .Mult) (rRepT1 X.K) := by
  intro pins s σ H x y v u Q I rx ry h
  obtain ⟨l, xs, rfl, rfl, hT, q⟩ := h
  cases rx
  obtain ⟨t, rfl⟩ := ry
  obtain ⟨its, r, ⟨⟨cls, dd, data, sl⟩, ho, hc, n, hd⟩, hs⟩ := I.tuple hT
  simp only at hc hd
  subst hc hd
  refine wpAny_binaryOp_repeat_ref (T := "tuple") (U := "int") (by decide) ⟨_, ho, rfl⟩ (fun s' => typeIs_int s' 1 t) noFill_tuple_mul F.fills_int_mul F.slot_int_rmul repeat_tuple F.slot_int_index.lookup
    (call_meets F.slot_int_rmul (typeIs_int s 1 t) F.entry_int_rmul (F.args_int_rmul_2 _ _) (int_rmul_tuple 1 t l its.toArray n dd sl)
      ⟨ho, rfl, ⟨_, ho, rfl⟩, call_meets F.slot_tuple_mul ⟨_, ho, rfl⟩ F.entry_tuple_mul (F.args_tuple_mul_2 _ _) (tuple_mul1 l its.toArray n dd sl t) ⟨ho, ?_⟩⟩)
  exact ⟨.ref _, _, I, rfl, q⟩
/-- a tuple times 0: a new empty one -/
theorem tuple_mul0 (l : Addr) (items : Array Value) (n : Nat) (dd : Option Addr) (sl : Array (Option Value)) (u : Tok) (hi : items.isEmpty = false) :
    Meets (Builtin.«tuple.__mul__» ⟨[.ref l, .int 0 u], []⟩) (fun _ R s => s.heap.get? l = some { cls := .type "tuple", dict := dd, data := .seq items n, slots := sl } ∧
      R (.ok (.ret (Value.ref s.heap.objs.size))) { s with heap := s.heap.push { cls := Value.type "tuple", data := Data.seq #[] }, toks := s.toks }) :=
  .of_wp fun prog w A R s h => by
    obtain ⟨hp, g, d, tk, os⟩ := s
    obtain ⟨hl, h⟩ := h
    have f1 := AutoSeq1.idx_int
    have c1 : ¬ ((items.isEmpty || (0 : Int) == 1) = true) := by rw [hi]; simp
    wp_walk using AutoSeq1.wpAny_loadPart' hl
    repeat (first
      | (refine wpAny_ite_false (decide_eq_false c1) ?_; wp_walk using AutoSeq1.wpAny_loadPart' hl)
      | (refine wpAny_ite_true (decide_eq_true (by simp)) ?_; wp_walk using AutoSeq1.wpAny_loadPart' hl)
      | (refine wpAny_ite_true (by simp) ?_; wp_walk using AutoSeq1.wpAny_loadPart' hl)
      | (refine wpAny_ite_false (by simp) ?_; wp_walk using AutoSeq1.wpAny_loadPart' hl))
    exact ⟨_, rfl, h⟩
def rRepT0 (K : PySem.W.Frag) : R2 := fun x y H Q => ∃ l xs, x = .ref l ∧ y = .int 0 ∧ SqT K H l xs ∧ xs ≠ [] ∧ ∀ p, H p = none → Q (.ref p) (upd H p (.tup []))
theorem op_repT0 : OpR X (binaryOp .Mult) (rRepT0 X.K) := by
  intro pins s σ H x y v u Q I rx ry h
  obtain ⟨l, xs, rfl, rfl, hT, hne, q⟩ := h
  cases rx
  obtain ⟨t, rfl⟩ := ry
  obtain ⟨its, r, ⟨⟨cls, dd, data, sl⟩, ho, hc, n, hd⟩, hs⟩ := I.tuple hT
  simp only at hc hd
  subst hc hd
  have hle : its.length = xs.length := r.length.symm
  have hi : its.toArray.isEmpty = false := by
    cases its with
    | nil => exact absurd (List.eq_nil_of_length_eq_zero hle.symm) hne
    | cons a b => rfl
  refine wpAny_binaryOp_repeat_ref (T := "tuple") (U := "int") (by decide) ⟨_, ho, rfl⟩ (fun s' => typeIs_int s' 0 t) noFill_tuple_mul F.fills_int_mul F.slot_int_rmul repeat_tuple F.slot_int_index.lookup
    (call_meets F.slot_int_rmul (typeIs_int s 0 t) F.entry_int_rmul (F.args_int_rmul_2 _ _) (int_rmul_tuple 0 t l its.toArray n dd sl)
      ⟨ho, rfl, ⟨_, ho, rfl⟩, call_meets F.slot_tuple_mul ⟨_, ho, rfl⟩ F.entry_tuple_mul (F.args_tuple_mul_2 _ _) (tuple_mul0 l its.toArray n dd sl t hi) ⟨ho, ?_⟩⟩)
  refine ⟨.ref s.heap.objs.size, _, I.laid (t' := s.toks) (o := .tup []) (fun b ob q => Heap.get?_push_of_some _ q) (Nat.le_refl _) ?_, rfl, q _ (I.hok.fresh (Nat.le_refl _))⟩
  exact ⟨Nat.zero_le _, _, .nil, IsTup.new _ _⟩
/-- a list that is never changed, times an int -/
def rRepF (K : PySem.W.Frag) : R2 := fun x y H Q => ∃ l k xs, x = .ref l ∧ y = .int k ∧ FzL K H l xs ∧ -(2 ^ 63) ≤ k ∧ k < 2 ^ 63 ∧ xs.length * k.toNat ≤ sizeLine ∧
  ∀ p, H p = none → ∀ o, Q (.ref p) (upd H p (.frz o (.lst (List.replicate k.toNat xs).flatten)))
theorem op_repF : OpR X (binaryOp .Mult) (rRepF X.K) := by
  intro pins s σ H x y v u Q I rx ry h
  obtain ⟨l, k, xs, rfl, rfl, hH, h1, h2, hz, q⟩ := h
  cases rx
  obtain ⟨t, rfl⟩ := ry
  obtain ⟨z, its, n, r, e⟩ := lst_obj I (.inr hH)
  have hl := r.length
  have hlen : its.toArray.size * k.toNat ≤ sizeLine := by rw [List.size_toArray, ← hl]; exact hz
  have hcap : ¬ its.toArray.size * k.toNat > (2 ^ 63 - 1) / 8 := by
    have : (sizeLine : Nat) ≤ (2 ^ 63 - 1) / 8 := by decide
    omega
  have hfit : ¬ (!Builtin.List.listFitsIndex k) = true := by
    rw [fitsIndex_both h1 h2]
    exact Bool.false_ne_true
  have hlong : ¬ Builtin.List.listTooLong (its.toArray.size * k.toNat) = true := by
    rw [notLongL hlen]
    exact Bool.false_ne_true
  have hnew : List.foldl (fun x1 x2 => x1 ++ x2) #[] (List.replicate (if its.toArray.isEmpty = true then 0 else k.toNat) its.toArray) = (List.replicate k.toNat its).flatten.toArray := by
    have f0 : ∀ m : Nat, List.foldl (fun x1 x2 => x1 ++ x2) #[] (List.replicate m its.toArray) = (List.replicate m its).flatten.toArray := fun m => by
      have := foldl_rep its m []
      rw [List.nil_append] at this
      exact this
    rw [f0]
    cases its with
    | nil => simp
    | cons a r' => rw [if_neg (by simp)]
  refine wpAny_binaryOp_repeat_ref (T := "list") (U := "int") (by decide) ⟨_, e, rfl⟩ (fun s' => typeIs_int s' k t) noFill_list_mul F.fills_int_mul F.slot_int_rmul repeat_list F.slot_int_index.lookup
    (call_meets F.slot_int_rmul (typeIs_int s k t) F.entry_int_rmul (F.args_int_rmul_2 _ _) (int___rmul___int_list k t l its.toArray n)
      ⟨e, rfl, ⟨_, e, rfl⟩, call_meets F.slot_list_mul ⟨_, e, rfl⟩ F.entry_list_mul (F.args_list_mul_2 _ _) (AutoListH.list___mul___list_int_3 l its.toArray n k t hfit hcap hlong) ⟨e, ?_⟩⟩)
  rw [hnew]
  have I1 := I.lnew (t' := s.toks) (r.rep k.toNat) (by rw [PyProof.Rows.lm_len_rep_flat, Nat.mul_comm]; exact hz)
  obtain ⟨o, I2⟩ := Inv.freeze I1 upd_same
  rw [upd_upd] at I2
  exact ⟨.ref _, _, I2, rfl, q _ I.fresh o⟩
def rMulZ (K : PySem.W.Frag) : R2 := fun x y H Q => rI CMul (fun i j => .int (i * j)) x y H Q ∨ rRepT K x y H Q ∨ rRepT1 K x y H Q ∨ rRepF K x y H Q ∨ rRepT0 K x y H Q
theorem fe_mul (ha : FE X W a ma) (hb : FE X W b mb) : FE X W (.BinOp a .Mult b pos) (dOp pMul ma mb) := by
  refine fe_bin (r := rMulZ X.K) (op_mul.or (op_repT.or (op_repT1.or (op_repF.or op_repT0)))) (fun H S x y z vx vy Q h t rx ry k => ?_) ha hb
  cases x <;> cases y <;> simp only [pMul] at h <;> try cases h
  · split at h
    · rename_i hs
      cases h
      unfold RZ at rx ry
      refine .inl ⟨_, _, rx, ry, ?_, k _ _ Ext.refl t (by unfold RZ; rfl)⟩
      rw [Bool.or_eq_true] at hs
      unfold small at hs
      rw [Bool.and_eq_true, Bool.and_eq_true, decide_eq_true_eq, decide_eq_true_eq, decide_eq_true_eq, decide_eq_true_eq] at hs
      exact hs
    · cases h
  · split at h
    · rename_i zs n hs
      cases h
      rw [Bool.and_eq_true, Bool.and_eq_true, Bool.and_eq_true, decide_eq_true_eq, decide_eq_true_eq, decide_eq_true_eq] at hs
      obtain ⟨⟨⟨h1, h2⟩, h3⟩, h4⟩ := hs
      unfold RZ at rx ry
      obtain ⟨l, vs, rfl, hv, hrs⟩ := rx
      have hl := hrs.length
      by_cases hn1 : n = 1
      · subst hn1
        refine .inr (.inr (.inl ⟨l, vs, rfl, ry, hv, k _ _ Ext.refl t ?_⟩))
        have e1 : (List.replicate (1 : Int).toNat zs).flatten = zs := by simp
        rw [e1]
        unfold RZ
        exact ⟨l, vs, rfl, hv, hrs⟩
      by_cases hn0 : n = 0
      · subst hn0
        refine .inr (.inr (.inr (.inr ⟨l, vs, rfl, ry, hv, fun e => ?_, fun p hp => ?_⟩)))
        · subst e
          have e3 : zs = [] := List.eq_nil_of_length_eq_zero (by simpa using hl.symm)
          subst e3
          simp at h1
        · exact k _ _ (Ext.same (sub_new (K := X.K) (S := S) hp)) (t.ext (sub_new (K := X.K) (S := S) hp)) (rz_tup_new t hp (by simpa using RZs.nil))
      refine .inr (.inl ⟨l, n, vs, rfl, ry, hv, fun e => ?_, by omega, h3, by omega, fun p hp => ?_⟩)
      · subst e
        have e3 : zs = [] := List.eq_nil_of_length_eq_zero (by simpa using hl.symm)
        subst e3
        simp at h1
      · exact k _ _ (Ext.same (sub_new (K := X.K) (S := S) hp)) (t.ext (sub_new (K := X.K) (S := S) hp)) (rz_tup_new t hp (rzs_rep hrs _))
    · cases h
  · split at h
    · rename_i zs n hs
      cases h
      rw [Bool.and_eq_true, Bool.and_eq_true, decide_eq_true_eq, decide_eq_true_eq, decide_eq_true_eq] at hs
      obtain ⟨⟨h1, h2⟩, h3⟩ := hs
      unfold RZ at rx ry
      obtain ⟨l, vs, rfl, hv, hrs⟩ := rx
      have hl := hrs.length
      refine .inr (.inr (.inr (.inl ⟨l, n, vs, rfl, ry, hv, by omega, by omega, ?_, fun p hp o => ?_⟩)))
      · rw [hl, sizeLine_eq]
        have a1 : zs.length * n.toNat ≤ 1000 * 1000 := Nat.mul_le_mul h3 (by omega)
        omega
      · exact k _ _ (Ext.same (sub_new (K := X.K) (S := S) hp)) (t.ext (sub_new (K := X.K) (S := S) hp)) (rz_lst_new t hp (rzs_rep hrs _))
    · cases h
end
end L3
namespace L3
open PySem PySem.Spec PyProof.Rows L2

/-! ### comparisons -/
def dCmp (f : Sm → Z → Z → Option Bool) (ma mb : DE) : DE := fun E env S k => ma E env S fun x S1 => mb E env S1 fun y S2 => ∃ b, f S2 x y = some b ∧ k (.bl b) S2
def dCmpT (f : Sm → Z → Z → Option Bool) (ma mb : DE) : DT := fun E env S k => ma E env S fun x S1 => mb E env S1 fun y S2 => ∃ b, f S2 x y = some b ∧ k b S2
def dChain (f g : Sm → Z → Z → Option Bool) (ma mb mc : DE) : DE := fun E env S k => ma E env S fun x S1 => mb E env S1 fun y S2 => ∃ b, f S2 x y = some b ∧
  if b = true then mc E env S2 fun w S3 => ∃ c, g S3 y w = some c ∧ k (.bl c) S3 else k (.bl false) S2
def dChainT (f g : Sm → Z → Z → Option Bool) (ma mb mc : DE) : DT := fun E env S k => ma E env S fun x S1 => mb E env S1 fun y S2 => ∃ b, f S2 x y = some b ∧
  if b = true then mc E env S2 fun w S3 => ∃ c, g S3 y w = some c ∧ k c S3 else k false S2
def CmpOk (K : PySem.W.Frag) (r : R2) (f : Sm → Z → Z → Option Bool) : Prop := ∀ (H : Hp) (S : Sm) (x y : Z) (b : Bool) (vx vy : V) (Q : VK), f S x y = some b → Tie K H S → RZ K H x vx → RZ K H y vy →
  Q (.bl b) H → r vx vy H Q
section
variable {X : Cx} {W : WX} {a b c e : Expr} {ma mb mc : DE} {pos : Pos}
/-- a comparison's operator, its rule, its data -/
structure Cm (X : Cx) (op : CmpOp) (f : Sm → Z → Z → Option Bool) : Prop where
  ex : ∃ r, OpR X (compareOp op) r ∧ CmpOk X.K r f
theorem ft_of {t : TT} {m : DT} (h : PT X e t) (i : ∀ σ H Q, tDT X.K X.mg W m σ H Q → t σ H Q) : FT X W e m := ⟨PT.imp h i⟩
theorem rz_bl {K : PySem.W.Frag} {H : Hp} (b : Bool) : RZ K H (.bl b) (.bl b) := by unfold RZ; rfl
theorem fe_cmp {op : CmpOp} {f : Sm → Z → Z → Option Bool} (c : Cm X op f) (ha : FE X W a ma) (hb : FE X W b mb) (hm : behindInMarks op b = false) : FE X W (.Compare a [op] [b] pos) (dCmp f ma mb) := by
  obtain ⟨r, ho, hf⟩ := c.ex
  refine fe_of (pe_cmpR ho ha.pe hb.pe hm) fun σ H Q ⟨env, S, R, E, hr, ht, he, q, hk⟩ => ?_
  refine tD.mk hr ht he q fun x S1 q1 vx H1 x1 t1 r1 hr1 he1 => ?_
  refine tD.mk hr1 t1 he1 q1 fun y S2 ⟨z, hz, q2⟩ vy H2 x2 t2 r2 hr2 he2 => ?_
  exact hf H2 S2 x y z vx vy Q hz t2 (RZ.ext t1 x2 _ _ r1) r2 (hk _ S2 q2 _ H2 (x1.trans x2) t2 (rz_bl z))
theorem ft_cmp {op : CmpOp} {f : Sm → Z → Z → Option Bool} (c : Cm X op f) (ha : FE X W a ma) (hb : FE X W b mb) (hm : behindInMarks op b = false) : FT X W (.Compare a [op] [b] pos) (dCmpT f ma mb) := by
  obtain ⟨r, ho, hf⟩ := c.ex
  refine ft_of (pt_cmpR ho ha.pe hb.pe hm) fun σ H Q ⟨env, S, R, E, hr, ht, he, q, hk⟩ => ?_
  refine tD.mk hr ht he q fun x S1 q1 vx H1 x1 t1 r1 hr1 he1 => ?_
  refine tD.mk hr1 t1 he1 q1 fun y S2 ⟨z, hz, q2⟩ vy H2 x2 t2 r2 hr2 he2 => ?_
  exact hf H2 S2 x y z vx vy _ hz t2 (RZ.ext t1 x2 _ _ r1) r2 ⟨z, rfl, hk _ S2 q2 H2 (x1.trans x2) t2⟩
theorem fe_chain {op op' : CmpOp} {f g : Sm → Z → Z → Option Bool} (c1 : Cm X op f) (c2 : Cm X op' g) (ha : FE X W a ma) (hb : FE X W b mb) (hc : FE X W c mc) (hm : lastMarks [op, op'] [b, c] = false := by rfl) :
    FE X W (.Compare a [op, op'] [b, c] pos) (dChain f g ma mb mc) := by
  obtain ⟨r, ho, hf⟩ := c1.ex
  obtain ⟨r', ho', hg⟩ := c2.ex
  refine fe_of (pe_chain ho ho' ha.pe hb.pe hc.pe hm) fun σ H Q ⟨env, S, R, E, hr, ht, he, q, hk⟩ => ?_
  refine tD.mk hr ht he q fun x S1 q1 vx H1 x1 t1 r1 hr1 he1 => ?_
  refine tD.mk hr1 t1 he1 q1 fun y S2 ⟨z, hz, q2⟩ vy H2 x2 t2 r2 hr2 he2 => ?_
  refine hf H2 S2 x y z vx vy _ hz t2 (RZ.ext t1 x2 _ _ r1) r2 ⟨z, rfl, ?_⟩
  cases z with
  | true =>
    rw [if_pos rfl] at q2 ⊢
    refine tD.mk hr2 t2 he2 q2 fun w S3 ⟨z3, hz3, q3⟩ vw H3 x3 t3 r3 hr3 he3 => ?_
    exact hg H3 S3 y w z3 vy vw _ hz3 t3 (RZ.ext t2 x3 _ _ r2) r3 (hk _ S3 q3 _ H3 (x1.trans (x2.trans x3)) t3 (rz_bl z3))
  | false =>
    rw [if_neg Bool.false_ne_true] at q2 ⊢
    exact hk _ S2 q2 _ H2 (x1.trans x2) t2 (rz_bl false)
theorem ft_chain {op op' : CmpOp} {f g : Sm → Z → Z → Option Bool} (c1 : Cm X op f) (c2 : Cm X op' g) (ha : FE X W a ma) (hb : FE X W b mb) (hc : FE X W c mc) (hm : lastMarks [op, op'] [b, c] = false := by rfl) :
    FT X W (.Compare a [op, op'] [b, c] pos) (dChainT f g ma mb mc) := by
  obtain ⟨r, ho, hf⟩ := c1.ex
  obtain ⟨r', ho', hg⟩ := c2.ex
  refine ft_of (pt_chain ho ho' ha.pe hb.pe hc.pe hm) fun σ H Q ⟨env, S, R, E, hr, ht, he, q, hk⟩ => ?_
  refine tD.mk hr ht he q fun x S1 q1 vx H1 x1 t1 r1 hr1 he1 => ?_
  refine tD.mk hr1 t1 he1 q1 fun y S2 ⟨z, hz, q2⟩ vy H2 x2 t2 r2 hr2 he2 => ?_
  refine hf H2 S2 x y z vx vy _ hz t2 (RZ.ext t1 x2 _ _ r1) r2 ⟨z, rfl, ?_⟩
  cases z with
  | true =>
    rw [if_pos rfl] at q2 ⊢
    refine tD.mk hr2 t2 he2 q2 fun w S3 ⟨z3, hz3, q3⟩ vw H3 x3 t3 r3 hr3 he3 => ?_
    exact hg H3 S3 y w z3 vy vw _ hz3 t3 (RZ.ext t2 x3 _ _ r2) r3 ⟨z3, rfl, hk _ S3 q3 H3 (x1.trans (x2.trans x3)) t3⟩
  | false =>
    rw [if_neg Bool.false_ne_true] at q2 ⊢
    exact ⟨false, rfl, hk _ S2 q2 H2 (x1.trans x2) t2⟩
end
section
variable {X : Cx}
theorem pEq_split {x y : Z} {b : Bool} (h : pEq x y = some b) : dat x = true ∧ dat y = true ∧ dep x ≤ 60 ∧ dep y ≤ 60 ∧ b = zeq x y := by
  unfold pEq at h
  split at h
  · rename_i hc
    rw [Bool.and_eq_true, Bool.and_eq_true, Bool.and_eq_true, decide_eq_true_eq, decide_eq_true_eq] at hc
    cases h
    exact ⟨hc.1.1.1, hc.1.1.2, hc.1.2, hc.2, rfl⟩
  · cases h
theorem pNe_split {x y : Z} {b : Bool} (h : pNe x y = some b) : dat x = true ∧ dat y = true ∧ dep x ≤ 60 ∧ dep y ≤ 60 ∧ b = !zeq x y := by
  unfold pNe at h
  split at h
  · rename_i hc
    rw [Bool.and_eq_true, Bool.and_eq_true, Bool.and_eq_true, decide_eq_true_eq, decide_eq_true_eq] at hc
    cases h
    exact ⟨hc.1.1.1, hc.1.1.2, hc.1.2, hc.2, rfl⟩
  · cases h
theorem cm_eq (hu : X.A.units + 64 < cLine) : Cm X .Eq (fun _ => pEq) := ⟨_, op_eqD hu, fun H S x y b vx vy Q h t rx ry q => by
  obtain ⟨dx, dy, px, py', rfl⟩ := pEq_split h
  exact ⟨_, _, dp_of x vx dx rx, dp_of y vy dy ry, shaped_of dx px, shaped_of dy py', by rw [zeq_py x y dx dy]; exact q⟩⟩
theorem cm_ne (hu : X.A.units + 64 < cLine) : Cm X .NotEq (fun _ => pNe) := ⟨_, op_neD hu, fun H S x y b vx vy Q h t rx ry q => by
  obtain ⟨dx, dy, px, py', rfl⟩ := pNe_split h
  exact ⟨_, _, dp_of x vx dx rx, dp_of y vy dy ry, shaped_of dx px, shaped_of dy py', by rw [zeq_py x y dx dy]; exact q⟩⟩
def rLtZ : R2 := fun x y H Q => rI0 (fun i j => .bl (decide (i < j))) x y H Q ∨ (∃ i j, x = .str i ∧ y = .str j ∧ Q (.bl (decide (i.cps.toList < j.cps.toList))) H)
theorem cm_lt : Cm X .Lt (fun _ => pLt) := ⟨rLtZ, op_lt.or op_lt_str, fun H S x y b vx vy Q h t rx ry q => by
  cases x <;> cases y <;> simp only [pLt] at h <;> try cases h
  · unfold RZ at rx ry
    exact .inl ⟨_, _, rx, ry, q⟩
  · unfold RZ at rx ry
    exact .inr ⟨_, _, rx, ry, q⟩⟩
theorem cm_le : Cm X .LtE (fun _ => pLe) := ⟨_, op_le, fun H S x y b vx vy Q h t rx ry q => by
  cases x <;> cases y <;> simp only [pLe] at h <;> try cases h
  unfold RZ at rx ry
  exact ⟨_, _, rx, ry, q⟩⟩
theorem cm_gt : Cm X .Gt (fun _ => pGt) := ⟨_, op_gt, fun H S x y b vx vy Q h t rx ry q => by
  cases x <;> cases y <;> simp only [pGt] at h <;> try cases h
  unfold RZ at rx ry
  exact ⟨_, _, rx, ry, q⟩⟩
theorem cm_ge : Cm X .GtE (fun _ => pGe) := ⟨_, op_ge, fun H S x y b vx vy Q h t rx ry q => by
  cases x <;> cases y <;> simp only [pGe] at h <;> try cases h
  unfold RZ at rx ry
  exact ⟨_, _, rx, ry, q⟩⟩
theorem rz_isN {K : PySem.W.Frag} {H : Hp} {x : Z} {v : V} (r : RZ K H x v) : decide (v = .non) = match x with | .non => true | _ => false := by
  cases x <;> unfold RZ at r
  · subst r; rfl
  · subst r; rfl
  · subst r; rfl
  · subst r; rfl
  · obtain ⟨a, vs, rfl, _⟩ := r; rfl
  · obtain ⟨a, vs, rfl, _⟩ := r; rfl
  · subst r; rfl
  · subst r; rfl
  · obtain ⟨a, vs, rfl, _⟩ := r; rfl
theorem cm_is : Cm X .Is (fun _ => pIsN) := ⟨_, op_isN, fun H S x y b vx vy Q h t rx ry q => by
  have e := rz_isN rx
  cases y <;> first | (unfold RZ at ry; refine ⟨ry, ?_⟩; rw [e]; cases x <;> simp only [pIsN] at h <;> cases h <;> exact q) | (cases x <;> simp only [pIsN] at h <;> cases h)⟩
theorem cm_isnot : Cm X .IsNot (fun _ => pNotN) := ⟨_, op_notN, fun H S x y b vx vy Q h t rx ry q => by
  have e := rz_isN rx
  cases y <;> first | (unfold RZ at ry; refine ⟨ry, ?_⟩; rw [e]; cases x <;> simp only [pNotN] at h <;> cases h <;> exact q) | (cases x <;> simp only [pNotN] at h <;> cases h)⟩
/-- in, not in, of data at any depth: lists and tuples -/
def rInA (K : PySem.W.Frag) (neg : Bool) : R2 := fun x y H Q => ∃ d ds, Dp K H x d ∧ (Dp K H y (.list ds) ∨ Dp K H y (.tuple ds)) ∧ SeqAt.shaped d = true ∧ SeqAt.shaped (.list ds) = true ∧ Q (.bl (if neg then !(ds.any fun z => PyData.eqv z d) else ds.any fun z => PyData.eqv z d)) H
theorem op_inA (hu : X.A.units + 65 < cLine) : OpR X (compareOp .In) (rInA X.K false) := by
  intro pins s σ H x y v u Q I rx ry h
  obtain ⟨d, ds, hd, he, sd, se, q⟩ := h
  obtain ⟨as, r1⟩ := Dp.reads I d x v hd rx
  rcases he with he | he
  · obtain ⟨bs, r2⟩ := Dp.reads I (.list ds) y u he ry
    exact SeqAt.in_list_reads r2 r1 (SeqAt.canLay_of_shaped se) (SeqAt.canLay_of_shaped sd) (room_in_shaped sd hu) ⟨.bl _, H, I, rfl, q⟩
  · obtain ⟨bs, r2⟩ := Dp.reads I (.tuple ds) y u he ry
    exact SeqAt.in_tuple_reads r2 r1 (SeqAt.canLay_of_shaped se) (SeqAt.canLay_of_shaped sd) (room_in_shaped sd hu) ⟨.bl _, H, I, rfl, q⟩
theorem op_notInA (hu : X.A.units + 65 < cLine) : OpR X (compareOp .NotIn) (rInA X.K true) := by
  intro pins s σ H x y v u Q I rx ry h
  obtain ⟨d, ds, hd, he, sd, se, q⟩ := h
  obtain ⟨as, r1⟩ := Dp.reads I d x v hd rx
  rcases he with he | he
  · obtain ⟨bs, r2⟩ := Dp.reads I (.list ds) y u he ry
    exact SeqAt.notIn_list_reads r2 r1 (SeqAt.canLay_of_shaped se) (SeqAt.canLay_of_shaped sd) (room_in_shaped sd hu) ⟨.bl _, H, I, rfl, q⟩
  · obtain ⟨bs, r2⟩ := Dp.reads I (.tuple ds) y u he ry
    exact SeqAt.notIn_tuple_reads r2 r1 (SeqAt.canLay_of_shaped se) (SeqAt.canLay_of_shaped sd) (room_in_shaped sd hu) ⟨.bl _, H, I, rfl, q⟩
theorem seq_dp {K : PySem.W.Frag} {H : Hp} {S : Sm} {y : Z} {vy : V} {ys : List Z} (h : seqOf S y = some ys) (d : dats ys = true) (r : RZ K H y vy) (t : Tie K H S) : Dp K H vy (.list (pys ys)) ∨ Dp K H vy (.tuple (pys ys)) := by
  obtain ⟨a, vs, rfl, hs, hr⟩ := seqOf_ok h r t
  rcases hs with hs | hs
  · exact .inl (.lst hs (dps_of ys vs d hr))
  · exact .inr (.tup hs (dps_of ys vs d hr))
theorem shaped_list {ys : List Z} (d : dats ys = true) (p : deps ys ≤ 59) : SeqAt.shaped (.list (pys ys)) = true := shaped_of (z := .lst ys) (by simpa [dat] using d) (by simp only [dep]; omega)
theorem pIn_split {S : Sm} {x y : Z} {b : Bool} (h : pIn S x y = some b) : ∃ ys, seqOf S y = some ys ∧ dat x = true ∧ dats ys = true ∧ dep x ≤ 60 ∧ deps ys ≤ 59 ∧ b = inZ x ys := by
  unfold pIn at h
  split at h
  · rename_i ys hs
    split at h
    · rename_i hc
      rw [Bool.and_eq_true, Bool.and_eq_true, Bool.and_eq_true, decide_eq_true_eq, decide_eq_true_eq] at hc
      cases h
      exact ⟨ys, hs, hc.1.1.1, hc.1.1.2, hc.1.2, hc.2, rfl⟩
    · cases h
  · cases h
theorem cm_in (hu : X.A.units + 65 < cLine) : Cm X .In pIn := ⟨_, op_inA hu, fun H S x y b vx vy Q h t rx ry q => by
  obtain ⟨ys, hs, dx, dy, px, py', rfl⟩ := pIn_split h
  refine ⟨_, _, dp_of x vx dx rx, seq_dp hs dy ry t, shaped_of dx px, shaped_list dy py', ?_⟩
  rw [any_py x dx ys dy]
  exact q⟩
theorem cm_notin (hu : X.A.units + 65 < cLine) : Cm X .NotIn pNotIn := ⟨_, op_notInA hu, fun H S x y b vx vy Q h t rx ry q => by
  unfold pNotIn at h
  cases hp : pIn S x y with
  | none => rw [hp] at h; cases h
  | some c =>
    rw [hp] at h
    cases h
    obtain ⟨ys, hs, dx, dy, px, py', rfl⟩ := pIn_split hp
    refine ⟨_, _, dp_of x vx dx rx, seq_dp hs dy ry t, shaped_of dx px, shaped_list dy py', ?_⟩
    rw [any_py x dx ys dy]
    exact q⟩
end

/-! ### tests, and, or, not, a if t else b -/
def dVal (m : DE) : DT := fun E env S k => m E env S fun z S1 => ∃ b, z = .bl b ∧ k b S1
def dNotT (t : DT) : DT := fun E env S k => t E env S fun b S1 => k (!b) S1
def dAndT (t u : DT) : DT := fun E env S k => t E env S fun b S1 => if b = true then u E env S1 k else k false S1
def dOrT (t u : DT) : DT := fun E env S k => t E env S fun b S1 => if b = true then k true S1 else u E env S1 k
def dAnd (ma mb : DE) : DE := fun E env S k => ma E env S fun x S1 => ∃ b, x = .bl b ∧ if b = true then mb E env S1 k else k (.bl false) S1
def dOr (ma mb : DE) : DE := fun E env S k => ma E env S fun x S1 => ∃ b, x = .bl b ∧ if b = true then k (.bl true) S1 else mb E env S1 k
def dNot (ma : DE) : DE := fun E env S k => ma E env S fun x S1 => ∃ b, x = .bl b ∧ k (.bl (!b)) S1
def dIfE (t : DT) (ma mb : DE) : DE := fun E env S k => t E env S fun b S1 => if b = true then ma E env S1 k else mb E env S1 k
section
variable {X : Cx} {W : WX} {a b c e : Expr} {ma mb mc : DE} {ta tb : DT} {pos : Pos} {rest : List Expr}
theorem rz_bl_inv {K : PySem.W.Frag} {H : Hp} {b : Bool} {v : V} (r : RZ K H (.bl b) v) : v = .bl b := by unfold RZ at r; exact r
theorem ft_val (h : FE X W e ma) (he : ∀ whole, isTrue e X.env whole = (do let v ← whole; standAt e.pos; holding [v] (truthy v)) := by intro _; rfl) : FT X W e (dVal ma) := by
  refine ft_of (pt_val h.pe he) fun σ H Q ⟨env, S, R, E, hr, ht, he, q, hk⟩ => ?_
  refine tD.mk hr ht he q fun x S1 ⟨b, hb, q1⟩ vx H1 x1 t1 r1 hr1 he1 => ?_
  subst hb
  exact ⟨b, rz_bl_inv r1, hk b S1 q1 H1 x1 t1⟩
theorem ft_not (h : FT X W a ta) : FT X W (.UnaryOp .Not a pos) (dNotT ta) := by
  refine ft_of (pt_not h.pt) fun σ H Q ⟨env, S, R, E, hr, ht, he, q, hk⟩ => ?_
  exact tDT.mk hr ht he q fun x S1 q1 H1 x1 t1 hr1 he1 => hk _ S1 q1 H1 x1 t1
theorem fw_and1 (h : FT X W a ta) : FW X W (.BoolOp .And [a] pos) ta := ⟨pw_and1 h.pt⟩
theorem fw_or1 (h : FT X W a ta) : FW X W (.BoolOp .Or [a] pos) ta := ⟨pw_or1 h.pt⟩
theorem fw_and (h : FT X W a ta) (g : FW X W (.BoolOp .And (b :: rest) pos) tb) : FW X W (.BoolOp .And (a :: b :: rest) pos) (dAndT ta tb) := by
  refine ⟨PW.imp (pw_and h.pt g.pw) fun σ H Q ⟨env, S, R, E, hr, ht, he, q, hk⟩ => ?_⟩
  refine tDT.mk hr ht he q fun x S1 q1 H1 x1 t1 hr1 he1 => ?_
  cases x with
  | true =>
    rw [if_pos rfl] at q1 ⊢
    exact tDT.mk hr1 t1 he1 q1 fun y S2 q2 H2 x2 t2 hr2 he2 => hk _ S2 q2 H2 (x1.trans x2) t2
  | false =>
    rw [if_neg Bool.false_ne_true] at q1 ⊢
    exact hk _ S1 q1 H1 x1 t1
theorem fw_or (h : FT X W a ta) (g : FW X W (.BoolOp .Or (b :: rest) pos) tb) : FW X W (.BoolOp .Or (a :: b :: rest) pos) (dOrT ta tb) := by
  refine ⟨PW.imp (pw_or h.pt g.pw) fun σ H Q ⟨env, S, R, E, hr, ht, he, q, hk⟩ => ?_⟩
  refine tDT.mk hr ht he q fun x S1 q1 H1 x1 t1 hr1 he1 => ?_
  cases x with
  | true =>
    rw [if_pos rfl] at q1 ⊢
    exact hk _ S1 q1 H1 x1 t1
  | false =>
    rw [if_neg Bool.false_ne_true] at q1 ⊢
    exact tDT.mk hr1 t1 he1 q1 fun y S2 q2 H2 x2 t2 hr2 he2 => hk _ S2 q2 H2 (x1.trans x2) t2
theorem FW.ft (h : FW X W e ta) : FT X W e ta := ⟨h.pw.pt⟩
theorem fe_one {op} (h : FE X W a ma) : FE X W (.BoolOp op [a] pos) ma := ⟨pe_one h.pe⟩
theorem fe_and (ha : FE X W a ma) (hb : FE X W (.BoolOp .And (b :: rest) pos) mb) : FE X W (.BoolOp .And (a :: b :: rest) pos) (dAnd ma mb) := by
  refine fe_of (pe_and ha.pe hb.pe) fun σ H Q ⟨env, S, R, E, hr, ht, he, q, hk⟩ => ?_
  refine tD.mk hr ht he q fun x S1 ⟨c, hc, q1⟩ vx H1 x1 t1 r1 hr1 he1 => ?_
  subst hc
  refine ⟨c, rz_bl_inv r1, ?_⟩
  cases c with
  | true =>
    rw [if_pos rfl] at q1 ⊢
    exact tD.mk hr1 t1 he1 q1 fun y S2 q2 vy H2 x2 t2 r2 hr2 he2 => hk _ S2 q2 vy H2 (x1.trans x2) t2 r2
  | false =>
    rw [if_neg Bool.false_ne_true] at q1 ⊢
    exact hk _ S1 q1 _ H1 x1 t1 (rz_bl false)
theorem fe_or (ha : FE X W a ma) (hb : FE X W (.BoolOp .Or (b :: rest) pos) mb) : FE X W (.BoolOp .Or (a :: b :: rest) pos) (dOr ma mb) := by
  refine fe_of (pe_or ha.pe hb.pe) fun σ H Q ⟨env, S, R, E, hr, ht, he, q, hk⟩ => ?_
  refine tD.mk hr ht he q fun x S1 ⟨c, hc, q1⟩ vx H1 x1 t1 r1 hr1 he1 => ?_
  subst hc
  refine ⟨c, rz_bl_inv r1, ?_⟩
  cases c with
  | true =>
    rw [if_pos rfl] at q1 ⊢
    exact hk _ S1 q1 _ H1 x1 t1 (rz_bl true)
  | false =>
    rw [if_neg Bool.false_ne_true] at q1 ⊢
    exact tD.mk hr1 t1 he1 q1 fun y S2 q2 vy H2 x2 t2 r2 hr2 he2 => hk _ S2 q2 vy H2 (x1.trans x2) t2 r2
theorem fe_not (ha : FE X W a ma) : FE X W (.UnaryOp .Not a pos) (dNot ma) := by
  refine fe_of (pe_not ha.pe) fun σ H Q ⟨env, S, R, E, hr, ht, he, q, hk⟩ => ?_
  refine tD.mk hr ht he q fun x S1 ⟨c, hc, q1⟩ vx H1 x1 t1 r1 hr1 he1 => ?_
  subst hc
  exact ⟨c, rz_bl_inv r1, hk _ S1 q1 _ H1 x1 t1 (rz_bl _)⟩
theorem fe_ifE (hc : FT X W c ta) (ha : FE X W a ma) (hb : FE X W b mb) : FE X W (.IfExp c a b pos) (dIfE ta ma mb) := by
  refine fe_of (pe_ifExp hc.pt ha.pe hb.pe) fun σ H Q ⟨env, S, R, E, hr, ht, he, q, hk⟩ => ?_
  refine tDT.mk hr ht he q fun x S1 q1 H1 x1 t1 hr1 he1 => ?_
  cases x with
  | true =>
    rw [if_pos rfl] at q1 ⊢
    exact tD.mk hr1 t1 he1 q1 fun y S2 q2 vy H2 x2 t2 r2 hr2 he2 => hk _ S2 q2 vy H2 (x1.trans x2) t2 r2
  | false =>
    rw [if_neg Bool.false_ne_true] at q1 ⊢
    exact tD.mk hr1 t1 he1 q1 fun y S2 q2 vy H2 x2 t2 r2 hr2 he2 => hk _ S2 q2 vy H2 (x1.trans x2) t2 r2
def dNeg (ma : DE) : DE := fun E env S k => ma E env S fun x S1 => ∃ i, x = .int i ∧ k (.int (-i)) S1
theorem fe_neg (ha : FE X W a ma) : FE X W (.UnaryOp .USub a pos) (dNeg ma) := by
  refine fe_of (pe_un un_neg ha.pe) fun σ H Q ⟨env, S, R, E, hr, ht, he, q, hk⟩ => ?_
  refine tD.mk hr ht he q fun x S1 ⟨c, hc, q1⟩ vx H1 x1 t1 r1 hr1 he1 => ?_
  subst hc
  unfold RZ at r1
  exact ⟨c, r1, hk _ S1 q1 _ H1 x1 t1 (by unfold RZ; rfl)⟩
end
end L3
namespace L3
open PySem PySem.Spec PyProof.Rows L2

/-! ### subscripts -/
def pIx (S : Sm) (x i : Z) : Option Z := match i with
  | .int j => (seqOf S x).bind fun zs => atI zs j
  | _ => none
theorem rzs_atI {K : PySem.W.Frag} {H : Hp} {zs : List Z} {vs : List V} (r : RZs K H zs vs) {j : Int} {z : Z} (h : atI zs j = some z) : ∃ v, atI vs j = some v ∧ RZ K H z v := by
  unfold atI at h ⊢
  rw [r.length]
  cases e : ixN zs.length j with
  | none => rw [e] at h; cases h
  | some n =>
    rw [e] at h
    obtain ⟨v, h1, h2⟩ := r.get (show zs[n]? = some z from h)
    exact ⟨v, h1, h2⟩
section
variable {X : Cx} {W : WX} {a b e : Expr} {ma mb : DE} {pos : Pos} {es : List Expr} {mas : DA}
def dIx (ma mb : DE) : DE := fun E env S k => ma E env S fun x S1 => mb E env S1 fun y S2 => ∃ z, pIx S2 x y = some z ∧ k z S2
def rIxLT (K : PySem.W.Frag) : R2 := fun x y H Q => rIxL K x y H Q ∨ rIxT K x y H Q
theorem fe_ix (ha : FE X W a ma) (hb : FE X W b mb) (hs : PlainIx b) : FE X W (.Subscript a b pos) (dIx ma mb) := by
  refine fe_of (pe_ix (r := rIxLT X.K) (ix_list.or ix_tup) ha.pe hb.pe hs) fun σ H Q ⟨env, S, R, E, hr, ht, he, q, hk⟩ => ?_
  refine tD.mk hr ht he q fun x S1 q1 vx H1 x1 t1 r1 hr1 he1 => ?_
  refine tD.mk hr1 t1 he1 q1 fun y S2 ⟨z, hz, q2⟩ vy H2 x2 t2 r2 hr2 he2 => ?_
  cases y with
  | int j =>
    unfold RZ at r2
    subst r2
    have hz' : (seqOf S2 x).bind (fun zs => atI zs j) = some z := hz
    cases hs : seqOf S2 x with
    | none => rw [hs] at hz'; cases hz'
    | some zs =>
      rw [hs] at hz'
      obtain ⟨p, vs, rfl, hp, hrs⟩ := seqOf_ok hs (RZ.ext t1 x2 _ _ r1) t2
      obtain ⟨v, hv, rv⟩ := rzs_atI hrs (show atI zs j = some z from hz')
      rcases hp with hp | hp
      · exact .inl ⟨p, vs, j, v, rfl, rfl, hp, hv, hk z S2 q2 v H2 (x1.trans x2) t2 rv⟩
      · exact .inr ⟨p, vs, j, v, rfl, rfl, hp, hv, hk z S2 q2 v H2 (x1.trans x2) t2 rv⟩
  | _ => cases hz

/-! ### slices -/
abbrev DO := EK → Env → Sm → (Option Int → Sm → Prop) → Prop
def tDO (K : PySem.W.Frag) (mg : Str → Option Value) (W : WX) (m : DO) : TO := fun σ H Q => ∃ env S R E, REnv K H σ env ∧ Tie K H S ∧ EOk K mg W E H S ∧ m E env S R ∧ ∀ o S', R o S' → ∀ H', Ext H S H' S' → Tie K H' S' → Q o H'
structure FO (X : Cx) (W : WX) (e : Option Expr) (m : DO) : Prop where po : PO X e (tDO X.K X.mg W m)
theorem PO.imp {o : Option Expr} {t t' : TO} (h : PO X o t) (i : ∀ σ H Q, t' σ H Q → t σ H Q) : PO X o t' := ⟨fun pins s σ H Q I q => h.run pins s σ H Q I (i σ H Q q)⟩
def dNoPart : DO := fun E env S k => k none S
def dPart (m : DE) : DO := fun E env S k => m E env S fun z S1 => ∃ i, z = .int i ∧ k (some i) S1
theorem fo_none : FO X W none dNoPart := ⟨PO.imp po_none fun σ H Q ⟨env, S, R, E, hr, ht, he, q, hk⟩ => hk none S q H Ext.refl ht⟩
theorem fo_some (h : FE X W e ma) : FO X W (some e) (dPart ma) := by
  refine ⟨PO.imp (po_some h.pe) fun σ H Q ⟨env, S, R, E, hr, ht, he, q, hk⟩ => ?_⟩
  refine tD.mk hr ht he q fun x S1 ⟨i, hi, q1⟩ vx H1 x1 t1 r1 hr1 he1 => ?_
  subst hi
  unfold RZ at r1
  exact ⟨i, r1, hk _ S1 q1 H1 x1 t1⟩
def cutZ (xs : List Z) (lo hi : Option Int) : List Z := (xs.drop (HT.sIx xs.length 0 lo)).take (HT.sIx xs.length xs.length hi - HT.sIx xs.length 0 lo)
theorem rzs_cut {K : PySem.W.Frag} {H : Hp} {zs : List Z} {vs : List V} (r : RZs K H zs vs) (lo hi : Option Int) : RZs K H (cutZ zs lo hi) (cutV vs lo hi) := by
  unfold cutZ cutV
  rw [r.length]
  exact (r.drop _).take _
def pSl (S : Sm) (x : Z) (lo hi : Option Int) : Option Z := match x with
  | .tup zs => some (.tup (cutZ zs lo hi))
  | .lst zs => some (.lst (cutZ zs lo hi))
  | .ref a => match S a with
    | some (.lst zs) => some (.lst (cutZ zs lo hi))
    | _ => none
  | _ => none
/-- a list's slice, frozen -/
def rSlF (K : PySem.W.Frag) : V → Option Int → Option Int → Hp → VK → Prop := fun x lo hi H Q => ∃ a xs, x = .ref a ∧ SqL K H a xs ∧ ∀ p, H p = none → ∀ o, Q (.ref p) (upd H p (.frz o (.lst (cutV xs lo hi))))
theorem sl_frz : SlR X (rSlF X.K) := by
  intro pins s σ H x v vl vu lo hi sl Q I rx hs pl pu h
  obtain ⟨a, xs, rfl, hx, q⟩ := h
  obtain ⟨T, id, h1, h2, h3⟩ := sl_list pins s σ H (.ref a) v vl vu lo hi sl (fun w H' => ∃ p, w = .ref p ∧ H p = none ∧ H' = upd H p (.lst (cutV xs lo hi))) I rx hs pl pu ⟨a, xs, rfl, hx, fun p hp => ⟨p, rfl, hp, rfl⟩⟩
  refine ⟨T, id, h1, h2, thn h3 fun u s1 ⟨w, H1, I1, r1, p, e1, hp, e2⟩ => ?_⟩
  subst e1 e2
  obtain ⟨o, I2⟩ := Inv.freeze I1 upd_same
  rw [upd_upd] at I2
  exact ⟨_, _, I2, r1, q p hp o⟩
def dSl (ma : DE) (ml mh : DO) : DE := fun E env S k => ma E env S fun x S1 => ml E env S1 fun lo S2 => mh E env S2 fun hi S3 => ∃ z, pSl S3 x lo hi = some z ∧ k z S3
theorem tDO.mk {K : PySem.W.Frag} {mg : Str → Option Value} {m : DO} {σ : L2.St} {H : Hp} {Q : Option Int → Hp → Prop} {env : Env} {S : Sm} {R : Option Int → Sm → Prop} {E : EK}
    (hr : REnv K H σ env) (ht : Tie K H S) (he : EOk K mg W E H S) (hm : m E env S R)
    (hk : ∀ z S', R z S' → ∀ H', Ext H S H' S' → Tie K H' S' → REnv K H' σ env → EOk K mg W E H' S' → Q z H') : tDO K mg W m σ H Q :=
  ⟨env, S, R, E, hr, ht, he, hm, fun z S' h H' x t => hk z S' h H' x t (hr.ext ht x) (he.ext x)⟩
theorem fe_slice {lo hi : Option Expr} {ml mh : DO} {p2 : Pos} (ha : FE X W a ma) (hl : FO X W lo ml) (hh : FO X W hi mh) : FE X W (.Subscript a (.Slice lo hi none p2) pos) (dSl ma ml mh) := by
  refine fe_of (pe_slice (r := fun x lo hi H Q => rSlA X.K x lo hi H Q ∨ rSlF X.K x lo hi H Q) (sl_tupA.or sl_frz) ha.pe hl.po hh.po) fun σ H Q ⟨env, S, R, E, hr, ht, he, q, hk⟩ => ?_
  refine tD.mk hr ht he q fun x S1 q1 vx H1 x1 t1 r1 hr1 he1 => ?_
  refine tDO.mk hr1 t1 he1 q1 fun lo S2 q2 H2 x2 t2 hr2 he2 => ?_
  refine tDO.mk hr2 t2 he2 q2 fun hi S3 ⟨z, hz, q3⟩ H3 x3 t3 hr3 he3 => ?_
  have r3 := RZ.ext t1 (x2.trans x3) _ _ r1
  have xx := x1.trans (x2.trans x3)
  cases x with
  | tup zs =>
    cases hz
    have r3' := r3
    unfold RZ at r3
    obtain ⟨a, vs, rfl, hv, hrs⟩ := r3
    refine .inl ⟨a, vs, rfl, hv, fun hw => ?_, fun hw p hp => ?_⟩
    · refine hk _ S3 q3 _ H3 xx t3 ?_
      have hl := hrs.length
      have e : cutZ zs lo hi = zs := by
        unfold cutZ
        rw [← hl, hw.1, hw.2, List.drop_zero, Nat.sub_zero, hl, List.take_length]
      rw [e]
      exact r3'
    · exact hk _ S3 q3 _ _ (xx.trans (Ext.same (sub_new (K := X.K) (S := S3) hp))) (t3.ext (sub_new (K := X.K) (S := S3) hp)) (rz_tup_new t3 hp (rzs_cut hrs lo hi))
  | lst zs =>
    cases hz
    unfold RZ at r3
    obtain ⟨a, vs, rfl, hv, hrs⟩ := r3
    exact .inr ⟨a, vs, rfl, hv.sq, fun p hp o => hk _ S3 q3 _ _ (xx.trans (Ext.same (sub_new (K := X.K) (S := S3) hp))) (t3.ext (sub_new (K := X.K) (S := S3) hp)) (rz_lst_new t3 hp (rzs_cut hrs lo hi))⟩
  | ref a =>
    unfold RZ at r3
    subst r3
    have hz' : (match S3 a with | some (.lst zs) => some (Z.lst (cutZ zs lo hi)) | _ => none) = some z := hz
    cases hs : S3 a with
    | none => rw [hs] at hz'; cases hz'
    | some o =>
      cases o with
      | lst zs =>
        rw [hs] at hz'
        cases hz'
        obtain ⟨vs, hv, hrs⟩ := t3 a _ hs
        exact .inr ⟨a, vs, rfl, SqL.of hv, fun p hp o => hk _ S3 q3 _ _ (xx.trans (Ext.same (sub_new (K := X.K) (S := S3) hp))) (t3.ext (sub_new (K := X.K) (S := S3) hp)) (rz_lst_new t3 hp (rzs_cut hrs lo hi))⟩
      | src => rw [hs] at hz'; cases hz'
      | ins C fs => rw [hs] at hz'; cases hz'
  | _ => cases hz

/-! ### argument lists and displays -/
def dNil : DA := fun E env S k => k [] S
def dCons (m : DE) (ms : DA) : DA := fun E env S k => m E env S fun z S1 => ms E env S1 fun zs S2 => k (z :: zs) S2
theorem fa_nil : FA X W [] dNil := ⟨PA.imp pa_nil fun σ H Q ⟨env, S, R, E, hr, ht, he, q, hk⟩ => hk [] S q [] H Ext.refl ht RZs.nil⟩
theorem fa_cons (h : FE X W e ma) (hs : FA X W es mas) (hst : starEach (e :: es) X.env = (false, eval e X.env) :: starEach es X.env := by rfl) : FA X W (e :: es) (dCons ma mas) := by
  refine ⟨PA.imp (pa_cons h.pe hs.pa hst) fun σ H Q ⟨env, S, R, E, hr, ht, he, q, hk⟩ => ?_⟩
  refine tD.mk hr ht he q fun x S1 q1 vx H1 x1 t1 r1 hr1 he1 => ?_
  exact tDA.mk hr1 t1 he1 q1 fun zs S2 q2 vs H2 x2 t2 r2 hr2 he2 => hk _ S2 q2 _ H2 (x1.trans x2) t2 (RZs.cons (RZ.ext t1 x2 _ _ r1) r2)
def dTup (m : DA) : DE := fun E env S k => m E env S fun zs S1 => szOk zs.length = true ∧ k (.tup zs) S1
def dLst (m : DA) : DE := fun E env S k => m E env S fun zs S1 => szOk zs.length = true ∧ k (.lst zs) S1
/-- a list that is changed later -/
def dLstM (m : DA) : DE := fun E env S k => m E env S fun zs S1 => szOk zs.length = true ∧ ∀ p, S1 p = none → k (.ref p) (sUpd S1 p (.lst zs))
theorem fe_tup {j} (h : FA X W es mas) : FE X W (.Tuple es j pos) (dTup mas) := by
  refine fe_of (pe_tup h.pa) fun σ H Q ⟨env, S, R, E, hr, ht, he, q, hk⟩ => ?_
  refine tDA.mk hr ht he q fun zs S1 ⟨hz, q1⟩ vs H1 x1 t1 r1 hr1 he1 => ?_
  refine ⟨by rw [r1.length]; exact szOk_le hz, fun p hp => ?_⟩
  exact hk _ S1 q1 _ _ (x1.trans (Ext.same (sub_new (K := X.K) (S := S1) hp))) (t1.ext (sub_new (K := X.K) (S := S1) hp)) (rz_tup_new t1 hp r1)
theorem fe_lst (h : FA X W es mas) : FE X W (.List es pos) (dLst mas) := by
  refine fe_of (pe_frz (pe_lst h.pa)) fun σ H Q ⟨env, S, R, E, hr, ht, he, q, hk⟩ => ?_
  refine tDA.mk hr ht he q fun zs S1 ⟨hz, q1⟩ vs H1 x1 t1 r1 hr1 he1 => ?_
  refine ⟨by rw [r1.length]; exact szOk_le hz, fun p hp => ⟨p, vs, rfl, upd_same, fun o => ?_⟩⟩
  rw [upd_upd]
  exact hk _ S1 q1 _ _ (x1.trans (Ext.same (sub_new (K := X.K) (S := S1) hp))) (t1.ext (sub_new (K := X.K) (S := S1) hp)) (rz_lst_new t1 hp r1)
theorem tie_lst_new {K : PySem.W.Frag} {H : Hp} {S : Sm} {p : Addr} {zs : List Z} {vs : List V} (t : Tie K H S) (hp : H p = none) (r : RZs K H zs vs) : Tie K (upd H p (.lst vs)) (sUpd S p (.lst zs)) :=
  tie_new t hp ⟨vs, upd_same, RZs.ext t (Ext.same (sub_new (K := K) (S := S) hp)) _ _ r⟩
theorem fe_lstM (h : FA X W es mas) : FE X W (.List es pos) (dLstM mas) := by
  refine fe_of (pe_lst h.pa) fun σ H Q ⟨env, S, R, E, hr, ht, he, q, hk⟩ => ?_
  refine tDA.mk hr ht he q fun zs S1 ⟨hz, q1⟩ vs H1 x1 t1 r1 hr1 he1 => ?_
  refine ⟨by rw [r1.length]; exact szOk_le hz, fun p hp => ?_⟩
  exact hk _ _ (q1 p (new_none t1 hp)) _ _ (x1.trans (ext_new hp)) (tie_lst_new t1 hp r1) (by unfold RZ; rfl)

/-! ### built-in calls -/
abbrev CF := Sm → List Z → (Z → Sm → Prop) → Prop
def CallOk (K : PySem.W.Frag) (r : List V → Hp → VK → Prop) (f : CF) : Prop := ∀ (H : Hp) (S : Sm) (zs : List Z) (vs : List V) (Q : VK) (R : Z → Sm → Prop), f S zs R → Tie K H S → RZs K H zs vs →
  (∀ z S', R z S' → ∀ v H', Ext H S H' S' → Tie K H' S' → RZ K H' z v → Q v H') → r vs H Q
def dCall (f : CF) (mas : DA) : DE := fun E env S k => mas E env S fun zs S1 => f S1 zs k
structure Cb (X : Cx) (u : Value) (f : CF) : Prop where
  ex : ∃ r, CallR X u r ∧ CallOk X.K r f
theorem fe_callB {f : CF} {x : Str} {id : String} {p : Pos} (c : Cb X (.builtin id) f) (hm : X.mg x = none) (hv : bootBuiltins x = some (.builtin id)) (ha : FA X W (e :: es) mas) (hg : Gl X x := by rfl) (hn : x ≠ "__name__" := by decide) (hdb : (x == ("__debug__" : Str)) = false := by decide)
    (he : starEach (e :: es) X.env = (false, eval e X.env) :: starEach es X.env := by rfl) (hpl : (backTo pos (starEach es X.env)).any (·.1) = false := by rfl) : FE X W (.Call (.Name x p) (e :: es) [] pos) (dCall f mas) := by
  obtain ⟨r, hr, hf⟩ := c.ex
  refine fe_of (pe_callB hr hg hm hv ha.pa hn hdb he hpl) fun σ H Q ⟨env, S, R, E, hr, ht, he, q, hk⟩ => ?_
  refine tDA.mk hr ht he q fun zs S1 q1 vs H1 x1 t1 r1 hr1 he1 => ?_
  exact hf H1 S1 zs vs Q R q1 t1 r1 fun z S' hz v H' xx tt rr => hk z S' hz v H' (x1.trans xx) tt rr
theorem fe_callT {f : CF} {x : Str} {T : String} {p : Pos} (c : Cb X (.type T) f) (hm : X.mg x = none) (hv : bootBuiltins x = some (.type T)) (ha : FA X W (e :: es) mas) (hg : Gl X x := by rfl) (hn : x ≠ "__name__" := by decide) (hdb : (x == ("__debug__" : Str)) = false := by decide)
    (he : starEach (e :: es) X.env = (false, eval e X.env) :: starEach es X.env := by rfl) (hpl : (backTo pos (starEach es X.env)).any (·.1) = false := by rfl) : FE X W (.Call (.Name x p) (e :: es) [] pos) (dCall f mas) := by
  obtain ⟨r, hr, hf⟩ := c.ex
  refine fe_of (pe_callTy hr hg hm hv ha.pa hn hdb he hpl) fun σ H Q ⟨env, S, R, E, hr, ht, he, q, hk⟩ => ?_
  refine tDA.mk hr ht he q fun zs S1 q1 vs H1 x1 t1 r1 hr1 he1 => ?_
  exact hf H1 S1 zs vs Q R q1 t1 r1 fun z S' hz v H' xx tt rr => hk z S' hz v H' (x1.trans xx) tt rr
/-- a function of data -/
def pure1 (f : Sm → List Z → Option Z) : CF := fun S zs k => ∃ z, f S zs = some z ∧ k z S
theorem rzs1 {K : PySem.W.Frag} {H : Hp} {z : Z} {vs : List V} (h : RZs K H [z] vs) : ∃ v, vs = [v] ∧ RZ K H z v := by
  unfold RZs at h
  obtain ⟨v, r, rfl, h1, h2⟩ := h
  unfold RZs at h2
  subst h2
  exact ⟨v, rfl, h1⟩
theorem rzs2 {K : PySem.W.Frag} {H : Hp} {z y : Z} {vs : List V} (h : RZs K H [z, y] vs) : ∃ v u, vs = [v, u] ∧ RZ K H z v ∧ RZ K H y u := by
  unfold RZs at h
  obtain ⟨v, r, rfl, h1, h2⟩ := h
  obtain ⟨u, rfl, h3⟩ := rzs1 h2
  exact ⟨v, u, rfl, h1, h3⟩
theorem rz_int {K : PySem.W.Frag} {H : Hp} (i : Int) : RZ K H (.int i) (.int i) := by unfold RZ; rfl
def pLen1 (S : Sm) : List Z → Option Z
  | [x] => pLen S x
  | _ => none
theorem cb_len : Cb X (.builtin "len") (pure1 pLen1) := ⟨_, call_len, fun H S zs vs Q R ⟨z, hz, q⟩ t r k => by
  match zs, hz with
  | [x], hz =>
    obtain ⟨v, rfl, rv⟩ := rzs1 r
    cases x with
    | str s =>
      simp only [pLen1, pLen] at hz
      split at hz
      · rename_i hs
        cases hz
        unfold RZ at rv
        subst rv
        exact ⟨_, _, rfl, ⟨szOk_le hs, rfl⟩, k _ S q _ H Ext.refl t (rz_int _)⟩
      · cases hz
    | _ =>
      simp only [pLen1, pLen, Option.map_eq_some_iff] at hz
      obtain ⟨ys, hy, rfl⟩ := hz
      obtain ⟨a, ws, rfl, hq, hrs⟩ := seqOf_ok hy rv t
      refine ⟨_, ws.length, rfl, ?_, ?_⟩
      · rcases hq with hq | hq
        · exact .inl ⟨ws, hq, rfl⟩
        · exact .inr ⟨ws, hq, rfl⟩
      · rw [hrs.length]
        exact k _ S q _ H Ext.refl t (rz_int _)⟩
def pAbs (_ : Sm) : List Z → Option Z
  | [.int i] => some (.int (if i < 0 then -i else i))
  | _ => none
theorem cb_abs : Cb X (.builtin "abs") (pure1 pAbs) := ⟨_, call_abs, fun H S zs vs Q R ⟨z, hz, q⟩ t r k => by
  match zs, hz with
  | [.int i], hz =>
    obtain ⟨v, rfl, rv⟩ := rzs1 r
    cases hz
    unfold RZ at rv
    subst rv
    exact ⟨i, rfl, k _ S q _ H Ext.refl t (rz_int _)⟩⟩
def pInt (_ : Sm) : List Z → Option Z
  | [.int i] => some (.int i)
  | [.bl b] => some (.int (if b then 1 else 0))
  | _ => none
theorem cb_int : Cb X (.type "int") (pure1 pInt) := ⟨_, call_int1, fun H S zs vs Q R ⟨z, hz, q⟩ t r k => by
  match zs, hz with
  | [.int i], hz =>
    obtain ⟨v, rfl, rv⟩ := rzs1 r
    cases hz
    unfold RZ at rv
    subst rv
    exact .inl ⟨i, rfl, k _ S q _ H Ext.refl t (rz_int _)⟩
  | [.bl b], hz =>
    obtain ⟨v, rfl, rv⟩ := rzs1 r
    cases hz
    unfold RZ at rv
    subst rv
    exact .inr ⟨b, rfl, k _ S q _ H Ext.refl t (rz_int _)⟩⟩
/-- list(x), frozen -/
def pList (S : Sm) : List Z → Option Z
  | [x] => (seqOf S x).map .lst
  | _ => none
theorem callR_frz {u : Value} {r : List V → Hp → VK → Prop} (h : CallR X u r) : CallR X u (fun xs H Q => r xs H fun v H' => ∃ a ys, v = .ref a ∧ H' a = some (.lst ys) ∧ ∀ o, Q v (upd H' a (.frz o (.lst ys)))) := by
  intro pins s σ H xs us Q I rx q
  refine thn (h pins s σ H xs us _ I rx q) fun u s1 ⟨v, H1, I1, r1, a, ys, e1, e2, q1⟩ => ?_
  obtain ⟨o, I2⟩ := Inv.freeze I1 e2
  exact ⟨v, _, I2, r1, q1 o⟩
theorem cb_list : Cb X (.type "list") (pure1 pList) := ⟨_, callR_frz call_list_of, fun H S zs vs Q R ⟨z, hz, q⟩ t r k => by
  match zs, hz with
  | [x], hz =>
    obtain ⟨v, rfl, rv⟩ := rzs1 r
    simp only [pList, Option.map_eq_some_iff] at hz
    obtain ⟨ys, hy, rfl⟩ := hz
    obtain ⟨a, ws, rfl, hq, hrs⟩ := seqOf_ok hy rv t
    refine ⟨a, ws, rfl, hq, fun p hp => ⟨p, ws, rfl, upd_same, fun o => ?_⟩⟩
    rw [upd_upd]
    exact k _ S q _ _ (Ext.same (sub_new (K := X.K) (S := S) hp)) (t.ext (sub_new (K := X.K) (S := S) hp)) (rz_lst_new t hp hrs)⟩
/-- list(x), changed later -/
def mList : CF := fun S zs k => ∃ x ys, zs = [x] ∧ seqOf S x = some ys ∧ ∀ p, S p = none → k (.ref p) (sUpd S p (.lst ys))
theorem cb_listM : Cb X (.type "list") mList := ⟨_, call_list_of, fun H S zs vs Q R ⟨x, ys, e, hy, q⟩ t r k => by
  subst e
  obtain ⟨v, rfl, rv⟩ := rzs1 r
  obtain ⟨a, ws, rfl, hq, hrs⟩ := seqOf_ok hy rv t
  exact ⟨a, ws, rfl, hq, fun p hp => k _ _ (q p (new_none t hp)) _ _ (ext_new hp) (tie_lst_new t hp hrs) (by unfold RZ; rfl)⟩⟩
def pTuple (S : Sm) : List Z → Option Z
  | [x] => (seqOf S x).map .tup
  | _ => none
theorem cb_tuple : Cb X (.type "tuple") (pure1 pTuple) := ⟨_, call_tuple_of, fun H S zs vs Q R ⟨z, hz, q⟩ t r k => by
  match zs, hz with
  | [x], hz =>
    obtain ⟨v, rfl, rv⟩ := rzs1 r
    simp only [pTuple, Option.map_eq_some_iff] at hz
    obtain ⟨ys, hy, rfl⟩ := hz
    obtain ⟨a, ws, rfl, hq, hrs⟩ := seqOf_ok hy rv t
    refine ⟨a, ws, rfl, ?_⟩
    rcases hq with hq | hq
    · exact .inl ⟨hq, fun p hp => k _ S q _ _ (Ext.same (sub_new (K := X.K) (S := S) hp)) (t.ext (sub_new (K := X.K) (S := S) hp)) (rz_tup_new t hp hrs)⟩
    · refine .inr ⟨hq, k _ S q _ H Ext.refl t ?_⟩
      unfold RZ
      exact ⟨a, ws, rfl, hq, hrs⟩⟩
def blsOf : List Z → Option (List Bool)
  | [] => some []
  | .bl b :: zs => (blsOf zs).map (b :: ·)
  | _ :: _ => none
theorem blsOf_ok {K : PySem.W.Frag} {H : Hp} : ∀ {zs : List Z} {bs : List Bool} {vs : List V}, blsOf zs = some bs → RZs K H zs vs → vs = bs.map V.bl
  | [], bs, vs, h, r => by
    cases h
    unfold RZs at r
    exact r
  | z :: zs, bs, vs, h, r => by
    unfold RZs at r
    obtain ⟨v, r', rfl, h1, h2⟩ := r
    cases z with
    | bl b =>
      simp only [blsOf, Option.map_eq_some_iff] at h
      obtain ⟨cs, hc, rfl⟩ := h
      unfold RZ at h1
      rw [h1, blsOf_ok hc h2]
      rfl
    | _ => cases h
def lstOf (S : Sm) : Z → Option (List Z)
  | .lst zs => some zs
  | .ref a => match S a with
    | some (.lst zs) => some zs
    | _ => none
  | _ => none
theorem lstOf_seq {S : Sm} {z : Z} {zs : List Z} (h : lstOf S z = some zs) : seqOf S z = some zs := by
  cases z <;> first | exact h | cases h
theorem lstOf_ok {K : PySem.W.Frag} {H : Hp} {S : Sm} {z : Z} {v : V} {zs : List Z} (h : lstOf S z = some zs) (r : RZ K H z v) (t : Tie K H S) :
    ∃ a vs, v = .ref a ∧ SqL K H a vs ∧ (H a = some (.lst vs) ∨ FzL K H a vs) ∧ RZs K H zs vs := by
  cases z with
  | lst ys =>
    cases h
    unfold RZ at r
    obtain ⟨a, vs, e, h1, h2⟩ := r
    exact ⟨a, vs, e, h1.sq, .inr h1, h2⟩
  | ref a =>
    unfold RZ at r
    unfold lstOf at h
    cases q : S a with
    | none => simp [q] at h
    | some o =>
      cases o with
      | lst ys =>
        simp [q] at h
        subst h
        obtain ⟨vs, h1, h2⟩ := t a _ q
        exact ⟨a, vs, r, SqL.of h1, .inl h1, h2⟩
      | src => simp [q] at h
      | ins C fs => simp [q] at h
  | _ => simp [lstOf] at h
def pAll (S : Sm) : List Z → Option Z
  | [x] => ((lstOf S x).bind blsOf).map fun bs => .bl (bs.all id)
  | _ => none
def pAny (S : Sm) : List Z → Option Z
  | [x] => ((lstOf S x).bind blsOf).map fun bs => .bl (bs.any id)
  | _ => none
theorem cb_all (hc : X.calm = true) : Cb X (.builtin "all") (pure1 pAll) := ⟨_, cr_all hc, fun H S zs vs Q R ⟨z, hz, q⟩ t r k => by
  match zs, hz with
  | [x], hz =>
    obtain ⟨v, rfl, rv⟩ := rzs1 r
    simp only [pAll, Option.map_eq_some_iff, Option.bind_eq_some_iff] at hz
    obtain ⟨bs, ⟨ys, hy, hb⟩, rfl⟩ := hz
    obtain ⟨a, ws, rfl, hq, _, hrs⟩ := lstOf_ok hy rv t
    have e := blsOf_ok hb hrs
    subst e
    exact ⟨a, bs, rfl, hq, k _ S q _ H Ext.refl t (rz_bl _)⟩⟩
theorem cb_any (hc : X.calm = true) : Cb X (.builtin "any") (pure1 pAny) := ⟨_, cr_any hc, fun H S zs vs Q R ⟨z, hz, q⟩ t r k => by
  match zs, hz with
  | [x], hz =>
    obtain ⟨v, rfl, rv⟩ := rzs1 r
    simp only [pAny, Option.map_eq_some_iff, Option.bind_eq_some_iff] at hz
    obtain ⟨bs, ⟨ys, hy, hb⟩, rfl⟩ := hz
    obtain ⟨a, ws, rfl, hq, _, hrs⟩ := lstOf_ok hy rv t
    have e := blsOf_ok hb hrs
    subst e
    exact ⟨a, bs, rfl, hq, k _ S q _ H Ext.refl t (rz_bl _)⟩⟩
def pMin2 (_ : Sm) : List Z → Option Z
  | [.int i, .int j] => some (.int (if j < i then j else i))
  | _ => none
theorem cb_min2 (hc : X.calm = true) : Cb X (.builtin "min") (pure1 pMin2) := ⟨_, call_min2 hc, fun H S zs vs Q R ⟨z, hz, q⟩ t r k => by
  match zs, hz with
  | [.int i, .int j], hz =>
    obtain ⟨v, u, rfl, rv, ru⟩ := rzs2 r
    cases hz
    unfold RZ at rv ru
    subst rv ru
    exact ⟨i, j, rfl, k _ S q _ H Ext.refl t (rz_int _)⟩⟩
/-! isinstance -/
def tyName (S : Sm) : Z → Option String
  | .non => some "NoneType"
  | .bl _ => some "bool"
  | .int _ => some "int"
  | .str _ => some "str"
  | .tup _ => some "tuple"
  | .lst _ => some "list"
  | .ref a => match S a with
    | some (.lst _) => some "list"
    | _ => none
  | .ty _ => none
  | .scr _ => none
theorem tyName_ok {K : PySem.W.Frag} {H : Hp} {S : Sm} {z : Z} {v : V} {T : String} (h : tyName S z = some T) (r : RZ K H z v) (t : Tie K H S) : TyX K H v (.type T) := by
  cases z with
  | non => cases h; unfold RZ at r; subst r; exact .base .non
  | bl b => cases h; unfold RZ at r; subst r; exact .base (.bl b)
  | int b => cases h; unfold RZ at r; subst r; exact .base (.int b)
  | str b => cases h; unfold RZ at r; subst r; exact .base (.str b)
  | tup zs =>
    cases h
    unfold RZ at r
    obtain ⟨a, vs, rfl, hs, _⟩ := r
    rcases hs with (hs | ⟨o, hs⟩) | ⟨o, its, n, hk, hc, _⟩
    · exact .base (.tup hs)
    · exact .fTuple hs
    · exact .kTuple hk hc
  | lst zs =>
    cases h
    unfold RZ at r
    obtain ⟨a, vs, rfl, ⟨o, hs⟩, _⟩ := r
    exact .base (.frz hs)
  | ref a =>
    unfold RZ at r
    subst r
    unfold tyName at h
    cases q : S a with
    | none => simp [q] at h
    | some o =>
      cases o with
      | lst ys =>
        simp [q] at h
        subst h
        obtain ⟨vs, h1, h2⟩ := t a _ q
        exact .base (.lst h1)
      | src => simp [q] at h
      | ins C fs => simp [q] at h
  | ty n => cases h
  | scr _ => cases h
def tys : List String := ["NoneType", "bool", "int", "str", "tuple", "list"]
def isTy (a b : String) : Bool := a == b || (a == "bool" && b == "int")
theorem kitB_ok : ∀ a ∈ tys, ∀ b ∈ ["bool", "int", "str", "tuple", "list"], kitB a b = some (isTy a b) := by decide +kernel
theorem tyName_mem {S : Sm} {z : Z} {T : String} (h : tyName S z = some T) : T ∈ tys := by
  cases z <;> simp only [tyName] at h <;> first | (cases h; decide) | (split at h <;> first | (cases h; decide) | cases h) | cases h
def pIsI (S : Sm) : List Z → Option Z
  | [x, .ty n] => match tyName S x with
    | some T => if n ∈ ["bool", "int", "str", "tuple", "list"] then some (.bl (isTy T n)) else none
    | none => none
  | _ => none
theorem cb_isI : Cb X (.builtin "isinstance") (pure1 pIsI) := ⟨_, call_isi, fun H S zs vs Q R ⟨z, hz, q⟩ t r k => by
  match zs, hz with
  | [x, .ty n], hz =>
    obtain ⟨v, u, rfl, rv, ru⟩ := rzs2 r
    unfold RZ at ru
    subst ru
    simp only [pIsI] at hz
    split at hz
    · rename_i T hT
      split at hz
      · rename_i hn
        cases hz
        exact ⟨v, .ty n, _, _, _, rfl, .ty n, tyName_ok hT rv t, kit_ty (kitB_ok T (tyName_mem hT) n hn), k _ S q _ H Ext.refl t (rz_bl _)⟩
      · cases hz
    · cases hz⟩
end

/-! ### own functions -/
abbrev DF := List Z → (Exc → Sm → Prop) → Sm → (Z → Sm → Prop) → Prop
def spD (K : PySem.W.Frag) (mg : Str → Option Value) (f : DF) : Sp := fun vs H Q E => ∃ zs S R RE, RZs K H zs vs ∧ Tie K H S ∧ f zs RE S R ∧
  (∀ z S', R z S' → ∀ v H', Ext H S H' S' → Tie K H' S' → RZ K H' z v → Q v H') ∧
  (∀ e S', RE e S' → ∀ cls d H', Ext H S H' S' → Tie K H' S' → XR mg K H' e cls d → E cls d H')
/-- what the top has left, seen by every body -/
structure Fd (P : Program) (w : World) (K : PySem.W.Frag) (mg : Str → Option Value) (base : Heap) (k : Nat) (name : Str) (ps : List Str) (f : DF) : Prop where
  ex : ∃ fa fd, mg name = some (.ref fa) ∧ PySem.W.keepIn K (.ref fa) = true ∧ Binds K fd ps [] ∧ FnOk P w K mg base (L2.CX P w) k fa fd ps (spD K mg f)
def dCallF (f : DF) (mas : DA) : DE := fun E env S k => mas E env S fun zs S1 => f zs (fun e S' => E e env S') S1 k
section
variable {X : Cx} {W : WX} {e : Expr} {pos : Pos} {es : List Expr} {mas : DA}
theorem fe_call {k j : Nat} {x : Str} {ps : List Str} {f : DF} {p : Pos} (h : Fd X.prog X.w X.K X.mg X.base k x ps f) (hr : Room j X.A) (hkj : k ≤ j) (tk : Takes X W) (ha : FA X W (e :: es) mas) (hg : Gl X x := by rfl) (hdb : (x == ("__debug__" : Str)) = false := by decide)
    (he : starEach (e :: es) X.env = (false, eval e X.env) :: starEach es X.env := by rfl) (hpl : (backTo pos (starEach es X.env)).any (·.1) = false := by rfl) : FE X W (.Call (.Name x p) (e :: es) [] pos) (dCallF f mas) := by
  obtain ⟨fa, fd, hm, hk, hb, F⟩ := h.ex
  refine fe_of (pe_callS (F.mono hkj) hr hg hm hk hb (fun σ => passAt tk σ) ha.pa hdb he hpl) fun σ H Q ⟨env, S, R, E, hr, ht, he, q, hk⟩ => ?_
  refine tDA.mk hr ht he q fun zs S1 q1 vs H1 x1 t1 r1 hr1 he1 => ?_
  refine ⟨zs, S1, R, _, r1, t1, q1, fun z S' hz v H' xx tt rr => hk z S' hz v H' (x1.trans xx) tt rr, fun ex S' hex cls d H' xx tt xr => ?_⟩
  exact he1 ex env S' hex cls d σ H' xx tt (hr1.ext t1 xx) xr
end
end L3
namespace L3
open PySem PySem.Spec PyProof.Rows L2

/-! ### a heap that keeps its tuples and its frozen objects -/
mutual
theorem RZ.tf {K : PySem.W.Frag} {H H' : Hp} (t : ∀ b xs, H b = some (.tup xs) → H' b = some (.tup xs)) (f : ∀ b o u, H b = some (.frz o u) → H' b = some (.frz o u)) : ∀ (z : Z) (v : V), RZ K H z v → RZ K H' z v
  | .non, v, h => by unfold RZ at h ⊢; exact h
  | .bl b, v, h => by unfold RZ at h ⊢; exact h
  | .int i, v, h => by unfold RZ at h ⊢; exact h
  | .str x, v, h => by unfold RZ at h ⊢; exact h
  | .tup zs, v, h => by
    unfold RZ at h ⊢
    obtain ⟨a, vs, h1, h2, h3⟩ := h
    refine ⟨a, vs, h1, ?_, RZs.tf t f zs vs h3⟩
    rcases h2 with (h2 | ⟨o, h2⟩) | h2
    · exact .inl (.inl (t _ _ h2))
    · exact .inl (.inr ⟨o, f _ _ _ h2⟩)
    · exact .inr h2
  | .lst zs, v, h => by
    unfold RZ at h ⊢
    obtain ⟨a, vs, h1, ⟨o, h2⟩, h3⟩ := h
    exact ⟨a, vs, h1, ⟨o, f _ _ _ h2⟩, RZs.tf t f zs vs h3⟩
  | .ref a, v, h => by unfold RZ at h ⊢; exact h
  | .ty n, v, h => by unfold RZ at h ⊢; exact h
  | .scr zs, v, h => by
    unfold RZ at h ⊢
    obtain ⟨a, vs, h1, h2, h3⟩ := h
    refine ⟨a, vs, h1, ?_, RZs.tf t f zs vs h3⟩
    rcases h2 with ⟨o, h2⟩ | h2
    · exact .inl ⟨o, f _ _ _ h2⟩
    · exact .inr h2
theorem RZs.tf {K : PySem.W.Frag} {H H' : Hp} (t : ∀ b xs, H b = some (.tup xs) → H' b = some (.tup xs)) (f : ∀ b o u, H b = some (.frz o u) → H' b = some (.frz o u)) : ∀ (zs : List Z) (vs : List V), RZs K H zs vs → RZs K H' zs vs
  | [], vs, h => by unfold RZs at h ⊢; exact h
  | z :: zs, vs, h => by
    unfold RZs at h ⊢
    obtain ⟨v, r, h1, h2, h3⟩ := h
    exact ⟨v, r, h1, RZ.tf t f z v h2, RZs.tf t f zs r h3⟩
end
theorem RFs.tf {K : PySem.W.Frag} {H H' : Hp} (t : ∀ b xs, H b = some (.tup xs) → H' b = some (.tup xs)) (f : ∀ b o u, H b = some (.frz o u) → H' b = some (.frz o u)) : ∀ (fs : List (Str × Z)) (gs : List (Str × V)), RFs K H fs gs → RFs K H' fs gs
  | [], gs, h => by unfold RFs at h ⊢; exact h
  | (g, z) :: fs, gs, h => by
    unfold RFs at h ⊢
    obtain ⟨v, r, h1, h2, h3⟩ := h
    exact ⟨v, r, h1, RZ.tf t f z v h2, RFs.tf t f fs r h3⟩
/-- an object of another kind is put at a -/
theorem upd_tup {H : Hp} {a : Addr} {o u : HO} (h : H a = some u) (n : ∀ xs, u ≠ .tup xs) : ∀ b xs, H b = some (.tup xs) → upd H a o b = some (.tup xs) := fun b xs e => by
  rw [upd_ne fun z => by subst z; rw [h] at e; cases e; exact n xs rfl]
  exact e
theorem upd_frz {H : Hp} {a : Addr} {o u : HO} (h : H a = some u) (n : ∀ x w, u ≠ .frz x w) : ∀ b x w, H b = some (.frz x w) → upd H a o b = some (.frz x w) := fun b x w e => by
  rw [upd_ne fun z => by subst z; rw [h] at e; cases e; exact n x w rfl]
  exact e
/-- a tracked object is changed -/
theorem tie_put {K : PySem.W.Frag} {H : Hp} {S : Sm} {a : Addr} {o u : HO} {m : MO} (t : Tie K H S) (h : H a = some u) (n1 : ∀ xs, u ≠ .tup xs) (n2 : ∀ x w, u ≠ .frz x w) (q : TieO K (upd H a o) a m) : Tie K (upd H a o) (sUpd S a m) := by
  intro b p hb
  by_cases e : b = a
  · subst e
    rw [sUpd_same] at hb
    cases hb
    exact q
  · rw [sUpd_ne e] at hb
    have w := t b p hb
    have T := upd_tup (o := o) h n1
    have F := upd_frz (o := o) h n2
    cases p with
    | lst zs =>
      obtain ⟨vs, q1, q2⟩ := w
      exact ⟨vs, by rw [upd_ne e]; exact q1, RZs.tf T F _ _ q2⟩
    | src =>
      show upd H a o b = some (SRC b)
      rw [upd_ne e]
      exact w
    | ins C fs =>
      obtain ⟨dx, gs, q1, q2⟩ := w
      exact ⟨dx, gs, by rw [upd_ne e]; exact q1, RFs.tf T F _ _ q2⟩
theorem ext_put {H : Hp} {S : Sm} {a : Addr} {o : HO} {m m' : MO} (s : S a = some m') : Ext H S (upd H a o) (sUpd S a m) := fun b ob h sb => by
  have ne : b ≠ a := fun e => by rw [e, s] at sb; cases sb
  exact ⟨by rw [upd_ne ne]; exact h, by rw [sUpd_ne ne]; exact sb⟩

/-! ### targets -/
abbrev DG := Z → Env → Option Env
abbrev DGs := List Z → Env → Option Env
def AgreeOff (is : List Nat) (σ σ' : L2.St) : Prop := List.length σ' = List.length σ ∧ ∀ j : Nat, j ∉ is → (σ' : List (Option V))[j]? = (σ : List (Option V))[j]?
def tDG (K : PySem.W.Frag) (is : List Nat) (g : DG) : TG := fun v σ H Q => ∃ env S z env', REnv K H σ env ∧ Tie K H S ∧ RZ K H z v ∧ g z env = some env' ∧ ∀ σ', REnv K H σ' env' → AgreeOff is σ σ' → Q σ' H
def tDGs (K : PySem.W.Frag) (is : List Nat) (g : DGs) : TGs := fun vs σ H Q => ∃ env S zs env', REnv K H σ env ∧ Tie K H S ∧ RZs K H zs vs ∧ g zs env = some env' ∧ ∀ σ', REnv K H σ' env' → AgreeOff is σ σ' → Q σ' H
structure FG (X : Cx) (t : Expr) (is : List Nat) (g : DG) : Prop where pg : PG X t (tDG X.K is g)
structure FGs (X : Cx) (ts : List Expr) (n : Nat) (is : List Nat) (g : DGs) : Prop where
  pgs : PGs X ts (tDGs X.K is g)
  len : ∀ zs env env', g zs env = some env' → zs.length = n
def gN (i : Nat) : DG := fun z env => some (env.set i (some z))
def gsNil : DGs := fun zs env => match zs with
  | [] => some env
  | _ => none
def gsCons (g : DG) (gs : DGs) : DGs := fun zs env => match zs with
  | z :: r => (g z env).bind fun e => gs r e
  | [] => none
def gT (gs : DGs) : DG := fun z env => match z with
  | .tup zs => gs zs env
  | _ => none
section
variable {X : Cx} {pos : Pos} {e : Expr} {es : List Expr}
theorem PG.imp {t t' : TG} (h : PG X e t) (i : ∀ v σ H Q, t' v σ H Q → t v σ H Q) : PG X e t' := ⟨fun pins s σ H v u Q I r q => h.run pins s σ H v u Q I r (i v σ H Q q)⟩
theorem PGs.imp {t t' : TGs} (h : PGs X es t) (i : ∀ v σ H Q, t' v σ H Q → t v σ H Q) : PGs X es t' := ⟨fun pins s σ H v u Q I r q => h.run pins s σ H v u Q I r (i v σ H Q q)⟩
theorem fg_name (i : Nat) {x : Str} (hN : X.N.Nodup) (hi : X.N[i]? = some x := by rfl) (hx : Loc X.env.scope x := by first | exact Or.inl rfl | exact Or.inr rfl) (hf : X.fn x = true ∨ X.env.scope.names.lookup x = some .local := by first | exact .inl rfl | exact .inr rfl | assumption) : FG X (.Name x pos) [i] (gN i) := by
  refine ⟨PG.imp (pg_name hN hi hx hf) fun v σ H Q ⟨env, S, z, env', hr, ht, rz, hg, hk⟩ => ?_⟩
  cases hg
  refine hk _ (hr.set rz) ⟨List.length_set .., fun j hj => ?_⟩
  rw [List.getElem?_set_ne]
  intro z
  exact hj (by simp [z])
theorem fgs_nil : FGs X [] 0 [] gsNil := by
  refine ⟨PGs.imp pgs_nil fun vs σ H Q ⟨env, S, zs, env', hr, ht, rz, hg, hk⟩ => ?_, fun zs env env' h => ?_⟩
  · cases zs with
    | nil =>
      cases hg
      unfold RZs at rz
      exact ⟨rz, hk σ hr ⟨rfl, fun _ _ => rfl⟩⟩
    | cons z r => cases hg
  · cases zs with
    | nil => rfl
    | cons z r => cases h
theorem fgs_cons {is js : List Nat} {g : DG} {gs : DGs} {n : Nat} (h : FG X e is g) (hs : FGs X es n js gs) (hst : (assignEach (e :: es) X.env).map (·.2) = assign e X.env :: (assignEach es X.env).map (·.2) := by rfl) : FGs X (e :: es) (n + 1) (is ++ js) (gsCons g gs) := by
  refine ⟨PGs.imp (pgs_cons h.pg hs.pgs hst) fun vs σ H Q ⟨env, S, zs, env', hr, ht, rz, hg, hk⟩ => ?_, fun zs env env' h => ?_⟩
  · cases zs with
    | nil => cases hg
    | cons z r =>
      unfold RZs at rz
      obtain ⟨v, vr, rfl, h1, h2⟩ := rz
      have hg' : (g z env).bind (fun e => gs r e) = some env' := hg
      cases hgz : g z env with
      | none => rw [hgz] at hg'; cases hg'
      | some e1 =>
        rw [hgz] at hg'
        refine ⟨v, vr, rfl, env, S, z, e1, hr, ht, h1, hgz, fun σ1 r1 a1 => ⟨e1, S, r, env', r1, ht, h2, hg', fun σ2 r2 a2 => hk σ2 r2 ⟨a2.1.trans a1.1, fun j hj => ?_⟩⟩⟩
        have hj' : j ∉ is ∧ j ∉ js := by simpa using hj
        exact (a2.2 j hj'.2).trans (a1.2 j hj'.1)
  · cases zs with
    | nil => cases h
    | cons z r =>
      have hg' : (g z env).bind (fun e => gs r e) = some env' := h
      cases hgz : g z env with
      | none => rw [hgz] at hg'; cases hg'
      | some e1 =>
        rw [hgz] at hg'
        rw [List.length_cons, hs.len r e1 env' hg']
theorem fg_tup {k n : Nat} {is : List Nat} {gs : DGs} (hc : X.calm = true) (h : FGs X es n is gs) (hn : (assignEach es X.env).length = n := by rfl) (hst : (assignEach es X.env).findIdx? (·.1) = none := by rfl) : FG X (.Tuple es k pos) is (gT gs) := by
  refine ⟨PG.imp (pg_tup hc h.pgs hn hst) fun v σ H Q ⟨env, S, z, env', hr, ht, rz, hg, hk⟩ => ?_⟩
  cases z with
  | tup zs =>
    unfold RZ at rz
    obtain ⟨a, vs, rfl, hv, hrs⟩ := rz
    exact ⟨a, vs, rfl, hv, by rw [hrs.length, h.len zs env env' hg], env, S, zs, env', hr, ht, hrs, hg, hk⟩
  | _ => cases hg
end

/-! ### what is walked -/
def ItOk (K : PySem.W.Frag) (J : It) (zs : List Z) (H0 : Hp) (S0 : Sm) : Prop := ∀ (i : Nat) (H : Hp) (S : Sm), Ext H0 S0 H S → Tie K H S → i ≤ zs.length →
  (i = zs.length → J.stop i H) ∧ ∀ z, zs[i]? = some z → J.go i H ∧ ∀ x H1, J.yld i H x H1 → (∀ b o, H b = some o → H1 b = some o) ∧ RZ K H1 z x
def tDI (K : PySem.W.Frag) (mg : Str → Option Value) (W : WX) (m : DA) : TI := fun σ H R => ∃ env S R' E, REnv K H σ env ∧ Tie K H S ∧ EOk K mg W E H S ∧ m E env S R' ∧ ∀ zs S', R' zs S' → ∀ J H', Ext H S H' S' → Tie K H' S' → ItOk K J zs H' S' → R J H'
structure FI (X : Cx) (W : WX) (tg iter : Expr) (m : DA) : Prop where pi : PI X tg iter (tDI X.K X.mg W m)
def itemsOf : Z → Option (List Z)
  | .tup zs => some zs
  | .lst zs => some zs
  | _ => none
def dItSeq (m : DE) : DA := fun E env S k => m E env S fun z S1 => ∃ zs, itemsOf z = some zs ∧ k zs S1
def dItRange (m : DA) : DA := fun E env S k => m E env S fun zs S1 => ∃ j : Int, zs = [.int j] ∧ -(2 ^ 62) ≤ j ∧ j < 2 ^ 62 ∧ k ((List.range j.toNat).map fun (i : Nat) => Z.int i) S1
def dItRange2 (m : DA) : DA := fun E env S k => m E env S fun zs S1 => ∃ i j : Int, zs = [.int i, .int j] ∧ (-(2 ^ 62) ≤ i ∧ i < 2 ^ 62 ∧ -(2 ^ 62) ≤ j ∧ j < 2 ^ 62) ∧ k ((List.range (j - i).toNat).map fun (n : Nat) => Z.int (i + n)) S1
def zipZ : List Z → List Z → List Z
  | x :: xs, y :: ys => .tup [x, y] :: zipZ xs ys
  | _, _ => []
def dItZip (m : DA) : DA := fun E env S k => m E env S fun zs S1 => ∃ xs ys, (zs = [.tup xs, .tup ys] ∨ zs = [.lst xs, .lst ys]) ∧ k (zipZ xs ys) S1
section
variable {X : Cx} {W : WX} {tg iter a b e : Expr} {ma mb : DE} {mas : DA} {es : List Expr} {pos : Pos}
theorem PI.imp {t t' : TI} (h : PI X tg iter t) (i : ∀ σ H R, t' σ H R → t σ H R) : PI X tg iter t' := ⟨fun pins s σ H R I q => h.run pins s σ H R I (i σ H R q)⟩
theorem PI.or {t t' : TI} (h : PI X tg iter t) (h' : PI X tg iter t') : PI X tg iter (fun σ H R => t σ H R ∨ t' σ H R) := ⟨fun pins s σ H R I q => by
  rcases q with q | q
  · exact h.run pins s σ H R I q
  · exact h'.run pins s σ H R I q⟩
theorem itok_tup {K : PySem.W.Frag} {a : Addr} {zs : List Z} {vs : List V} {H0 : Hp} {S0 : Sm} (t0 : Tie K H0 S0) (hs : SqT K H0 a vs) (r : RZs K H0 zs vs) : ItOk K (Itt K a) zs H0 S0 := by
  intro i H S x t hi
  have hs' := sqT_ext t0 x hs
  have r' := RZs.ext t0 x _ _ r
  refine ⟨fun e => ⟨vs, hs', by rw [r'.length, e]; exact Nat.le_refl _⟩, fun z hz => ?_⟩
  obtain ⟨v, hv, rv⟩ := r'.get hz
  refine ⟨⟨vs, v, hs', hv⟩, fun y H1 ⟨e1, e2⟩ => ?_⟩
  subst e1
  refine ⟨fun _ _ h => h, ?_⟩
  have e3 := e2 vs hs'
  rw [hv] at e3
  cases e3
  exact rv
theorem itok_lst {K : PySem.W.Frag} {a : Addr} {zs : List Z} {vs : List V} {H0 : Hp} {S0 : Sm} (t0 : Tie K H0 S0) (hs : FzL K H0 a vs) (r : RZs K H0 zs vs) : ItOk K (Itl K a) zs H0 S0 := by
  intro i H S x t hi
  have hs' := (fzL_ext t0 x hs).sq
  have r' := RZs.ext t0 x _ _ r
  refine ⟨fun e => ⟨vs, hs', by rw [r'.length, e]; exact Nat.le_refl _⟩, fun z hz => ?_⟩
  obtain ⟨v, hv, rv⟩ := r'.get hz
  refine ⟨⟨vs, v, hs', hv⟩, fun y H1 ⟨e1, e2⟩ => ?_⟩
  subst e1
  refine ⟨fun _ _ h => h, ?_⟩
  have e3 := e2 vs hs'
  rw [hv] at e3
  cases e3
  exact rv
def iSeq (K : PySem.W.Frag) (tl : TE) : TI := fun σ H R => tl σ H fun x H1 => ∃ a, x = .ref a ∧ (((∃ xs, SqL K H1 a xs) ∧ R (Itl K a) H1) ∨ ((∃ xs, SqT K H1 a xs) ∧ R (Itt K a) H1))
theorem pi_seq {l : Expr} {tl : TE} (hl : PE X l tl) : PI X tg l (iSeq X.K tl) := by
  refine ⟨fun pins s σ H R I h => ?_⟩
  refine thn (hl.run pins s σ H _ I h) fun v s1 ⟨x, H1, I1, r1, q1⟩ => ?_
  obtain ⟨a, e, q⟩ := q1
  subst e
  cases r1
  rcases q with ⟨⟨xs, hq⟩, q⟩ | ⟨⟨xs, hq⟩, q⟩
  · obtain ⟨its, rv, p, hz⟩ := I1.list hq
    refine wpAny_pyIter_list p.isList ?_
    refine ⟨s1.heap.objs.size, [s1.heap.objs.size], _, _, H1, rfl, I1.kept (t' := s1.toks) fun b o e => Heap.get?_push_of_some _ e, turn_list a _, ⟨_, Heap.get?_push_size _ rfl, rfl, rfl⟩, fun b hb => ?_, q⟩
    have e : b = s1.heap.objs.size := by simpa using hb
    subst e
    exact I1.fpOk (Nat.le_refl _) (I1.hok.fresh (Nat.le_refl _))
  · obtain ⟨its, rv, p, hz⟩ := I1.tuple hq
    refine wpAny_pyIter_tuple (show s1.heap.IsTuple a its.toArray from p) ?_
    refine ⟨s1.heap.objs.size, [s1.heap.objs.size], _, _, H1, rfl, I1.kept (t' := s1.toks) fun b o e => Heap.get?_push_of_some _ e, turn_tuple a _, ⟨_, Heap.get?_push_size _ rfl, rfl, rfl⟩, fun b hb => ?_, q⟩
    have e : b = s1.heap.objs.size := by simpa using hb
    subst e
    exact I1.fpOk (Nat.le_refl _) (I1.hok.fresh (Nat.le_refl _))
theorem fi_seq (h : FE X W iter ma) : FI X W tg iter (dItSeq ma) := by
  refine ⟨PI.imp (pi_seq h.pe) fun σ H R ⟨env, S, R', E, hr, ht, he, q, hk⟩ => ?_⟩
  refine tD.mk hr ht he q fun x S1 ⟨zs, hz, q1⟩ vx H1 x1 t1 r1 hr1 he1 => ?_
  cases x with
  | tup ys =>
    cases hz
    unfold RZ at r1
    obtain ⟨a, vs, rfl, hv, hrs⟩ := r1
    exact ⟨a, rfl, .inr ⟨⟨vs, hv⟩, hk _ S1 q1 _ H1 x1 t1 (itok_tup t1 hv hrs)⟩⟩
  | lst ys =>
    cases hz
    unfold RZ at r1
    obtain ⟨a, vs, rfl, hv, hrs⟩ := r1
    exact ⟨a, rfl, .inl ⟨⟨vs, hv.sq⟩, hk _ S1 q1 _ H1 x1 t1 (itok_lst t1 hv hrs)⟩⟩
  | _ => cases hz
theorem itok_rng {K : PySem.W.Frag} {lo : Int} {n : Nat} {H0 : Hp} {S0 : Sm} : ItOk K (Itr lo n) ((List.range n).map fun (i : Nat) => Z.int (lo + i)) H0 S0 := by
  intro i H S x t hi
  refine ⟨fun e => by rw [e, List.length_map, List.length_range]; exact Nat.le_refl n, fun z hz => ?_⟩
  rw [List.getElem?_map] at hz
  cases e : (List.range n)[i]? with
  | none => rw [e] at hz; cases hz
  | some m =>
    obtain ⟨h1, h2⟩ := List.getElem?_eq_some_iff.mp e
    rw [List.getElem_range] at h2
    subst h2
    rw [e] at hz
    cases hz
    refine ⟨show i < n by simpa using h1, fun y H1 ⟨e1, e2⟩ => ?_⟩
    subst e1 e2
    exact ⟨fun _ _ h => h, rz_int _⟩
theorem fi_range {p : Pos} (hm : X.mg "range" = none) (h : FA X W [a] mas) (hg : Gl X "range" := by rfl) (hs : starEach [a] X.env = [(false, eval a X.env)] := by rfl) : FI X W tg (.Call (.Name "range" p) [a] [] pos) (dItRange mas) := by
  refine ⟨PI.imp (pi_range1 hg hm h.pa hs) fun σ H R ⟨env, S, R', E, hr, ht, he, q, hk⟩ => ?_⟩
  refine tDA.mk hr ht he q fun zs S1 ⟨j, e, h1, h2, q1⟩ vs H1 x1 t1 r1 hr1 he1 => ?_
  subst e
  obtain ⟨v, rfl, rv⟩ := rzs1 r1
  unfold RZ at rv
  subst rv
  refine ⟨j, rfl, h1, h2, hk _ S1 q1 _ H1 x1 t1 ?_⟩
  have := itok_rng (K := X.K) (lo := 0) (n := j.toNat) (H0 := H1) (S0 := S1)
  simpa using this
theorem fi_range2 {p : Pos} (hm : X.mg "range" = none) (h : FA X W [a, b] mas) (hg : Gl X "range" := by rfl) (hs : starEach [a, b] X.env = [(false, eval a X.env), (false, eval b X.env)] := by rfl) (hs2 : starEach [b] X.env = [(false, eval b X.env)] := by rfl) : FI X W tg (.Call (.Name "range" p) [a, b] [] pos) (dItRange2 mas) := by
  refine ⟨PI.imp (pi_range2 hg hm h.pa hs hs2) fun σ H R ⟨env, S, R', E, hr, ht, he, q, hk⟩ => ?_⟩
  refine tDA.mk hr ht he q fun zs S1 ⟨i, j, e, h1, q1⟩ vs H1 x1 t1 r1 hr1 he1 => ?_
  subst e
  obtain ⟨v, u, rfl, rv, ru⟩ := rzs2 r1
  unfold RZ at rv ru
  subst rv ru
  exact ⟨i, j, rfl, h1, hk _ S1 q1 _ H1 x1 t1 itok_rng⟩
theorem zipZ_get : ∀ {xs ys : List Z} {i : Nat} {z : Z}, (zipZ xs ys)[i]? = some z → ∃ x y, xs[i]? = some x ∧ ys[i]? = some y ∧ z = .tup [x, y]
  | [], ys, i, z, h => by simp [zipZ] at h
  | x :: xs, [], i, z, h => by simp [zipZ] at h
  | x :: xs, y :: ys, 0, z, h => by
    simp [zipZ] at h
    exact ⟨x, y, rfl, rfl, h.symm⟩
  | x :: xs, y :: ys, i + 1, z, h => by
    have h' : (zipZ xs ys)[i]? = some z := by simpa [zipZ] using h
    obtain ⟨u, v, h1, h2, h3⟩ := zipZ_get h'
    exact ⟨u, v, by simpa using h1, by simpa using h2, h3⟩
theorem zipZ_len : ∀ xs ys : List Z, (zipZ xs ys).length = min xs.length ys.length
  | [], ys => by simp [zipZ]
  | x :: xs, [] => by simp [zipZ]
  | x :: xs, y :: ys => by
    rw [zipZ, List.length_cons, zipZ_len xs ys, List.length_cons, List.length_cons]
    omega
theorem rz_pair {K : PySem.W.Frag} {H : Hp} {T : Addr} {x y : Z} {v u : V} (n : H T = none) (rx : RZ K H x v) (ry : RZ K H y u) : RZ K (upd H T (.tup [v, u])) (.tup [x, y]) (.ref T) := by
  have T1 : ∀ b xs, H b = some (.tup xs) → upd H T (.tup [v, u]) b = some (.tup xs) := fun b xs e => by rw [upd_ne (ne_of_none e n)]; exact e
  have F1 : ∀ b o w, H b = some (.frz o w) → upd H T (.tup [v, u]) b = some (.frz o w) := fun b o w e => by rw [upd_ne (ne_of_none e n)]; exact e
  unfold RZ
  exact ⟨T, [v, u], rfl, .inl (.inl upd_same), RZs.cons (RZ.tf T1 F1 _ _ rx) (RZs.cons (RZ.tf T1 F1 _ _ ry) RZs.nil)⟩
theorem itok_zipT {K : PySem.W.Frag} {a b : Addr} {xs ys : List Z} {vs us : List V} {H0 : Hp} {S0 : Sm} (t0 : Tie K H0 S0) (ha : SqT K H0 a vs) (hb : SqT K H0 b us) (ra : RZs K H0 xs vs) (rb : RZs K H0 ys us) : ItOk K (_root_.RZ.ItzT K a b) (zipZ xs ys) H0 S0 := by
  intro i H S x t hi
  have ha' := sqT_ext t0 x ha
  have hb' := sqT_ext t0 x hb
  have ra' := RZs.ext t0 x _ _ ra
  have rb' := RZs.ext t0 x _ _ rb
  refine ⟨fun e => ⟨vs, us, ha', hb', ?_⟩, fun z hz => ?_⟩
  · rw [zipZ_len] at e
    rw [ra'.length, rb'.length]
    omega
  · obtain ⟨p, q, h1, h2, rfl⟩ := zipZ_get hz
    obtain ⟨v, hv, rv⟩ := ra'.get h1
    obtain ⟨u, hu, ru⟩ := rb'.get h2
    refine ⟨⟨vs, us, v, u, ha', hb', hv, hu⟩, fun y H1 ⟨T, p', q', e1, n, e2, f1, f2⟩ => ?_⟩
    subst e1 e2
    have e3 := f1 vs ha'
    have e4 := f2 us hb'
    rw [hv] at e3
    rw [hu] at e4
    cases e3
    cases e4
    exact ⟨sub_new (K := K) (S := S) n, rz_pair n rv ru⟩
theorem itok_zipL {K : PySem.W.Frag} {a b : Addr} {xs ys : List Z} {vs us : List V} {H0 : Hp} {S0 : Sm} (t0 : Tie K H0 S0) (ha : FzL K H0 a vs) (hb : FzL K H0 b us) (ra : RZs K H0 xs vs) (rb : RZs K H0 ys us) : ItOk K (Itz K a b) (zipZ xs ys) H0 S0 := by
  intro i H S x t hi
  have ha' := (fzL_ext t0 x ha).sq
  have hb' := (fzL_ext t0 x hb).sq
  have ra' := RZs.ext t0 x _ _ ra
  have rb' := RZs.ext t0 x _ _ rb
  refine ⟨fun e => ⟨vs, us, ha', hb', ?_⟩, fun z hz => ?_⟩
  · rw [zipZ_len] at e
    rw [ra'.length, rb'.length]
    omega
  · obtain ⟨p, q, h1, h2, rfl⟩ := zipZ_get hz
    obtain ⟨v, hv, rv⟩ := ra'.get h1
    obtain ⟨u, hu, ru⟩ := rb'.get h2
    refine ⟨⟨vs, us, v, u, ha', hb', hv, hu⟩, fun y H1 ⟨T, p', q', e1, n, e2, f1, f2⟩ => ?_⟩
    subst e1 e2
    have e3 := f1 vs ha'
    have e4 := f2 us hb'
    rw [hv] at e3
    rw [hu] at e4
    cases e3
    cases e4
    exact ⟨sub_new (K := K) (S := S) n, rz_pair n rv ru⟩
theorem fi_zip {p tpos : Pos} {elts : List Expr} {kk : Nat} (hm : X.mg "zip" = none) (h : FA X W [a, b] mas) (hg : Gl X "zip" := by rfl)
    (hs : starEach [a, b] X.env = (false, eval a X.env) :: starEach [b] X.env := by rfl) (hpl : (backTo pos (starEach [b] X.env)).any (·.1) = false := by rfl) : FI X W (.Tuple elts kk tpos) (.Call (.Name "zip" p) [a, b] [] pos) (dItZip mas) := by
  refine ⟨PI.imp (_root_.RZ.pi_zipA hg hm h.pa hs hpl) fun σ H R ⟨env, S, R', E, hr, ht, he, q, hk⟩ => ?_⟩
  refine tDA.mk hr ht he q fun zs S1 ⟨xs, ys, e, q1⟩ vs H1 x1 t1 r1 hr1 he1 => ?_
  rcases e with e | e
  · subst e
    obtain ⟨v, u, rfl, rv, ru⟩ := rzs2 r1
    unfold RZ at rv ru
    obtain ⟨c, ws, rfl, hv, hrs⟩ := rv
    obtain ⟨d, us, rfl, hu, hrs2⟩ := ru
    exact ⟨c, d, ws, us, rfl, .inr ⟨hv, hu, hk _ S1 q1 _ H1 x1 t1 (itok_zipT t1 hv hu hrs hrs2)⟩⟩
  · subst e
    obtain ⟨v, u, rfl, rv, ru⟩ := rzs2 r1
    unfold RZ at rv ru
    obtain ⟨c, ws, rfl, hv, hrs⟩ := rv
    obtain ⟨d, us, rfl, hu, hrs2⟩ := ru
    exact ⟨c, d, ws, us, rfl, .inl ⟨hv.sq, hu.sq, hk _ S1 q1 _ H1 x1 t1 (itok_zipL t1 hv hu hrs hrs2)⟩⟩
end
end L3
namespace L3
open PySem PySem.Spec PyProof.Rows L2

/-! ### statements -/
def dNil' : DS := fun E env S K => K.nx env S
def dSeq (m n : DS) : DS := fun E env S K => m E env S { K with nx := fun e s => n E e s K }
def dSet (g : DG) (m : DE) : DS := fun E env S K => m E env S fun z S1 => ∃ e, g z env = some e ∧ K.nx e S1
def dRet (m : DE) : DS := fun E env S K => m E env S K.rt
def dRetN : DS := fun E env S K => K.rt .non S
def dDrop (m : DE) : DS := fun E env S K => m E env S fun _ S1 => K.nx env S1
def dIf (t : DT) (m n : DS) : DS := fun E env S K => t E env S fun b S1 => if b = true then m E env S1 K else n E env S1 K
def dBrk : DS := fun E env S K => K.bk env S
def dCnt : DS := fun E env S K => K.ct env S
section
variable {X : Cx} {W : WX} {st : Stmt} {rest body : List Stmt} {m n : DS} {e a b c : Expr} {me ma mb mc : DE} {mt : DT} {pos : Pos} {D : Ends}
theorem fs_of {t : TS} {m : DS} (h : PS X st t) (i : ∀ D σ H, tDS X.K X.mg W m D σ H → t D σ H) : FS X W st m := ⟨PS.imp h i⟩
theorem fss_of {t : TS} {m : DS} (h : PSs X rest t) (i : ∀ D σ H, tDS X.K X.mg W m D σ H → t D σ H) : FSs X W rest m := ⟨PSs.imp h i⟩
theorem fss_nil : FSs X W [] dNil' := fss_of pss_nil fun D σ H ⟨env, S, R, E, hr, ht, he, q, hk⟩ => hk.nx _ _ q σ H Ext.refl ht hr
theorem fss_cons (h : FS X W st m) (hs : FSs X W rest n) : FSs X W (st :: rest) (dSeq m n) := by
  refine fss_of (pss_cons h.ps hs.pss) fun D σ H ⟨env, S, R, E, hr, ht, he, q, hk⟩ => ?_
  refine ⟨env, S, _, E, hr, ht, he, q, fun e1 S1 q1 σ1 H1 x1 t1 r1 => ⟨e1, S1, R, E, r1, t1, he.ext x1, q1, hk.ext x1⟩, hk.rt, hk.bk, hk.ct⟩
theorem fss_one (h : FS X W st m) : FSs X W [st] m := fss_of (pss_one h.ps) fun D σ H q => q
theorem fs_asg {tg : Expr} {is : List Nat} {g : DG} (he : FE X W e me) (hg : FG X tg is g) (hs : swapsWithSole [tg] e pos.line X.env = pure false := by rfl) (hw : swappedStores [tg] e X.env = pure none := by rfl)
    (h1 : (assignEach [tg] X.env).map (·.2) = [assign tg X.env] := by rfl) : FS X W (.Assign [tg] e pos) (dSet g me) := by
  refine fs_of (ps_asg he.pe hg.pg hs hw h1) fun D σ H ⟨env, S, R, E, hr, ht, he, q, hk⟩ => ?_
  refine tD.mk hr ht he q fun z S1 ⟨e1, hz, q1⟩ v H1 x1 t1 rz hr1 he1 => ?_
  exact ⟨env, S1, z, e1, hr1, t1, rz, hz, fun σ1 r1 _ => hk.nx _ _ q1 σ1 H1 x1 t1 r1⟩
theorem fs_set (i : Nat) {x : Str} {pos' : Pos} (hN : X.N.Nodup) (he : FE X W e me) (hi : X.N[i]? = some x := by rfl) (hx : Loc X.env.scope x := by first | exact Or.inl rfl | exact Or.inr rfl) (hs : swapsWith e (some (.Name x pos')) pos.line X.env = pure false := by rfl)
    (hf : X.fn x = true ∨ X.env.scope.names.lookup x = some .local := by first | exact .inl rfl | exact .inr rfl | assumption) : FS X W (.Assign [.Name x pos'] e pos) (dSet (gN i) me) := by
  refine fs_of (ps_set hN hi hx he.pe hs hf) fun D σ H ⟨env, S, R, E, hr, ht, he, q, hk⟩ => ?_
  refine tD.mk hr ht he q fun z S1 ⟨e1, hz, q1⟩ v H1 x1 t1 rz hr1 he1 => ?_
  cases hz
  exact hk.nx _ _ q1 _ H1 x1 t1 (hr1.set rz)
theorem fs_ret (he : FE X W e me) : FS X W (.Return (some e) pos) (dRet me) := by
  refine fs_of (ps_ret he.pe) fun D σ H ⟨env, S, R, E, hr, ht, he, q, hk⟩ => ?_
  exact tD.mk hr ht he q fun z S1 q1 v H1 x1 t1 rz hr1 he1 => hk.rt _ _ q1 _ H1 x1 t1 rz
theorem fs_retN : FS X W (.Return none pos) dRetN := by
  refine fs_of ps_retN fun D σ H ⟨env, S, R, E, hr, ht, he, q, hk⟩ => ?_
  exact hk.rt _ _ q _ H Ext.refl ht (by unfold RZ; rfl)
theorem fs_expr (he : FE X W e me) (hs : swapsWith e none pos.line X.env = pure false := by rfl) : FS X W (.Expr e pos) (dDrop me) := by
  refine fs_of (ps_expr he.pe hs) fun D σ H ⟨env, S, R, E, hr, ht, he, q, hk⟩ => ?_
  exact tD.mk hr ht he q fun z S1 q1 v H1 x1 t1 rz hr1 he1 => hk.nx _ _ q1 _ H1 x1 t1 hr1
theorem fs_if {p q : List Stmt} (hc : FT X W c mt) (ha : FSs X W p m) (hb : FSs X W q n) : FS X W (.If c p q pos) (dIf mt m n) := by
  refine fs_of (ps_if hc.pt ha.pss hb.pss) fun D σ H ⟨env, S, R, E, hr, ht, he, q, hk⟩ => ?_
  refine tDT.mk hr ht he q fun z S1 q1 H1 x1 t1 hr1 he1 => ?_
  cases z with
  | true =>
    rw [if_pos rfl] at q1 ⊢
    exact ⟨env, S1, R, E, hr1, t1, he1, q1, hk.ext x1⟩
  | false =>
    rw [if_neg Bool.false_ne_true] at q1 ⊢
    exact ⟨env, S1, R, E, hr1, t1, he1, q1, hk.ext x1⟩
theorem fs_pass : FS X W (.Pass pos) dNil' := fs_of ps_pass fun D σ H ⟨env, S, R, E, hr, ht, he, q, hk⟩ => hk.nx _ _ q σ H Ext.refl ht hr
theorem fs_break : FS X W (.Break pos) dBrk := fs_of ps_break fun D σ H ⟨env, S, R, E, hr, ht, he, q, hk⟩ => hk.bk _ _ q σ H Ext.refl ht hr
theorem fs_continue : FS X W (.Continue pos) dCnt := fs_of ps_continue fun D σ H ⟨env, S, R, E, hr, ht, he, q, hk⟩ => hk.ct _ _ q σ H Ext.refl ht hr
/-- o[i] = e, o a list that is changed -/
def dSub (me mo mi : DE) : DS := fun E env S K => me E env S fun z S1 => mo E env S1 fun o S2 => mi E env S2 fun i S3 =>
  ∃ a k j zs, o = .ref a ∧ i = .int k ∧ S3 a = some (.lst zs) ∧ ixN zs.length k = some j ∧ K.nx env (sUpd S3 a (.lst (zs.set j z)))
theorem lst_tf {H : Hp} {a : Addr} {vs : List V} {o : HO} (h : H a = some (.lst vs)) : (∀ b xs, H b = some (.tup xs) → upd H a o b = some (.tup xs)) ∧ (∀ b x w, H b = some (.frz x w) → upd H a o b = some (.frz x w)) :=
  ⟨upd_tup h (fun _ z => nomatch z), upd_frz h (fun _ _ z => nomatch z)⟩
theorem fs_sub {o i : Expr} {mo mi : DE} {p : Pos} (he : FE X W e me) (ho : FE X W o mo) (hi : FE X W i mi) (ha : ∀ v, assign (.Subscript o i p) X.env v = (do
      let ov ← holding [v] (eval o X.env)
      let iv ← holding [v, ov] (eval i X.env)
      standAt p
      holding [v, ov, iv] (setItem ov iv v)
      release [v, ov, iv] []) := by intro _; rfl) (hs : swapsWithSole [.Subscript o i p] e pos.line X.env = pure false := by rfl) (hw : swappedStores [.Subscript o i p] e X.env = pure none := by rfl)
    (h1 : (assignEach [.Subscript o i p] X.env).map (·.2) = [assign (.Subscript o i p) X.env] := by rfl) : FS X W (.Assign [.Subscript o i p] e pos) (dSub me mo mi) := by
  refine fs_of (ps_asg he.pe (pg_sub ho.pe hi.pe set_list ha) hs hw h1) fun D σ H ⟨env, S, R, E, hr, ht, he, q, hk⟩ => ?_
  refine tD.mk hr ht he q fun z S1 q1 v H1 x1 t1 rz hr1 he1 => ?_
  refine tD.mk hr1 t1 he1 q1 fun y S2 q2 u H2 x2 t2 ry hr2 he2 => ?_
  refine tD.mk hr2 t2 he2 q2 fun w S3 ⟨a, k, j, zs, e1, e2, hS, hj, q3⟩ uw H3 x3 t3 rw3 hr3 he3 => ?_
  subst e1 e2
  unfold RZ at rw3 ry
  subst rw3 ry
  obtain ⟨vs, hv, hrs⟩ := t3 a _ hS
  refine ⟨a, vs, k, j, rfl, rfl, hv, by rw [hrs.length]; exact hj, ?_⟩
  obtain ⟨T, F⟩ := lst_tf (o := .lst (vs.set j v)) hv
  have rz3 := RZ.ext t2 x3 _ _ (RZ.ext t1 x2 _ _ rz)
  have ex := ext_put (o := .lst (vs.set j v)) (H := H3) (m := .lst (zs.set j z)) hS
  refine hk.nx _ _ q3 σ _ (x1.trans (x2.trans (x3.trans ex))) ?_ (hr3.ext t3 ex)
  exact tie_put t3 hv (fun _ z => nomatch z) (fun _ _ z => nomatch z) ⟨_, upd_same, RZs.set j (RZs.tf T F _ _ hrs) (RZ.tf T F _ _ rz3)⟩
/-- xs.append(e), xs.pop() of a list that is changed -/
def dAppend (mo me : DE) : DE := fun E env S k => mo E env S fun o S1 => ∃ a zs0, o = .ref a ∧ S1 a = some (.lst zs0) ∧ me E env S1 fun z S2 => ∃ zs, S2 a = some (.lst zs) ∧ decide (zs.length < sizeLine) = true ∧ k .non (sUpd S2 a (.lst (zs ++ [z])))
theorem fe_append {o : Expr} {mo : DE} {apos : Pos} (ho : FE X W o mo) (he : FE X W e me) (hbase : attributeBase o "append" X.env (eval o X.env) = eval o X.env := by rfl)
    (hfew : ((backTo pos (starEach [e] X.env)).all (fun x => !x.1) && (backToKw pos (keywordEach [] X.env)).all (fun x => x.1.isSome)
      && decide (([e] : List Expr).length + ([] : List Keyword).length + (if ([] : List Keyword).isEmpty then 0 else 1) < 30)) = true := by rfl)
    (hline : (apos.endLine == pos.line) = true := by rfl) (hs : starEach [e] X.env = (false, eval e X.env) :: starEach [] X.env := by rfl) (hplain : (backTo pos (starEach [] X.env)).any (·.1) = false := by rfl) :
    FE X W (.Call (.Attribute o "append" apos) [e] [] pos) (dAppend mo me) := by
  refine fe_of (pe_bm PySem.F.plainAttrs_list PySem.F.slot_list_append PySem.F.type_list_append mt_append ho.pe (pa_cons he.pe pa_nil hs) hbase hfew hline hs hplain) fun σ H Q ⟨env, S, R, E, hr, ht, he, q, hk⟩ => ?_
  refine tD.mk hr ht he q fun o1 S1 ⟨a, zs0, e1, hS1, q1⟩ vo H1 x1 t1 ro hr1 he1 => ?_
  subst e1
  unfold RZ at ro
  subst ro
  obtain ⟨vs0, hv0, _⟩ := t1 a _ hS1
  refine ⟨.inl ⟨rfl, _, SqL.of hv0⟩, ?_⟩
  refine tD.mk hr1 t1 he1 q1 fun z S2 ⟨zs, hS2, hz, q2⟩ v H2 x2 t2 rz hr2 he2 => ?_
  obtain ⟨vs, hv, hrs⟩ := t2 a _ hS2
  refine ⟨a, vs, v, rfl, rfl, hv, by rw [hrs.length]; exact of_decide_eq_true hz, ?_⟩
  obtain ⟨T, F⟩ := lst_tf (o := .lst (vs ++ [v])) hv
  refine hk _ _ q2 _ _ (x1.trans (x2.trans (ext_put (m := .lst (zs ++ [z])) hS2))) ?_ (by unfold RZ; rfl)
  exact tie_put t2 hv (fun _ z => nomatch z) (fun _ _ z => nomatch z) ⟨_, upd_same, (RZs.tf T F _ _ hrs).append (RZs.cons (RZ.tf T F _ _ rz) RZs.nil)⟩

/-! ### loops -/
def forZ (g : DG) (body : DS) (E : EK) (K : Ks) : List Z → Env → Sm → Prop
  | [], env, S => K.nx env S
  | z :: zs, env, S => ∃ e, g z env = some e ∧ body E e S { nx := fun e s => forZ g body E K zs e s, ct := fun e s => forZ g body E K zs e s, bk := K.nx, rt := K.rt }
def dFor (mi : DA) (g : DG) (body : DS) : DS := fun E env S K => mi E env S fun zs S1 => forZ g body E K zs env S1
theorem fs_for {tg iter : Expr} {mi : DA} {g : DG} {is : List Nat} (hp : PassesOwn (model X.prog X.w) X.A X.env X.xe) (hc : X.calm = true) (hi : FI X W tg iter mi) (hg : FG X tg is g) (hb : FSs X W body m)
    (hs : ∀ x, foldedSetIterable iter X.env x = pure x := by intro _; rfl) : FS X W (.For tg iter body [] pos) (dFor mi g m) := by
  refine fs_of (ps_for hp hc hi.pi hg.pg hb.pss hs) fun D σ H ⟨env, S, R, E, hr, ht, he, q, hk⟩ => ?_
  refine ⟨env, S, _, E, hr, ht, he, q, fun zs S1 q1 J H1 x1 t1 io => ?_⟩
  refine ⟨fun i n σ2 H2 => n = zs.length - i ∧ i ≤ zs.length ∧ ∃ e2 S2, REnv X.K H2 σ2 e2 ∧ Tie X.K H2 S2 ∧ Ext H1 S1 H2 S2 ∧ forZ g m E R (zs.drop i) e2 S2,
    ⟨zs.length, by simp, Nat.zero_le _, env, S1, hr.ext ht x1, t1, Ext.refl, by simpa using q1⟩, ?_⟩
  rintro i n σ2 H2 ⟨rfl, hi, e2, S2, r2, t2, x2, q2⟩
  have go := io i H2 S2 x2 t2 hi
  by_cases hlt : i < zs.length
  · right
    have hz : zs[i]? = some zs[i] := List.getElem?_eq_getElem hlt
    obtain ⟨g1, g2⟩ := go.2 _ hz
    rw [List.drop_eq_getElem_cons hlt] at q2
    obtain ⟨e3, hg3, q3⟩ := q2
    refine ⟨g1, fun σ' H' => ∃ e4 S4, REnv X.K H' σ' e4 ∧ Tie X.K H' S4 ∧ Ext H1 S1 H' S4 ∧ forZ g m E R (zs.drop (i + 1)) e4 S4, fun σ' H' ⟨e4, S4, w⟩ => ⟨zs.length - (i + 1), by omega, rfl, hlt, e4, S4, w⟩, fun x H3 y => ?_⟩
    obtain ⟨sub, rz⟩ := g2 x H3 y
    have x3 : Ext H2 S2 H3 S2 := Ext.same sub
    have t3 := t2.ext sub
    refine ⟨e2, S2, zs[i], e3, r2.ext t2 x3, t3, rz, hg3, fun σ3 r3 _ => ⟨e3, S2, _, E, r3, t3, he.ext (x1.trans (x2.trans x3)), q3, ?_⟩⟩
    exact ⟨fun e5 S5 q5 σ5 H5 x5 t5 r5 => ⟨e5, S5, r5, t5, x2.trans (x3.trans x5), q5⟩, fun z S5 q5 v H5 x5 t5 r5 => hk.rt _ _ q5 _ H5 (x1.trans (x2.trans (x3.trans x5))) t5 r5,
      fun e5 S5 q5 σ5 H5 x5 t5 r5 => hk.nx _ _ q5 _ H5 (x1.trans (x2.trans (x3.trans x5))) t5 r5, fun e5 S5 q5 σ5 H5 x5 t5 r5 => ⟨e5, S5, r5, t5, x2.trans (x3.trans x5), q5⟩⟩
  · left
    have ei : i = zs.length := by omega
    subst ei
    rw [List.drop_length] at q2
    exact ⟨go.1 rfl, hk.nx _ _ q2 σ2 H2 (x1.trans x2) t2 r2⟩
def dWhile (c : DT) (b : DS) : DS := fun E env S K => ∃ I : Nat → Env → Sm → Prop, (∃ n, I n env S) ∧ ∀ n env S, I n env S → c E env S fun t S1 => if t = true then
  b E env S1 { nx := fun e s => ∃ m, m < n ∧ I m e s, ct := fun e s => ∃ m, m < n ∧ I m e s, bk := K.nx, rt := K.rt } else K.nx env S1
theorem fs_while (hp : PassesOwn (model X.prog X.w) X.A X.env X.xe) (hc : FT X W c mt) (hb : FSs X W body m) : FS X W (.While c body [] pos) (dWhile mt m) := by
  refine fs_of (ps_while hp hc.pt hb.pss) fun D σ H ⟨env, S, R, E, hr, ht, he, ⟨I, ⟨n0, hn0⟩, turn⟩, hk⟩ => ?_
  refine ⟨fun n σ2 H2 => ∃ e2 S2, REnv X.K H2 σ2 e2 ∧ Tie X.K H2 S2 ∧ Ext H S H2 S2 ∧ I n e2 S2, ⟨n0, env, S, hr, ht, Ext.refl, hn0⟩, ?_⟩
  rintro n σ2 H2 ⟨e2, S2, r2, t2, x2, i2⟩
  refine tDT.mk r2 t2 (he.ext x2) (turn n e2 S2 i2) fun z S3 q3 H3 x3 t3 r3 he3 => ?_
  cases z with
  | true =>
    rw [if_pos rfl] at q3 ⊢
    refine ⟨fun σ' H' => ∃ m', m' < n ∧ ∃ e4 S4, REnv X.K H' σ' e4 ∧ Tie X.K H' S4 ∧ Ext H S H' S4 ∧ I m' e4 S4, fun σ' H' w => w, e2, S3, _, E, r3, t3, he3, q3, ?_⟩
    exact ⟨fun e5 S5 ⟨m', h1, h2⟩ σ5 H5 x5 t5 r5 => ⟨m', h1, e5, S5, r5, t5, x2.trans (x3.trans x5), h2⟩, fun z S5 q5 v H5 x5 t5 r5 => hk.rt _ _ q5 _ H5 (x2.trans (x3.trans x5)) t5 r5,
      fun e5 S5 q5 σ5 H5 x5 t5 r5 => hk.nx _ _ q5 _ H5 (x2.trans (x3.trans x5)) t5 r5, fun e5 S5 ⟨m', h1, h2⟩ σ5 H5 x5 t5 r5 => ⟨m', h1, e5, S5, r5, t5, x2.trans (x3.trans x5), h2⟩⟩
  | false =>
    rw [if_neg Bool.false_ne_true] at q3 ⊢
    exact hk.nx _ _ q3 σ2 H3 (x2.trans x3) t3 r3
def dAug (i : Nat) (f : Z → Z → Option Z) (me : DE) : DS := fun E env S K => ∃ x, getE env i = some x ∧ me E env S fun y S1 => ∃ z, f x y = some z ∧ K.nx (env.set i (some z)) S1
def pAddI : Z → Z → Option Z
  | .int a, .int b => some (.int (a + b))
  | _, _ => none
theorem fs_aug (i : Nat) {x : Str} {pos' : Pos} (hN : X.N.Nodup) (he : FE X W e me) (hi : X.N[i]? = some x := by rfl) (hx : Loc X.env.scope x := by first | exact Or.inl rfl | exact Or.inr rfl)
    (hf : X.fn x = true ∨ X.env.scope.names.lookup x = some .local := by first | exact .inl rfl | exact .inr rfl | assumption) : FS X W (.AugAssign (.Name x pos') .Add e pos) (dAug i pAddI me) := by
  refine fs_of (ps_aug hN hi hx he.pe ip_add hf) fun D σ H ⟨env, S, R, E, hr, ht, he, ⟨x1, hx1, q⟩, hk⟩ => ?_
  have hz' : env[i]? = some (some x1) := by
    unfold getE at hx1
    split at hx1
    · rename_i y hy
      cases hx1
      exact hy
    · cases hx1
  obtain ⟨v, h1, h2⟩ := hr.at_ i x1 hz'
  refine ⟨v, h1, ?_⟩
  refine tD.mk hr ht he q fun z S1 ⟨z1, hz1, q1⟩ w H1 x2 t1 rz hr1 he1 => ?_
  cases x1 <;> cases z <;> simp only [pAddI] at hz1 <;> try cases hz1
  unfold RZ at h2 rz
  exact ⟨_, _, h2, rz, hk.nx _ _ q1 _ H1 x2 t1 (hr1.set (rz_int _))⟩
end

/-! ### list comprehensions -/
abbrev W0 : WX := fun _ _ _ _ => False
abbrev EK0 : EK := fun _ _ _ => False
def wipeE (env : Env) : List Nat → Env
  | [] => env
  | v :: vs => (wipeE env vs).set v none
def compZ (g : DG) (t : DT) (me : DE) : List Z → Env → Sm → List Z → (List Z → Sm → Prop) → Prop
  | [], _, S, acc, k => k acc S
  | z :: zs, env, S, acc, k => ∃ e, g z env = some e ∧ t EK0 e S fun b S1 => if b = true then me EK0 e S1 fun y S2 => decide (acc.length < sizeLine) = true ∧ compZ g t me zs env S2 (acc ++ [y]) k else compZ g t me zs env S1 acc k
def dYes : DT := fun _ _ S k => k true S
def dComp (mi : DA) (vs : List Nat) (g : DG) (t : DT) (me : DE) : DE := fun E env S k => mi E env S fun zs S1 => compZ g t me zs (wipeE env vs) S1 [] fun ys S2 => k (.lst ys) S2
/-- a comprehension whose list is changed later -/
def dCompM (mi : DA) (vs : List Nat) (g : DG) (t : DT) (me : DE) : DE := fun E env S k => mi E env S fun zs S1 => compZ g t me zs (wipeE env vs) S1 [] fun ys S2 => ∀ p, S2 p = none → k (.ref p) (sUpd S2 p (.lst ys))
theorem renv_wipe {K : PySem.W.Frag} {H : Hp} {σ : L2.St} {env : Env} (r : REnv K H σ env) : ∀ vs : List Nat, REnv K H (wipe σ vs) (wipeE env vs)
  | [] => r
  | v :: vs => by
    have ih := renv_wipe r vs
    refine ⟨by unfold wipe wipeE; rw [List.length_set, List.length_set]; exact ih.len, fun j z hj => ?_⟩
    unfold wipeE at hj
    unfold wipe
    by_cases e : v = j
    · subst e
      by_cases hi : v < (wipeE env vs).length
      · rw [List.getElem?_set_self hi] at hj
        cases hj
      · rw [List.getElem?_eq_none (by simpa using hi)] at hj
        cases hj
    · rw [List.getElem?_set_ne e] at hj
      obtain ⟨w, h1, h2⟩ := ih.at_ j z hj
      exact ⟨w, by rw [List.getElem?_set_ne e]; exact h1, h2⟩
theorem wipe_mem {σ : L2.St} {j : Nat} : ∀ {vs : List Nat}, j ∈ vs → j < List.length σ → (wipe σ vs : List (Option V))[j]? = some none
  | [], h, _ => by simp at h
  | v :: vs, h, hl => by
    unfold wipe
    by_cases e : v = j
    · subst e
      rw [List.getElem?_set_self (by rw [wipe_length]; exact hl)]
    · have h' : j ∈ vs := by
        rcases List.mem_cons.mp h with z | z
        · exact absurd z.symm e
        · exact z
      rw [List.getElem?_set_ne e]
      exact wipe_mem h' hl
theorem wipe_eq {σ σ' : L2.St} {is vs : List Nat} (sub : ∀ i ∈ is, i ∈ vs) (a : AgreeOff is (wipe σ vs) σ') : wipe σ' vs = wipe σ vs := by
  have hl : List.length σ' = List.length σ := by rw [a.1, wipe_length]
  refine List.ext_getElem? fun j => ?_
  by_cases hj : j ∈ vs
  · by_cases hlt : j < List.length σ
    · rw [wipe_mem hj hlt, wipe_mem hj (by rw [hl]; exact hlt)]
    · rw [List.getElem?_eq_none (by rw [wipe_length, hl]; omega), List.getElem?_eq_none (by rw [wipe_length]; omega)]
  · rw [wipe_out hj, wipe_out hj]
    have := a.2 j (fun h => hj (sub j h))
    rw [wipe_out hj] at this
    exact this
structure FTs (X : Cx) (W : WX) (ifs : List Expr) (m : DT) : Prop where pts : PTs X ifs (tDT X.K X.mg W m)
section
variable {X : Cx} {W : WX} {c : Expr} {mt : DT}
theorem PTs.imp {ifs : List Expr} {t t' : TT} (h : PTs X ifs t) (i : ∀ σ H Q, t' σ H Q → t σ H Q) : PTs X ifs t' := ⟨fun pins s σ H Q I q => h.run pins s σ H Q I (i σ H Q q)⟩
theorem fts_nil : FTs X W [] dYes := ⟨PTs.imp pts_nil fun σ H Q ⟨env, S, R, E, hr, ht, he, q, hk⟩ => hk true S q H Ext.refl ht⟩
theorem fts_one (h : FT X W c mt) : FTs X W [c] mt := ⟨pts_one h.pt⟩
end
theorem eok0 {K : PySem.W.Frag} {mg : Str → Option Value} {H : Hp} {S : Sm} : EOk K mg W0 EK0 H S := fun e env' S' h => h.elim
/-- the body of a comprehension's loop, by its data semantics -/
theorem lc_data {K : PySem.W.Frag} {mg : Str → Option Value} {J : It} {g : DG} {t : DT} {me : DE} {is vs : List Nat} {σ : L2.St} {H1 : Hp} {S1 : Sm} {env : Env} {zs : List Z} {R : List Z → Sm → Prop} {Qd : Hp → Prop} {D : Addr}
    (sub : ∀ i ∈ is, i ∈ vs) (hr : REnv K H1 σ env) (t1 : Tie K H1 S1) (io : ItOk K J zs H1 S1) (hD : H1 D = none) (q : compZ g t me zs (wipeE env vs) S1 [] R)
    (hk : ∀ ys S2, R ys S2 → ∀ H2 us, (∀ b o, H1 b = some o → S1 b = none → H2 b = some o ∧ S2 b = none) → Tie K H2 S2 → S2 D = none → H2 D = some (.lst us) → RZs K H2 ys us → Qd H2) :
    ∃ Wv : Nat → Nat → Hp → Prop, (∃ m, Wv 0 m (upd H1 D (.lst []))) ∧ ∀ i m H, Wv i m H →
      (J.stop i H ∧ Qd H) ∨ (J.go i H ∧ ∃ Nx : Hp → Prop, (∀ H', Nx H' → ∃ m', m' < m ∧ Wv (i + 1) m' H') ∧ ∀ x H', J.yld i H x H' → tDG K is g x (wipe σ vs) H' fun σ2 H2 => wipe σ2 vs = wipe σ vs ∧ tDT K mg W0 t σ2 H2 fun b H3 =>
        if b = true then tD K mg W0 me σ2 H3 fun y H4 => ∃ acc, H4 D = some (.lst acc) ∧ acc.length < sizeLine ∧ Nx (upd H4 D (.lst (acc ++ [y]))) else Nx H3) := by
  have nD := new_none t1 hD
  -- what holds ahead of turn i
  refine ⟨fun i m H => m = zs.length - i ∧ i ≤ zs.length ∧ ∃ S acc us, Tie K H S ∧ (∀ b o, H1 b = some o → S1 b = none → H b = some o ∧ S b = none) ∧ S D = none ∧ H D = some (.lst us) ∧ RZs K H acc us ∧ REnv K H (wipe σ vs) (wipeE env vs) ∧ compZ g t me (zs.drop i) (wipeE env vs) S acc R, ⟨zs.length, by simp, Nat.zero_le _, S1, [], [], ?_, ?_, nD, upd_same, RZs.nil, ?_, by simpa using q⟩, ?_⟩
  · exact t1.ext (sub_new (K := K) (S := S1) hD)
  · exact fun b o h s => ⟨sub_new (K := K) (S := S1) hD b o h, s⟩
  · exact renv_wipe (hr.ext t1 (Ext.same (sub_new (K := K) (S := S1) hD))) vs
  rintro i m H ⟨rfl, hi, S, acc, us, tt, xx, sD, dD, ra, re, qq⟩
  have go := io i H S (fun b o h s => xx b o h s) tt hi
  by_cases hlt : i < zs.length
  · right
    have hz : zs[i]? = some zs[i] := List.getElem?_eq_getElem hlt
    obtain ⟨g1, g2⟩ := go.2 _ hz
    rw [List.drop_eq_getElem_cons hlt] at qq
    obtain ⟨e3, hg3, q3⟩ := qq
    refine ⟨g1, fun H' => ∃ S acc us, Tie K H' S ∧ (∀ b o, H1 b = some o → S1 b = none → H' b = some o ∧ S b = none) ∧ S D = none ∧ H' D = some (.lst us) ∧ RZs K H' acc us ∧ REnv K H' (wipe σ vs) (wipeE env vs) ∧ compZ g t me (zs.drop (i + 1)) (wipeE env vs) S acc R, fun H' w => ⟨zs.length - (i + 1), by omega, rfl, hlt, w⟩, fun x H3 y => ?_⟩
    obtain ⟨sb, rz⟩ := g2 x H3 y
    have x3 : Ext H S H3 S := Ext.same sb
    have t3 := tt.ext sb
    have re3 := re.ext tt x3
    refine ⟨_, S, zs[i], e3, re3, t3, rz, hg3, fun σ3 r3 ag => ⟨wipe_eq sub ag, ?_⟩⟩
    refine tDT.mk r3 t3 eok0 q3 fun b S4 q4 H4 x4 t4 r4 _ => ?_
    have x34 := x3.trans x4
    have xx4 : ∀ b o, H1 b = some o → S1 b = none → H4 b = some o ∧ S4 b = none := fun b o h s => let ⟨a1, a2⟩ := xx b o h s; x34 b o a1 a2
    have re4 := re.ext tt x34
    obtain ⟨dD4, sD4⟩ := x34 D _ dD sD
    cases b with
    | true =>
      rw [if_pos rfl] at q4 ⊢
      refine tD.mk r4 t4 eok0 q4 fun y S5 ⟨hacc, q5⟩ v H5 x5 t5 ry r5 _ => ?_
      have x345 := x34.trans x5
      obtain ⟨dD5, sD5⟩ := x345 D _ dD sD
      have ra5 := RZs.ext tt x345 _ _ ra
      refine ⟨us, dD5, by rw [ra5.length]; exact of_decide_eq_true hacc, S5, acc ++ [y], us ++ [v], ?_⟩
      obtain ⟨T, F⟩ := lst_tf (o := .lst (us ++ [v])) dD5
      have hne : ∀ b o, S5 b = some o → b ≠ D := fun b o h e => by rw [e, sD5] at h; cases h
      refine ⟨?_, ?_, sD5, upd_same, (RZs.tf T F _ _ ra5).append (RZs.cons (RZ.tf T F _ _ ry) RZs.nil), ?_, q5⟩
      · intro b p hb
        have w := t5 b p hb
        cases p with
        | lst ws =>
          obtain ⟨vs', w1, w2⟩ := w
          exact ⟨vs', by rw [upd_ne (hne b _ hb)]; exact w1, RZs.tf T F _ _ w2⟩
        | src =>
          show upd H5 D _ b = some (SRC b)
          rw [upd_ne (hne b _ hb)]
          exact w
        | ins C fs =>
          obtain ⟨dx, gs, w1, w2⟩ := w
          exact ⟨dx, gs, by rw [upd_ne (hne b _ hb)]; exact w1, RFs.tf T F _ _ w2⟩
      · intro b o h s
        obtain ⟨a1, a2⟩ := xx4 b o h s
        obtain ⟨b1, b2⟩ := x5 b o a1 a2
        have nb : b ≠ D := fun e => by rw [e, hD] at h; cases h
        exact ⟨by rw [upd_ne nb]; exact b1, b2⟩
      · have r6 := re.ext tt x345
        exact ⟨r6.len, fun j z hj => let ⟨w, w1, w2⟩ := r6.at_ j z hj; ⟨w, w1, RZ.tf T F _ _ w2⟩⟩
    | false =>
      rw [if_neg Bool.false_ne_true] at q4 ⊢
      exact ⟨S4, acc, us, t4, xx4, sD4, dD4, RZs.ext tt x34 _ _ ra, re4, q4⟩
  · left
    have ei : i = zs.length := by omega
    subst ei
    rw [List.drop_length] at qq
    exact ⟨go.1 rfl, hk acc S qq H us xx tt sD dD ra⟩
section
variable {X : Cx} {W : WX}
/-- the parts of a comprehension, in its own block -/
structure LcOk (X : Cx) (elt tg iter : Expr) (ifs : List Expr) (scope : Scope) (own : List (Str × Nat)) (is : List Nat) (g : DG) (t : DT) (me : DE) : Prop where
  ok : BlkOk X.N X.env.scope scope own
  sub : ∀ i ∈ is, i ∈ own.map (·.2)
  hg : ∀ (s : Shared) (H : Hp) (C : Addr) (cl : List (Str × Addr)) (fp : List Addr), FG (X.blk s H scope (compEnvC scope cl C X.env) fp) tg is g
  ht : ∀ (s : Shared) (H : Hp) (C : Addr) (cl : List (Str × Addr)) (fp : List Addr), FTs (X.blk s H scope (compEnvC scope cl C X.env) fp) W0 ifs t
  he : ∀ (s : Shared) (H : Hp) (C : Addr) (cl : List (Str × Addr)) (fp : List Addr), FE (X.blk s H scope (compEnvC scope cl C X.env) fp) W0 elt me
theorem fe_lc {elt tg iter : Expr} {ifs : List Expr} {scope : Scope} {own : List (Str × Nat)} {is : List Nat} {pos : Pos} {mi : DA} {g : DG} {t : DT} {me : DE} (hc : X.calm = true) (hN : X.N.Nodup) (hi : FI X W tg iter mi) (L : LcOk X elt tg iter ifs scope own is g t me)
    (hs : ∀ x, foldedSetIterable iter X.env x = pure x := by intro _; rfl) : FE X W (.ListComp elt [⟨tg, iter, ifs, 0⟩] scope pos) (dComp mi (own.map (·.2)) g t me) := by
  refine fe_of (pe_frz (pe_lc (te := tD X.K X.mg W0 me) (tt := tDT X.K X.mg W0 t) (g := tDG X.K is g) hc hN hi.pi L.ok (fun a b c d e => (L.hg a b c d e).pg) (fun a b c d e => (L.ht a b c d e).pts) (fun a b c d e => (L.he a b c d e).pe) hs)) fun σ H Q ⟨env, S, R, E, hr, ht, he, q, hk⟩ => ?_
  refine ⟨env, S, _, E, hr, ht, he, q, fun zs S1 q1 J H1 x1 t1 io D hD => ?_⟩
  refine lc_data L.sub (hr.ext ht x1) t1 io hD q1 fun ys S2 q2 H2 us xx t2 sD dD ru => ?_
  refine ⟨D, us, rfl, dD, fun o => ?_⟩
  have T := upd_tup (o := .frz o (.lst us)) dD (fun _ z => nomatch z)
  have F := upd_frz (o := .frz o (.lst us)) dD (fun _ _ z => nomatch z)
  have hne : ∀ b o, S2 b = some o → b ≠ D := fun b o h e => by rw [e, sD] at h; cases h
  refine hk _ S2 q2 _ _ (fun b ob h s => ?_) (fun b p hb => ?_) ?_
  · obtain ⟨h1, s1⟩ := x1 b ob h s
    obtain ⟨h2, s2⟩ := xx b ob h1 s1
    have nb : b ≠ D := fun e => by rw [e, hD] at h1; cases h1
    exact ⟨by rw [upd_ne nb]; exact h2, s2⟩
  · have w := t2 b p hb
    cases p with
    | lst ws =>
      obtain ⟨vs', w1, w2⟩ := w
      exact ⟨vs', by rw [upd_ne (hne b _ hb)]; exact w1, RZs.tf T F _ _ w2⟩
    | src =>
      show upd H2 D _ b = some (SRC b)
      rw [upd_ne (hne b _ hb)]
      exact w
    | ins C fs =>
      obtain ⟨dx, gs, w1, w2⟩ := w
      exact ⟨dx, gs, by rw [upd_ne (hne b _ hb)]; exact w1, RFs.tf T F _ _ w2⟩
  · unfold RZ
    exact ⟨D, us, rfl, ⟨o, upd_same⟩, RZs.tf T F _ _ ru⟩
/-- name = [..], frozen; changed later -/
theorem PS.frz {st : Stmt} {t : TS} {i : Nat} (h : PS X st t) : PS X st (fun D σ H => t { D with nx := fun σ' H' => ∃ a xs, H' a = some (.lst xs) ∧ ∀ o, D.nx σ' (upd H' a (.frz o (.lst xs))) } σ H) := by
  refine ⟨fun pins s σ H D I q => ?_⟩
  refine thn (h.run pins s σ H _ I q) fun f s1 hf => ?_
  cases f with
  | next =>
    obtain ⟨σ', H', I', a, xs, e, q'⟩ := hf
    obtain ⟨o, I2⟩ := Inv.freeze I' e
    exact ⟨σ', _, I2, q' o⟩
  | brk => exact hf
  | cont => exact hf
  | ret u => exact hf
theorem fs_setLc (i : Nat) {y : Str} {py : Pos} {elt tg iter : Expr} {ifs : List Expr} {scope : Scope} {own : List (Str × Nat)} {is : List Nat} {pos spos : Pos} {mi : DA} {g : DG} {t : DT} {me : DE} (hc : X.calm = true) (hN : X.N.Nodup) (hsw : swapsWith (.ListComp elt [⟨tg, iter, ifs, 0⟩] scope pos) (some (.Name y py)) spos.line X.env = pure true)
    (hi : FI X W tg iter mi) (L : LcOk X elt tg iter ifs scope own is g t me) (hy : X.N[i]? = some y := by rfl) (hyl : X.env.scope.names.lookup y = some .local := by rfl)
    (hs : ∀ x, foldedSetIterable iter X.env x = pure x := by intro _; rfl) : FS X W (.Assign [.Name y py] (.ListComp elt [⟨tg, iter, ifs, 0⟩] scope pos) spos) (dSet (gN i) (dComp mi (own.map (·.2)) g t me)) := by
  refine fs_of (PS.frz (i := i) (ps_setLc (te := tD X.K X.mg W0 me) (tt := tDT X.K X.mg W0 t) (g := tDG X.K is g) hc hN hy hyl hsw hi.pi L.ok (fun a b c d e => (L.hg a b c d e).pg) (fun a b c d e => (L.ht a b c d e).pts) (fun a b c d e => (L.he a b c d e).pe) hs)) fun Dn σ H ⟨env, S, R, E, hr, ht, he, q, hk⟩ => ?_
  refine ⟨env, S, _, E, hr, ht, he, q, fun zs S1 q1 J H1 x1 t1 io D hD => ?_⟩
  refine lc_data L.sub (hr.ext ht x1) t1 io hD q1 fun ys S2 ⟨e2, hg2, q2⟩ H2 us xx t2 sD dD ru => ?_
  cases hg2
  refine ⟨D, us, dD, fun o => ?_⟩
  have T := upd_tup (o := .frz o (.lst us)) dD (fun _ z => nomatch z)
  have F := upd_frz (o := .frz o (.lst us)) dD (fun _ _ z => nomatch z)
  have hne : ∀ b o, S2 b = some o → b ≠ D := fun b o h e => by rw [e, sD] at h; cases h
  have x12 : Ext H S (upd H2 D (.frz o (.lst us))) S2 := fun b ob h s => by
    obtain ⟨h1, s1⟩ := x1 b ob h s
    obtain ⟨h2, s2⟩ := xx b ob h1 s1
    have nb : b ≠ D := fun e => by rw [e, hD] at h1; cases h1
    exact ⟨by rw [upd_ne nb]; exact h2, s2⟩
  refine hk.nx _ S2 q2 _ _ x12 (fun b p hb => ?_) ((hr.ext ht x12).set ?_)
  · have w := t2 b p hb
    cases p with
    | lst ws =>
      obtain ⟨vs', w1, w2⟩ := w
      exact ⟨vs', by rw [upd_ne (hne b _ hb)]; exact w1, RZs.tf T F _ _ w2⟩
    | src =>
      show upd H2 D _ b = some (SRC b)
      rw [upd_ne (hne b _ hb)]
      exact w
    | ins C fs =>
      obtain ⟨dx, gs, w1, w2⟩ := w
      exact ⟨dx, gs, by rw [upd_ne (hne b _ hb)]; exact w1, RFs.tf T F _ _ w2⟩
  · unfold RZ
    exact ⟨D, us, rfl, ⟨o, upd_same⟩, RZs.tf T F _ _ ru⟩
theorem fs_setLcM (i : Nat) {y : Str} {py : Pos} {elt tg iter : Expr} {ifs : List Expr} {scope : Scope} {own : List (Str × Nat)} {is : List Nat} {pos spos : Pos} {mi : DA} {g : DG} {t : DT} {me : DE} (hc : X.calm = true) (hN : X.N.Nodup) (hsw : swapsWith (.ListComp elt [⟨tg, iter, ifs, 0⟩] scope pos) (some (.Name y py)) spos.line X.env = pure true)
    (hi : FI X W tg iter mi) (L : LcOk X elt tg iter ifs scope own is g t me) (hy : X.N[i]? = some y := by rfl) (hyl : X.env.scope.names.lookup y = some .local := by rfl)
    (hs : ∀ x, foldedSetIterable iter X.env x = pure x := by intro _; rfl) : FS X W (.Assign [.Name y py] (.ListComp elt [⟨tg, iter, ifs, 0⟩] scope pos) spos) (dSet (gN i) (dCompM mi (own.map (·.2)) g t me)) := by
  refine fs_of (ps_setLc (te := tD X.K X.mg W0 me) (tt := tDT X.K X.mg W0 t) (g := tDG X.K is g) hc hN hy hyl hsw hi.pi L.ok (fun a b c d e => (L.hg a b c d e).pg) (fun a b c d e => (L.ht a b c d e).pts) (fun a b c d e => (L.he a b c d e).pe) hs) fun Dn σ H ⟨env, S, R, E, hr, ht, he, q, hk⟩ => ?_
  refine ⟨env, S, _, E, hr, ht, he, q, fun zs S1 q1 J H1 x1 t1 io D hD => ?_⟩
  refine lc_data L.sub (hr.ext ht x1) t1 io hD q1 fun ys S2 q2 H2 us xx t2 sD dD ru => ?_
  obtain ⟨e2, hg2, q2⟩ := q2 D sD
  cases hg2
  have x12 : Ext H S H2 (sUpd S2 D (.lst ys)) := fun b ob h s => by
    obtain ⟨h1, s1⟩ := x1 b ob h s
    obtain ⟨h2, s2⟩ := xx b ob h1 s1
    have nb : b ≠ D := fun e => by rw [e, hD] at h1; cases h1
    exact ⟨h2, by rw [sUpd_ne nb]; exact s2⟩
  refine hk.nx _ _ q2 _ _ x12 (fun b p hb => ?_) ((hr.ext ht x12).set (by unfold RZ; rfl))
  by_cases e : b = D
  · subst e
    rw [sUpd_same] at hb
    cases hb
    exact ⟨us, dD, ru⟩
  · rw [sUpd_ne e] at hb
    exact t2 b p hb
end

/-! ### a def's body -/
def fromBody (n N : Nat) (m : DS) : DF := fun zs RE S k => zs.length = n ∧ m (fun e _ S' => RE e S') (zs.map some ++ List.replicate (N - n) none) S { nx := fun _ S' => k .non S', rt := k }
theorem rzs_start {K : PySem.W.Frag} {H : Hp} : ∀ {zs : List Z} {vs : List V} (n : Nat), RZs K H zs vs → REnv K H (vs.map some ++ List.replicate n none : List (Option V)) (zs.map some ++ List.replicate n none)
  | zs, vs, n, r => by
    refine ⟨by rw [List.length_append, List.length_append, List.length_map, List.length_map, List.length_replicate, List.length_replicate, r.length], fun i z hi => ?_⟩
    by_cases h : i < zs.length
    · rw [List.getElem?_append_left (by simpa using h), List.getElem?_map] at hi
      cases e : zs[i]? with
      | none => rw [e] at hi; cases hi
      | some y =>
        rw [e] at hi
        cases hi
        obtain ⟨v, h1, h2⟩ := r.get e
        refine ⟨v, ?_, h2⟩
        rw [List.getElem?_append_left (by rw [List.length_map, r.length]; exact h), List.getElem?_map, h1]
        rfl
    · rw [List.getElem?_append_right (by simpa using Nat.le_of_not_lt h), List.getElem?_replicate] at hi
      split at hi <;> cases hi
section
variable {P : Program} {w : World} {K : PySem.W.Frag} {mg : Str → Option Value} {base : Heap}
theorem Fd.fn {x : Str} {st : Stmt} {f : Addr} {fd : FuncData} {N ps : List Str} {k : Nat} {m : DS} (F : Fun K x x st f fd) (S : FnScope N ps (defScope st))
    (hbody : ∀ (cdv : Value) (A : Around) (outer : List PySem.Env) (s : Shared) (H : Hp) (E : XK), Room k (A.deeper (envOfC x (defScope st) s.heap.objs.size f cdv)) →
      FSs (cxOf (L2.CX P w) P w K mg base N x (defScope st) f cdv A outer s H E) (fun cls d _ H => E cls d H) (defBody st) m) : FnOk P w K mg base (L2.CX P w) (k + 1) f fd ps (spD K mg (fromBody ps.length N.length m)) := by
  refine F.okX S (fun vs H Q E ⟨zs, S, R, RE, hr, _, ⟨hl, _⟩, _⟩ => by rw [hr.length, hl]) fun cdv A outer s H vs Q E hr h => ?_
  obtain ⟨zs, S, R, RE, rz, t, ⟨hl, q⟩, hk, he⟩ := h
  refine ⟨_, (hbody cdv A outer s H E hr).pss, ?_⟩
  have hl2 : vs.length = ps.length := by rw [rz.length, hl]
  refine ⟨zs.map some ++ List.replicate (N.length - ps.length) none, S, _, _, ?_, t, ?_, q, ?_⟩
  · show REnv K H (vs.map some ++ List.replicate (N.length - vs.length) none : List (Option V)) _
    rw [hl2]
    exact rzs_start _ rz
  · intro e env' S' hRE cls d σ' H' x1 t1 r1 xr
    exact he e S' hRE cls d H' x1 t1 xr
  · exact ⟨fun e S' q' σ' H' x1 t1 r1 => hk _ S' q' _ H' x1 t1 (by unfold RZ; rfl), fun z S' q' v H' x1 t1 rz => hk z S' q' v H' x1 t1 rz, fun _ _ z => z.elim, fun _ _ z => z.elim⟩
theorem Fd.body {x : Str} {st : Stmt} {f : Addr} {fd : FuncData} {N ps : List Str} {k : Nat} {m : DS} (F : Fun K x x st f fd) (hm : mg x = some (.ref f)) (hb : Binds K fd ps []) (S : FnScope N ps (defScope st))
    (hbody : ∀ (cdv : Value) (A : Around) (outer : List PySem.Env) (s : Shared) (H : Hp) (E : XK), Room k (A.deeper (envOfC x (defScope st) s.heap.objs.size f cdv)) →
      FSs (cxOf (L2.CX P w) P w K mg base N x (defScope st) f cdv A outer s H E) (fun cls d _ H => E cls d H) (defBody st) m) : Fd P w K mg base (k + 1) x ps (fromBody ps.length N.length m) := ⟨f, fd, hm, F.kp, hb, Fd.fn F S hbody⟩
/-- what S does not name is forgotten -/
def rst (S S' : Sm) : Sm := fun b => match S b with
  | some _ => S' b
  | none => none
theorem Ext.rst {H H' : Hp} {S S' : Sm} (x : Ext H S H' S') : Ext H S H' (L3.rst S S') := fun b o h s => by
  refine ⟨(x b o h s).1, ?_⟩
  unfold L3.rst
  rw [s]
theorem Tie.rst {H : Hp} {S S' : Sm} (t : Tie K H S') : Tie K H (L3.rst S S') := fun a o h => by
  unfold L3.rst at h
  split at h
  · exact t a o h
  · cases h
/-- a promise made simpler; what the call has made for itself is forgotten -/
theorem Fd.imp {x : Str} {k : Nat} {ps : List Str} {f f' : DF} (F : Fd P w K mg base k x ps f) (h : ∀ zs RE S R, f' zs RE S R → f zs (fun e S' => RE e (L3.rst S S')) S (fun z S' => R z (L3.rst S S'))) : Fd P w K mg base k x ps f' := by
  obtain ⟨fa, fd, hm, hk, hb, G⟩ := F.ex
  refine ⟨fa, fd, hm, hk, hb, G.imp fun vs H Q E ⟨zs, S, R, RE, rz, t, q, h1, h2⟩ => ?_⟩
  exact ⟨zs, S, _, _, rz, t, h zs RE S R q, fun z S' hz v H' x1 t1 r1 => h1 z _ hz v H' x1.rst t1.rst r1, fun e S' hz cls d H' x1 t1 xr => h2 e _ hz cls d H' x1.rst t1.rst xr⟩
theorem Fd.imp0 {x : Str} {k : Nat} {ps : List Str} {f f' : DF} (F : Fd P w K mg base k x ps f) (h : ∀ zs RE S R, f' zs RE S R → f zs RE S R) : Fd P w K mg base k x ps f' := by
  obtain ⟨fa, fd, hm, hk, hb, G⟩ := F.ex
  refine ⟨fa, fd, hm, hk, hb, G.imp fun vs H Q E ⟨zs, S, R, RE, rz, t, q, h1, h2⟩ => ?_⟩
  exact ⟨zs, S, R, RE, rz, t, h zs RE S R q, h1, h2⟩
theorem Fd.mono {x : Str} {j k : Nat} {ps : List Str} {f : DF} (F : Fd P w K mg base j x ps f) (h : j ≤ k) : Fd P w K mg base k x ps f := by
  obtain ⟨fa, fd, hm, hk, hb, G⟩ := F.ex
  exact ⟨fa, fd, hm, hk, hb, G.mono h⟩
theorem rst_self (S : Sm) : L3.rst S S = S := by
  funext b
  unfold L3.rst
  split
  · rfl
  · rename_i h
    exact h.symm
theorem rst_new {S : Sm} {p : Addr} {o : MO} (h : S p = none) : L3.rst S (sUpd S p o) = S := by
  funext b
  unfold L3.rst
  by_cases e : b = p
  · subst e
    rw [h]
  · rw [sUpd_ne e]
    split
    · rfl
    · rename_i q
      exact q.symm
theorem sUpd_upd {S : Sm} {p : Addr} {o o' : MO} : sUpd (sUpd S p o) p o' = sUpd S p o' := by
  funext b
  unfold sUpd
  split <;> rfl
end
end L3
namespace L3
open PySem PySem.Spec PyProof.Rows L2

/-! ### sources of draws: a list of two ints is hidden, and opened again -/
def InB (x y : Int) : Prop := 0 ≤ x ∧ 0 ≤ y ∧ y < 2147483647
theorem vals_two {x y : Int} {us : List Value} (r : Vals [V.int x, V.int y] us) : ∃ t u, us = [Value.int x t, Value.int y u] := by
  cases r with
  | cons h1 r =>
    cases r with
    | cons h2 r =>
      cases r
      obtain ⟨t, rfl⟩ := h1
      obtain ⟨u, rfl⟩ := h2
      exact ⟨t, u, rfl⟩
section
variable {P : Program} {w : World} {H : Hp} {h : Heap} {a : Addr}
theorem src_new {φ : HO} (e : φ = SRC a) {x y : Int} {t u : Tok} {n : Nat} (b : InB x y) (o : h.get? a = some { cls := .type "list", data := .seq (#[.int x t, .int y u] : Array Value) n }) : ObjOk P w H h a (SRC a) :=
  ⟨⟨x, y, t, u, n, b.1, b.2.1, b.2.2, o⟩, ⟨_, o⟩, fun h1 h2 ⟨x, y, t, u, n, b1, b2, b3, q⟩ k => ⟨x, y, t, u, n, b1, b2, b3, k _ q⟩⟩
theorem hok_close (x : HOk P w H h) {i j : Int} (e : H a = some (.lst [.int i, .int j])) (b : InB i j) : HOk P w (upd H a (SRC a)) h := fun c o q => by
  by_cases hc : c = a
  · subst hc
    rw [upd_same] at q
    cases q
    obtain ⟨_, its, n, r, g⟩ := x c _ e
    obtain ⟨t, u, rfl⟩ := vals_two r
    exact src_new rfl b g
  · rw [upd_ne hc] at q
    exact (x c o q).stay (fun _ _ _ g => g) (fun d g => by rw [upd_ne fun z => by subst z; rw [e] at g; cases g]; exact g) fun d xs g => by rw [upd_ne fun z => by subst z; rw [e] at g; cases g]; exact g
theorem hok_open (x : HOk P w H h) (e : H a = some (SRC a)) : ∃ i j, InB i j ∧ HOk P w (upd H a (.lst [.int i, .int j])) h := by
  obtain ⟨⟨i, j, t, u, n, b1, b2, b3, gg⟩, _⟩ := x a _ e
  refine ⟨i, j, ⟨b1, b2, b3⟩, fun c o q => ?_⟩
  by_cases hc : c = a
  · subst hc
    rw [upd_same] at q
    cases q
    exact ⟨by show 2 ≤ sizeLine; decide, [.int i t, .int j u], n, .cons ⟨_, rfl⟩ (.cons ⟨_, rfl⟩ .nil), gg⟩
  · rw [upd_ne hc] at q
    exact (x c o q).stay (fun _ _ _ g => g) (fun d g => by rw [upd_ne fun z => by subst z; rw [e] at g; cases g]; exact g) fun d xs g => by rw [upd_ne fun z => by subst z; rw [e] at g; cases g]; exact g
/-- a tracked object of another name, at the end and at the start -/
theorem un_end {fs ex : List Addr} {H' : Hp} {h' : Heap} {o u : HO} (x : Un fs ex H H' h h') (e : H' a = some u) (n1 : ∀ xs, u ≠ .tup xs) (n2 : ∀ b w, u ≠ .frz b w) (n3 : ∀ ps, u ≠ .tbl ps) (hf : ∀ b ob, h.get? b = some ob → H b = none → b ∉ ex → b ≠ a) : Un fs ex H (upd H' a o) h h' :=
  ⟨x.keep, x.slot, fun b ob g n hx => by rw [upd_ne (hf b ob g n hx)]; exact x.free b ob g n hx, x.there,
    fun b xs g => by have q := x.tups b xs g; rw [upd_ne fun z => by subst z; rw [e] at q; cases q; exact n1 _ rfl]; exact q,
    fun b ob v g => by have q := x.frzs b ob v g; rw [upd_ne fun z => by subst z; rw [e] at q; cases q; exact n2 _ _ rfl]; exact q,
    fun b ps g => by obtain ⟨m, q⟩ := x.tbls b ps g; exact ⟨m, by rw [upd_ne fun z => by subst z; rw [e] at q; cases q; exact n3 _ rfl]; exact q⟩⟩
theorem un_start {fs ex : List Addr} {H' : Hp} {h' : Heap} {o u : HO} (x : Un fs ex (upd H a o) H' h h') (e : H a = some u) (n1 : ∀ xs, u ≠ .tup xs) (n2 : ∀ b w, u ≠ .frz b w) (n3 : ∀ ps, u ≠ .tbl ps) : Un fs ex H H' h h' := by
  have ne : ∀ b, H b = none → b ≠ a := fun b n z => by subst z; rw [e] at n; cases n
  exact ⟨fun b ob g n => x.keep b ob g (by rw [upd_ne (ne b n)]; exact n), fun b ob g n => x.slot b ob g (by rw [upd_ne (ne b n)]; exact n), fun b ob g n => x.free b ob g (by rw [upd_ne (ne b n)]; exact n), x.there,
    fun b xs g => x.tups b xs (by rw [upd_ne fun z => by subst z; rw [e] at g; cases g; exact n1 _ rfl]; exact g),
    fun b ob v g => x.frzs b ob v (by rw [upd_ne fun z => by subst z; rw [e] at g; cases g; exact n2 _ _ rfl]; exact g),
    fun b ps g => x.tbls b ps (by rw [upd_ne fun z => by subst z; rw [e] at g; cases g; exact n3 _ rfl]; exact g)⟩
end
section
variable {P : Program} {w : World} {K : PySem.W.Frag} {mg : Str → Option Value} {base : Heap}
/-- the new list of two ints that is handed back is hidden -/
def closeF (f : DF) : DF := fun zs RE S k => f zs (fun _ _ => False) S fun z S' => ∃ p x y, z = .ref p ∧ S p = none ∧ S' = sUpd S p (.lst [.int x, .int y]) ∧ InB x y ∧ k (.ref p) (sUpd S p .src)
theorem Fd.close {x : Str} {k : Nat} {ps : List Str} {f : DF} (F : Fd P w K mg base k x ps f) : Fd P w K mg base k x ps (closeF f) := by
  obtain ⟨fa, fd, hm, hk, hb, G⟩ := F.ex
  refine ⟨fa, fd, hm, hk, hb, ⟨fun vs H Q E ⟨zs, S, R, RE, rz, t, q, h1, h2⟩ => ?_, fun A outer s H args us vs Q E hr he hbt hv ⟨zs, S, R, RE, rz, t, q, h1, h2⟩ => ?_⟩⟩
  · exact G.len vs H (fun _ _ => True) (fun _ _ _ => True) ⟨zs, S, _, _, rz, t, q, fun _ _ _ _ _ _ _ _ => trivial, fun _ _ _ _ _ _ _ _ _ => trivial⟩
  · refine codeAny_mono (G.run A outer s H args us vs (fun v H' => ∃ p i j, v = .ref p ∧ H p = none ∧ H' p = some (.lst [.int i, .int j]) ∧ InB i j ∧ Q (.ref p) (upd H' p (SRC p))) (fun _ _ _ => False) hr he hbt hv ⟨zs, S, _, _, rz, t, q, fun z S' hz v H' xx tt rr => ?_, fun e S' hz => hz.elim⟩) fun r s' hq => ?_
    · obtain ⟨p, i, j, e1, hp, e2, b, kk⟩ := hz
      subst e1 e2
      unfold RZ at rr
      subst rr
      obtain ⟨vs', hv', hrs⟩ := tt p _ sUpd_same
      have e3 : vs' = [.int i, .int j] := by
        obtain ⟨v1, v2, e, r1, r2⟩ := rzs2 hrs
        unfold RZ at r1 r2
        rw [e, r1, r2]
      subst e3
      have hn : H p = none := by
        cases c : H p with
        | none => rfl
        | some o =>
          have := (xx p o c hp).2
          rw [sUpd_same] at this
          cases this
      refine ⟨p, i, j, rfl, hn, hv', b, h1 _ _ kk _ _ (fun c o hc sc => ?_) (fun c o hc => ?_) (by unfold RZ; rfl)⟩
      · have ne : c ≠ p := fun z => by rw [z, hn] at hc; cases hc
        obtain ⟨g1, g2⟩ := xx c o hc sc
        exact ⟨by rw [upd_ne ne]; exact g1, by rw [sUpd_ne ne]; exact sc⟩
      · by_cases ne : c = p
        · subst ne
          rw [sUpd_same] at hc
          cases hc
          exact upd_same
        · rw [sUpd_ne ne] at hc
          have w' := tt c o (by rw [sUpd_ne ne]; exact hc)
          have T := upd_tup (o := SRC p) hv' (fun _ z => nomatch z)
          have F' := upd_frz (o := SRC p) hv' (fun _ _ z => nomatch z)
          cases o with
          | lst ws =>
            obtain ⟨vs1, w1, w2⟩ := w'
            exact ⟨vs1, by rw [upd_ne ne]; exact w1, RZs.tf T F' _ _ w2⟩
          | src =>
            show upd H' p _ c = some (SRC c)
            rw [upd_ne ne]
            exact w'
          | ins C fs =>
            obtain ⟨dx, gs, w1, w2⟩ := w'
            exact ⟨dx, gs, by rw [upd_ne ne]; exact w1, RFs.tf T F' _ _ w2⟩
    · cases r with
      | error e =>
        obtain ⟨_, _, _, _, _, _, _, _, _, _, _, _, z⟩ := hq
        exact z.elim
      | ok fl =>
        cases fl with
        | ret u =>
          obtain ⟨v, H', os, bare, un, hok, rv, p, i, j, e1, hn, hp, b, qq⟩ := hq
          subst e1
          refine ⟨.ref p, _, os, bare, un_end un hp (fun _ z => nomatch z) (fun _ _ z => nomatch z) (fun _ z => nomatch z) (fun c ob g n _ z => ?_), hok_close hok hp b, rv, qq⟩
          subst z
          have := un.free c ob g n (by simp)
          rw [hp] at this
          cases this
        | next => exact hq
        | brk => exact hq
        | cont => exact hq
/-- a source is opened for the call, and hidden again -/
def drawF (f : DF) : DF := fun zs RE S k => ∃ a, S a = some .src ∧ ∀ x y, InB x y → f zs (fun _ _ => False) (sUpd S a (.lst [.int x, .int y])) fun z S' => ∃ i x' y', z = .int i ∧ InB x' y' ∧ S' = sUpd S a (.lst [.int x', .int y']) ∧ k (.int i) S
theorem sUpd_id {S : Sm} {a : Addr} {o : MO} (h : S a = some o) : sUpd S a o = S := by
  funext b
  unfold sUpd
  split
  · rename_i e
    rw [e, h]
  · rfl
theorem Fd.draw {x : Str} {k : Nat} {ps : List Str} {f : DF} (F : Fd P w K mg base k x ps f) : Fd P w K mg base k x ps (drawF f) := by
  obtain ⟨fa, fd, hm, hk, hb, G⟩ := F.ex
  -- the data's tie once the source at a is open
  have opened : ∀ {H : Hp} {S : Sm} {a : Addr} {i j : Int}, Tie K H S → H a = some (SRC a) → Tie K (upd H a (.lst [.int i, .int j])) (sUpd S a (.lst [.int i, .int j])) := fun {H S a i j} t e =>
    tie_put t e (fun _ z => nomatch z) (fun _ _ z => nomatch z) ⟨_, upd_same, RZs.cons (rz_int _) (RZs.cons (rz_int _) RZs.nil)⟩
  have data : ∀ {H : Hp} {a : Addr} {i j : Int} {zs : List Z} {vs : List V}, H a = some (SRC a) → RZs K H zs vs → RZs K (upd H a (.lst [.int i, .int j])) zs vs := fun {H a i j zs vs} e r =>
    RZs.tf (upd_tup e (fun _ z => nomatch z)) (upd_frz e (fun _ _ z => nomatch z)) _ _ r
  refine ⟨fa, fd, hm, hk, hb, ⟨fun vs H Q E ⟨zs, S, R, RE, rz, t, ⟨a, sa, q⟩, h1, h2⟩ => ?_, fun A outer s H args us vs Q E hr he hbt hv ⟨zs, S, R, RE, rz, t, ⟨a, sa, q⟩, h1, h2⟩ => ?_⟩⟩
  · have e : H a = some (SRC a) := t a _ sa
    exact G.len vs (upd H a (.lst [.int 0, .int 0])) (fun _ _ => True) (fun _ _ _ => True) ⟨zs, sUpd S a (.lst [.int 0, .int 0]), _, _, data e rz, opened t e, q 0 0 ⟨by omega, by omega, by omega⟩, fun _ _ _ _ _ _ _ _ => trivial, fun _ _ _ _ _ _ _ _ _ => trivial⟩
  · have e : H a = some (SRC a) := t a _ sa
    obtain ⟨i, j, b, hok⟩ := hok_open he.hok e
    have ne : ∀ c, H c = none → c ≠ a := fun c n z => by subst z; rw [e] at n; cases n
    have he2 : Env0 P w K mg base A outer s (upd H a (.lst [.int i, .int j])) :=
      ⟨he.frames, he.mod, fun c o g => ⟨(he.bs c o g).1, by rw [upd_ne (ne c (he.bs c o g).2)]; exact (he.bs c o g).2⟩, he.bsz, he.funs, fun c hc => by rw [upd_ne (ne c (he.frf c hc))]; exact he.frf c hc, hok, he.bare⟩
    refine codeAny_mono (G.run A outer s _ args us vs (fun v H' => ∃ n i' j', v = .int n ∧ H' a = some (.lst [.int i', .int j']) ∧ InB i' j' ∧ Q (.int n) (upd H' a (SRC a))) (fun _ _ _ => False) hr he2 hbt hv ⟨zs, sUpd S a (.lst [.int i, .int j]), _, _, data e rz, opened t e, q i j b, fun z S' hz v H' xx tt rr => ?_, fun e S' hz => hz.elim⟩) fun r s' hq => ?_
    · obtain ⟨n, i', j', e1, b', e2, kk⟩ := hz
      subst e1 e2
      unfold RZ at rr
      subst rr
      obtain ⟨vs', hv', hrs⟩ := tt a _ sUpd_same
      have e3 : vs' = [.int i', .int j'] := by
        obtain ⟨v1, v2, e, r1, r2⟩ := rzs2 hrs
        unfold RZ at r1 r2
        rw [e, r1, r2]
      subst e3
      refine ⟨n, i', j', rfl, hv', b', h1 _ _ kk _ _ (fun c o hc sc => ?_) (fun c o hc => ?_) (by unfold RZ; rfl)⟩
      · have nc : c ≠ a := fun z => by rw [z, sa] at sc; cases sc
        obtain ⟨g1, g2⟩ := xx c o (by rw [upd_ne nc]; exact hc) (by rw [sUpd_ne nc]; exact sc)
        exact ⟨by rw [upd_ne nc]; exact g1, sc⟩
      · by_cases nc : c = a
        · subst nc
          rw [sa] at hc
          cases hc
          exact upd_same
        · have w' := tt c o (by rw [sUpd_ne nc]; exact hc)
          have T := upd_tup (o := SRC a) hv' (fun _ z => nomatch z)
          have F' := upd_frz (o := SRC a) hv' (fun _ _ z => nomatch z)
          cases o with
          | lst ws =>
            obtain ⟨vs1, w1, w2⟩ := w'
            exact ⟨vs1, by rw [upd_ne nc]; exact w1, RZs.tf T F' _ _ w2⟩
          | src =>
            show upd H' a _ c = some (SRC c)
            rw [upd_ne nc]
            exact w'
          | ins C fs =>
            obtain ⟨dx, gs, w1, w2⟩ := w'
            exact ⟨dx, gs, by rw [upd_ne nc]; exact w1, RFs.tf T F' _ _ w2⟩
    · cases r with
      | error e =>
        obtain ⟨_, _, _, _, _, _, _, _, _, _, _, _, z⟩ := hq
        exact z.elim
      | ok fl =>
        cases fl with
        | ret u =>
          obtain ⟨v, H', os, bare, un, hok', rv, n, i', j', e1, hp, b', qq⟩ := hq
          subst e1
          have un2 := un_start un e (fun _ z => nomatch z) (fun _ _ z => nomatch z) (fun _ z => nomatch z)
          exact ⟨.int n, _, os, bare, un_end un2 hp (fun _ z => nomatch z) (fun _ _ z => nomatch z) (fun _ z => nomatch z) (fun c ob g n _ => ne c n), hok_close hok' hp b', rv, qq⟩
        | next => exact hq
        | brk => exact hq
        | cont => exact hq
end
end L3
namespace L3
open PySem PySem.Spec PyProof.Rows L2

theorem u64 {k : Nat} {A : Around} (hr : Room k A) : A.units + 64 < cLine := hr.units
theorem u65 {k : Nat} {A : Around} (hr : Room k A) : A.units + 65 < cLine := by have := hr.un; omega
def sDel (S : Sm) (a : Addr) : Sm := fun b => if b = a then none else S b
theorem sDel_ne {S : Sm} {a b : Addr} (h : b ≠ a) : sDel S a b = S b := by unfold sDel; rw [if_neg h]
theorem sDel_same {S : Sm} {a : Addr} : sDel S a a = none := by unfold sDel; rw [if_pos rfl]
theorem sDel_upd {S : Sm} {a : Addr} {o : MO} (h : S a = none) : sDel (sUpd S a o) a = S := by
  funext b
  unfold sDel sUpd
  split
  · rename_i e
    rw [e, h]
  · rfl
/-- a list that was changed is from now on never changed -/
def dFrz (m : DE) : DE := fun E env S k => m E env S fun z S1 => ∃ a zs, z = .ref a ∧ S1 a = some (.lst zs) ∧ k (.lst zs) (sDel S1 a)
def dRetF (m : DE) : DS := dRet (dFrz m)
section
variable {X : Cx} {W : WX} {e a b : Expr} {me ma mb : DE} {pos : Pos} {mas : DA}
theorem fe_frz (h : FE X W e me) : FE X W e (dFrz me) := by
  refine fe_of (pe_frz h.pe) fun σ H Q ⟨env, S, R, E, hr, ht, he, q, hk⟩ => ?_
  refine tD.mk hr ht he q fun z S1 ⟨a, zs, e1, hS, q1⟩ v H1 x1 t1 rz hr1 he1 => ?_
  subst e1
  unfold RZ at rz
  subst rz
  obtain ⟨vs, hv, hrs⟩ := t1 a _ hS
  refine ⟨a, vs, rfl, hv, fun o => ?_⟩
  have T := upd_tup (o := .frz o (.lst vs)) hv (fun _ z => nomatch z)
  have F := upd_frz (o := .frz o (.lst vs)) hv (fun _ _ z => nomatch z)
  refine hk _ _ q1 _ _ (x1.trans fun b ob h s => ?_) (fun b p hb => ?_) ?_
  · have ne : b ≠ a := fun z => by rw [z, hS] at s; cases s
    exact ⟨by rw [upd_ne ne]; exact h, by rw [sDel_ne ne]; exact s⟩
  · by_cases ne : b = a
    · subst ne
      rw [sDel_same] at hb
      cases hb
    · rw [sDel_ne ne] at hb
      have w := t1 b p hb
      cases p with
      | lst ws =>
        obtain ⟨vs', w1, w2⟩ := w
        exact ⟨vs', by rw [upd_ne ne]; exact w1, RZs.tf T F _ _ w2⟩
      | src =>
        show upd H1 a _ b = some (SRC b)
        rw [upd_ne ne]
        exact w
      | ins C fs =>
        obtain ⟨dx, gs, w1, w2⟩ := w
        exact ⟨dx, gs, by rw [upd_ne ne]; exact w1, RFs.tf T F _ _ w2⟩
  · unfold RZ
    exact ⟨a, vs, rfl, ⟨o, upd_same⟩, RZs.tf T F _ _ hrs⟩
theorem fs_retF (h : FE X W e me) : FS X W (.Return (some e) pos) (dRetF me) := fs_ret (fe_frz h)
/-- x, y = a, b -/
def dPar (i j : Nat) (m : DA) : DS := fun E env S K => m E env S fun zs S1 => ∃ y z, zs = [y, z] ∧ K.nx ((env.set i (some y)).set j (some z)) S1
theorem fs_par (i j : Nat) {x y : Str} {px py pt : Pos} {kt k2 pt2} (hN : X.N.Nodup) (h : FA X W [a, b] mas) (hc : X.calm = true := by rfl) (hi : X.N[i]? = some x := by rfl) (hj : X.N[j]? = some y := by rfl) (hij : i ≠ j := by decide)
    (hx : X.env.scope.names.lookup x = some .local := by rfl) (hy : X.env.scope.names.lookup y = some .local := by rfl)
    (hw : swappedStores [.Tuple [.Name x px, .Name y py] kt pt] (.Tuple [a, b] k2 pt2) X.env = pure (some [x, y]) := by rfl)
    (hs : swapsWithSole [.Tuple [.Name x px, .Name y py] kt pt] (.Tuple [a, b] k2 pt2) pos.line X.env = pure false := by rfl) :
    FS X W (.Assign [.Tuple [.Name x px, .Name y py] kt pt] (.Tuple [a, b] k2 pt2) pos) (dPar i j mas) := by
  refine fs_of (ps_par hc hN hi hj hij hx hy h.pa hw hs) fun D σ H ⟨env, S, R, E, hr, ht, he, q, hk⟩ => ?_
  refine tDA.mk hr ht he q fun zs S1 ⟨y1, z1, e1, q1⟩ vs H1 x1 t1 r1 hr1 he1 => ?_
  subst e1
  obtain ⟨v, w, rfl, rv, rw'⟩ := rzs2 r1
  exact ⟨v, w, rfl, hk.nx _ _ q1 _ H1 x1 t1 ((hr1.set rv).set rw')⟩
end
end L3
namespace L3
open PySem PySem.Spec PyProof.Rows L2
/-! ### enumerate of a tuple -/
def IteT (K : PySem.W.Frag) (a : Addr) : It :=
  ⟨fun i H => ∃ (xs : List V) (x : V), SqT K H a xs ∧ xs[i]? = some x, fun i H v H' => ∃ T x, v = .ref T ∧ H T = none ∧ H' = upd H T (.tup [.int (i : Nat), x]) ∧ ∀ xs, SqT K H a xs → xs[i]? = some x, fun i H => ∃ xs : List V, SqT K H a xs ∧ xs.length ≤ i⟩
theorem meets_enumerate_newT (l : Addr) (items : Array Value) (n : Nat) (dct : Option Addr) (sl : Array (Option Value)) :
    Meets (Builtin.«enumerate.__new__» ⟨[.type "enumerate", .ref l], []⟩) (fun _ R s => s.heap.get? l = some { cls := .type "tuple", dict := dct, data := .seq items n, slots := sl } ∧
      R (.ok (.ret (.ref (s.heap.push { cls := .type "tuple_iterator", data := .fields #[.ref l, .int 0 0] }).objs.size)))
        { s with heap := (s.heap.push { cls := .type "tuple_iterator", data := .fields #[.ref l, .int 0 0] }).push { cls := .type "enumerate", data := .fields #[.none, .bool false, .ref s.heap.objs.size, rawInt 0, .none, .none] } }) :=
  .of_wp fun prog w A R s h => by
    obtain ⟨hp, g, d, tk, os⟩ := s; obtain ⟨hl, h⟩ := h
    have hsub := sub_enumerate
    have hL : Heap.IsTuple (Shared.heap ⟨hp, g, d, tk, os⟩) l items := ⟨_, hl, rfl, n, rfl⟩
    wp_walk using AutoSeq1.wpAny_loadPart' hl
    refine wpAny_stack_any fun st => wpAny_pure ?_
    split
    · rename_i c _ _ _ _ _
      cases (c == Value.type "enumerate")
      · wp_walk using AutoSeq1.wpAny_loadPart' hl, wpAny_pyIter_tuple hL
        exact ⟨_, rfl, h⟩
      · wp_walk using AutoSeq1.wpAny_loadPart' hl, wpAny_pyIter_tuple hL
        exact ⟨_, rfl, h⟩
    · wp_walk using AutoSeq1.wpAny_loadPart' hl, wpAny_pyIter_tuple hL
      exact ⟨_, rfl, h⟩
section
variable {prog : Program} {w : World} {A : Around} {E : Value → Shared → Prop} {s : Shared}
theorem call_enumerate_tuple {l : Addr} {items : Array Value} {Q : Value → Shared → Prop} (hL : s.heap.IsTuple l items)
    (h : ∀ h', IsEnum h' (s.heap.objs.size + 1) s.heap.objs.size 0 .none → h'.IsTupleIter s.heap.objs.size l 0 → h'.objs.size = s.heap.objs.size + 2 →
      (∀ b o, s.heap.get? b = some o → h'.get? b = some o) → Q (.ref (s.heap.objs.size + 1)) { s with heap := h' }) :
    wpAny (model prog w) A (call (.type "enumerate") [.ref l]) Q E s := by
  obtain ⟨⟨c, dct, dt, sl⟩, hl, hc, n, hd⟩ := hL
  replace hc : c = .type "tuple" := hc
  replace hd : dt = .seq items n := hd
  subst hc hd
  refine callType_new F.called_enumerate (by decide) (F.typeCall_enumerate_1 _) (F.newCall_enumerate_1 _) (fun obj => F.args_object_init_2 obj _) F.entry_enumerate_new
    (meets_enumerate_newT l items n dct sl) ⟨hl, ?_⟩
  have hz : (s.heap.push { cls := .type "tuple_iterator", data := .fields #[.ref l, .int 0 0] }).objs.size = s.heap.objs.size + 1 := Heap.size_push ..
  show _ ∧ _
  rw [hz]
  have he : IsEnum ((s.heap.push { cls := .type "tuple_iterator", data := .fields #[.ref l, .int 0 0] }).push
      { cls := .type "enumerate", data := .fields #[.none, .bool false, .ref s.heap.objs.size, rawInt 0, .none, .none] }) (s.heap.objs.size + 1) s.heap.objs.size 0 .none := by
    have := Heap.get?_push_size (s.heap.push { cls := .type "tuple_iterator", data := .fields #[.ref l, .int 0 0] })
      (o := { cls := .type "enumerate", data := .fields #[.none, .bool false, .ref s.heap.objs.size, rawInt 0, .none, .none] }) rfl
    rw [hz] at this; exact this
  refine ⟨⟨_, he, rfl⟩, h _ he ⟨_, Heap.get?_push_of_some _ (Heap.get?_push_size _ rfl), rfl, rfl⟩ (by rw [Heap.size_push, hz]) fun b o x => Heap.get?_push_of_some _ (Heap.get?_push_of_some _ x)⟩
end
theorem turn_enumT {P : Program} {w : World} {K : PySem.W.Frag} {elts : List Expr} {kk : Nat} {tpos : Pos} (a e it : Addr) :
    Turn P w K (.Tuple elts kk tpos) (IteT K a) [e, it] e (fun i h => (∃ old, IsEnum h e it ((i : Nat) : Int) old) ∧ h.IsTupleIter it a i ∧ e ≠ it) where
  mem := by simp
  obj := fun i h st b hb => by
    obtain ⟨⟨old, he⟩, ⟨o, ho, hc, hd⟩, _⟩ := st
    have e' : b = e ∨ b = it := by simpa using hb
    rcases e' with z | z
    · rw [z]; exact ⟨_, he, fun v q => nomatch q⟩
    · rw [z]; exact ⟨o, ho, fun v q => by rw [hd] at q; cases q⟩
  keep := fun i h h' st k => let ⟨⟨old, he⟩, hi, hne⟩ := st; ⟨⟨old, k e (by simp) _ he⟩, hi.at fun o q => k it (by simp) o q, hne⟩
  item := by
    intro X hP hw hK hc i pins s σ H E I hf st hg
    subst hP hw hK
    obtain ⟨⟨old, he⟩, hit, hne⟩ := st
    obtain ⟨xs, x, hq, hx⟩ := hg
    obtain ⟨its, rv, p, hz⟩ := I.tuple hq
    obtain ⟨u, hu, ru⟩ := rv.get hx
    have p' : s.heap.IsTuple a its.toArray := p
    have hel : e < s.heap.objs.size := Heap.lt_size he
    have hil : it < s.heap.objs.size := by obtain ⟨_, q, _⟩ := hit; exact Heap.lt_size q
    have ea : e ≠ a := fun z => by
      obtain ⟨o, ho, hcl, _⟩ := p'
      rw [← z, he] at ho
      cases ho
      exact absurd (show Value.type "enumerate" = Value.type "tuple" from hcl) (by decide)
    have ai : a ≠ it := fun z => by
      obtain ⟨o, ho, hcl, _⟩ := p'
      obtain ⟨o2, ho2, hc2, _⟩ := hit
      rw [z, ho2] at ho
      cases ho
      rw [hc2] at hcl
      exact absurd hcl (by decide)
    have hlt : i < its.toArray.size := by
      obtain ⟨hi, _⟩ := List.getElem?_eq_some_iff.mp hu
      simpa using hi
    have D := Draws.tuple (prog := X.prog) (w := X.w) (A := X.A.in1) (show X.A.in1.handled = none from I.ok.hd hc) it a ai its.toArray
    refine wpAny_pyNext_enum_itemD D he ⟨hit, p'⟩ hlt hne (by simp [hne, ea]) fun y h' tk hy ho hit' hT hsz hk => ?_
    have ey : y = u := by
      have hu' : its.toArray[i]? = some u := by simpa using hu
      rw [hu'] at hy
      exact (Option.some.inj hy).symm
    subst ey
    refine ⟨_, rfl, wpAny_letOwnedTupleGo_enum (s := { s with heap := h', toks := tk + 1 }) ho fun h'' he' sb => ?_⟩
    have hT2 : h''.get? s.heap.objs.size = some { cls := .type "tuple", data := .seq #[.int i tk, y] } := (sb.2 _ (Nat.ne_of_gt hel)).trans hT
    have new : ObjOk X.prog X.w (upd H s.heap.objs.size (.tup [.int (i : Nat), x])) h'' s.heap.objs.size (.tup [.int (i : Nat), x]) :=
      ⟨by show 2 ≤ sizeLine; decide, [.int i tk, y], .cons ⟨_, rfl⟩ (.cons ru .nil), ⟨_, hT2, rfl, _, rfl⟩⟩
    have I1 : Inv X pins σ (upd H s.heap.objs.size (.tup [.int (i : Nat), x])) { s with heap := h'', toks := tk + 1 } :=
      I.turnedNew (ch := [e, it]) (fun b ob hb q => (sb.2 b (fun z => hb (by simp [z]))).trans (hk b ob (fun z => hb (by simp [z])) (fun z => hb (by simp [z])) q)) hf (Nat.le_refl _) new
    refine ⟨.ref s.heap.objs.size, _, I1, rfl, ⟨_, x, rfl, I.hok.fresh (Nat.le_refl _), rfl, fun ys hy => by rw [I.tuple_inj hy hq]; exact hx⟩, ⟨⟨y, ?_⟩, hit'.1.at fun o q => (sb.2 it (Ne.symm hne)).trans q, hne⟩, fun b hb => ?_⟩
    · have e1 : ((i + 1 : Nat) : Int) = (i : Int) + 1 := by omega
      rw [e1]; exact he'
    · have hb' : b < s.heap.objs.size := by
        have e' : b = e ∨ b = it := by simpa using hb
        rcases e' with z | z
        · rw [z]; exact hel
        · rw [z]; exact hil
      rw [upd_ne (Nat.ne_of_lt hb')]
      exact (hf b hb).1
  done := by
    intro X hP hw hK hc i pins s σ H E I hf st hg
    subst hP hw hK
    obtain ⟨⟨old, he⟩, hit, hne⟩ := st
    obtain ⟨xs, hq, hx⟩ := hg
    obtain ⟨its, rv, p, hz⟩ := I.tuple hq
    have p' : s.heap.IsTuple a its.toArray := p
    obtain ⟨f0, f1, f2, f3, f4, f5⟩ := hf it (by simp)
    have hl := rv.length
    have hit2 : s.heap.IsTupleIter it a i := hit
    unfold pyNext
    have hT : s.TypeIs (.ref e) "enumerate" := ⟨_, he, rfl⟩
    refine wpAny_bind (wpAny_attempt (wpAny_callSpecial?_slot (name := Str.ofString "__next__") hT F.slot_enumerate_next
      (wpAny_call_entry F.slot_enumerate_next hT F.entry_enumerate_next ?_ (F.args_enumerate_next_1 _))))
    show wpAny _ _ (field (.ref e) 2 >>= _) _ _ _
    refine wpAny_bind (wpAny_field he rfl (x := .ref it) rfl ?_)
    refine wpAny_bind (wpAny_nextOf_tuple_end (show X.A.in1.handled = none from I.ok.hd hc) hit p' (by simp; omega) fun h' x he' hx' => ?_)
    obtain ⟨o, ho, hcl⟩ := hx'
    refine wpAny_bind (wpAny_isInstance (T := "StopIteration") (b := true) ⟨o, ho, hcl⟩ isSubtype_stop ?_)
    exact wpAny_pure ⟨rfl, I.turned (t' := s.toks) (fun b o hb q => he' b o hb q) f0 f1 f3 f4 f5⟩
  self := fun A i s Q E st h => let ⟨⟨_, he⟩, _⟩ := st; wpAny_pyIter_enum he h
def iEnumT (K : PySem.W.Frag) (ta : TA) : TI := fun σ H R => ta σ H fun vs H1 => ∃ a xs, vs = [.ref a] ∧ ((SqL K H1 a xs ∧ R (Ite K a) H1) ∨ (SqT K H1 a xs ∧ R (IteT K a) H1))
theorem pi_enumT {X : Cx} {e : Expr} {ta : TA} {p pos tpos : Pos} {elts : List Expr} {kk : Nat} (hg : Gl X "enumerate") (hm : X.mg "enumerate" = none) (ha : PA X [e] ta) (hs : starEach [e] X.env = [(false, eval e X.env)] := by rfl) :
    PI X (.Tuple elts kk tpos) (.Call (.Name "enumerate" p) [e] [] pos) (iEnumT X.K ta) := by
  refine ⟨fun pins s σ H R I h => ?_⟩
  refine Call_ (ld_blt I hg hm boot_enumerate (PyProof.Rows.callWith_type1 (thn (ha.run pos pins s σ H _ I h) fun us s1 ⟨vs, H1, I1, r1, q1⟩ => ?_) hs rfl))
  obtain ⟨a, xs, ex, q⟩ := q1
  subst ex
  cases r1 with
  | cons r rr =>
    cases rr
    cases r
    have fp : ∀ b ∈ [s1.heap.objs.size + 1, s1.heap.objs.size], s1.heap.objs.size ≤ b := fun b hb => by
      have e' : b = s1.heap.objs.size + 1 ∨ b = s1.heap.objs.size := by simpa using hb
      rcases e' with z | z
      · rw [z]; exact Nat.le_add_right _ _
      · rw [z]; exact Nat.le_refl _
    rcases q with ⟨hq, q⟩ | ⟨hq, q⟩
    · obtain ⟨its, rv, p', hz⟩ := I1.list hq
      refine call_enumerate_list p'.isList fun h' he hit hsz hk => wpAny_pyIter_enum he ?_
      have I2 : Inv X pins σ H1 { s1 with heap := h' } := I1.kept (t' := s1.toks) hk
      exact ⟨s1.heap.objs.size + 1, [s1.heap.objs.size + 1, s1.heap.objs.size], _, _, H1, rfl, I2, turn_enum a (s1.heap.objs.size + 1) s1.heap.objs.size, ⟨⟨.none, he⟩, hit, Nat.succ_ne_self _⟩, fun b hb => I1.fpOk (fp b hb) (I1.hok.fresh (fp b hb)), q⟩
    · obtain ⟨its, rv, p', hz⟩ := I1.tuple hq
      refine call_enumerate_tuple (show s1.heap.IsTuple a its.toArray from p') fun h' he hit hsz hk => wpAny_pyIter_enum he ?_
      have I2 : Inv X pins σ H1 { s1 with heap := h' } := I1.kept (t' := s1.toks) hk
      exact ⟨s1.heap.objs.size + 1, [s1.heap.objs.size + 1, s1.heap.objs.size], _, _, H1, rfl, I2, turn_enumT a (s1.heap.objs.size + 1) s1.heap.objs.size, ⟨⟨.none, he⟩, hit, Nat.succ_ne_self _⟩, fun b hb => I1.fpOk (fp b hb) (I1.hok.fresh (fp b hb)), q⟩
/-- the pairs (0, x), (1, y), .. -/
def enumZ : Nat → List Z → List Z
  | _, [] => []
  | n, z :: zs => .tup [.int n, z] :: enumZ (n + 1) zs
def dItEnum (m : DA) : DA := fun E env S k => m E env S fun zs S1 => ∃ xs, (zs = [.tup xs] ∨ zs = [.lst xs]) ∧ k (enumZ 0 xs) S1
theorem enumZ_get : ∀ {n : Nat} {zs : List Z} {i : Nat} {z : Z}, (enumZ n zs)[i]? = some z → ∃ x, zs[i]? = some x ∧ z = .tup [.int ((n + i : Nat) : Int), x]
  | n, [], i, z, h => by simp [enumZ] at h
  | n, y :: zs, 0, z, h => ⟨y, rfl, by simpa [enumZ] using h.symm⟩
  | n, y :: zs, i + 1, z, h => by
    obtain ⟨x, h1, h2⟩ := enumZ_get (n := n + 1) (zs := zs) (i := i) (z := z) (by simpa [enumZ] using h)
    exact ⟨x, by simpa using h1, by rw [h2, show n + 1 + i = n + (i + 1) by omega]⟩
theorem enumZ_len : ∀ (n : Nat) (zs : List Z), (enumZ n zs).length = zs.length
  | _, [] => rfl
  | n, z :: zs => by simp [enumZ, enumZ_len (n + 1) zs]
theorem itok_enumT {K : PySem.W.Frag} {a : Addr} {xs : List Z} {vs : List V} {H0 : Hp} {S0 : Sm} (t0 : Tie K H0 S0) (ha : SqT K H0 a vs) (ra : RZs K H0 xs vs) : ItOk K (IteT K a) (enumZ 0 xs) H0 S0 := by
  intro i H S x t hi
  have ha' := sqT_ext t0 x ha
  have ra' := RZs.ext t0 x _ _ ra
  refine ⟨fun e => ⟨vs, ha', ?_⟩, fun z hz => ?_⟩
  · rw [enumZ_len] at e
    rw [ra'.length]
    omega
  · obtain ⟨p, h1, rfl⟩ := enumZ_get hz
    obtain ⟨v, hv, rv⟩ := ra'.get h1
    refine ⟨⟨vs, v, ha', hv⟩, fun y H1 ⟨T, p', e1, n, e2, f1⟩ => ?_⟩
    subst e1 e2
    have e3 := f1 vs ha'
    rw [hv] at e3
    cases e3
    rw [Nat.zero_add]
    exact ⟨sub_new (K := K) (S := S) n, rz_pair n (rz_int _) rv⟩
theorem itok_enumL {K : PySem.W.Frag} {a : Addr} {xs : List Z} {vs : List V} {H0 : Hp} {S0 : Sm} (t0 : Tie K H0 S0) (ha : FzL K H0 a vs) (ra : RZs K H0 xs vs) : ItOk K (Ite K a) (enumZ 0 xs) H0 S0 := by
  intro i H S x t hi
  have ha' := (fzL_ext t0 x ha).sq
  have ra' := RZs.ext t0 x _ _ ra
  refine ⟨fun e => ⟨vs, ha', ?_⟩, fun z hz => ?_⟩
  · rw [enumZ_len] at e
    rw [ra'.length]
    omega
  · obtain ⟨p, h1, rfl⟩ := enumZ_get hz
    obtain ⟨v, hv, rv⟩ := ra'.get h1
    refine ⟨⟨vs, v, ha', hv⟩, fun y H1 ⟨T, p', e1, n, e2, f1⟩ => ?_⟩
    subst e1 e2
    have e3 := f1 vs ha'
    rw [hv] at e3
    cases e3
    rw [Nat.zero_add]
    exact ⟨sub_new (K := K) (S := S) n, rz_pair n (rz_int _) rv⟩
section
variable {X : Cx} {W : WX} {a : Expr} {mas : DA} {pos : Pos}
theorem fi_enum {p tpos : Pos} {elts : List Expr} {kk : Nat} (hm : X.mg "enumerate" = none) (h : FA X W [a] mas) (hg : Gl X "enumerate" := by rfl)
    (hs : starEach [a] X.env = [(false, eval a X.env)] := by rfl) : FI X W (.Tuple elts kk tpos) (.Call (.Name "enumerate" p) [a] [] pos) (dItEnum mas) := by
  refine ⟨PI.imp (pi_enumT hg hm h.pa hs) fun σ H R ⟨env, S, R', E, hr, ht, he, q, hk⟩ => ?_⟩
  refine tDA.mk hr ht he q fun zs S1 ⟨xs, e, q1⟩ vs H1 x1 t1 r1 hr1 he1 => ?_
  rcases e with e | e
  · subst e
    obtain ⟨v, rfl, rv⟩ := rzs1 r1
    unfold RZ at rv
    obtain ⟨c, ws, rfl, hv, hrs⟩ := rv
    exact ⟨c, ws, rfl, .inr ⟨hv, hk _ S1 q1 _ H1 x1 t1 (itok_enumT t1 hv hrs)⟩⟩
  · subst e
    obtain ⟨v, rfl, rv⟩ := rzs1 r1
    unfold RZ at rv
    obtain ⟨c, ws, rfl, hv, hrs⟩ := rv
    exact ⟨c, ws, rfl, .inl ⟨hv.sq, hk _ S1 q1 _ H1 x1 t1 (itok_enumL t1 hv hrs)⟩⟩
end
/-! ### raise -/
def bmV : List Value := [.type "ValueError", .type "Exception", .type "BaseException", .type "object"]
/-- an own error class without an own way of making it -/
def ExCls (K : PySem.W.Frag) (mg : Str → Option Value) (x : Str) : Prop := ∃ C, mg x = some (.ref C) ∧ PySem.W.excIn K C bmV "ValueError.__new__" = true ∧ PySem.W.keepIn K (.ref C) = true ∧
  PySem.W.subIn K (.ref C) (.type "BaseException") = some true ∧ PySem.W.typeIn K (.ref C) = some (.type "type") ∧ PySem.W.isClsIn K C = true
theorem exCls {K : PySem.W.Frag} {mg : Str → Option Value} {h : Heap} {x : Str} {C : Addr} (X : K.In h) (G : h.Ns mainGlobals mg) (a : PySem.W.nsIn K mainGlobals x = some (some (.ref C)))
    (q : PySem.W.excIn K C [.type "ValueError", .type "Exception", .type "BaseException", .type "object"] "ValueError.__new__" = true) (k : PySem.W.keepIn K (.ref C) = true) (b : PySem.W.subIn K (.ref C) (.type "BaseException") = some true) (t : PySem.W.typeIn K (.ref C) = some (.type "type")) (i : PySem.W.isClsIn K C = true) : ExCls K mg x :=
  ⟨C, PySem.W.mg_of X G a, q, k, b, t, i⟩
/-- class x is of class y, or not -/
def ExSub (K : PySem.W.Frag) (mg : Str → Option Value) (x y : Str) (b : Bool) : Prop := ∃ C D, mg x = some (.ref C) ∧ mg y = some (.ref D) ∧ PySem.W.subIn K (.ref C) (.ref D) = some b
theorem exSub {K : PySem.W.Frag} {mg : Str → Option Value} {h : Heap} {x y : Str} {C D : Addr} {b : Bool} (X : K.In h) (G : h.Ns mainGlobals mg) (a : PySem.W.nsIn K mainGlobals x = some (some (.ref C))) (a' : PySem.W.nsIn K mainGlobals y = some (some (.ref D)))
    (q : PySem.W.subIn K (.ref C) (.ref D) = some b) : ExSub K mg x y b := ⟨C, D, PySem.W.mg_of X G a, PySem.W.mg_of X G a', q⟩
theorem exm_of {K : PySem.W.Frag} {C S : Addr} {b : Bool} (h1 : PySem.W.subIn K (.ref S) (.type "BaseException") = some true) (h2 : PySem.W.isClsIn K S = true) (h3 : PySem.W.typeIn K (.ref S) = some (.type "type")) (h4 : PySem.W.subIn K (.ref C) (.ref S) = some b) :
    PySem.W.exmOne K (.ref C) (.ref S) = some b := by
  have e1 : (PySem.W.subIn K (.ref S) (.type "BaseException") == some true) = true := by rw [h1] <;> rfl
  have e2 : ((PySem.W.clsIn K S).isSome && PySem.W.typeIn K (.ref S) == some (.type "type")) = true := by
    have h2' : (PySem.W.clsIn K S).isSome = true := h2
    rw [h2', h3] <;> rfl
  show (if (PySem.W.subIn K (.ref S) (.type "BaseException") == some true) = true then (if ((PySem.W.clsIn K S).isSome && PySem.W.typeIn K (.ref S) == some (.type "type")) = true then PySem.W.subIn K (.ref C) (.ref S) else none) else none) = some b
  rw [if_pos e1, if_pos e2]; exact h4
def dRaise (x : Str) : DS := fun E env S K => E ⟨x, none⟩ env S
/-- the clauses: class, which exceptions it takes, what is done -/
abbrev HL := List (Str × List (Str × Bool) × DS)
def catchBy : HL → EK → Ks → EK
  | [], E, _ => E
  | (_, tab, m) :: r, E, K => fun e env S => ∃ b, tab.lookup e.cls = some b ∧ if b = true then m (fun _ _ _ => False) env S K else catchBy r E K e env S
def dTry (m : DS) (hs : HL) : DS := fun E env S K => m (catchBy hs E K) env S K
/-- a clause's class and its table -/
def Clz (K : PySem.W.Frag) (mg : Str → Option Value) (x : Str) (tab : List (Str × Bool)) : Prop := ∀ y b, (y, b) ∈ tab → ExSub K mg y x b
theorem clz_nil {K : PySem.W.Frag} {mg : Str → Option Value} {x : Str} : Clz K mg x [] := fun _ _ h => nomatch h
theorem clz_cons {K : PySem.W.Frag} {mg : Str → Option Value} {x y : Str} {b : Bool} {tab : List (Str × Bool)} (h : ExSub K mg y x b) (t : Clz K mg x tab) : Clz K mg x ((y, b) :: tab) := fun z c m => by
  rcases List.mem_cons.mp m with e | m
  · cases e; exact h
  · exact t z c m
theorem mem_of_lookup {tab : List (Str × Bool)} {y : Str} {b : Bool} (h : tab.lookup y = some b) : (y, b) ∈ tab := by
  induction tab with
  | nil => cases h
  | cons p r ih =>
    obtain ⟨z, c⟩ := p
    rw [List.lookup_cons] at h
    split at h
    · rename_i e
      cases h
      have : y = z := by simpa using e
      rw [this]; exact List.mem_cons_self
    · exact List.mem_cons_of_mem _ (ih h)
section
variable {X : Cx} {W : WX} {pos pos' : Pos}
theorem fs_raise {x m : Str} {j : Nat} {p p2 : Pos} (h : ExCls X.K X.mg x) (hc : X.calm = true) (tk : Takes X W) (hg : Gl X x := by rfl) (hdb : (x == ("__debug__" : Str)) = false := by decide) :
    FS X W (.Raise (some (.Call (.Name x p) [.Constant (.str m) j p2] [] pos)) none pos') (dRaise x) := by
  obtain ⟨C, g, q, k, b, t, _⟩ := h
  refine fs_of (ps_raise hc tk (pmk_own PySem.F.excBase_ValueError q g k (raises_own b t) hg hdb)) fun D σ H ⟨env, S, R, E, hr, ht, he, q, hk⟩ => ?_
  exact he _ env S q _ _ _ _ Ext.refl ht hr ⟨C, g, rfl, rfl⟩
structure FHs (X : Cx) (W : WX) (hds : List ExceptHandler) (l : HL) : Prop where
  ex : ∃ l', HdsOk X hds l' ∧ ∀ (D : Ends) (R : Ks) (E : EK) cls d σ H e env S, catchBy l E R e env S → KOk X.K R D H S → Tie X.K H S → REnv X.K H σ env → XR X.mg X.K H e cls d → EOk X.K X.mg W E H S → wMany X.K W D l' cls d σ H
theorem fhs_nil : FHs X W [] [] := ⟨[], .nil, fun D R E cls d σ H e env S h hk ht hr hx he => he e env S h cls d σ H Ext.refl ht hr hx⟩
theorem fhs_cons {x : Str} {tab : List (Str × Bool)} {b₀ : Stmt} {suite : List Stmt} {np : Pos} {hds : List ExceptHandler} {m : DS} {l : HL} (hx : ExCls X.K X.mg x) (hz : Clz X.K X.mg x tab)
    (hm : ∀ a pn, FSs (X.suite a pn) (fun _ _ _ _ => False) (b₀ :: suite) m) (r : FHs X W hds l) (hg : Gl X x := by rfl) (hdb : (x == ("__debug__" : Str)) = false := by decide) :
    FHs X W (.ExceptHandler (some (.Name x np)) none (b₀ :: suite) pos :: hds) ((x, tab, m) :: l) := by
  obtain ⟨l', h1, h2⟩ := r.ex
  obtain ⟨C, g, q, k, b, t, i⟩ := hx
  refine ⟨(.ref C, fun _ _ _ => tDS X.K X.mg (fun _ _ _ _ => False) m) :: l', .cons ⟨hg, hdb, .inl g⟩ (fun a oe cls d pn _ _ => (hm a _).pss) h1, fun D R E cls d σ H e env S h hk ht hr hx he => ?_⟩
  obtain ⟨c, hc, h⟩ := h
  obtain ⟨C', e1, e2, hx'⟩ := id hx
  obtain ⟨C1, D1, f1, f2, f3⟩ := hz _ _ (mem_of_lookup hc)
  rw [e1] at f1
  rw [g] at f2
  cases f1
  cases f2
  subst e2
  refine ⟨c, exm_of b i t f3, fun hb a _ => ?_, fun hb => ?_⟩
  · subst hb
    rw [if_pos rfl] at h
    exact ⟨env, S, R, _, hr, ht, fun _ _ _ z => z.elim, h, hk⟩
  · subst hb
    rw [if_neg Bool.false_ne_true] at h
    exact h2 D R E _ d σ H e env S h hk ht hr hx he
theorem fs_try {body : List Stmt} {h₀ : ExceptHandler} {hds : List ExceptHandler} {mb : DS} {l : HL} (hs : X.stack = X.env :: X.outer) (hf : X.env.frame = some X.env.locals) (tk : Takes X W)
    (hb : ∀ (W1 : WX) (pn : List (Addr × Obj)) (xe : Value → Shared → Prop), Takes (X.tr pn xe) W1 → PassesOwn (model X.prog X.w) X.A X.env xe → FSs (X.tr pn xe) W1 body mb) (hh : FHs X W (h₀ :: hds) l) :
    FS X W (.Try body (h₀ :: hds) [] [] pos) (dTry mb l) := by
  obtain ⟨l', h1, h2⟩ := hh.ex
  refine fs_of (ps_try_many (tb := fun W1 => tDS X.K X.mg W1 mb) (l := l') hs hf tk (fun W1 pn xe t1 p1 => (hb W1 pn xe t1 p1).pss) h1) fun D σ H ⟨env, S, R, E, hr, ht, he, q, hk⟩ => ?_
  refine ⟨env, S, R, _, hr, ht, fun e env' S' hc cls d σ' H' x1 t1 r1 hx => ?_, q, hk⟩
  exact h2 D R E cls d σ' H' e env' S' hc (hk.ext x1) t1 r1 hx (he.ext x1)
end
end L3
namespace L3
open PySem PySem.Spec PyProof.Rows L2
/-! ### len(set(xs)) of ints, xs.count(i) -/
def distN (ns : List Int) : Nat := (PyProof.Rows.firstMet (fun i => ns.getD i 0) ns.length).length
def tLenSetD (K : PySem.W.Frag) (ta : TE) : TE := fun σ H Q => ta σ H fun x H1 => ∃ (l : Addr) (ns : List Int), x = .ref l ∧ SqL K H1 l (ns.map V.int) ∧ ns.length ≤ 4000 ∧ Q (.int (distN ns : Nat)) H1
theorem pe_lenSetD {X : Cx} {a : Expr} {ta : TE} {p p2 q pos : Pos} (hg : Gl X "len") (hm : X.mg "len" = none) (hg2 : Gl X "set") (hm2 : X.mg "set" = none) (ha : PE X a ta) (hc : X.calm = true := by rfl)
    (na : starEach [a] X.env = (false, eval a X.env) :: starEach [] X.env := by rfl) : PE X (.Call (.Name "len" p) [.Call (.Name "set" p2) [a] [] q] [] pos) (tLenSetD X.K ta) := by
  refine ⟨fun pins s σ H Q I h => ?_⟩
  refine Call_ (ld_blt I hg hm boot_len ?_)
  refine PyProof.Rows.callWith_builtin1 (PyProof.Rows.args_cons ?_ rfl) rfl rfl
  refine Call_ (ld_blt I hg2 hm2 boot_set ?_)
  refine PyProof.Rows.callWith_type1 (PyProof.Rows.args_cons (thn (ha.run pins s σ H _ I h) fun v s1 ⟨x, H1, I1, r1, q1⟩ => PyProof.Rows.args_nil ?_) na) na rfl
  obtain ⟨l, ns, rfl, hq, hl, q1⟩ := q1
  cases r1
  obtain ⟨its, r, pl, hz⟩ := I1.list hq
  have hlen : its.toArray.size = ns.length := by rw [List.size_toArray, ← r.length, List.length_map]
  refine call_set_list (I1.ok.hd hc) pl.isList (by simpa using _root_.RZ.intsAre_vals r) (by rw [hlen]; unfold scanBound; omega) fun h' tk hS hk => ?_
  refine PyProof.Rows.args_nil ?_
  rw [hlen] at hS
  obtain ⟨o, es, ep, t, ho, hex, hd, _, _, _, hf, hn⟩ := hS
  have hle : (PyProof.Rows.firstMet (fun i => ns.getD i 0) ns.length).length ≤ ns.length := PyProof.Rows.firstMet_length_le _ _
  have I2 : Inv X pins σ H1 { s1 with heap := h', toks := tk } := I1.kept fun b o e => hk b o (Heap.lt_size e) e
  exact call_len_set ho hex hd hf (by rw [hn] <;> omega) ⟨.int (distN ns : Nat), H1, I2.tok _, ⟨_, by rw [hn]; rfl⟩, q1⟩
theorem rzs_intsV {K : PySem.W.Frag} {H : Hp} : ∀ {ns : List Int} {vs : List V}, RZs K H (ns.map Z.int) vs → vs = ns.map V.int
  | [], vs, h => by unfold RZs at h; exact h
  | n :: ns, vs, h => by
    rw [List.map_cons] at h
    unfold RZs at h
    obtain ⟨v, r, rfl, h1, h2⟩ := h
    unfold RZ at h1
    rw [h1, rzs_intsV h2]; rfl
def dLenSet (m : DE) : DE := fun E env S k => m E env S fun z S1 => ∃ ns : List Int, z = .lst (ns.map Z.int) ∧ ns.length ≤ 4000 ∧ k (.int (distN ns)) S1
def dCount (mo me : DE) : DE := fun E env S k => mo E env S fun z S1 => ∃ ns : List Int, z = .lst (ns.map Z.int) ∧ me E env S1 fun y S2 => ∃ i : Int, y = .int i ∧ k (.int (ns.count i)) S2
section
variable {X : Cx} {W : WX} {e a : Expr} {me ma : DE} {pos : Pos}
theorem fe_lenSet {p p2 q : Pos} (hm : X.mg "len" = none) (hm2 : X.mg "set" = none) (ha : FE X W a ma) (hc : X.calm = true := by rfl) (hg : Gl X "len" := by rfl) (hg2 : Gl X "set" := by rfl)
    (na : starEach [a] X.env = (false, eval a X.env) :: starEach [] X.env := by rfl) : FE X W (.Call (.Name "len" p) [.Call (.Name "set" p2) [a] [] q] [] pos) (dLenSet ma) := by
  refine fe_of (pe_lenSetD hg hm hg2 hm2 ha.pe hc na) fun σ H Q ⟨env, S, R, E, hr, ht, he, q, hk⟩ => ?_
  refine tD.mk hr ht he q fun z S1 ⟨ns, e1, hl, q1⟩ v H1 x1 t1 rz hr1 he1 => ?_
  subst e1
  unfold RZ at rz
  obtain ⟨b, vs, rfl, hv, hrs⟩ := rz
  have ev := rzs_intsV hrs
  subst ev
  exact ⟨b, ns, rfl, hv.sq, hl, hk _ S1 q1 _ H1 x1 t1 (rz_int _)⟩
theorem fe_count {o : Expr} {mo : DE} {apos : Pos} (ho : FE X W o mo) (he : FE X W e me) (hbase : attributeBase o "count" X.env (eval o X.env) = eval o X.env := by rfl)
    (hfew : ((backTo pos (starEach [e] X.env)).all (fun x => !x.1) && (backToKw pos (keywordEach [] X.env)).all (fun x => x.1.isSome)
      && decide (([e] : List Expr).length + ([] : List Keyword).length + (if ([] : List Keyword).isEmpty then 0 else 1) < 30)) = true := by rfl)
    (hline : (apos.endLine == pos.line) = true := by rfl) (hs : starEach [e] X.env = (false, eval e X.env) :: starEach [] X.env := by rfl) (hplain : (backTo pos (starEach [] X.env)).any (·.1) = false := by rfl) :
    FE X W (.Call (.Attribute o "count" apos) [e] [] pos) (dCount mo me) := by
  refine fe_of (pe_bm PySem.F.plainAttrs_list PySem.F.slot_list_count PySem.F.type_list_count mt_lcount ho.pe (pa_cons he.pe pa_nil hs) hbase hfew hline hs hplain) fun σ H Q ⟨env, S, R, E, hr, ht, he, q, hk⟩ => ?_
  refine tD.mk hr ht he q fun o1 S1 ⟨ns, e1, q1⟩ vo H1 x1 t1 ro hr1 he1 => ?_
  subst e1
  have ro0 := ro
  unfold RZ at ro
  obtain ⟨b, vs, rfl, hv, hrs⟩ := ro
  refine ⟨.inl ⟨rfl, _, hv.sq⟩, ?_⟩
  refine tD.mk hr1 t1 he1 q1 fun z S2 ⟨i, e2, q2⟩ v H2 x2 t2 rz hr2 he2 => ?_
  subst e2
  unfold RZ at rz
  subst rz
  have ev := rzs_intsV hrs
  subst ev
  exact ⟨b, ns, i, rfl, rfl, (fzL_ext t1 x2 hv).sq, hk _ S2 q2 _ H2 (x1.trans x2) t2 (rz_int _)⟩
end
/-! a list that is changed + a list: a new one that is changed -/
def rCatM (K : PySem.W.Frag) : R2 := fun x y H Q => ∃ l b xs zs, x = .ref l ∧ y = .ref b ∧ (H l = some (.lst xs) ∨ FzL K H l xs) ∧ (H b = some (.lst zs) ∨ FzL K H b zs) ∧ xs.length + zs.length ≤ sizeLine ∧ ∀ p, H p = none → Q (.ref p) (upd H p (.lst (xs ++ zs)))
theorem op_catM {X : Cx} : OpR X (binaryOp .Add) (rCatM X.K) := by
  intro pins s σ H x y v u Q I rx ry h
  obtain ⟨l, b, xs, zs, rfl, rfl, hH, hB, hz, q⟩ := h
  cases rx
  cases ry
  obtain ⟨z, its, n, r, e⟩ := lst_obj I hH
  obtain ⟨z2, its2, n2, r2, e2⟩ := lst_obj I hB
  have hl := r.length
  have hl2 := r2.length
  refine PySem.P.add_list e e2 ?_ (by rw [List.size_toArray, List.size_toArray]; omega)
  have ea : its.toArray ++ its2.toArray = (its ++ its2).toArray := by simp
  rw [ea]
  have I1 := I.lnew (t' := s.toks) (r.append r2) (by rw [List.length_append]; omega)
  exact ⟨.ref _, _, I1, rfl, q _ I.fresh⟩
def dAddM (ma mb : DE) : DE := fun E env S k => ma E env S fun x S1 => mb E env S1 fun y S2 => ∃ a xs ys, x = .ref a ∧ S2 a = some (.lst xs) ∧ y = .lst ys ∧ szOk (xs.length + ys.length) = true ∧ ∀ p, S2 p = none → k (.ref p) (sUpd S2 p (.lst (xs ++ ys)))
theorem fe_addM {X : Cx} {W : WX} {a b : Expr} {ma mb : DE} {pos : Pos} (ha : FE X W a ma) (hb : FE X W b mb) : FE X W (.BinOp a .Add b pos) (dAddM ma mb) := by
  refine fe_of (pe_op op_catM ha.pe hb.pe) fun σ H Q ⟨env, S, R, E, hr, ht, he, q, hk⟩ => ?_
  refine tD.mk hr ht he q fun x S1 q1 vx H1 x1 t1 r1 hr1 he1 => ?_
  refine tD.mk hr1 t1 he1 q1 fun y S2 ⟨c, xs, ys, e1, hS, e2, hz, q2⟩ vy H2 x2 t2 r2 hr2 he2 => ?_
  subst e1 e2
  unfold RZ at r1 r2
  subst r1
  obtain ⟨d, us, rfl, hu, hrs2⟩ := r2
  obtain ⟨vs, hv, hrs⟩ := t2 c _ hS
  refine ⟨c, d, vs, us, rfl, rfl, .inl hv, .inr hu, rzs_app_len hrs hrs2 (szOk_le hz), fun p hp => ?_⟩
  refine hk _ _ (q2 p (new_none t2 hp)) _ _ (x1.trans (x2.trans (ext_new hp))) (tie_lst_new t2 hp (hrs.append hrs2)) (by unfold RZ; rfl)
/-- x, y = a list -/
def gL (gs : DGs) : DG := fun z env => match z with
  | .lst zs => gs zs env
  | _ => none
theorem fg_lst {X : Cx} {es : List Expr} {pos : Pos} {k n : Nat} {is : List Nat} {gs : DGs} (hc : X.calm = true) (h : FGs X es n is gs) (hn : (assignEach es X.env).length = n := by rfl) (hst : (assignEach es X.env).findIdx? (·.1) = none := by rfl) : FG X (.Tuple es k pos) is (gL gs) := by
  refine ⟨PG.imp (pg_lst hc h.pgs hn hst) fun v σ H Q ⟨env, S, z, env', hr, ht, rz, hg, hk⟩ => ?_⟩
  cases z with
  | lst zs =>
    unfold RZ at rz
    obtain ⟨a, vs, rfl, hv, hrs⟩ := rz
    exact ⟨a, vs, rfl, hv.sq, by rw [hrs.length, h.len zs env env' hg], env, S, zs, env', hr, ht, hrs, hg, hk⟩
  | _ => cases hg
/-! the number of distinct ones -/
theorem distN_iff (ns : List Int) : distN ns = ns.length ↔ ns.Nodup := by
  have key : ∀ i, i ≤ ns.length → ((PyProof.Rows.firstMet (fun i => ns.getD i 0) i).length = i → (ns.take i).Nodup) ∧ (∀ x ∈ ns.take i, x ∈ PyProof.Rows.firstMet (fun i => ns.getD i 0) i) := fun i => by
    induction i with
    | zero => intro _; simp
    | succ i ih =>
      intro hi
      obtain ⟨h1, h2⟩ := ih (by omega)
      have hlt : i < ns.length := hi
      have e1 : ns.getD i 0 = ns[i] := by
        rw [List.getD_eq_getElem?_getD, List.getElem?_eq_getElem hlt] <;> rfl
      have e2 : ns.take (i + 1) = ns.take i ++ [ns[i]] := by
        rw [List.take_add_one, List.getElem?_eq_getElem hlt] <;> rfl
      have hle := PyProof.Rows.firstMet_length_le (fun i => ns.getD i 0) i
      rw [PyProof.Rows.firstMet_succ, e2]
      unfold PyProof.Rows.step_dedup
      simp only [e1]
      split
      · rename_i hb
        refine ⟨fun h => by omega, fun x hx => ?_⟩
        rcases List.mem_append.mp hx with hx | hx
        · exact h2 x hx
        · obtain ⟨y, hy, ey⟩ := List.any_eq_true.mp hb
          have : y = ns[i] := eq_of_beq ey
          rw [List.mem_singleton] at hx
          rw [hx, ← this]; exact hy
      · rename_i hb
        refine ⟨fun h => ?_, fun x hx => ?_⟩
        · rw [List.length_append, List.length_singleton] at h
          have h3 := h1 (by omega)
          rw [List.nodup_append]
          refine ⟨h3, by simp, fun x hx y hy e => ?_⟩
          rw [List.mem_singleton] at hy
          subst hy
          subst e
          exact hb (List.any_eq_true.mpr ⟨_, h2 _ hx, by simp⟩)
        · rcases List.mem_append.mp hx with hx | hx
          · exact List.mem_append.mpr (.inl (h2 x hx))
          · exact List.mem_append.mpr (.inr hx)
  constructor
  · intro h
    have := (key ns.length (Nat.le_refl _)).1 h
    rwa [List.take_length] at this
  · intro h
    unfold distN
    rw [_root_.RZ.firstMet_nodup h ns.length (Nat.le_refl _), List.take_length]
end L3
namespace L3
open PySem PySem.Spec PyProof.Rows L2
/-! ### a table of the top: texts to defs; a call of a name that holds a def -/
def TabOk (K : PySem.W.Frag) (mg : Str → Option Value) (w : World) (x : Str) (tab : List (Str × Option Str)) : Prop := ∃ d es n, mg x = some (.ref d) ∧ KDict K w d es n ∧
  ∀ z o, (z, o) ∈ tab → match o with
    | none => PySem.W.nsIn K d z = some none
    | some f => ∃ fa, mg f = some (.ref fa) ∧ PySem.W.nsIn K d z = some (some (.ref fa))
def FAof (mg : Str → Option Value) : Str → Addr → Prop := fun f a => mg f = some (.ref a)
def dInTab (tab : List (Str × Option Str)) (ma : DE) : DT := fun E env S k => ma E env S fun z S1 => ∃ w o, z = .str w ∧ tab.lookup w = some o ∧ k o.isSome S1
def dIxTab (FA : Str → Addr → Prop) (tab : List (Str × Option Str)) (ma : DE) : DE := fun E env S k => ma E env S fun z S1 => ∃ w f, z = .str w ∧ tab.lookup w = some (some f) ∧ ∀ a, FA f a → k (.ref a) S1
def dCallL (FA : Str → Addr → Prop) (i : Nat) (fs : List (Str × DF)) (mas : DA) : DE := fun E env S k => ∃ a f s, getE env i = some (.ref a) ∧ (f, s) ∈ fs ∧ FA f a ∧ mas E env S fun zs S1 => s zs (fun _ _ => False) S1 k
theorem mem_of_lookup' {tab : List (Str × Option Str)} {y : Str} {b : Option Str} (h : tab.lookup y = some b) : (y, b) ∈ tab := by
  induction tab with
  | nil => cases h
  | cons p r ih =>
    obtain ⟨z, c⟩ := p
    rw [List.lookup_cons] at h
    split at h
    · rename_i e
      cases h
      have : y = z := by simpa using e
      rw [this]; exact List.mem_cons_self
    · exact List.mem_cons_of_mem _ (ih h)
theorem cx_false' {P : Program} {w : World} {st : List PySem.Env} {H : Hp} {s : Shared} {e : Value} {s' : Shared} (h : L2.CX P w st H s (fun _ _ _ => False) e s') : False := by
  obtain ⟨_, _, _, _, _, _, _, _, _, _, _, _, z⟩ := h
  exact z
section
variable {X : Cx} {W : WX} {a b e : Expr} {ma mb : DE} {mas : DA} {pos : Pos} {es : List Expr}
theorem ft_inTab {x : Str} {tab : List (Str × Option Str)} {p : Pos} (h : TabOk X.K X.mg X.w x tab) (ha : FE X W a ma) (hg : Gl X x := by rfl) (hd : (x == ("__debug__" : Str)) = false := by decide) : FT X W (.Compare a [.In] [.Name x p] pos) (dInTab tab ma) := by
  obtain ⟨d, ents, n, hm, D, ht0⟩ := h
  refine ft_of (pt_cmpR (op_in_kd D) ha.pe (pe_glob (v := .ref d) hg hm rfl hd) (by rfl)) fun σ H Q ⟨env, S, R, E, hr, ht, he, q, hk⟩ => ?_
  refine tD.mk hr ht he q fun z S1 ⟨w, o, e1, hl, q1⟩ v H1 x1 t1 rz hr1 he1 => ?_
  subst e1
  unfold RZ at rz
  subst rz
  have hm2 := ht0 w o (mem_of_lookup' hl)
  cases o with
  | none => exact ⟨w, none, rfl, rfl, hm2, false, rfl, hk _ S1 q1 H1 x1 t1⟩
  | some f =>
    obtain ⟨fa, _, h2⟩ := hm2
    exact ⟨w, some (.ref fa), rfl, rfl, h2, true, rfl, hk _ S1 q1 H1 x1 t1⟩
theorem fe_ixTab {x : Str} {tab : List (Str × Option Str)} {p : Pos} (h : TabOk X.K X.mg X.w x tab) (hb : FE X W b mb) (hs : PlainIx b) (hg : Gl X x := by rfl) (hd : (x == ("__debug__" : Str)) = false := by decide) :
    FE X W (.Subscript (.Name x p) b pos) (dIxTab (FAof X.mg) tab mb) := by
  obtain ⟨d, ents, n, hm, D, ht0⟩ := h
  refine fe_of (pe_ix ix_kdict (pe_glob (v := .ref d) hg hm rfl hd) hb.pe hs) fun σ H Q ⟨env, S, R, E, hr, ht, he, q, hk⟩ => ?_
  refine tD.mk hr ht he q fun z S1 ⟨w, f, e1, hl, q1⟩ v H1 x1 t1 rz hr1 he1 => ?_
  subst e1
  unfold RZ at rz
  subst rz
  obtain ⟨fa, g1, g2⟩ := ht0 w (some f) (mem_of_lookup' hl)
  exact ⟨d, w, .ref fa, rfl, rfl, ⟨ents, n, _, D.at_, D.lit, g2, rfl⟩, hk _ S1 (q1 fa g1) _ H1 x1 t1 (by unfold RZ; rfl)⟩
theorem fe_callL {k j : Nat} (i : Nat) {x : Str} {fs : List (Str × DF)} {p : Pos} (hfs : ∀ f s, (f, s) ∈ fs → ∃ ps, Fd X.prog X.w X.K X.mg X.base k f ps s) (hr : Room j X.A) (hkj : k ≤ j) (ha : FA X W (e :: es) mas)
    (hN : X.N[i]? = some x := by rfl) (hv : Vis X.env.scope x := by first | exact Or.inl rfl | exact Or.inr (Or.inl rfl) | exact Or.inr (Or.inr rfl))
    (hdb : (x == ("__debug__" : Str)) = false := by decide) (hcd : (x == ("__classdict__" : Str)) = false := by decide)
    (he : starEach (e :: es) X.env = (false, eval e X.env) :: starEach es X.env := by rfl) (hpl : (backTo pos (starEach es X.env)).any (·.1) = false := by rfl) : FE X W (.Call (.Name x p) (e :: es) [] pos) (dCallL (FAof X.mg) i fs mas) := by
  refine ⟨⟨fun pins s σ H Q I h => ?_⟩⟩
  obtain ⟨env, S, R, E, hr1, ht, he1, ⟨a, f, s', hz, hm, hF, q⟩, hk⟩ := h
  obtain ⟨ps, F0⟩ := hfs f s' hm
  obtain ⟨fa, fd, hm2, hk2, hb, F⟩ := F0.ex
  have ea : fa = a := by
    have hF' : X.mg f = some (.ref a) := hF
    rw [hm2] at hF'
    cases hF'; rfl
  subst ea
  have hz' : env[i]? = some (some (.ref fa)) := by
    unfold getE at hz
    split at hz
    · rename_i y hy
      cases hz
      exact hy
    · cases hz
  obtain ⟨v, h1, h2⟩ := hr1.at_ i _ hz'
  unfold RZ at h2
  subst h2
  refine (pe_callL (i := i) (f := fa) (sp := spD X.K X.mg s') (dvs := []) (E := fun _ _ _ => False) (F.mono hkj) hr hN hv hk2 hb .nil (fun _ _ _ _ e s'' _ c => (cx_false' c).elim) ha.pa hdb hcd he hpl).run pins s σ H Q I ⟨h1, ?_⟩
  refine tDA.mk hr1 ht he1 q fun zs S1 q1 vs H1 x1 t1 r1 hr2 he2 => ?_
  rw [List.append_nil]
  exact ⟨zs, S1, R, fun _ _ => False, r1, t1, q1, fun z S' hz v H' xx tt rr => hk z S' hz v H' (x1.trans xx) tt rr, fun _ _ h => h.elim⟩
end
theorem fl_nil {P : Program} {w : World} {K : PySem.W.Frag} {mg : Str → Option Value} {base : Heap} {k : Nat} : ∀ f s, (f, s) ∈ ([] : List (Str × DF)) → ∃ ps, Fd P w K mg base k f ps s := fun _ _ h => nomatch h
theorem fl_cons {P : Program} {w : World} {K : PySem.W.Frag} {mg : Str → Option Value} {base : Heap} {k : Nat} {x : Str} {ps : List Str} {s : DF} {fs : List (Str × DF)} (h : Fd P w K mg base k x ps s) (t : ∀ f s, (f, s) ∈ fs → ∃ ps, Fd P w K mg base k f ps s) :
    ∀ f s', (f, s') ∈ (x, s) :: fs → ∃ ps, Fd P w K mg base k f ps s' := fun f s' m => by
  rcases List.mem_cons.mp m with e | m
  · cases e; exact ⟨_, h⟩
  · exact t f s' m
/-- x is True -/
def pIsT : Z → Z → Option Bool
  | .bl a, .bl b => some (a == b)
  | .non, .bl _ => some false
  | _, _ => none
theorem cm_isT {X : Cx} : Cm X .Is (fun _ => pIsT) := ⟨fun x y H Q => ∃ b, y = .bl b ∧ ((∃ a, x = .bl a ∧ Q (.bl (a == b)) H) ∨ (x = .non ∧ Q (.bl false) H)), (fun pins s σ H x y v u Q I rx ry h => by
  obtain ⟨b, rfl, h⟩ := h
  cases (show u = Value.bool b from ry)
  rcases h with ⟨a, rfl, q⟩ | ⟨rfl, q⟩
  · cases (show v = Value.bool a from rx)
    by_cases e : a = b
    · subst e
      exact wpAny_is_self rfl ⟨.bl true, H, I, rfl, by simpa using q⟩
    · have e2 : (a == b) = false := beq_eq_false_iff_ne.mpr e
      rw [e2] at q
      exact wpAny_is_other rfl (fun z => e (Value.bool.inj z)) ⟨.bl false, H, I, rfl, q⟩
  · cases (show v = Value.none from rx)
    exact wpAny_is_other rfl (fun z => by cases z) ⟨.bl false, H, I, rfl, q⟩), fun H S x y b vx vy Q h t rx ry q => by
  cases x <;> cases y <;> simp only [pIsT] at h <;> try cases h
  · unfold RZ at rx ry
    exact ⟨_, ry, .inr ⟨rx, q⟩⟩
  · unfold RZ at rx ry
    exact ⟨_, ry, .inl ⟨_, rx, q⟩⟩⟩
def RowsOk (K : PySem.W.Frag) (mg : Str → Option Value) (d : Addr) (tab : List (Str × Option Str)) : Prop := ∀ z o, (z, o) ∈ tab → match o with
    | none => PySem.W.nsIn K d z = some none
    | some f => ∃ fa, mg f = some (.ref fa) ∧ PySem.W.nsIn K d z = some (some (.ref fa))
theorem rows_nil {K : PySem.W.Frag} {mg : Str → Option Value} {d : Addr} : RowsOk K mg d [] := fun _ _ h => nomatch h
theorem rows_some {K : PySem.W.Frag} {mg : Str → Option Value} {d : Addr} {tab : List (Str × Option Str)} {z f : Str} {fa : Addr} (a : mg f = some (.ref fa)) (b : PySem.W.nsIn K d z = some (some (.ref fa))) (r : RowsOk K mg d tab) : RowsOk K mg d ((z, some f) :: tab) := fun z' o m => by
  rcases List.mem_cons.mp m with e | m
  · cases e; exact ⟨fa, a, b⟩
  · exact r z' o m
theorem rows_none {K : PySem.W.Frag} {mg : Str → Option Value} {d : Addr} {tab : List (Str × Option Str)} {z : Str} (b : PySem.W.nsIn K d z = some none) (r : RowsOk K mg d tab) : RowsOk K mg d ((z, none) :: tab) := fun z' o m => by
  rcases List.mem_cons.mp m with e | m
  · cases e; exact b
  · exact r z' o m
theorem tabOk {K : PySem.W.Frag} {mg : Str → Option Value} {w : World} {h : Heap} {x : Str} {d : Addr} {es : Array DictEntry} {n : Nat} {tab : List (Str × Option Str)} (X : K.In h) (G : h.Ns mainGlobals mg) (a : PySem.W.nsIn K mainGlobals x = some (some (.ref d)))
    (l : K.lookup d = some ⟨.type "dict", none, .dict es n, #[]⟩) (k : PySem.W.KeysLit w.params es.toList) (low : (d == sysModules) = false) (r : RowsOk K mg d tab) : TabOk K mg w x tab := ⟨d, es, n, PySem.W.mg_of X G a, ⟨l, k, low⟩, r⟩
end L3
namespace L3
open PySem PySem.Spec PyProof.Rows L2
/-! ### x, y, z = a, b, c -/
def dPar3 (i j l : Nat) (m : DA) : DS := fun E env S K => m E env S fun zs S1 => ∃ x y z, zs = [x, y, z] ∧ K.nx (((env.set i (some x)).set j (some y)).set l (some z)) S1
theorem rzs3 {K : PySem.W.Frag} {H : Hp} {x y z : Z} {vs : List V} (h : RZs K H [x, y, z] vs) : ∃ u v w, vs = [u, v, w] ∧ RZ K H x u ∧ RZ K H y v ∧ RZ K H z w := by
  unfold RZs at h
  obtain ⟨u, r, rfl, h1, h2⟩ := h
  obtain ⟨v, w, rfl, h3, h4⟩ := rzs2 h2
  exact ⟨u, v, w, rfl, h1, h3, h4⟩
section
variable {X : Cx} {W : WX} {e a b c : Expr} {me ma mb : DE} {mas : DA} {pos : Pos} {es : List Expr}
theorem fs_par3 (i j l : Nat) {x y z : Str} {px py pz pt : Pos} {kt k2 pt2} (hN : X.N.Nodup) (h : FA X W [a, b, c] mas) (hc : X.calm = true := by rfl) (hi : X.N[i]? = some x := by rfl) (hj : X.N[j]? = some y := by rfl) (hl : X.N[l]? = some z := by rfl)
    (hij : i ≠ j := by decide) (hil : i ≠ l := by decide) (hjl : j ≠ l := by decide)
    (hx : X.env.scope.names.lookup x = some .local := by rfl) (hy : X.env.scope.names.lookup y = some .local := by rfl) (hz : X.env.scope.names.lookup z = some .local := by rfl)
    (hw : swappedStores [.Tuple [.Name x px, .Name y py, .Name z pz] kt pt] (.Tuple [a, b, c] k2 pt2) X.env = pure (some [x, y, z]) := by rfl)
    (hs : swapsWithSole [.Tuple [.Name x px, .Name y py, .Name z pz] kt pt] (.Tuple [a, b, c] k2 pt2) pos.line X.env = pure false := by rfl) :
    FS X W (.Assign [.Tuple [.Name x px, .Name y py, .Name z pz] kt pt] (.Tuple [a, b, c] k2 pt2) pos) (dPar3 i j l mas) := by
  refine fs_of (ps_par3 hc hN hi hj hl hij hil hjl hx hy hz h.pa hw hs) fun D σ H ⟨env, S, R, E, hr, ht, he, q, hk⟩ => ?_
  refine tDA.mk hr ht he q fun zs S1 ⟨x1, y1, z1, e1, q1⟩ vs H1 x2 t1 r1 hr1 he1 => ?_
  subst e1
  obtain ⟨u, v, w, rfl, ru, rv, rw'⟩ := rzs3 r1
  exact ⟨u, v, w, rfl, hk.nx _ _ q1 _ H1 x2 t1 (((hr1.set ru).set rv).set rw')⟩
end
/-! ### sums, least and greatest, sorted lists of ints -/
def cSum : CF := fun S zs k => ∃ ns : List Int, zs = [.lst (ns.map Z.int)] ∧ k (.int ns.sum) S
def cMin1 : CF := fun S zs k => ∃ ns : List Int, zs = [.lst (ns.map Z.int)] ∧ 0 < ns.length ∧ ∀ m, m ∈ ns → (∀ y ∈ ns, m ≤ y) → k (.int m) S
def cMax1 : CF := fun S zs k => ∃ ns : List Int, zs = [.lst (ns.map Z.int)] ∧ 0 < ns.length ∧ ∀ m, m ∈ ns → (∀ y ∈ ns, y ≤ m) → k (.int m) S
def cSorted : CF := fun S zs k => ∃ ns : List Int, zs = [.lst (ns.map Z.int)] ∧ ∀ ms : List Int, ms.Perm ns → ms.Pairwise (· ≤ ·) → k (.lst (ms.map Z.int)) S
section
variable {X : Cx}
theorem rzs_intsL {K : PySem.W.Frag} {H : Hp} : ∀ ns : List Int, RZs K H (ns.map Z.int) (ns.map V.int)
  | [] => RZs.nil
  | n :: ns => RZs.cons (rz_int n) (rzs_intsL ns)
/-- a list of ints that is handed over -/
theorem ints_arg {K : PySem.W.Frag} {H : Hp} {ns : List Int} {vs : List V} (r : RZs K H [.lst (ns.map Z.int)] vs) : ∃ a, vs = [V.ref a] ∧ SqL K H a (ns.map V.int) := by
  obtain ⟨v, rfl, rv⟩ := rzs1 r
  unfold RZ at rv
  obtain ⟨a, ws, rfl, hq, hrs⟩ := rv
  rw [rzs_intsV hrs] at hq
  exact ⟨a, rfl, hq.sq⟩
theorem cb_sum (hc : X.calm = true) : Cb X (.builtin "sum") cSum := ⟨_, cr_sum hc, fun H S zs vs Q R ⟨ns, e, q⟩ t r k => by
  subst e
  obtain ⟨a, rfl, hq⟩ := ints_arg r
  exact ⟨a, ns, rfl, hq, k _ S q _ H Ext.refl t (rz_int _)⟩⟩
theorem cb_min1 (hc : X.calm = true) : Cb X (.builtin "min") cMin1 := ⟨_, cr_min hc, fun H S zs vs Q R ⟨ns, e, h0, q⟩ t r k => by
  subst e
  obtain ⟨a, rfl, hq⟩ := ints_arg r
  exact ⟨a, ns, rfl, hq, h0, fun m h1 h2 => k _ S (q m h1 h2) _ H Ext.refl t (rz_int _)⟩⟩
theorem cb_max1 (hc : X.calm = true) : Cb X (.builtin "max") cMax1 := ⟨_, cr_max hc, fun H S zs vs Q R ⟨ns, e, h0, q⟩ t r k => by
  subst e
  obtain ⟨a, rfl, hq⟩ := ints_arg r
  exact ⟨a, ns, rfl, hq, h0, fun m h1 h2 => k _ S (q m h1 h2) _ H Ext.refl t (rz_int _)⟩⟩
theorem cb_sorted : Cb X (.builtin "sorted") cSorted := ⟨_, callR_frz cr_sortedI, fun H S zs vs Q R ⟨ns, e, q⟩ t r k => by
  subst e
  obtain ⟨a, rfl, hq⟩ := ints_arg r
  refine ⟨a, ns, rfl, hq, fun ms p h1 h2 hp => ⟨p, _, rfl, upd_same, fun o => ?_⟩⟩
  rw [upd_upd]
  exact k _ S (q ms h1 h2) _ _ (Ext.same (sub_new (K := X.K) (S := S) hp)) (t.ext (sub_new (K := X.K) (S := S) hp)) (rz_lst_new t hp (rzs_intsL ms))⟩
end

/-! ### sorted(set(xs)) of ints -/
def frS (w : World) : Obj := { cls := .type "set", dict := none, data := .set #[] 0 (.fresh 0 0 (!w.params.followText "set-order")) }
set_option maxRecDepth 100000 in
set_option maxHeartbeats 3200000 in
theorem call_set_ints {P : Program} {w : World} {A : Around} {E : Value → Shared → Prop} {s : Shared} {l : Addr} {items : Array Value} (ns : List Int) {Q : Value → Shared → Prop} (hh : A.handled = none) (hl : s.heap.IsList l items) (hit : IntsAre items.toList ns) (hb : ns.length + 1 < scanBound)
    (fin : ∀ (hp : Heap) (tk c : Nat), SetR w hp s.heap.objs.size (fun j => decide (j ∈ ns)) c → c ≤ ns.length → (∀ b o, s.heap.get? b = some o → hp.get? b = some o) → Q (.ref s.heap.objs.size) { s with heap := hp, toks := tk }) :
    wpAny (model P w) A (call (.type "set") [.ref l]) Q E s := by
  have isz : items.size = ns.length := by rw [← Array.length_toList]; exact IntsAre.length hit
  obtain ⟨c, tl, hmro⟩ := F.called_set.mro
  have hmade := F.called_set.made
  have hsub := F.called_set.sub
  refine wpAny_call (codeAny_of_tree ?_)
  show wpAny _ _ (callAny (.type "set") _) _ _ _
  refine wpAny_pure ⟨Code.quiet_builtin _ (by decide +kernel), codeAny_builtin F.entry_type_call ?_⟩
  rw [Around.under_plain (weight_type_call_type "set" [.ref l] []) rfl]
  have u1 := F.called_set.notType
  have u2 := F.called_set.canCreate
  have u3 := F.typeCall_set_1 (.ref l)
  repeat (any_goals (first | assumption | wp_step))
  refine codeAny_mono (code_set_led1 (.ref l) (E := E) (Q₁ := fun ob t1 => ob = .ref s.heap.objs.size ∧ t1 = { s with heap := s.heap.push (frS w) }) ⟨rfl, rfl⟩) fun r t1 hr => ?_
  cases r with
  | error e => exact hr
  | ok fl =>
    cases fl with
    | ret ob =>
      obtain ⟨rfl, rfl⟩ := hr
      have hS : (s.heap.push (frS w)).get? s.heap.objs.size = some (frS w) := Heap.get?_push_size _ rfl
      have hT : Shared.TypeIs { s with heap := s.heap.push (frS w) } (.ref s.heap.objs.size) "set" := ⟨_, hS, rfl⟩
      have v1 := F.called_set.init.lookup
      have v2 := F.called_set.init.bind (.ref s.heap.objs.size)
      repeat (any_goals (first | assumption | wp_step))
      refine codeAny_mono (codeAny_call_builtin (R := wants (fun r t2 => r = .none ∧ ∃ hp tk c, t2 = { s with heap := hp, toks := tk } ∧ SetR w hp s.heap.objs.size (fun j => decide (j ∈ ns)) c ∧ c ≤ ns.length ∧
          (∀ b o, s.heap.get? b = some o → hp.get? b = some o)) E) F.called_set.init.plain F.entry_set_init (check_set_init_1 hT ?_)) fun r2 t2 hr2 => ?_
      · obtain ⟨⟨oc, od, odt, osl⟩, hol, hcl, nl, hdl⟩ := hl
        simp only at hcl hdl
        subst hcl hdl
        have hol2 : (s.heap.push (frS w)).get? l = some { cls := .type "list", dict := od, data := .seq items nl, slots := osl } := Heap.get?_push_of_some _ hol
        have w1 := F.sub_list_set
        have w2 := F.sub_list_frozenset
        have w3 : (Value.type "list" == Value.type "dict") = false := by decide
        have hl1 : (s.heap.push (frS w)).IsList l items := ⟨_, hol2, rfl, nl, rfl⟩
        unfold Builtin.«set.__init__» noKeywords Builtin.Frozenset.updateFrom
        generalize hPI : pyIter = PI
        wp_walk
        subst hPI
        refine wpAny_pyIter_list hl1 (wpAny_bind (wpAny_runValue ?_))
        have lS : l < s.heap.objs.size := Heap.lt_size hol
        have hh3 : A.in1.in1.in1.handled = none := by simp [hh]
        have neI : l ≠ (s.heap.push (frS w)).objs.size := by rw [Heap.size_push]; exact Nat.ne_of_lt (Nat.lt_trans lS (Nat.lt_succ_self _))
        have notin : s.heap.objs.size ∉ [(s.heap.push (frS w)).objs.size, l] := by
          rw [Heap.size_push]
          intro z
          simp only [List.mem_cons, List.not_mem_nil, or_false] at z
          rcases z with z | z
          · exact absurd z (Nat.ne_of_lt (Nat.lt_succ_self _))
          · exact absurd z (Nat.ne_of_gt lS)
        have val : ∀ (i : Nat) (v : Value), items[i]? = some v → ∃ k t, ns[i]? = some k ∧ v = .int k t := fun i v hv => by
          have hi : i < ns.length := by rw [← isz]; exact (Array.getElem?_eq_some_iff.mp hv).1
          obtain ⟨t, e⟩ := PyProof.Rows.IntsAre.int_at hit i v (by rw [Array.getElem?_toList]; exact hv)
          exact ⟨ns[i], t, List.getElem?_eq_getElem hi, by rw [e, List.getD_eq_getElem?_getD, List.getElem?_eq_getElem hi]; rfl⟩
        refine set_update_ints ((Walks.list hh3 _ l neI items).toS) s.heap.objs.size notin ns isz hb val (items.size - 0) 0 _ (by omega) (Nat.zero_le _) ⟨⟨_, Heap.get?_push_size _ rfl, rfl, rfl⟩, (hl1.push _)⟩ ?c0 ?c1
        case c0 =>
          exact ⟨0, Nat.le_refl 0, setR_new_at (Heap.get?_push_of_some _ hS)⟩
        case c1 =>
          intro t3 c3 hm hc3 hS3
          obtain ⟨hp, g2, d2, tk, os2⟩ := t3
          cases (hm.gens : g2 = s.gens)
          cases (hm.drawn : d2 = s.drawn)
          cases (hm.os : os2 = s.os)
          show wpAny _ _ _ _ _ _
          refine wpAny_pure ?_
          show wpAny _ _ (ret Value.none) _ _ _
          refine wpAny_pure ⟨rfl, hp, tk, c3, rfl, hS3, by rw [← isz]; exact hc3, fun b o e => ?_⟩
          have b0 : b < s.heap.objs.size := Heap.lt_size e
          refine hm.heap b o ?_ (Heap.get?_push_of_some _ (Heap.get?_push_of_some _ e))
          rw [Heap.size_push]
          intro z
          simp only [List.mem_cons, List.not_mem_nil, or_false] at z
          rcases z with z | z
          · exact absurd z (Nat.ne_of_lt b0)
          · exact absurd z (Nat.ne_of_lt (Nat.lt_trans b0 (Nat.lt_succ_self _)))
      · cases r2 with
        | error e => exact hr2
        | ok fl2 =>
          cases fl2 with
          | ret r =>
            obtain ⟨rfl, hp, tk, c2, rfl, q1, q2, q3⟩ := hr2
            repeat (any_goals (first | assumption | wp_step))
            exact fin _ _ _ q1 q2 q3
          | _ => exact hr2.elim
    | _ => exact hr.elim
def tSortSet (K : PySem.W.Frag) (ta : TE) : TE := fun σ H Q => ta σ H fun x H1 => ∃ (l : Addr) (ns : List Int), x = .ref l ∧ SqL K H1 l (ns.map V.int) ∧ ns.length < 64 ∧
  ∀ (ms : List Int) (p : Addr), ms.Pairwise (· < ·) → (∀ k, k ∈ ms ↔ k ∈ ns) → H1 p = none → Q (.ref p) (upd H1 p (.lst (ms.map V.int)))
theorem pe_sortSet {X : Cx} {a : Expr} {ta : TE} {p p2 q pos : Pos} (hg : Gl X "sorted") (hm : X.mg "sorted" = none) (hg2 : Gl X "set") (hm2 : X.mg "set" = none) (ha : PE X a ta) (hc : X.calm = true := by rfl)
    (na : starEach [a] X.env = (false, eval a X.env) :: starEach [] X.env := by rfl) : PE X (.Call (.Name "sorted" p) [.Call (.Name "set" p2) [a] [] q] [] pos) (tSortSet X.K ta) := by
  refine ⟨fun pins s σ H Q I h => ?_⟩
  refine Call_ (ld_blt I hg hm boot_sorted (PyProof.Rows.callWith_builtin1 (PyProof.Rows.args_cons ?_ rfl) rfl rfl))
  refine Call_ (ld_blt I hg2 hm2 boot_set (PyProof.Rows.callWith_type1 (PyProof.Rows.args_cons (thn (ha.run pins s σ H _ I h) fun v s1 ⟨x, H1, I1, r1, q1⟩ => PyProof.Rows.args_nil ?_) na) na rfl))
  obtain ⟨l, ns, rfl, hq, h64, q1⟩ := q1
  cases r1
  obtain ⟨its, r, pl, hz⟩ := I1.list hq
  refine call_set_ints ns (I1.ok.hd hc) pl.isList (by simpa using _root_.RZ.intsAre_vals r) (by unfold scanBound; omega) fun hp tk c R hcn hk => PyProof.Rows.args_nil ?_
  have I2 : Inv X pins σ H1 { s1 with heap := hp, toks := tk } := I1.kept hk
  refine sorted_set R (I2.ok.hd hc) (by omega) fun s' p out c ms k g o hp2 hg hi hs hm hl => ?_
  have hlen : (ms.map V.int).length ≤ sizeLine := by rw [List.length_map, hl, sizeLine_eq]; omega
  have hn : H1 p = none := I2.hok.fresh hp2
  have e : s' = { ({ s1 with heap := hp, toks := tk } : Shared) with heap := s'.heap, gens := s'.gens, drawn := s'.drawn, toks := s'.toks } := by
    cases s'
    cases o
    rfl
  have J : Inv X pins σ (upd H1 p (.lst (ms.map V.int))) s' := by
    rw [e]
    exact I2.call (ch := []) (Un.laid k hp2 hn) (I2.hok.laid k hp2 ⟨hlen, out.toList, c, vals_of_ints hi, hg⟩) (by rw [g]; exact I2.bare) (fun _ z => nomatch z)
  exact ⟨.ref p, _, J, rfl, q1 ms p hs (fun k => by rw [hm k]; simp) hn⟩
def dSortSet (m : DE) : DE := fun E env S k => m E env S fun z S1 => ∃ ns : List Int, z = .lst (ns.map Z.int) ∧ ns.length < 64 ∧ ∀ ms : List Int, ms.Pairwise (· < ·) → (∀ k, k ∈ ms ↔ k ∈ ns) → k (.lst (ms.map Z.int)) S1
/-- xs[::-1] -/
def dRevL (m : DE) : DE := fun E env S k => m E env S fun z S1 => ∃ zs, z = .lst zs ∧ k (.lst zs.reverse) S1
theorem RZs.rev {K : PySem.W.Frag} {H : Hp} : ∀ {zs : List Z} {vs : List V}, RZs K H zs vs → RZs K H zs.reverse vs.reverse
  | [], vs, h => by
    unfold RZs at h
    subst h
    exact RZs.nil
  | z :: zs, vs, h => by
    unfold RZs at h
    obtain ⟨v, r, rfl, h1, h2⟩ := h
    rw [List.reverse_cons, List.reverse_cons]
    exact (RZs.rev h2).append (RZs.cons h1 RZs.nil)
section
variable {X : Cx} {W : WX} {e a : Expr} {me ma : DE} {pos : Pos}
theorem fe_sortSet {p p2 q : Pos} (hm : X.mg "sorted" = none) (hm2 : X.mg "set" = none) (ha : FE X W a ma) (hc : X.calm = true := by rfl) (hg : Gl X "sorted" := by rfl) (hg2 : Gl X "set" := by rfl)
    (na : starEach [a] X.env = (false, eval a X.env) :: starEach [] X.env := by rfl) : FE X W (.Call (.Name "sorted" p) [.Call (.Name "set" p2) [a] [] q] [] pos) (dSortSet ma) := by
  refine fe_of (pe_frz (pe_sortSet hg hm hg2 hm2 ha.pe hc na)) fun σ H Q ⟨env, S, R, E, hr, ht, he, q, hk⟩ => ?_
  refine tD.mk hr ht he q fun z S1 ⟨ns, e1, hl, q1⟩ v H1 x1 t1 rz hr1 he1 => ?_
  subst e1
  unfold RZ at rz
  obtain ⟨b, vs, rfl, hv, hrs⟩ := rz
  have ev := rzs_intsV hrs
  subst ev
  refine ⟨b, ns, rfl, hv.sq, hl, fun ms p h1 h2 hp => ⟨p, _, rfl, upd_same, fun o => ?_⟩⟩
  rw [upd_upd]
  exact hk _ S1 (q1 ms h1 h2) _ _ (x1.trans (Ext.same (sub_new (K := X.K) (S := S1) hp))) (t1.ext (sub_new (K := X.K) (S := S1) hp)) (rz_lst_new t1 hp (rzs_intsL ms))
theorem fe_revL {k : Nat} {p1 p2 p3 : Pos} (he : FE X W e me) : FE X W (.Subscript e (.Slice none none (some (.UnaryOp .USub (.Constant (.int 1) k p1) p2)) p3) pos) (dRevL me) := by
  refine fe_of (pe_frz (pe_revL he.pe)) fun σ H Q ⟨env, S, R, E, hr, ht, he, q, hk⟩ => ?_
  refine tD.mk hr ht he q fun z S1 ⟨zs, e1, q1⟩ v H1 x1 t1 rz hr1 he1 => ?_
  subst e1
  unfold RZ at rz
  obtain ⟨b, vs, rfl, hv, hrs⟩ := rz
  refine ⟨b, vs, rfl, hv.sq, fun p hp => ⟨p, _, rfl, upd_same, fun o => ?_⟩⟩
  rw [upd_upd]
  exact hk _ S1 q1 _ _ (x1.trans (Ext.same (sub_new (K := X.K) (S := S1) hp))) (t1.ext (sub_new (K := X.K) (S := S1) hp)) (rz_lst_new t1 hp hrs.rev)
end
end L3
namespace L3
open PySem PySem.Spec PyProof.Rows L2
/-! ### the ends: what the head hands over -/
/-- a def of the top as it stands -/
def Dfn (K : PySem.W.Frag) (mg : Str → Option Value) (x : Str) (st : Stmt) : Prop := ∃ f fd, Fun K x x st f fd ∧ mg x = some (.ref f)
theorem dfn {K : PySem.W.Frag} {mg : Str → Option Value} {h : Heap} {x : Str} {st : Stmt} {f : Addr} {oc : Value} {od an : Option Addr} {osl : Array (Option Value)} {kV doc pm cdv ct : Value} (X : K.In h) (G : h.Ns mainGlobals mg)
    (a : PySem.W.nsIn K mainGlobals x = some (some (.ref f))) (l : K.lookup f = some ⟨oc, od, .func (PySem.W.fnOf x x (defArgs st) (defBody st) (defScope st) .none kV doc pm an cdv ct), osl⟩)
    (c : PySem.W.codeIn K cdv x = true) (k : PySem.W.keepIn K (.ref f) = true) : Dfn K mg x st := ⟨f, _, fun_mk l c k, PySem.W.mg_of X G a⟩
theorem glob_int {K : PySem.W.Frag} {mg : Str → Option Value} {h : Heap} {x : Str} {i : Int} {t : Tok} (X : K.In h) (G : h.Ns mainGlobals mg) (a : PySem.W.nsIn K mainGlobals x = some (some (.int i t))) : GlobZ K mg x (.int i) :=
  ⟨_, .int i, PySem.W.mg_of X G a, ⟨_, rfl⟩, fun _ => by unfold RZ; rfl⟩
theorem glob_str {K : PySem.W.Frag} {mg : Str → Option Value} {h : Heap} {x s : Str} {t : Tok} (X : K.In h) (G : h.Ns mainGlobals mg) (a : PySem.W.nsIn K mainGlobals x = some (some (.str s t))) : GlobZ K mg x (.str s) :=
  ⟨_, .str s, PySem.W.mg_of X G a, ⟨_, rfl⟩, fun _ => by unfold RZ; rfl⟩
theorem rzs_strs {K : PySem.W.Frag} {H : Hp} : ∀ ws : List Str, RZs K H (ws.map Z.str) (ws.map V.str)
  | [] => RZs.nil
  | w :: ws => RZs.cons (by unfold RZ; rfl) (rzs_strs ws)
theorem glob_strs {K : PySem.W.Frag} {mg : Str → Option Value} {h : Heap} {x : Str} {p : Addr} {dd : Option Addr} {its : Array Value} {n : Nat} {sl : Array (Option Value)} (ws : List Str) (X : K.In h) (G : h.Ns mainGlobals mg) (a : PySem.W.nsIn K mainGlobals x = some (some (.ref p)))
    (l : K.lookup p = some ⟨.type "tuple", dd, .seq its n, sl⟩) (hv : Vals (ws.map V.str) its.toList) (hs : its.size ≤ sizeLine) : GlobZ K mg x (.tup (ws.map Z.str)) :=
  ⟨_, .ref p, PySem.W.mg_of X G a, rfl, fun H => by
    unfold RZ
    exact ⟨p, ws.map V.str, rfl, .inr ⟨_, its, n, l, rfl, rfl, hs, hv⟩, rzs_strs ws⟩⟩
/-- the script, the promise of the law -/
def spLaw (K : PySem.W.Frag) : Sp := fun vs H Q _ => ∃ (a : Addr) (ns : List Int), vs = [.ref a] ∧ SqF K H a (ns.map V.int) ∧ ns.length ≤ 63 ∧ ∀ H', Q (.bl true) H'
def s_theLaw : DF := fun zs RE S k => ∃ ns : List Int, zs = [.scr (ns.map Z.int)] ∧ ns.length ≤ 63 ∧ ∀ S', k (.bl true) S'
theorem sqF_of {K : PySem.W.Frag} {H : Hp} {a : Addr} {xs : List V} (o : Only H) (h : SqL K H a xs) : SqF K H a xs := by
  rcases h with (h | ⟨ob, h⟩) | h
  · rcases o a with e | ⟨ob, ys, e⟩
    · rw [e] at h; cases h
    · rw [e] at h; cases h
  · exact .inl ⟨ob, h⟩
  · exact .inr h
theorem rzs_ints {K : PySem.W.Frag} {H : Hp} : ∀ ns : List Int, RZs K H (ns.map Z.int) (ns.map V.int)
  | [] => RZs.nil
  | n :: ns => RZs.cons (rz_int n) (rzs_ints ns)
theorem law_end {P : Program} {w : World} {K : PySem.W.Frag} {mg : Str → Option Value} {base : Heap} {k : Nat} {fa : Addr} {fd : FuncData} (F : FnOk P w K mg base (L2.CX P w) k fa fd ["script"] (spD K mg s_theLaw)) : FnOk P w K mg base (L2.CX P w) k fa fd ["script"] (spLaw K) :=
  F.imp fun vs H Q E ⟨a, ns, e, hs, hl, q⟩ => by
    subst e
    refine ⟨[.scr (ns.map Z.int)], fun _ => none, fun z _ => z = .bl true, fun _ _ => False, ?_, fun _ _ h => (nomatch h), ⟨ns, rfl, hl, fun _ => rfl⟩, fun z S' hz v H' _ _ rz => ?_, fun _ _ h => h.elim⟩
    · refine RZs.cons ?_ RZs.nil
      unfold RZ
      exact ⟨a, _, rfl, hs, rzs_ints ns⟩
    · subst hz
      unfold RZ at rz
      subst rz
      exact q H'
theorem fn_imp0 {P : Program} {w : World} {K : PySem.W.Frag} {mg : Str → Option Value} {base : Heap} {k : Nat} {fa : Addr} {fd : FuncData} {ps : List Str} {f f' : DF} (F : FnOk P w K mg base (L2.CX P w) k fa fd ps (spD K mg f)) (h : ∀ zs RE S R, f' zs RE S R → f zs RE S R) : FnOk P w K mg base (L2.CX P w) k fa fd ps (spD K mg f') :=
  F.imp fun vs H Q E ⟨zs, S, R, RE, rz, t, q, h1, h2⟩ => ⟨zs, S, R, RE, rz, t, h zs RE S R q, h1, h2⟩
theorem cx_false {P : Program} {w : World} {H : Hp} {s : Shared} {e : Value} {s' : Shared} (h : L2.CX P w [] H s (fun _ _ _ => False) e s') : False := by
  obtain ⟨_, _, _, _, _, _, _, _, _, _, _, _, z⟩ := h
  exact z
/-- a def that is never called: for the bottom of a recursion -/
theorem fd_never {P : Program} {w : World} {K : PySem.W.Frag} {mg : Str → Option Value} {base : Heap} {k : Nat} {x : Str} {ps : List Str} {f : Addr} {fd : FuncData} {st : Stmt} (F : Fun K x x st f fd) (hm : mg x = some (.ref f)) (hb : Binds K fd ps []) : Fd P w K mg base k x ps (fun _ _ _ _ => False) :=
  ⟨f, fd, hm, F.kp, hb, ⟨fun _ _ _ _ ⟨_, _, _, _, _, _, h, _⟩ => h.elim, fun _ _ _ _ _ _ _ _ _ _ _ _ _ ⟨_, _, _, _, _, _, h, _⟩ => h.elim⟩⟩
end L3
namespace L3
open PySem PySem.Spec PyProof.Rows L2
def m_is_from : DS := (dRet (dAnd (dCall (pure1 pIsI) (dCons (dVar 0) (dCons (dC (.ty "int")) dNil))) (dAnd (dNot (dCall (pure1 pIsI) (dCons (dVar 0) (dCons (dC (.ty "bool")) dNil)))) (dChain (fun _ => pLe) (fun _ => pLe) (dVar 1) (dVar 0) (dVar 2)))))
abbrev b_is_from : DF := fromBody 3 3 m_is_from
def g_STEPS : Z := (.tup [(.str "drop"), (.str "enter"), (.str "leave")])
def g_JUMPS : Z := (.tup [(.str "make"), (.str "read"), (.str "dead"), (.str "old"), (.str "same"), (.str "mine"), (.str "dropsame"), (.str "swap"), (.str "move"), (.str "back"), (.str "caught"), (.str "go")])
def m_is_bare_row (s_is_from : DF) : DS := (dSeq (dIf (dOrT (dNotT (dVal (dCall (pure1 pIsI) (dCons (dVar 0) (dCons (dC (.ty "tuple")) dNil))))) (dOrT (dCmpT (fun _ => pEq) (dCall (pure1 pLen1) (dCons (dVar 0) dNil)) (dC (.int 0))) (dNotT (dVal (dCall (pure1 pIsI) (dCons (dIx (dVar 0) (dC (.int 0))) (dCons (dC (.ty "str")) dNil))))))) (dRet (dC (.bl false))) dNil') (dSeq (dIf (dCmpT pIn (dIx (dVar 0) (dC (.int 0))) (dC g_STEPS)) (dRet (dCmp (fun _ => pEq) (dCall (pure1 pLen1) (dCons (dVar 0) dNil)) (dC (.int 1)))) dNil') (dRet (dAnd (dCmp pIn (dIx (dVar 0) (dC (.int 0))) (dC g_JUMPS)) (dAnd (dCmp (fun _ => pEq) (dCall (pure1 pLen1) (dCons (dVar 0) dNil)) (dC (.int 2))) (dCallF s_is_from (dCons (dIx (dVar 0) (dC (.int 1))) (dCons (dC (.int 0)) (dCons (dVar 1) dNil)))))))))
abbrev b_is_bare_row (s_is_from : DF) : DF := fromBody 2 2 (m_is_bare_row s_is_from)
def g_JOIN : Z := (.str "join")
def m_is_row (s_is_bare_row : DF) : DS := (dSeq (dIf (dAndT (dVal (dCall (pure1 pIsI) (dCons (dVar 0) (dCons (dC (.ty "tuple")) dNil)))) (dAndT (dCmpT (fun _ => pEq) (dCall (pure1 pLen1) (dCons (dVar 0) dNil)) (dC (.int 2))) (dCmpT (fun _ => pEq) (dIx (dVar 0) (dC (.int 0))) (dC g_JOIN)))) (dRet (dCallF s_is_bare_row (dCons (dIx (dVar 0) (dC (.int 1))) (dCons (dVar 1) dNil)))) dNil') (dRet (dCallF s_is_bare_row (dCons (dVar 0) (dCons (dVar 1) dNil)))))
abbrev b_is_row (s_is_bare_row : DF) : DF := fromBody 2 2 (m_is_row s_is_bare_row)
def g_MOST_ROWS : Z := (.int 12)
def m_is_program (s_is_row : DF) : DS := (dSeq (dIf (dOrT (dNotT (dVal (dCall (pure1 pIsI) (dCons (dVar 0) (dCons (dC (.ty "tuple")) dNil))))) (dNotT (dChainT (fun _ => pLe) (fun _ => pLe) (dC (.int 1)) (dCall (pure1 pLen1) (dCons (dVar 0) dNil)) (dC g_MOST_ROWS)))) (dRet (dC (.bl false))) dNil') (dRet (dCall (pure1 pAll) (dCons (dComp (dItSeq (dVar 0)) [1] (gN 1) dYes (dCallF s_is_row (dCons (dVar 1) (dCons (dCall (pure1 pLen1) (dCons (dVar 0) dNil)) dNil)))) dNil))))
abbrev b_is_program (s_is_row : DF) : DF := fromBody 1 2 (m_is_program s_is_row)
def m__law_source : DS := (dSeq (dSet (gN 2) (dC (.int 0))) (dSeq (dIf (dCmpT (fun _ => pLt) (dVar 1) (dCall (pure1 pLen1) (dCons (dVar 0) dNil))) (dSet (gN 2) (dCall (pure1 pAbs) (dCons (dIx (dVar 0) (dVar 1)) dNil))) dNil') (dSeq (dIf (dCmpT (fun _ => pLt) (dVar 2) (dOp pPow (dC (.int 10)) (dC (.int 18)))) (dRet (dLstM (dCons (dC (.int 0)) (dCons (dOp pAdd (dC (.int 1)) (dOp pMod (dCall (pure1 pInt) (dCons (dOp pAdd (dOp pMul (dVar 2) (dC (.int 7919))) (dOp pMul (dC (.int 104729)) (dVar 1))) dNil)) (dC (.int 2147483646)))) dNil)))) dNil') (dRet (dLstM (dCons (dVar 2) (dCons (dOp pAdd (dC (.int 1)) (dOp pMod (dCall (pure1 pInt) (dCons (dOp pAdd (dVar 2) (dVar 1)) dNil)) (dC (.int 2147483646)))) dNil)))))))
abbrev b__law_source : DF := fromBody 2 3 m__law_source
def m__law_draw : DS := (dSeq (dIf (dCmpT (fun _ => pGt) (dIx (dVar 0) (dC (.int 0))) (dC (.int 0))) (dSeq (dSet (gN 2) (dOp pMod (dCall (pure1 pInt) (dCons (dIx (dVar 0) (dC (.int 0))) dNil)) (dVar 1))) (dSeq (dSub (dOp pFdiv (dIx (dVar 0) (dC (.int 0))) (dVar 1)) (dVar 0) (dC (.int 0))) (dRet (dVar 2)))) dNil') (dSeq (dSub (dOp pMod (dCall (pure1 pInt) (dCons (dOp pMul (dIx (dVar 0) (dC (.int 1))) (dC (.int 48271))) dNil)) (dC (.int 2147483647))) (dVar 0) (dC (.int 1))) (dSeq (dSet (gN 2) (dCall (pure1 pInt) (dCons (dOp pFdiv (dOp pMod (dCall (pure1 pInt) (dCons (dOp pMul (dIx (dVar 0) (dC (.int 1))) (dIx (dVar 0) (dC (.int 1)))) dNil)) (dC (.int 2147483629))) (dC (.int 64))) dNil))) (dSeq (dIf (dCmpT (fun _ => pGt) (dVar 1) (dOp pPow (dC (.int 10)) (dC (.int 7)))) (dSeq (dSub (dOp pMod (dCall (pure1 pInt) (dCons (dOp pMul (dIx (dVar 0) (dC (.int 1))) (dC (.int 48271))) dNil)) (dC (.int 2147483647))) (dVar 0) (dC (.int 1))) (dSet (gN 2) (dOp pAdd (dOp pMul (dVar 2) (dC (.int 2147483647))) (dIx (dVar 0) (dC (.int 1)))))) dNil') (dRet (dOp pMod (dVar 2) (dVar 1)))))))
abbrev b__law_draw : DF := fromBody 2 3 m__law_draw
def m__law_choice (s__law_draw : DF) : DS := (dRet (dIx (dVar 1) (dCallF s__law_draw (dCons (dVar 0) (dCons (dCall (pure1 pLen1) (dCons (dVar 1) dNil)) dNil)))))
abbrev b__law_choice (s__law_draw : DF) : DF := fromBody 2 2 (m__law_choice s__law_draw)
def m__law_row (s__law_choice : DF) (s__law_draw : DF) : DS := (dSeq (dSet (gN 3) (dCallF s__law_choice (dCons (dVar 0) (dCons (dVar 2) dNil)))) (dSeq (dSet (gN 4) (dTup (dCons (dVar 3) dNil))) (dSeq (dIf (dCmpT pNotIn (dVar 3) (dLst (dCons (dC (.str "drop")) (dCons (dC (.str "enter")) (dCons (dC (.str "leave")) dNil))))) (dSet (gN 4) (dTup (dCons (dVar 3) (dCons (dCallF s__law_draw (dCons (dVar 0) (dCons (dOp pAdd (dVar 1) (dC (.int 1))) dNil))) dNil)))) dNil') (dRet (dIfE (dCmpT (fun _ => pEq) (dCallF s__law_draw (dCons (dVar 0) (dCons (dC (.int 8)) dNil))) (dC (.int 0))) (dTup (dCons (dC (.str "join")) (dCons (dVar 4) dNil))) (dVar 4))))))
abbrev b__law_row (s__law_choice : DF) (s__law_draw : DF) : DF := fromBody 3 5 (m__law_row s__law_choice s__law_draw)
def m__law_words : DS := (dSeq (dSet (gN 1) (dLst (dCons (dC (.str "make")) (dCons (dC (.str "read")) (dCons (dC (.str "dead")) (dCons (dC (.str "drop")) (dCons (dC (.str "dropsame")) (dCons (dC (.str "old")) (dCons (dC (.str "enter")) (dCons (dC (.str "enter")) (dCons (dC (.str "leave")) (dCons (dC (.str "go")) (dCons (dC (.str "same")) (dCons (dC (.str "mine")) (dCons (dC (.str "swap")) dNil))))))))))))))) (dRet (dSl (dOp pAdd (dVar 1) (dLst (dCons (dC (.str "move")) (dCons (dC (.str "back")) (dCons (dC (.str "caught")) dNil))))) dNoPart (dPart (dVar 0)))))
abbrev b__law_words : DF := fromBody 1 2 m__law_words
def m__law_known : DS := (dSeq (dSet (gN 1) (dTup (dCons (dTup (dCons (dC (.str "make")) (dCons (dC (.int 0)) dNil))) (dCons (dTup (dCons (dC (.str "enter")) dNil)) (dCons (dTup (dCons (dC (.str "drop")) dNil)) dNil))))) (dSeq (dSet (gN 2) (dTup (dCons (dTup (dCons (dC (.str "make")) (dCons (dC (.int 0)) dNil))) (dCons (dTup (dCons (dC (.str "enter")) dNil)) (dCons (dTup (dCons (dC (.str "leave")) dNil)) (dCons (dTup (dCons (dC (.str "drop")) dNil)) dNil)))))) (dSeq (dSet (gN 3) (dTup (dCons (dTup (dCons (dC (.str "make")) (dCons (dC (.int 2)) dNil))) (dCons (dTup (dCons (dC (.str "go")) (dCons (dC (.int 4)) dNil))) (dCons (dTup (dCons (dC (.str "read")) (dCons (dC (.int 0)) dNil))) (dCons (dTup (dCons (dC (.str "swap")) (dCons (dC (.int 0)) dNil))) (dCons (dTup (dCons (dC (.str "enter")) dNil)) (dCons (dTup (dCons (dC (.str "drop")) dNil)) dNil)))))))) (dSeq (dSet (gN 4) (dLst (dCons (dVar 2) (dCons (dOp pAdd (dTup (dCons (dTup (dCons (dC (.str "old")) (dCons (dC (.int 2)) dNil))) (dCons (dTup (dCons (dC (.str "drop")) dNil)) dNil))) (dVar 1)) (dCons (dOp pAdd (dTup (dCons (dTup (dCons (dC (.str "read")) (dCons (dC (.int 3)) dNil))) (dCons (dTup (dCons (dC (.str "dead")) (dCons (dC (.int 0)) dNil))) (dCons (dTup (dCons (dC (.str "drop")) dNil)) dNil)))) (dVar 1)) dNil))))) (dSeq (dSet (gN 4) (dOp pAdd (dVar 4) (dLst (dCons (dOp pAdd (dTup (dCons (dTup (dCons (dC (.str "read")) (dCons (dC (.int 3)) dNil))) (dCons (dTup (dCons (dC (.str "dead")) (dCons (dC (.int 0)) dNil))) (dCons (dTup (dCons (dC (.str "dropsame")) (dCons (dC (.int 0)) dNil))) dNil)))) (dVar 1)) (dCons (dVar 3) (dCons (dTup (dCons (dTup (dCons (dC (.str "enter")) dNil)) (dCons (dTup (dCons (dC (.str "leave")) dNil)) dNil))) dNil)))))) (dRet (dIx (dOp pAdd (dVar 4) (dLst (dCons (dTup (dCons (dTup (dCons (dC (.str "move")) (dCons (dC (.int 1)) dNil))) (dCons (dTup (dCons (dC (.str "make")) (dCons (dC (.int 2)) dNil))) (dCons (dTup (dCons (dC (.str "enter")) dNil)) (dCons (dTup (dCons (dC (.str "back")) (dCons (dC (.int 0)) dNil))) dNil))))) dNil))) (dVar 0))))))))
abbrev b__law_known : DF := fromBody 1 5 m__law_known
def m__law_lean (s__law_draw : DF) (s__law_words : DF) (s__law_choice : DF) (s__law_row : DF) : DS := (dSeq (dSet (gN 2) (dOp pAdd (dC (.int 2)) (dCallF s__law_draw (dCons (dVar 0) (dCons (dOp pSub (dVar 1) (dC (.int 1))) dNil))))) (dSeq (dSet (gN 3) (dLst (dCons (dC (.str "make")) (dCons (dC (.str "drop")) (dCons (dC (.str "old")) (dCons (dC (.str "enter")) (dCons (dC (.str "enter")) (dCons (dC (.str "leave")) (dCons (dC (.str "go")) (dCons (dC (.str "mine")) (dCons (dC (.str "move")) (dCons (dC (.str "back")) dNil)))))))))))) (dSeq (dSet (gN 4) (dIfE (dCmpT (fun _ => pLt) (dVar 2) (dC (.int 4))) (dCallF s__law_words (dCons (dC (.int 16)) dNil)) (dCallF s__law_choice (dCons (dVar 0) (dCons (dLst (dCons (dCallF s__law_words (dCons (dC (.int 13)) dNil)) (dCons (dVar 3) dNil))) dNil))))) (dSeq (dSet (gN 5) (dCompM (dItRange (dCons (dVar 2) dNil)) [6] (gN 6) dYes (dCallF s__law_row (dCons (dVar 0) (dCons (dVar 2) (dCons (dVar 4) dNil)))))) (dSeq (dSub (dTup (dCons (dC (.str "enter")) dNil)) (dVar 5) (dCallF s__law_draw (dCons (dVar 0) (dCons (dOp pSub (dVar 2) (dC (.int 1))) dNil)))) (dRet (dCall (pure1 pTuple) (dCons (dVar 5) dNil))))))))
abbrev b__law_lean (s__law_draw : DF) (s__law_words : DF) (s__law_choice : DF) (s__law_row : DF) : DF := fromBody 2 7 (m__law_lean s__law_draw s__law_words s__law_choice s__law_row)
def m__law_program (s__law_draw : DF) (s__law_lean : DF) (s__law_known : DF) (s__law_row : DF) (s__law_words : DF) : DS := (dSeq (dSet (gN 2) (dCallF s__law_draw (dCons (dVar 0) (dCons (dC (.int 5)) dNil)))) (dSeq (dIf (dCmpT (fun _ => pLt) (dVar 2) (dC (.int 2))) (dRet (dCallF s__law_lean (dCons (dVar 0) (dCons (dVar 1) dNil)))) dNil') (dSeq (dSet (gN 3) (dCall mList (dCons (dCallF s__law_known (dCons (dCallF s__law_draw (dCons (dVar 0) (dCons (dC (.int 7)) dNil))) dNil)) dNil))) (dSeq (dIf (dCmpT (fun _ => pLt) (dVar 2) (dC (.int 4))) (dSeq (dSet (gN 4) (dIfE (dCmpT (fun _ => pLt) (dCall (pure1 pLen1) (dCons (dVar 3) dNil)) (dC (.int 5))) (dC (.int 16)) (dC (.int 12)))) (dSeq (dSet (gN 5) (dCallF s__law_draw (dCons (dVar 0) (dCons (dCall (pure1 pLen1) (dCons (dVar 3) dNil)) dNil)))) (dSub (dCallF s__law_row (dCons (dVar 0) (dCons (dCall (pure1 pLen1) (dCons (dVar 3) dNil)) (dCons (dCallF s__law_words (dCons (dVar 4) dNil)) dNil)))) (dVar 3) (dVar 5)))) dNil') (dRet (dCall (pure1 pTuple) (dCons (dVar 3) dNil)))))))
abbrev b__law_program (s__law_draw : DF) (s__law_lean : DF) (s__law_known : DF) (s__law_row : DF) (s__law_words : DF) : DF := fromBody 2 6 (m__law_program s__law_draw s__law_lean s__law_known s__law_row s__law_words)
def m__law_short (s__law_draw : DF) (s__law_row : DF) (s__law_words : DF) : DS := (dSeq (dSet (gN 2) (dOp pAdd (dC (.int 2)) (dCallF s__law_draw (dCons (dVar 0) (dCons (dOp pSub (dVar 1) (dC (.int 1))) dNil))))) (dSeq (dSet (gN 3) (dCompM (dItRange (dCons (dVar 2) dNil)) [4] (gN 4) dYes (dCallF s__law_row (dCons (dVar 0) (dCons (dVar 2) (dCons (dCallF s__law_words (dCons (dC (.int 16)) dNil)) dNil)))))) (dSeq (dSub (dTup (dCons (dC (.str "enter")) dNil)) (dVar 3) (dCallF s__law_draw (dCons (dVar 0) (dCons (dOp pSub (dVar 2) (dC (.int 1))) dNil)))) (dRet (dCall (pure1 pTuple) (dCons (dVar 3) dNil))))))
abbrev b__law_short (s__law_draw : DF) (s__law_row : DF) (s__law_words : DF) : DF := fromBody 2 5 (m__law_short s__law_draw s__law_row s__law_words)
def m__law_from : DS := (dRet (dAnd (dCall (pure1 pIsI) (dCons (dVar 0) (dCons (dC (.ty "int")) dNil))) (dAnd (dNot (dCall (pure1 pIsI) (dCons (dVar 0) (dCons (dC (.ty "bool")) dNil)))) (dChain (fun _ => pLe) (fun _ => pLe) (dVar 1) (dVar 0) (dVar 2)))))
abbrev b__law_from : DF := fromBody 3 3 m__law_from
def m__law_good_row (s__law_from : DF) : DS := (dSeq (dIf (dAndT (dVal (dCall (pure1 pIsI) (dCons (dVar 0) (dCons (dC (.ty "tuple")) dNil)))) (dAndT (dCmpT (fun _ => pEq) (dCall (pure1 pLen1) (dCons (dVar 0) dNil)) (dC (.int 2))) (dCmpT (fun _ => pEq) (dIx (dVar 0) (dC (.int 0))) (dC (.str "join"))))) (dSeq (dSet (gN 0) (dIx (dVar 0) (dC (.int 1)))) (dIf (dAndT (dVal (dCall (pure1 pIsI) (dCons (dVar 0) (dCons (dC (.ty "tuple")) dNil)))) (dAndT (dCmpT (fun _ => pGt) (dCall (pure1 pLen1) (dCons (dVar 0) dNil)) (dC (.int 0))) (dCmpT (fun _ => pEq) (dIx (dVar 0) (dC (.int 0))) (dC (.str "join"))))) (dRet (dC (.bl false))) dNil')) dNil') (dSeq (dIf (dOrT (dNotT (dVal (dCall (pure1 pIsI) (dCons (dVar 0) (dCons (dC (.ty "tuple")) dNil))))) (dOrT (dCmpT pNotIn (dCall (pure1 pLen1) (dCons (dVar 0) dNil)) (dLst (dCons (dC (.int 1)) (dCons (dC (.int 2)) dNil)))) (dNotT (dVal (dCall (pure1 pIsI) (dCons (dIx (dVar 0) (dC (.int 0))) (dCons (dC (.ty "str")) dNil))))))) (dRet (dC (.bl false))) dNil') (dSeq (dIf (dCmpT (fun _ => pEq) (dCall (pure1 pLen1) (dCons (dVar 0) dNil)) (dC (.int 1))) (dRet (dCmp pIn (dIx (dVar 0) (dC (.int 0))) (dLst (dCons (dC (.str "drop")) (dCons (dC (.str "enter")) (dCons (dC (.str "leave")) dNil)))))) dNil') (dSeq (dSet (gN 2) (dLst (dCons (dC (.str "make")) (dCons (dC (.str "read")) (dCons (dC (.str "dead")) (dCons (dC (.str "old")) (dCons (dC (.str "same")) (dCons (dC (.str "mine")) (dCons (dC (.str "dropsame")) (dCons (dC (.str "swap")) (dCons (dC (.str "move")) (dCons (dC (.str "back")) (dCons (dC (.str "caught")) (dCons (dC (.str "go")) dNil)))))))))))))) (dRet (dAnd (dCmp pIn (dIx (dVar 0) (dC (.int 0))) (dVar 2)) (dCallF s__law_from (dCons (dIx (dVar 0) (dC (.int 1))) (dCons (dC (.int 0)) (dCons (dVar 1) dNil))))))))))
abbrev b__law_good_row (s__law_from : DF) : DF := fromBody 2 3 (m__law_good_row s__law_from)
def m__law_good_program (s__law_good_row : DF) : DS := (dSeq (dIf (dOrT (dNotT (dVal (dCall (pure1 pIsI) (dCons (dVar 0) (dCons (dC (.ty "tuple")) dNil))))) (dNotT (dChainT (fun _ => pLe) (fun _ => pLe) (dC (.int 1)) (dCall (pure1 pLen1) (dCons (dVar 0) dNil)) (dC (.int 12))))) (dRet (dC (.bl false))) dNil') (dRet (dCmp (fun _ => pEq) (dComp (dItSeq (dVar 0)) [1] (gN 1) (dNotT (dVal (dCallF s__law_good_row (dCons (dVar 1) (dCons (dCall (pure1 pLen1) (dCons (dVar 0) dNil)) dNil))))) (dVar 1)) (dLst dNil))))
abbrev b__law_good_program (s__law_good_row : DF) : DF := fromBody 1 2 (m__law_good_program s__law_good_row)
def m__law_changed (s__law_draw : DF) (s__law_changed : DF) (s__law_choice : DF) : DS := (dSeq (dSet (gN 2) (dCallF s__law_draw (dCons (dVar 0) (dCons (dC (.int 7)) dNil)))) (dSeq (dIf (dAndT (dVal (dCall (pure1 pIsI) (dCons (dVar 1) (dCons (dC (.ty "tuple")) dNil)))) (dAndT (dCmpT (fun _ => pNe) (dVar 1) (dTup dNil)) (dCmpT (fun _ => pGt) (dVar 2) (dC (.int 0))))) (dSeq (dSet (gN 4) (dCallF s__law_draw (dCons (dVar 0) (dCons (dCall (pure1 pLen1) (dCons (dVar 1) dNil)) dNil)))) (dSeq (dIf (dCmpT (fun _ => pEq) (dVar 2) (dC (.int 1))) (dRet (dOp pAdd (dSl (dVar 1) dNoPart (dPart (dVar 4))) (dSl (dVar 1) (dPart (dOp pAdd (dVar 4) (dC (.int 1)))) dNoPart))) dNil') (dSeq (dIf (dCmpT (fun _ => pEq) (dVar 2) (dC (.int 2))) (dRet (dOp pAdd (dSl (dVar 1) dNoPart (dPart (dOp pAdd (dVar 4) (dC (.int 1))))) (dSl (dVar 1) (dPart (dVar 4)) dNoPart))) dNil') (dSeq (dIf (dCmpT (fun _ => pEq) (dVar 2) (dC (.int 3))) (dRet (dCall (pure1 pList) (dCons (dVar 1) dNil))) dNil') (dRet (dOp pAdd (dOp pAdd (dSl (dVar 1) dNoPart (dPart (dVar 4))) (dTup (dCons (dCallF s__law_changed (dCons (dVar 0) (dCons (dIx (dVar 1) (dVar 4)) dNil))) dNil))) (dSl (dVar 1) (dPart (dOp pAdd (dVar 4) (dC (.int 1)))) dNoPart))))))) dNil') (dSeq (dSet (gN 3) (dLst (dCons (dC .non) (dCons (dC (.bl true)) (dCons (dC (.bl false)) (dCons (dC (.int 0)) (dCons (dC (.int 1)) (dCons (dC (.int 4)) (dCons (dC (.int 12)) (dCons (dNeg (dC (.int 1))) (dCons (dC (.int 999)) (dCons (dC (.int 1000)) (dCons (dC (.str "make")) (dCons (dC (.str "join")) (dCons (dC (.str "drop")) (dCons (dC (.str "old")) (dCons (dC (.str "Make")) (dCons (dC (.str "")) (dCons (dC (.str "start")) (dCons (dC (.str "fresh")) dNil)))))))))))))))))))) (dRet (dCallF s__law_choice (dCons (dVar 0) (dCons (dOp pAdd (dVar 3) (dLst (dCons (dTup dNil) (dCons (dTup (dCons (dC (.int 0)) dNil)) (dCons (dTup (dCons (dC (.str "drop")) dNil)) (dCons (dTup (dCons (dC (.str "enter")) (dCons (dC (.int 0)) dNil))) (dCons (dTup (dCons (dC (.str "go")) dNil)) (dCons (dTup (dCons (dC (.str "go")) (dCons (dC (.int 0)) dNil))) (dCons (dTup (dCons (dC (.int 0)) (dCons (dC (.int 0)) dNil))) dNil))))))))) dNil)))))))
abbrev b__law_changed (s__law_draw : DF) (s__law_changed : DF) (s__law_choice : DF) : DF := fromBody 2 5 (m__law_changed s__law_draw s__law_changed s__law_choice)
def m_law_k01 (s__law_source : DF) (s__law_choice : DF) (s__law_program : DF) (s__law_short : DF) (s_is_program : DF) (s__law_good_program : DF) (s__law_changed : DF) : DS := (dSeq (dSet (gT (gsCons (gN 1) (gsCons (gN 2) gsNil))) (dTup (dCons (dTup (dCons (dC (.str "go")) (dCons (dC (.int 12)) dNil))) (dCons (dTup (dCons (dC (.str "drop")) dNil)) dNil)))) (dSeq (dSet (gN 3) (dLst (dCons (dTup (dCons (dTup (dCons (dC (.str "go")) (dCons (dC (.int 1)) dNil))) dNil)) (dCons (dTup (dCons (dTup (dCons (dC (.str "go")) (dCons (dC (.int 2)) dNil))) dNil)) (dCons (dOp pMul (dTup (dCons (dVar 1) dNil)) (dC (.int 12))) (dCons (dOp pMul (dTup (dCons (dVar 1) dNil)) (dC (.int 13))) (dCons (dTup dNil) (dCons (dC .non) (dCons (dLst (dCons (dVar 2) dNil)) (dCons (dTup (dCons (dLst (dCons (dC (.str "drop")) dNil)) dNil)) (dCons (dTup (dCons (dTup (dCons (dC (.str "drop")) (dCons (dC (.int 0)) dNil))) dNil)) dNil))))))))))) (dSeq (dSet (gN 3) (dOp pAdd (dVar 3) (dLst (dCons (dTup (dCons (dTup (dCons (dC (.str "go")) (dCons (dNeg (dC (.int 1))) dNil))) dNil)) (dCons (dTup (dCons (dTup (dCons (dC (.str "go")) (dCons (dC (.bl true)) dNil))) dNil)) (dCons (dTup (dCons (dTup (dCons (dC (.str "join")) (dCons (dVar 2) dNil))) dNil)) (dCons (dTup (dCons (dTup (dCons (dC (.str "join")) (dCons (dTup (dCons (dC (.str "join")) (dCons (dVar 2) dNil))) dNil))) dNil)) (dCons (dTup (dCons (dC (.str "drop")) dNil)) dNil)))))))) (dSeq (dSet (gN 3) (dOp pAdd (dVar 3) (dLst (dCons (dTup (dCons (dTup (dCons (dC (.str "join")) dNil)) dNil)) (dCons (dTup (dCons (dTup (dCons (dC (.str "join")) (dCons (dVar 2) (dCons (dVar 2) dNil)))) dNil)) (dCons (dTup (dCons (dTup (dCons (dC (.str "wait")) (dCons (dC (.int 0)) dNil))) dNil)) (dCons (dTup (dCons (dTup (dCons (dC (.str "go")) (dCons (dC (.str "0")) dNil))) dNil)) (dCons (dTup (dCons (dTup dNil) dNil)) (dCons (dTup (dCons (dTup (dCons (dC (.str "enter")) dNil)) dNil)) dNil))))))))) (dSeq (dSet (gN 3) (dOp pAdd (dVar 3) (dComp (dItSeq (dLst (dCons (dC (.str "dropsame")) (dCons (dC (.str "swap")) (dCons (dC (.str "move")) (dCons (dC (.str "back")) (dCons (dC (.str "caught")) (dCons (dC (.str "same")) (dCons (dC (.str "mine")) (dCons (dC (.str "old")) dNil)))))))))) [9] (gN 9) dYes (dTup (dCons (dTup (dCons (dVar 9) (dCons (dC (.int 0)) dNil))) dNil))))) (dSeq (dFor (dItRange (dCons (dOp pAdd (dC (.int 1)) (dCall (pure1 pMin2) (dCons (dCall (pure1 pLen1) (dCons (dVar 0) dNil)) (dCons (dC (.int 8)) dNil)))) dNil)) (gN 4) (dSeq (dSet (gN 5) (dCallF s__law_source (dCons (dVar 0) (dCons (dVar 4) dNil)))) (dSeq (dSet (gN 6) (dCallF s__law_choice (dCons (dVar 5) (dCons (dLst (dCons (dCallF s__law_short (dCons (dVar 5) (dCons (dC (.int 12)) dNil))) (dCons (dCallF s__law_program (dCons (dVar 5) (dCons (dC (.int 6)) dNil))) dNil))) dNil)))) (dFor (dItRange (dCons (dC (.int 5)) dNil)) (gN 7) (dSeq (dSet (gN 8) (dCallF s_is_program (dCons (dVar 6) dNil))) (dSeq (dIf (dOrT (dNotT (dVal (dCall (pure1 pIsI) (dCons (dVar 8) (dCons (dC (.ty "bool")) dNil))))) (dCmpT (fun _ => pNe) (dVar 8) (dCallF s__law_good_program (dCons (dVar 6) dNil)))) (dRet (dC (.bl false))) dNil') (dSet (gN 6) (dCallF s__law_changed (dCons (dVar 5) (dCons (dVar 6) dNil)))))))))) (dRet (dCmp (fun _ => pEq) (dComp (dItSeq (dVar 3)) [6] (gN 6) (dCmpT (fun _ => pNe) (dCallF s_is_program (dCons (dVar 6) dNil)) (dCallF s__law_good_program (dCons (dVar 6) dNil))) (dVar 6)) (dLst dNil)))))))))
abbrev b_law_k01 (s__law_source : DF) (s__law_choice : DF) (s__law_program : DF) (s__law_short : DF) (s_is_program : DF) (s__law_good_program : DF) (s__law_changed : DF) : DF := fromBody 1 10 (m_law_k01 s__law_source s__law_choice s__law_program s__law_short s_is_program s__law_good_program s__law_changed)
def m_need_program (s_is_program : DF) : DS := (dIf (dNotT (dVal (dCallF s_is_program (dCons (dVar 0) dNil)))) (dRaise "InvalidProgram") dNil')
abbrev b_need_program (s_is_program : DF) : DF := fromBody 1 1 (m_need_program s_is_program)
def m_bare_row : DS := (dRet (dIfE (dCmpT (fun _ => pEq) (dIx (dVar 0) (dC (.int 0))) (dC g_JOIN)) (dIx (dVar 0) (dC (.int 1))) (dVar 0)))
abbrev b_bare_row : DF := fromBody 1 1 m_bare_row
def m_with_joins (s_bare_row : DF) : DS := (dSeq (dSet (gN 2) (dTup dNil)) (dSeq (dFor (dItEnum (dCons (dVar 0) dNil)) (gT (gsCons (gN 3) (gsCons (gN 4) gsNil))) (dSet (gN 2) (dOp pAdd (dVar 2) (dIfE (dCmpT pIn (dVar 3) (dVar 1)) (dTup (dCons (dTup (dCons (dC g_JOIN) (dCons (dCallF s_bare_row (dCons (dVar 4) dNil)) dNil))) dNil)) (dTup (dCons (dCallF s_bare_row (dCons (dVar 4) dNil)) dNil)))))) (dRet (dVar 2))))
abbrev b_with_joins (s_bare_row : DF) : DF := fromBody 2 5 (m_with_joins s_bare_row)
def m_joined (s_need_program : DF) (s_is_from : DF) (s_with_joins : DF) : DS := (dSeq (dDrop (dCallF s_need_program (dCons (dVar 0) dNil))) (dSeq (dIf (dOrT (dNotT (dVal (dCall (pure1 pIsI) (dCons (dVar 1) (dCons (dC (.ty "tuple")) dNil))))) (dNotT (dVal (dCall (pure1 pAll) (dCons (dComp (dItSeq (dVar 1)) [4] (gN 4) dYes (dCallF s_is_from (dCons (dVar 4) (dCons (dC (.int 0)) (dCons (dOp pSub (dCall (pure1 pLen1) (dCons (dVar 0) dNil)) (dC (.int 1))) dNil))))) dNil))))) (dRaise "InvalidRows") dNil') (dSeq (dIf (dNotT (dVal (dCall (pure1 pAll) (dCons (dComp (dItZip (dCons (dVar 1) (dCons (dSl (dVar 1) (dPart (dC (.int 1))) dNoPart) dNil))) [2, 3] (gT (gsCons (gN 2) (gsCons (gN 3) gsNil))) dYes (dCmp (fun _ => pLt) (dVar 2) (dVar 3))) dNil)))) (dRaise "InvalidRows") dNil') (dRet (dCallF s_with_joins (dCons (dVar 0) (dCons (dVar 1) dNil)))))))
abbrev b_joined (s_need_program : DF) (s_is_from : DF) (s_with_joins : DF) : DF := fromBody 2 5 (m_joined s_need_program s_is_from s_with_joins)
def m__law_bare : DS := (dRet (dIfE (dCmpT (fun _ => pEq) (dIx (dVar 0) (dC (.int 0))) (dC (.str "join"))) (dIx (dVar 0) (dC (.int 1))) (dVar 0)))
abbrev b__law_bare : DF := fromBody 1 1 m__law_bare
def m__law_tried (s_joined : DF) : DS := (dSeq (dSet (gN 2) (dC (.str ""))) (dSeq (dTry (dDrop (dCallF s_joined (dCons (dVar 0) (dCons (dVar 1) dNil)))) (("InvalidProgram", [("InvalidProgram", true), ("InvalidRows", false)], (dSet (gN 2) (dC (.str "program")))) :: (("InvalidRows", [("InvalidProgram", false), ("InvalidRows", true)], (dSet (gN 2) (dC (.str "rows")))) :: []))) (dRet (dVar 2))))
abbrev b__law_tried (s_joined : DF) : DF := fromBody 2 3 (m__law_tried s_joined)
def m_law_k02 (s__law_source : DF) (s__law_choice : DF) (s__law_program : DF) (s__law_short : DF) (s__law_draw : DF) (s_joined : DF) (s__law_bare : DF) (s_is_program : DF) (s__law_tried : DF) : DS := (dSeq (dFor (dItRange (dCons (dOp pAdd (dC (.int 1)) (dCall (pure1 pMin2) (dCons (dCall (pure1 pLen1) (dCons (dVar 0) dNil)) (dCons (dC (.int 8)) dNil)))) dNil)) (gN 1) (dSeq (dSet (gN 2) (dCallF s__law_source (dCons (dVar 0) (dCons (dVar 1) dNil)))) (dSeq (dSet (gN 3) (dCallF s__law_choice (dCons (dVar 2) (dCons (dLst (dCons (dCallF s__law_short (dCons (dVar 2) (dCons (dC (.int 12)) dNil))) (dCons (dCallF s__law_program (dCons (dVar 2) (dCons (dC (.int 6)) dNil))) dNil))) dNil)))) (dSeq (dFor (dItRange (dCons (dC (.int 4)) dNil)) (gN 4) (dSeq (dSet (gN 7) (dCall (pure1 pTuple) (dCons (dComp (dItRange (dCons (dCall (pure1 pLen1) (dCons (dVar 3) dNil)) dNil)) [10] (gN 10) (dCmpT (fun _ => pEq) (dCallF s__law_draw (dCons (dVar 2) (dCons (dC (.int 2)) dNil))) (dC (.int 0))) (dVar 10)) dNil))) (dSeq (dSet (gN 8) (dCallF s_joined (dCons (dVar 3) (dCons (dVar 7) dNil)))) (dSeq (dSet (gN 9) (dTup dNil)) (dSeq (dFor (dItEnum (dCons (dVar 3) dNil)) (gT (gsCons (gN 10) (gsCons (gN 11) gsNil))) (dSeq (dSet (gN 12) (dCallF s__law_bare (dCons (dVar 11) dNil))) (dSet (gN 9) (dOp pAdd (dVar 9) (dTup (dCons (dIfE (dCmpT pIn (dVar 10) (dVar 7)) (dTup (dCons (dC (.str "join")) (dCons (dVar 12) dNil))) (dVar 12)) dNil)))))) (dSeq (dIf (dOrT (dCmpT (fun _ => pNe) (dVar 8) (dVar 9)) (dOrT (dNotT (dVal (dCall (pure1 pIsI) (dCons (dVar 8) (dCons (dC (.ty "tuple")) dNil))))) (dNotT (dVal (dCallF s_is_program (dCons (dVar 8) dNil)))))) (dRet (dC (.bl false))) dNil') (dSeq (dIf (dCmpT (fun _ => pNe) (dCallF s_joined (dCons (dVar 8) (dCons (dTup dNil) dNil))) (dCall (pure1 pTuple) (dCons (dComp (dItSeq (dVar 3)) [11] (gN 11) dYes (dCallF s__law_bare (dCons (dVar 11) dNil))) dNil))) (dRet (dC (.bl false))) dNil') (dIf (dCmpT (fun _ => pNe) (dCallF s_joined (dCons (dVar 9) (dCons (dVar 7) dNil))) (dVar 8)) (dRet (dC (.bl false))) dNil')))))))) (dSeq (dSet (gN 5) (dCall (pure1 pLen1) (dCons (dVar 3) dNil))) (dSeq (dSet (gN 6) (dLst (dCons (dTup (dCons (dVar 5) dNil)) (dCons (dTup (dCons (dNeg (dC (.int 1))) dNil)) (dCons (dTup (dCons (dC (.int 1)) (dCons (dC (.int 0)) dNil))) (dCons (dTup (dCons (dC (.int 0)) (dCons (dC (.int 0)) dNil))) (dCons (dLst (dCons (dC (.int 0)) dNil)) (dCons (dC .non) (dCons (dC (.int 0)) (dCons (dTup (dCons (dC (.bl true)) dNil)) (dCons (dTup (dCons (dC (.str "0")) dNil)) (dCons (dTup (dCons (dC (.int 0)) (dCons (dC .non) dNil))) dNil)))))))))))) (dIf (dCmpT (fun _ => pNe) (dComp (dItSeq (dVar 6)) [7] (gN 7) (dCmpT (fun _ => pNe) (dCallF s__law_tried (dCons (dVar 3) (dCons (dVar 7) dNil))) (dC (.str "rows"))) (dVar 7)) (dLst dNil)) (dRet (dC (.bl false))) dNil'))))))) (dRet (dCmp (fun _ => pEq) (dComp (dItSeq (dLst (dCons (dTup dNil) (dCons (dC .non) (dCons (dTup (dCons (dTup (dCons (dC (.str "go")) (dCons (dC (.int 2)) dNil))) dNil)) dNil))))) [13] (gN 13) dYes (dCallF s__law_tried (dCons (dVar 13) (dCons (dC .non) dNil)))) (dOp pMul (dLst (dCons (dC (.str "program")) dNil)) (dC (.int 3))))))
abbrev b_law_k02 (s__law_source : DF) (s__law_choice : DF) (s__law_program : DF) (s__law_short : DF) (s__law_draw : DF) (s_joined : DF) (s__law_bare : DF) (s_is_program : DF) (s__law_tried : DF) : DF := fromBody 1 14 (m_law_k02 s__law_source s__law_choice s__law_program s__law_short s__law_draw s_joined s__law_bare s_is_program s__law_tried)
def g_MOST_SLOTS : Z := (.int 3)
def m_are_programs (s_is_program : DF) : DS := (dSeq (dIf (dOrT (dNotT (dVal (dCall (pure1 pIsI) (dCons (dVar 0) (dCons (dC (.ty "tuple")) dNil))))) (dNotT (dChainT (fun _ => pLe) (fun _ => pLe) (dC (.int 1)) (dCall (pure1 pLen1) (dCons (dVar 0) dNil)) (dC g_MOST_SLOTS)))) (dRet (dC (.bl false))) dNil') (dRet (dCall (pure1 pAll) (dCons (dComp (dItSeq (dVar 0)) [1] (gN 1) dYes (dCallF s_is_program (dCons (dVar 1) dNil))) dNil))))
abbrev b_are_programs (s_is_program : DF) : DF := fromBody 1 2 (m_are_programs s_is_program)
def m_need_programs (s_are_programs : DF) : DS := (dIf (dNotT (dVal (dCallF s_are_programs (dCons (dVar 0) dNil)))) (dRaise "InvalidPrograms") dNil')
abbrev b_need_programs (s_are_programs : DF) : DF := fromBody 1 1 (m_need_programs s_are_programs)
def g_MOST_MARK : Z := (.int 999)
def m_is_mark (s_is_from : DF) : DS := (dRet (dCallF s_is_from (dCons (dVar 0) (dCons (dC (.int 0)) (dCons (dC g_MOST_MARK) dNil)))))
abbrev b_is_mark (s_is_from : DF) : DF := fromBody 1 1 (m_is_mark s_is_from)
def m_is_process (s_is_from : DF) (s_is_mark : DF) : DS := (dSeq (dIf (dOrT (dNotT (dVal (dCall (pure1 pIsI) (dCons (dVar 1) (dCons (dC (.ty "tuple")) dNil))))) (dOrT (dCmpT (fun _ => pNe) (dCall (pure1 pLen1) (dCons (dVar 1) dNil)) (dC (.int 5))) (dNotT (dVal (dCallF s_is_from (dCons (dIx (dVar 1) (dC (.int 0))) (dCons (dC (.int 0)) (dCons (dOp pSub (dCall (pure1 pLen1) (dCons (dVar 0) dNil)) (dC (.int 1))) dNil)))))))) (dRet (dC (.bl false))) dNil') (dSeq (dIf (dOrT (dNotT (dVal (dCallF s_is_mark (dCons (dIx (dVar 1) (dC (.int 1))) dNil)))) (dNotT (dVal (dCall (pure1 pIsI) (dCons (dIx (dVar 1) (dC (.int 4))) (dCons (dC (.ty "bool")) dNil)))))) (dRet (dC (.bl false))) dNil') (dRet (dCall (pure1 pAll) (dCons (dComp (dItSeq (dSl (dVar 1) (dPart (dC (.int 2))) (dPart (dC (.int 4))))) [2] (gN 2) dYes (dOr (dCmp (fun _ => pIsN) (dVar 2) (dC .non)) (dCallF s_is_mark (dCons (dVar 2) dNil)))) dNil)))))
abbrev b_is_process (s_is_from : DF) (s_is_mark : DF) : DF := fromBody 2 3 (m_is_process s_is_from s_is_mark)
def m_live_marks : DS := (dRet (dComp (dItSeq (dIx (dVar 0) (dC (.int 1)))) [1] (gN 1) (dCmpT (fun _ => pNotN) (dVar 1) (dC .non)) (dIx (dVar 1) (dC (.int 1)))))
abbrev b_live_marks : DF := fromBody 1 2 m_live_marks
def m_is_stand (s_need_programs : DF) (s_is_mark : DF) (s_is_process : DF) (s_live_marks : DF) : DS := (dSeq (dDrop (dCallF s_need_programs (dCons (dVar 0) dNil))) (dSeq (dIf (dOrT (dNotT (dVal (dCall (pure1 pIsI) (dCons (dVar 1) (dCons (dC (.ty "tuple")) dNil))))) (dOrT (dCmpT (fun _ => pNe) (dCall (pure1 pLen1) (dCons (dVar 1) dNil)) (dC (.int 2))) (dNotT (dOrT (dCmpT (fun _ => pIsN) (dIx (dVar 1) (dC (.int 0))) (dC .non)) (dVal (dCallF s_is_mark (dCons (dIx (dVar 1) (dC (.int 0))) dNil))))))) (dRet (dC (.bl false))) dNil') (dSeq (dIf (dOrT (dNotT (dVal (dCall (pure1 pIsI) (dCons (dIx (dVar 1) (dC (.int 1))) (dCons (dC (.ty "tuple")) dNil))))) (dCmpT (fun _ => pNe) (dCall (pure1 pLen1) (dCons (dIx (dVar 1) (dC (.int 1))) dNil)) (dCall (pure1 pLen1) (dCons (dVar 0) dNil)))) (dRet (dC (.bl false))) dNil') (dSeq (dFor (dItZip (dCons (dVar 0) (dCons (dIx (dVar 1) (dC (.int 1))) dNil))) (gT (gsCons (gN 2) (gsCons (gN 3) gsNil))) (dIf (dAndT (dCmpT (fun _ => pNotN) (dVar 3) (dC .non)) (dNotT (dVal (dCallF s_is_process (dCons (dVar 2) (dCons (dVar 3) dNil)))))) (dRet (dC (.bl false))) dNil')) (dSeq (dSet (gN 4) (dCallF s_live_marks (dCons (dVar 1) dNil))) (dRet (dCmp (fun _ => pEq) (dLenSet (dVar 4)) (dCall (pure1 pLen1) (dCons (dVar 4) dNil)))))))))
abbrev b_is_stand (s_need_programs : DF) (s_is_mark : DF) (s_is_process : DF) (s_live_marks : DF) : DF := fromBody 2 5 (m_is_stand s_need_programs s_is_mark s_is_process s_live_marks)
def m_empty_stand : DS := (dRet (dTup (dCons (dC .non) (dCons (dOp pMul (dTup (dCons (dC .non) dNil)) (dCall (pure1 pLen1) (dCons (dVar 0) dNil))) dNil))))
abbrev b_empty_stand : DF := fromBody 1 1 m_empty_stand
def m_first_stand (s_need_programs : DF) (s_empty_stand : DF) : DS := (dSeq (dDrop (dCallF s_need_programs (dCons (dVar 0) dNil))) (dRet (dCallF s_empty_stand (dCons (dVar 0) dNil))))
abbrev b_first_stand (s_need_programs : DF) (s_empty_stand : DF) : DF := fromBody 1 1 (m_first_stand s_need_programs s_empty_stand)
def m__law_process (s__law_choice : DF) (s__law_draw : DF) : DS := (dSeq (dSet (gL (gsCons (gN 3) (gsCons (gN 4) gsNil))) (dComp (dItRange (dCons (dC (.int 2)) dNil)) [5] (gN 5) dYes (dCallF s__law_choice (dCons (dVar 0) (dCons (dOp pAdd (dVar 2) (dLst (dCons (dC .non) (dCons (dC .non) dNil)))) dNil))))) (dRet (dTup (dCons (dCallF s__law_draw (dCons (dVar 0) (dCons (dCall (pure1 pLen1) (dCons (dVar 1) dNil)) dNil))) (dCons (dC (.int 0)) (dCons (dVar 3) (dCons (dVar 4) (dCons (dCmp (fun _ => pEq) (dCallF s__law_draw (dCons (dVar 0) (dCons (dC (.int 3)) dNil))) (dC (.int 0))) dNil))))))))
abbrev b__law_process (s__law_choice : DF) (s__law_draw : DF) : DF := fromBody 3 6 (m__law_process s__law_choice s__law_draw)
def m__law_stand (s__law_choice : DF) (s__law_draw : DF) (s__law_process : DF) : DS := (dSeq (dSet (gN 2) (dCallF s__law_choice (dCons (dVar 0) (dCons (dLst (dCons (dC (.int 4)) (dCons (dC (.int 8)) (dCons (dC (.int 1000)) dNil)))) dNil)))) (dSeq (dSet (gN 3) (dComp (dItRange (dCons (dC (.int 4)) dNil)) [9] (gN 9) dYes (dCallF s__law_draw (dCons (dVar 0) (dCons (dVar 2) dNil))))) (dSeq (dPar 4 5 (dCons (dTup dNil) (dCons (dLst dNil) dNil))) (dSeq (dFor (dItSeq (dVar 1)) (gN 6) (dSeq (dSet (gN 7) (dCallF s__law_choice (dCons (dVar 0) (dCons (dVar 3) dNil)))) (dIf (dOrT (dCmpT pIn (dVar 7) (dVar 5)) (dCmpT (fun _ => pEq) (dCallF s__law_draw (dCons (dVar 0) (dCons (dC (.int 4)) dNil))) (dC (.int 0)))) (dSet (gN 4) (dOp pAdd (dVar 4) (dTup (dCons (dC .non) dNil)))) (dSeq (dSet (gN 8) (dCallF s__law_process (dCons (dVar 0) (dCons (dVar 6) (dCons (dVar 3) dNil))))) (dPar 4 5 (dCons (dOp pAdd (dVar 4) (dTup (dCons (dOp pAdd (dOp pAdd (dSl (dVar 8) dNoPart (dPart (dC (.int 1)))) (dTup (dCons (dVar 7) dNil))) (dSl (dVar 8) (dPart (dC (.int 2))) dNoPart)) dNil))) (dCons (dOp pAdd (dVar 5) (dLst (dCons (dVar 7) dNil))) dNil))))))) (dRet (dTup (dCons (dCallF s__law_choice (dCons (dVar 0) (dCons (dOp pAdd (dVar 3) (dLst (dCons (dC .non) (dCons (dC .non) dNil)))) dNil))) (dCons (dVar 4) dNil))))))))
abbrev b__law_stand (s__law_choice : DF) (s__law_draw : DF) (s__law_process : DF) : DF := fromBody 2 10 (m__law_stand s__law_choice s__law_draw s__law_process)
def m__law_programs (s__law_program : DF) (s__law_draw : DF) (s__law_lean : DF) : DS := (dSeq (dSet (gN 3) (dCallF s__law_program (dCons (dVar 0) (dCons (dVar 2) dNil)))) (dSeq (dIf (dAndT (dCmpT (fun _ => pEq) (dCallF s__law_draw (dCons (dVar 0) (dCons (dC (.int 2)) dNil))) (dC (.int 0))) (dCmpT (fun _ => pLt) (dCall (pure1 pLen1) (dCons (dVar 3) dNil)) (dC (.int 6)))) (dRet (dOp pMul (dTup (dCons (dVar 3) dNil)) (dVar 1))) dNil') (dRet (dOp pAdd (dTup (dCons (dVar 3) dNil)) (dCall (pure1 pTuple) (dCons (dComp (dItRange (dCons (dOp pSub (dVar 1) (dC (.int 1))) dNil)) [4] (gN 4) dYes (dCallF s__law_lean (dCons (dVar 0) (dCons (dVar 2) dNil)))) dNil))))))
abbrev b__law_programs (s__law_program : DF) (s__law_draw : DF) (s__law_lean : DF) : DF := fromBody 3 5 (m__law_programs s__law_program s__law_draw s__law_lean)
def m__law_good_process (s__law_from : DF) : DS := (dSeq (dIf (dCmpT (fun _ => pIsN) (dVar 1) (dC .non)) (dRet (dC (.bl true))) dNil') (dSeq (dIf (dOrT (dNotT (dVal (dCall (pure1 pIsI) (dCons (dVar 1) (dCons (dC (.ty "tuple")) dNil))))) (dOrT (dCmpT (fun _ => pNe) (dCall (pure1 pLen1) (dCons (dVar 1) dNil)) (dC (.int 5))) (dNotT (dVal (dCallF s__law_from (dCons (dIx (dVar 1) (dC (.int 0))) (dCons (dC (.int 0)) (dCons (dOp pSub (dCall (pure1 pLen1) (dCons (dVar 0) dNil)) (dC (.int 1))) dNil)))))))) (dRet (dC (.bl false))) dNil') (dSeq (dIf (dOrT (dNotT (dVal (dCallF s__law_from (dCons (dIx (dVar 1) (dC (.int 1))) (dCons (dC (.int 0)) (dCons (dC (.int 999)) dNil)))))) (dNotT (dVal (dCall (pure1 pIsI) (dCons (dIx (dVar 1) (dC (.int 4))) (dCons (dC (.ty "bool")) dNil)))))) (dRet (dC (.bl false))) dNil') (dRet (dCmp (fun _ => pEq) (dComp (dItSeq (dSl (dVar 1) (dPart (dC (.int 2))) (dPart (dC (.int 4))))) [2] (gN 2) (dAndT (dCmpT (fun _ => pNotN) (dVar 2) (dC .non)) (dNotT (dVal (dCallF s__law_from (dCons (dVar 2) (dCons (dC (.int 0)) (dCons (dC (.int 999)) dNil))))))) (dVar 2)) (dLst dNil))))))
abbrev b__law_good_process (s__law_from : DF) : DF := fromBody 2 3 (m__law_good_process s__law_from)
def m__law_good_stand (s__law_from : DF) (s__law_good_process : DF) : DS := (dSeq (dIf (dOrT (dNotT (dVal (dCall (pure1 pIsI) (dCons (dVar 1) (dCons (dC (.ty "tuple")) dNil))))) (dOrT (dCmpT (fun _ => pNe) (dCall (pure1 pLen1) (dCons (dVar 1) dNil)) (dC (.int 2))) (dNotT (dOrT (dCmpT (fun _ => pIsN) (dIx (dVar 1) (dC (.int 0))) (dC .non)) (dVal (dCallF s__law_from (dCons (dIx (dVar 1) (dC (.int 0))) (dCons (dC (.int 0)) (dCons (dC (.int 999)) dNil))))))))) (dRet (dC (.bl false))) dNil') (dSeq (dIf (dOrT (dNotT (dVal (dCall (pure1 pIsI) (dCons (dIx (dVar 1) (dC (.int 1))) (dCons (dC (.ty "tuple")) dNil))))) (dCmpT (fun _ => pNe) (dCall (pure1 pLen1) (dCons (dIx (dVar 1) (dC (.int 1))) dNil)) (dCall (pure1 pLen1) (dCons (dVar 0) dNil)))) (dRet (dC (.bl false))) dNil') (dSeq (dFor (dItZip (dCons (dVar 0) (dCons (dIx (dVar 1) (dC (.int 1))) dNil))) (gT (gsCons (gN 2) (gsCons (gN 3) gsNil))) (dIf (dNotT (dVal (dCallF s__law_good_process (dCons (dVar 2) (dCons (dVar 3) dNil))))) (dRet (dC (.bl false))) dNil')) (dSeq (dSet (gN 4) (dComp (dItSeq (dIx (dVar 1) (dC (.int 1)))) [3] (gN 3) (dCmpT (fun _ => pNotN) (dVar 3) (dC .non)) (dIx (dVar 3) (dC (.int 1))))) (dRet (dCmp (fun _ => pEq) (dComp (dItSeq (dVar 4)) [5] (gN 5) (dCmpT (fun _ => pGt) (dCount (dVar 4) (dVar 5)) (dC (.int 1))) (dVar 5)) (dLst dNil)))))))
abbrev b__law_good_stand (s__law_from : DF) (s__law_good_process : DF) : DF := fromBody 2 6 (m__law_good_stand s__law_from s__law_good_process)
def m_law_k03 (s__law_source : DF) (s__law_programs : DF) (s__law_draw : DF) (s_first_stand : DF) (s__law_stand : DF) (s_is_stand : DF) (s__law_good_stand : DF) (s__law_changed : DF) : DS := (dSeq (dFor (dItRange (dCons (dOp pAdd (dC (.int 1)) (dCall (pure1 pMin2) (dCons (dCall (pure1 pLen1) (dCons (dVar 0) dNil)) (dCons (dC (.int 8)) dNil)))) dNil)) (gN 1) (dSeq (dSet (gN 5) (dCallF s__law_source (dCons (dVar 0) (dCons (dVar 1) dNil)))) (dSeq (dSet (gN 6) (dCallF s__law_programs (dCons (dVar 5) (dCons (dOp pAdd (dC (.int 1)) (dCallF s__law_draw (dCons (dVar 5) (dCons (dC (.int 3)) dNil)))) (dCons (dC (.int 6)) dNil))))) (dSeq (dIf (dCmpT (fun _ => pNe) (dCallF s_first_stand (dCons (dVar 6) dNil)) (dTup (dCons (dC .non) (dCons (dOp pMul (dTup (dCons (dC .non) dNil)) (dCall (pure1 pLen1) (dCons (dVar 6) dNil))) dNil)))) (dRet (dC (.bl false))) dNil') (dSeq (dSet (gN 7) (dCallF s__law_stand (dCons (dVar 5) (dCons (dVar 6) dNil)))) (dSeq (dFor (dItRange (dCons (dC (.int 5)) dNil)) (gN 8) (dSeq (dSet (gN 12) (dCallF s_is_stand (dCons (dVar 6) (dCons (dVar 7) dNil)))) (dSeq (dIf (dOrT (dNotT (dVal (dCall (pure1 pIsI) (dCons (dVar 12) (dCons (dC (.ty "bool")) dNil))))) (dCmpT (fun _ => pNe) (dVar 12) (dCallF s__law_good_stand (dCons (dVar 6) (dCons (dVar 7) dNil))))) (dRet (dC (.bl false))) dNil') (dSet (gN 7) (dCallF s__law_changed (dCons (dVar 5) (dCons (dVar 7) dNil))))))) (dSeq (dSet (gN 9) (dTup (dCons (dOp pSub (dCall (pure1 pLen1) (dCons (dIx (dVar 6) (dC (.int 0))) dNil)) (dC (.int 1))) (dCons (dC (.int 999)) (dCons (dC (.int 0)) (dCons (dC .non) (dCons (dC (.bl true)) dNil))))))) (dSeq (dSet (gN 10) (dOp pMul (dTup (dCons (dC .non) dNil)) (dOp pSub (dCall (pure1 pLen1) (dCons (dVar 6) dNil)) (dC (.int 1))))) (dSeq (dSet (gN 11) (dLstM (dCons (dTup (dCons (dC (.int 999)) (dCons (dOp pAdd (dTup (dCons (dVar 9) dNil)) (dVar 10)) dNil))) (dCons (dTup (dCons (dC (.int 1000)) (dCons (dOp pAdd (dTup (dCons (dVar 9) dNil)) (dVar 10)) dNil))) (dCons (dTup (dCons (dC .non) (dCons (dOp pAdd (dTup (dCons (dOp pAdd (dSl (dVar 9) dNoPart (dPart (dC (.int 4)))) (dTup (dCons (dC (.int 1)) dNil))) dNil)) (dVar 10)) dNil))) dNil))))) (dSeq (dSet (gN 11) (dAddM (dVar 11) (dLst (dCons (dTup (dCons (dC .non) (dCons (dOp pAdd (dTup (dCons (dOp pAdd (dTup (dCons (dCall (pure1 pLen1) (dCons (dIx (dVar 6) (dC (.int 0))) dNil)) dNil)) (dSl (dVar 9) (dPart (dC (.int 1))) dNoPart)) dNil)) (dVar 10)) dNil))) (dCons (dTup (dCons (dC (.int 0)) (dCons (dVar 10) dNil))) (dCons (dTup (dCons (dC (.int 0)) (dCons (dOp pMul (dTup (dCons (dC .non) dNil)) (dC (.int 4))) dNil))) dNil)))))) (dSeq (dDrop (dAppend (dVar 11) (dTup (dCons (dC (.int 0)) (dCons (dOp pMul (dTup (dCons (dVar 9) dNil)) (dCall (pure1 pLen1) (dCons (dVar 6) dNil))) dNil))))) (dIf (dCmpT (fun _ => pNe) (dComp (dItSeq (dFrz (dVar 11))) [7] (gN 7) (dCmpT (fun _ => pNe) (dCallF s_is_stand (dCons (dVar 6) (dCons (dVar 7) dNil))) (dCallF s__law_good_stand (dCons (dVar 6) (dCons (dVar 7) dNil)))) (dVar 7)) (dLst dNil)) (dRet (dC (.bl false))) dNil')))))))))))) (dSeq (dSet (gN 2) (dTup (dCons (dTup (dCons (dTup (dCons (dC (.str "go")) (dCons (dC (.int 0)) dNil))) dNil)) (dCons (dTup (dCons (dTup (dCons (dC (.str "drop")) dNil)) dNil)) (dCons (dTup (dCons (dTup (dCons (dC (.str "enter")) dNil)) dNil)) dNil))))) (dSeq (dSet (gN 3) (dTup (dCons (dC (.int 0)) (dCons (dC (.int 5)) (dCons (dC .non) (dCons (dC .non) (dCons (dC (.bl false)) dNil))))))) (dSeq (dSet (gN 4) (dLst (dCons (dTup (dCons (dC .non) (dCons (dTup (dCons (dC .non) (dCons (dVar 3) (dCons (dVar 3) dNil)))) dNil))) (dCons (dTup (dCons (dC .non) (dCons (dTup (dCons (dVar 3) (dCons (dC .non) (dCons (dVar 3) dNil)))) dNil))) (dCons (dTup (dCons (dC (.int 5)) (dCons (dTup (dCons (dVar 3) (dCons (dTup (dCons (dC (.int 0)) (dCons (dC (.int 6)) (dCons (dC (.int 5)) (dCons (dC (.int 5)) (dCons (dC (.bl true)) dNil)))))) (dCons (dTup (dCons (dC (.int 0)) (dCons (dC (.int 7)) (dCons (dC (.int 6)) (dCons (dC (.int 5)) (dCons (dC (.bl false)) dNil)))))) dNil)))) dNil))) dNil))))) (dRet (dCmp (fun _ => pEq) (dComp (dItSeq (dVar 4)) [7] (gN 7) dYes (dCallF s_is_stand (dCons (dVar 2) (dCons (dVar 7) dNil)))) (dLst (dCons (dC (.bl false)) (dCons (dC (.bl false)) (dCons (dC (.bl true)) dNil))))))))))
abbrev b_law_k03 (s__law_source : DF) (s__law_programs : DF) (s__law_draw : DF) (s_first_stand : DF) (s__law_stand : DF) (s_is_stand : DF) (s__law_good_stand : DF) (s__law_changed : DF) : DF := fromBody 1 13 (m_law_k03 s__law_source s__law_programs s__law_draw s_first_stand s__law_stand s_is_stand s__law_good_stand s__law_changed)
def m_word_at (s_bare_row : DF) : DS := (dRet (dIx (dCallF s_bare_row (dCons (dIx (dVar 0) (dVar 1)) dNil)) (dC (.int 0))))
abbrev b_word_at (s_bare_row : DF) : DF := fromBody 2 2 (m_word_at s_bare_row)
def g_FRESH : Z := (.str "fresh")
def g_PROMPT : Z := (.str "prompt")
def g_STEADY : Z := (.str "steady")
def g_FACTS : Z := (.tup [g_FRESH, g_PROMPT, g_STEADY])
def m_need_facts : DS := (dSeq (dIf (dOrT (dNotT (dVal (dCall (pure1 pIsI) (dCons (dVar 0) (dCons (dC (.ty "tuple")) dNil))))) (dNotT (dVal (dCall (pure1 pAll) (dCons (dComp (dItSeq (dVar 0)) [3] (gN 3) dYes (dAnd (dCall (pure1 pIsI) (dCons (dVar 3) (dCons (dC (.ty "str")) dNil))) (dCmp pIn (dVar 3) (dC g_FACTS)))) dNil))))) (dRaise "InvalidFacts") dNil') (dIf (dNotT (dVal (dCall (pure1 pAll) (dCons (dComp (dItZip (dCons (dVar 0) (dCons (dSl (dVar 0) (dPart (dC (.int 1))) dNoPart) dNil))) [1, 2] (gT (gsCons (gN 1) (gsCons (gN 2) gsNil))) dYes (dCmp (fun _ => pLt) (dVar 1) (dVar 2))) dNil)))) (dRaise "InvalidFacts") dNil'))
abbrev b_need_facts : DF := fromBody 1 4 m_need_facts
def m_need_stand (s_is_stand : DF) : DS := (dIf (dNotT (dVal (dCallF s_is_stand (dCons (dVar 0) (dCons (dVar 1) dNil))))) (dRaise "InvalidStand") dNil')
abbrev b_need_stand (s_is_stand : DF) : DF := fromBody 2 2 (m_need_stand s_is_stand)
def m_marks_of : DS := (dSeq (dSet (gN 1) (dLst (dCons (dIx (dVar 0) (dC (.int 0))) dNil))) (dSeq (dFor (dItSeq (dIx (dVar 0) (dC (.int 1)))) (gN 2) (dIf (dCmpT (fun _ => pNotN) (dVar 2) (dC .non)) (dSet (gN 1) (dOp pAdd (dVar 1) (dLst (dCons (dIx (dVar 2) (dC (.int 1))) (dCons (dIx (dVar 2) (dC (.int 2))) (dCons (dIx (dVar 2) (dC (.int 3))) dNil)))))) dNil')) (dRet (dComp (dItSeq (dVar 1)) [3] (gN 3) (dCmpT (fun _ => pNotN) (dVar 3) (dC .non)) (dVar 3)))))
abbrev b_marks_of : DF := fromBody 1 4 m_marks_of
def m_row_make : DS := (dRet (dTup (dCons (dCmp (fun _ => pIsN) (dVar 0) (dC .non)) (dCons (dIfE (dCmpT (fun _ => pIsN) (dVar 0) (dC .non)) (dVar 1) (dVar 0)) (dCons (dVar 2) (dCons (dVar 3) dNil))))))
abbrev b_row_make : DF := fromBody 4 4 m_row_make
def m_row_read : DS := (dRet (dTup (dCons (dCmp (fun _ => pNotN) (dVar 0) (dC .non)) (dCons (dVar 0) (dCons (dIfE (dCmpT (fun _ => pIsN) (dVar 0) (dC .non)) (dVar 2) (dVar 0)) (dCons (dVar 3) dNil))))))
abbrev b_row_read : DF := fromBody 4 4 m_row_read
def m_row_same : DS := (dRet (dTup (dCons (dAnd (dCmp (fun _ => pNotN) (dVar 0) (dC .non)) (dCmp (fun _ => pEq) (dVar 0) (dVar 2))) (dCons (dVar 0) (dCons (dVar 2) (dCons (dVar 3) dNil))))))
abbrev b_row_same : DF := fromBody 4 4 m_row_same
def m_row_mine : DS := (dRet (dTup (dCons (dCmp (fun _ => pEq) (dVar 0) (dVar 1)) (dCons (dVar 0) (dCons (dVar 2) (dCons (dVar 3) dNil))))))
abbrev b_row_mine : DF := fromBody 4 4 m_row_mine
def m_row_drop : DS := (dRet (dTup (dCons (dC (.bl true)) (dCons (dC .non) (dCons (dVar 2) (dCons (dVar 3) dNil))))))
abbrev b_row_drop : DF := fromBody 4 4 m_row_drop
def m_row_drop_same : DS := (dSeq (dSet (gN 4) (dAnd (dCmp (fun _ => pNotN) (dVar 0) (dC .non)) (dCmp (fun _ => pEq) (dVar 0) (dVar 2)))) (dRet (dTup (dCons (dVar 4) (dCons (dIfE (dVal (dVar 4)) (dC .non) (dVar 0)) (dCons (dVar 2) (dCons (dVar 3) dNil)))))))
abbrev b_row_drop_same : DF := fromBody 4 5 m_row_drop_same
def m_row_swap : DS := (dSeq (dSet (gN 4) (dAnd (dCmp (fun _ => pNotN) (dVar 0) (dC .non)) (dCmp (fun _ => pEq) (dVar 0) (dVar 2)))) (dRet (dTup (dCons (dVar 4) (dCons (dIfE (dVal (dVar 4)) (dVar 1) (dVar 0)) (dCons (dVar 2) (dCons (dVar 3) dNil)))))))
abbrev b_row_swap : DF := fromBody 4 5 m_row_swap
def m_row_move : DS := (dRet (dTup (dCons (dCmp (fun _ => pNotN) (dVar 0) (dC .non)) (dCons (dC .non) (dCons (dVar 2) (dCons (dIfE (dCmpT (fun _ => pIsN) (dVar 0) (dC .non)) (dVar 3) (dVar 0)) dNil))))))
abbrev b_row_move : DF := fromBody 4 4 m_row_move
def m_row_back : DS := (dSeq (dSet (gN 4) (dAnd (dCmp (fun _ => pIsN) (dVar 0) (dC .non)) (dCmp (fun _ => pNotN) (dVar 3) (dC .non)))) (dRet (dTup (dCons (dVar 4) (dCons (dIfE (dVal (dVar 4)) (dVar 3) (dVar 0)) (dCons (dVar 2) (dCons (dIfE (dVal (dVar 4)) (dC .non) (dVar 3)) dNil)))))))
abbrev b_row_back : DF := fromBody 4 5 m_row_back
def m_row_caught : DS := (dRet (dTup (dCons (dAnd (dCmp (fun _ => pNotN) (dVar 3) (dC .non)) (dCmp (fun _ => pEq) (dVar 3) (dVar 2))) (dCons (dVar 0) (dCons (dVar 2) (dCons (dVar 3) dNil))))))
abbrev b_row_caught : DF := fromBody 4 4 m_row_caught
def tab_ACTIONS : List (Str × Option Str) := [("make", some "row_make"), ("read", some "row_read"), ("dead", none), ("old", none), ("same", some "row_same"), ("mine", some "row_mine"), ("dropsame", some "row_drop_same"), ("swap", some "row_swap"), ("move", some "row_move"), ("back", some "row_back"), ("caught", some "row_caught"), ("go", none), ("drop", some "row_drop"), ("enter", none), ("leave", none)]
def m_done (FA : Str → Addr → Prop) (s_row_make : DF) (s_row_read : DF) (s_row_same : DF) (s_row_mine : DF) (s_row_drop : DF) (s_row_swap : DF) (s_row_drop_same : DF) (s_row_move : DF) (s_row_back : DF) (s_row_caught : DF) : DS := (dSeq (dSet (gT (gsCons (gN 5) (gsCons (gN 6) (gsCons (gN 7) (gsCons (gN 8) (gsCons (gN 9) gsNil)))))) (dVar 2)) (dSeq (dSet (gN 10) (dIx (dVar 0) (dC (.int 0)))) (dSeq (dSet (gN 11) (dC (.bl true))) (dSeq (dIf (dInTab tab_ACTIONS (dVar 10)) (dSeq (dSet (gN 12) (dIxTab FA tab_ACTIONS (dVar 10))) (dSet (gT (gsCons (gN 11) (gsCons (gN 1) (gsCons (gN 7) (gsCons (gN 8) gsNil))))) (dCallL FA 12 [("row_make", s_row_make), ("row_read", s_row_read), ("row_same", s_row_same), ("row_mine", s_row_mine), ("row_drop", s_row_drop), ("row_swap", s_row_swap), ("row_drop_same", s_row_drop_same), ("row_move", s_row_move), ("row_back", s_row_back), ("row_caught", s_row_caught)] (dCons (dVar 1) (dCons (dVar 6) (dCons (dVar 7) (dCons (dVar 8) dNil))))))) (dIf (dCmpT (fun _ => pEq) (dVar 10) (dC (.str "dead"))) (dSet (gN 11) (dAnd (dCmp (fun _ => pNotN) (dVar 7) (dC .non)) (dCmp pNotIn (dVar 7) (dVar 3)))) (dIf (dCmpT (fun _ => pEq) (dVar 10) (dC (.str "old"))) (dSet (gN 11) (dVar 4)) (dIf (dCmpT (fun _ => pEq) (dVar 10) (dC (.str "go"))) (dSet (gN 11) (dC (.bl false))) (dSet (gN 9) (dCmp (fun _ => pEq) (dVar 10) (dC (.str "enter")))))))) (dRet (dTup (dCons (dVar 1) (dCons (dTup (dCons (dIfE (dVal (dVar 11)) (dOp pAdd (dVar 5) (dC (.int 1))) (dIx (dVar 0) (dC (.int 1)))) (dCons (dVar 6) (dCons (dVar 7) (dCons (dVar 8) (dCons (dVar 9) dNil)))))) dNil))))))))
abbrev b_done (FA : Str → Addr → Prop) (s_row_make : DF) (s_row_read : DF) (s_row_same : DF) (s_row_mine : DF) (s_row_drop : DF) (s_row_swap : DF) (s_row_drop_same : DF) (s_row_move : DF) (s_row_back : DF) (s_row_caught : DF) : DF := fromBody 5 13 (m_done FA s_row_make s_row_read s_row_same s_row_mine s_row_drop s_row_swap s_row_drop_same s_row_move s_row_back s_row_caught)
def g_ALONE : Z := (.tup [(.str "old"), (.str "enter"), (.str "leave")])
def m_advanced (s_done : DF) (s_bare_row : DF) (s_word_at : DF) : DS := (dSeq (dSet (gN 5) (dC (.bl true))) (dSeq (dWhile (dVal (dVar 5)) (dSeq (dSet (gN 6) (dIx (dVar 2) (dC (.int 0)))) (dSeq (dSet (gT (gsCons (gN 1) (gsCons (gN 2) gsNil))) (dCallF s_done (dCons (dCallF s_bare_row (dCons (dIx (dVar 0) (dVar 6)) dNil)) (dCons (dVar 1) (dCons (dVar 2) (dCons (dVar 3) (dCons (dVar 4) dNil))))))) (dSeq (dSet (gN 7) (dIx (dVar 2) (dC (.int 0)))) (dSeq (dSet (gN 5) (dAnd (dCmp (fun _ => pEq) (dIx (dIx (dVar 0) (dVar 6)) (dC (.int 0))) (dC g_JOIN)) (dAnd (dCmp (fun _ => pNe) (dCallF s_word_at (dCons (dVar 0) (dCons (dVar 6) dNil))) (dC (.str "enter"))) (dAnd (dCmp (fun _ => pEq) (dVar 7) (dOp pAdd (dVar 6) (dC (.int 1)))) (dCmp (fun _ => pLt) (dVar 7) (dCall (pure1 pLen1) (dCons (dVar 0) dNil))))))) (dSet (gN 5) (dAnd (dVar 5) (dCmp pNotIn (dCallF s_word_at (dCons (dVar 0) (dCons (dVar 7) dNil))) (dC g_ALONE))))))))) (dRet (dTup (dCons (dVar 1) (dCons (dIfE (dCmpT (fun _ => pEq) (dIx (dVar 2) (dC (.int 0))) (dCall (pure1 pLen1) (dCons (dVar 0) dNil))) (dC .non) (dVar 2)) dNil))))))
abbrev b_advanced (s_done : DF) (s_bare_row : DF) (s_word_at : DF) : DF := fromBody 5 8 (m_advanced s_done s_bare_row s_word_at)
def m_may_start (s_live_marks : DF) (s_marks_of : DF) : DS := (dSeq (dIf (dOrT (dCmpT (fun _ => pNotN) (dIx (dIx (dVar 1) (dC (.int 1))) (dVar 2)) (dC .non)) (dCmpT pIn (dVar 3) (dCallF s_live_marks (dCons (dVar 1) dNil)))) (dRet (dC (.bl false))) dNil') (dRet (dOr (dCmp pNotIn (dC g_FRESH) (dVar 0)) (dCmp pNotIn (dVar 3) (dCallF s_marks_of (dCons (dVar 1) dNil))))))
abbrev b_may_start (s_live_marks : DF) (s_marks_of : DF) : DF := fromBody 4 4 (m_may_start s_live_marks s_marks_of)
def m_may_judge (s_live_marks : DF) : DS := (dRet (dOr (dNot (dVar 2)) (dAnd (dCmp (fun _ => pNotN) (dIx (dVar 1) (dC (.int 0))) (dC .non)) (dOr (dCmp pNotIn (dC g_PROMPT) (dVar 0)) (dCmp pNotIn (dIx (dVar 1) (dC (.int 0))) (dCallF s_live_marks (dCons (dVar 1) dNil)))))))
abbrev b_may_judge (s_live_marks : DF) : DF := fromBody 3 3 (m_may_judge s_live_marks)
def m_with_slot : DS := (dRet (dTup (dCons (dVar 2) (dCons (dOp pAdd (dOp pAdd (dSl (dIx (dVar 0) (dC (.int 1))) dNoPart (dPart (dVar 1))) (dTup (dCons (dVar 3) dNil))) (dSl (dIx (dVar 0) (dC (.int 1))) (dPart (dOp pAdd (dVar 1) (dC (.int 1)))) dNoPart)) dNil))))
abbrev b_with_slot : DF := fromBody 4 4 m_with_slot
def g_START : Z := (.str "start")
def g_DIE : Z := (.str "die")
def g_JUDGE : Z := (.str "judge")
def m_behind (s_may_start : DF) (s_with_slot : DF) (s_word_at : DF) (s_may_judge : DF) (s_advanced : DF) (s_live_marks : DF) : DS := (dSeq (dSet (gT (gsCons (gN 4) (gsCons (gN 5) (gsCons (gN 6) gsNil)))) (dVar 3)) (dSeq (dSet (gN 7) (dIx (dIx (dVar 2) (dC (.int 1))) (dVar 5))) (dSeq (dIf (dCmpT (fun _ => pEq) (dVar 4) (dC g_START)) (dSeq (dIf (dNotT (dVal (dCallF s_may_start (dCons (dVar 1) (dCons (dVar 2) (dCons (dVar 5) (dCons (dVar 6) dNil))))))) (dRet (dC .non)) dNil') (dRet (dCallF s_with_slot (dCons (dVar 2) (dCons (dVar 5) (dCons (dIx (dVar 2) (dC (.int 0))) (dCons (dTup (dCons (dC (.int 0)) (dCons (dVar 6) (dCons (dC .non) (dCons (dC .non) (dCons (dC (.bl false)) dNil)))))) dNil))))))) dNil') (dSeq (dIf (dCmpT (fun _ => pIsN) (dVar 7) (dC .non)) (dRet (dC .non)) dNil') (dSeq (dIf (dCmpT (fun _ => pEq) (dVar 4) (dC g_DIE)) (dRet (dIfE (dCmpT pIn (dC g_STEADY) (dVar 1)) (dC .non) (dCallF s_with_slot (dCons (dVar 2) (dCons (dVar 5) (dCons (dIx (dVar 2) (dC (.int 0))) (dCons (dC .non) dNil))))))) dNil') (dSeq (dIf (dCmpT (fun _ => pNe) (dCmp (fun _ => pEq) (dVar 4) (dC g_JUDGE)) (dCmp (fun _ => pEq) (dCallF s_word_at (dCons (dIx (dVar 0) (dVar 5)) (dCons (dIx (dVar 7) (dC (.int 0))) dNil))) (dC (.str "old")))) (dRet (dC .non)) dNil') (dSeq (dIf (dAndT (dCmpT (fun _ => pEq) (dVar 4) (dC g_JUDGE)) (dNotT (dVal (dCallF s_may_judge (dCons (dVar 1) (dCons (dVar 2) (dCons (dVar 6) dNil))))))) (dRet (dC .non)) dNil') (dSeq (dSet (gT (gsCons (gN 8) (gsCons (gN 7) gsNil))) (dCallF s_advanced (dCons (dIx (dVar 0) (dVar 5)) (dCons (dIx (dVar 2) (dC (.int 0))) (dCons (dVar 7) (dCons (dCallF s_live_marks (dCons (dVar 2) dNil)) (dCons (dVar 6) dNil))))))) (dRet (dCallF s_with_slot (dCons (dVar 2) (dCons (dVar 5) (dCons (dVar 8) (dCons (dVar 7) dNil))))))))))))))
abbrev b_behind (s_may_start : DF) (s_with_slot : DF) (s_word_at : DF) (s_may_judge : DF) (s_advanced : DF) (s_live_marks : DF) : DF := fromBody 4 9 (m_behind s_may_start s_with_slot s_word_at s_may_judge s_advanced s_live_marks)
def g_STEP : Z := (.str "step")
def g_DEEDS : Z := (.tup [g_DIE, g_JUDGE, g_START, g_STEP])
def m_is_event (s_is_from : DF) (s_is_mark : DF) : DS := (dSeq (dIf (dOrT (dNotT (dVal (dCall (pure1 pIsI) (dCons (dVar 1) (dCons (dC (.ty "tuple")) dNil))))) (dOrT (dCmpT (fun _ => pNe) (dCall (pure1 pLen1) (dCons (dVar 1) dNil)) (dC (.int 3))) (dOrT (dNotT (dVal (dCall (pure1 pIsI) (dCons (dIx (dVar 1) (dC (.int 0))) (dCons (dC (.ty "str")) dNil))))) (dCmpT pNotIn (dIx (dVar 1) (dC (.int 0))) (dC g_DEEDS))))) (dRet (dC (.bl false))) dNil') (dSeq (dIf (dNotT (dVal (dCallF s_is_from (dCons (dIx (dVar 1) (dC (.int 1))) (dCons (dC (.int 0)) (dCons (dOp pSub (dCall (pure1 pLen1) (dCons (dVar 0) dNil)) (dC (.int 1))) dNil)))))) (dRet (dC (.bl false))) dNil') (dSeq (dIf (dCmpT (fun _ => pEq) (dIx (dVar 1) (dC (.int 0))) (dC g_START)) (dRet (dCallF s_is_mark (dCons (dIx (dVar 1) (dC (.int 2))) dNil))) dNil') (dRet (dIfE (dCmpT (fun _ => pEq) (dIx (dVar 1) (dC (.int 0))) (dC g_JUDGE)) (dCall (pure1 pIsI) (dCons (dIx (dVar 1) (dC (.int 2))) (dCons (dC (.ty "bool")) dNil))) (dCmp (fun _ => pIsN) (dIx (dVar 1) (dC (.int 2))) (dC .non)))))))
abbrev b_is_event (s_is_from : DF) (s_is_mark : DF) : DF := fromBody 2 2 (m_is_event s_is_from s_is_mark)
def m_need_event (s_is_event : DF) : DS := (dIf (dNotT (dVal (dCallF s_is_event (dCons (dVar 0) (dCons (dVar 1) dNil))))) (dRaise "InvalidEvent") dNil')
abbrev b_need_event (s_is_event : DF) : DF := fromBody 2 2 (m_need_event s_is_event)
def m_after (s_need_programs : DF) (s_need_facts : DF) (s_need_stand : DF) (s_need_event : DF) (s_behind : DF) : DS := (dSeq (dDrop (dCallF s_need_programs (dCons (dVar 0) dNil))) (dSeq (dDrop (dCallF s_need_facts (dCons (dVar 1) dNil))) (dSeq (dDrop (dCallF s_need_stand (dCons (dVar 0) (dCons (dVar 2) dNil)))) (dSeq (dDrop (dCallF s_need_event (dCons (dVar 0) (dCons (dVar 3) dNil)))) (dRet (dCallF s_behind (dCons (dVar 0) (dCons (dVar 1) (dCons (dVar 2) (dCons (dVar 3) dNil))))))))))
abbrev b_after (s_need_programs : DF) (s_need_facts : DF) (s_need_stand : DF) (s_need_event : DF) (s_behind : DF) : DF := fromBody 4 4 (m_after s_need_programs s_need_facts s_need_stand s_need_event s_behind)
def m__law_facts (s__law_draw : DF) : DS := (dRet (dCall (pure1 pTuple) (dCons (dComp (dItSeq (dLst (dCons (dC (.str "fresh")) (dCons (dC (.str "prompt")) (dCons (dC (.str "steady")) dNil))))) [1] (gN 1) (dCmpT (fun _ => pEq) (dCallF s__law_draw (dCons (dVar 0) (dCons (dC (.int 3)) dNil))) (dC (.int 0))) (dVar 1)) dNil)))
abbrev b__law_facts (s__law_draw : DF) : DF := fromBody 1 2 (m__law_facts s__law_draw)
def m__law_acted : DS := (dSeq (dSet (gT (gsCons (gN 5) (gsCons (gN 6) (gsCons (gN 7) gsNil)))) (dSl (dVar 2) (dPart (dC (.int 1))) (dPart (dC (.int 4))))) (dSeq (dSet (gN 8) (dAnd (dCmp (fun _ => pNotN) (dVar 1) (dC .non)) (dCmp (fun _ => pEq) (dVar 1) (dVar 6)))) (dSeq (dIf (dAndT (dCmpT (fun _ => pEq) (dVar 0) (dC (.str "make"))) (dCmpT (fun _ => pIsN) (dVar 1) (dC .non))) (dRet (dTup (dCons (dVar 5) (dCons (dVar 6) (dCons (dVar 7) dNil))))) dNil') (dSeq (dIf (dAndT (dCmpT (fun _ => pEq) (dVar 0) (dC (.str "read"))) (dCmpT (fun _ => pNotN) (dVar 1) (dC .non))) (dRet (dTup (dCons (dVar 1) (dCons (dVar 1) (dCons (dVar 7) dNil))))) dNil') (dSeq (dIf (dOrT (dCmpT (fun _ => pEq) (dVar 0) (dC (.str "drop"))) (dAndT (dCmpT (fun _ => pEq) (dVar 0) (dC (.str "dropsame"))) (dVal (dVar 8)))) (dRet (dTup (dCons (dC .non) (dCons (dVar 6) (dCons (dVar 7) dNil))))) dNil') (dSeq (dIf (dAndT (dCmpT (fun _ => pEq) (dVar 0) (dC (.str "swap"))) (dVal (dVar 8))) (dRet (dTup (dCons (dVar 5) (dCons (dVar 6) (dCons (dVar 7) dNil))))) dNil') (dSeq (dIf (dAndT (dCmpT (fun _ => pEq) (dVar 0) (dC (.str "move"))) (dCmpT (fun _ => pNotN) (dVar 1) (dC .non))) (dRet (dTup (dCons (dC .non) (dCons (dVar 6) (dCons (dVar 1) dNil))))) dNil') (dSeq (dIf (dAndT (dCmpT (fun _ => pEq) (dVar 0) (dC (.str "back"))) (dAndT (dCmpT (fun _ => pIsN) (dVar 1) (dC .non)) (dCmpT (fun _ => pNotN) (dVar 7) (dC .non)))) (dRet (dTup (dCons (dVar 7) (dCons (dVar 6) (dCons (dC .non) dNil))))) dNil') (dSeq (dSet (gN 9) (dOr (dCmp pIn (dVar 0) (dLst (dCons (dC (.str "enter")) (dCons (dC (.str "leave")) dNil)))) (dOr (dAnd (dCmp (fun _ => pEq) (dVar 0) (dC (.str "old"))) (dCmp (fun _ => pIsT) (dVar 4) (dC (.bl true)))) (dAnd (dCmp (fun _ => pEq) (dVar 0) (dC (.str "same"))) (dVar 8))))) (dSeq (dSet (gN 9) (dOr (dVar 9) (dOr (dAnd (dCmp (fun _ => pEq) (dVar 0) (dC (.str "dead"))) (dAnd (dCmp (fun _ => pNotN) (dVar 6) (dC .non)) (dCmp pNotIn (dVar 6) (dVar 3)))) (dAnd (dCmp (fun _ => pEq) (dVar 0) (dC (.str "mine"))) (dCmp (fun _ => pEq) (dVar 1) (dVar 5)))))) (dSeq (dSet (gN 9) (dOr (dVar 9) (dAnd (dCmp (fun _ => pEq) (dVar 0) (dC (.str "caught"))) (dAnd (dCmp (fun _ => pNotN) (dVar 7) (dC .non)) (dCmp (fun _ => pEq) (dVar 7) (dVar 6)))))) (dRet (dIfE (dVal (dVar 9)) (dTup (dCons (dVar 1) (dCons (dVar 6) (dCons (dVar 7) dNil)))) (dC .non))))))))))))))
abbrev b__law_acted : DF := fromBody 5 10 m__law_acted
def m__law_moved (s__law_bare : DF) (s__law_acted : DF) : DS := (dSeq (dPar 5 6 (dCons (dIx (dVar 2) (dC (.int 0))) (dCons (dC (.bl true)) dNil))) (dSeq (dWhile (dVal (dVar 6)) (dSeq (dSet (gN 7) (dCallF s__law_bare (dCons (dIx (dVar 0) (dVar 5)) dNil))) (dSeq (dSet (gN 8) (dCallF s__law_acted (dCons (dIx (dVar 7) (dC (.int 0))) (dCons (dVar 1) (dCons (dVar 2) (dCons (dVar 3) (dCons (dVar 4) dNil))))))) (dSeq (dSet (gN 9) (dIfE (dCmpT (fun _ => pIsN) (dVar 8) (dC .non)) (dIx (dVar 7) (dC (.int 1))) (dOp pAdd (dVar 5) (dC (.int 1))))) (dSeq (dIf (dCmpT (fun _ => pNotN) (dVar 8) (dC .non)) (dSeq (dSet (gN 1) (dIx (dVar 8) (dC (.int 0)))) (dSet (gN 2) (dOp pAdd (dOp pAdd (dSl (dVar 2) dNoPart (dPart (dC (.int 2)))) (dSl (dVar 8) (dPart (dC (.int 1))) dNoPart)) (dSl (dVar 2) (dPart (dC (.int 4))) dNoPart)))) dNil') (dSeq (dSet (gN 2) (dOp pAdd (dOp pAdd (dTup (dCons (dVar 9) dNil)) (dSl (dVar 2) (dPart (dC (.int 1))) (dPart (dC (.int 4))))) (dTup (dCons (dOr (dCmp (fun _ => pEq) (dIx (dVar 7) (dC (.int 0))) (dC (.str "enter"))) (dAnd (dIx (dVar 2) (dC (.int 4))) (dCmp (fun _ => pNe) (dIx (dVar 7) (dC (.int 0))) (dC (.str "leave"))))) dNil)))) (dSeq (dSet (gN 6) (dAnd (dCmp (fun _ => pEq) (dIx (dIx (dVar 0) (dVar 5)) (dC (.int 0))) (dC (.str "join"))) (dAnd (dCmp (fun _ => pNe) (dIx (dVar 7) (dC (.int 0))) (dC (.str "enter"))) (dAnd (dCmp (fun _ => pEq) (dVar 9) (dOp pAdd (dVar 5) (dC (.int 1)))) (dCmp (fun _ => pLt) (dVar 9) (dCall (pure1 pLen1) (dCons (dVar 0) dNil))))))) (dSeq (dIf (dAndT (dVal (dVar 6)) (dCmpT pIn (dIx (dCallF s__law_bare (dCons (dIx (dVar 0) (dVar 9)) dNil)) (dC (.int 0))) (dLst (dCons (dC (.str "old")) (dCons (dC (.str "enter")) (dCons (dC (.str "leave")) dNil)))))) (dSet (gN 6) (dC (.bl false))) dNil') (dSet (gN 5) (dVar 9)))))))))) (dRet (dTup (dCons (dVar 1) (dCons (dIfE (dCmpT (fun _ => pEq) (dVar 5) (dCall (pure1 pLen1) (dCons (dVar 0) dNil))) (dC .non) (dVar 2)) dNil))))))
abbrev b__law_moved (s__law_bare : DF) (s__law_acted : DF) : DF := fromBody 5 10 (m__law_moved s__law_bare s__law_acted)
def m__law_live : DS := (dRet (dComp (dItSeq (dIx (dVar 0) (dC (.int 1)))) [1] (gN 1) (dCmpT (fun _ => pNotN) (dVar 1) (dC .non)) (dIx (dVar 1) (dC (.int 1)))))
abbrev b__law_live : DF := fromBody 1 2 m__law_live
def m__law_marks : DS := (dSeq (dSet (gN 1) (dLst (dCons (dIx (dVar 0) (dC (.int 0))) dNil))) (dSeq (dFor (dItSeq (dIx (dVar 0) (dC (.int 1)))) (gN 2) (dIf (dCmpT (fun _ => pNotN) (dVar 2) (dC .non)) (dSet (gN 1) (dOp pAdd (dVar 1) (dCall (pure1 pList) (dCons (dSl (dVar 2) (dPart (dC (.int 1))) (dPart (dC (.int 4)))) dNil)))) dNil')) (dRet (dComp (dItSeq (dVar 1)) [3] (gN 3) (dCmpT (fun _ => pNotN) (dVar 3) (dC .non)) (dVar 3)))))
abbrev b__law_marks : DF := fromBody 1 4 m__law_marks
def m__law_put : DS := (dRet (dTup (dCons (dVar 2) (dCons (dOp pAdd (dOp pAdd (dSl (dIx (dVar 0) (dC (.int 1))) dNoPart (dPart (dVar 1))) (dTup (dCons (dVar 3) dNil))) (dSl (dIx (dVar 0) (dC (.int 1))) (dPart (dOp pAdd (dVar 1) (dC (.int 1)))) dNoPart)) dNil))))
abbrev b__law_put : DF := fromBody 4 4 m__law_put
def m__law_after (s__law_live : DF) (s__law_marks : DF) (s__law_put : DF) (s__law_bare : DF) (s__law_moved : DF) : DS := (dSeq (dSet (gT (gsCons (gN 4) (gsCons (gN 5) (gsCons (gN 6) gsNil)))) (dVar 3)) (dSeq (dPar 7 8 (dCons (dIx (dIx (dVar 2) (dC (.int 1))) (dVar 5)) (dCons (dCallF s__law_live (dCons (dVar 2) dNil)) dNil))) (dSeq (dIf (dCmpT (fun _ => pEq) (dVar 4) (dC (.str "start"))) (dSeq (dIf (dOrT (dCmpT (fun _ => pNotN) (dVar 7) (dC .non)) (dOrT (dCmpT pIn (dVar 6) (dVar 8)) (dAndT (dCmpT pIn (dC (.str "fresh")) (dVar 1)) (dCmpT pIn (dVar 6) (dCallF s__law_marks (dCons (dVar 2) dNil)))))) (dRet (dC .non)) dNil') (dRet (dCallF s__law_put (dCons (dVar 2) (dCons (dVar 5) (dCons (dIx (dVar 2) (dC (.int 0))) (dCons (dTup (dCons (dC (.int 0)) (dCons (dVar 6) (dCons (dC .non) (dCons (dC .non) (dCons (dC (.bl false)) dNil)))))) dNil))))))) dNil') (dSeq (dIf (dOrT (dCmpT (fun _ => pIsN) (dVar 7) (dC .non)) (dAndT (dCmpT (fun _ => pEq) (dVar 4) (dC (.str "die"))) (dCmpT pIn (dC (.str "steady")) (dVar 1)))) (dRet (dC .non)) dNil') (dSeq (dIf (dCmpT (fun _ => pEq) (dVar 4) (dC (.str "die"))) (dRet (dCallF s__law_put (dCons (dVar 2) (dCons (dVar 5) (dCons (dIx (dVar 2) (dC (.int 0))) (dCons (dC .non) dNil)))))) dNil') (dSeq (dIf (dCmpT (fun _ => pNe) (dCmp (fun _ => pEq) (dVar 4) (dC (.str "judge"))) (dCmp (fun _ => pEq) (dIx (dCallF s__law_bare (dCons (dIx (dIx (dVar 0) (dVar 5)) (dIx (dVar 7) (dC (.int 0)))) dNil)) (dC (.int 0))) (dC (.str "old")))) (dRet (dC .non)) dNil') (dSeq (dIf (dAndT (dCmpT (fun _ => pIsT) (dVar 6) (dC (.bl true))) (dOrT (dCmpT (fun _ => pIsN) (dIx (dVar 2) (dC (.int 0))) (dC .non)) (dAndT (dCmpT pIn (dC (.str "prompt")) (dVar 1)) (dCmpT pIn (dIx (dVar 2) (dC (.int 0))) (dVar 8))))) (dRet (dC .non)) dNil') (dSeq (dSet (gT (gsCons (gN 9) (gsCons (gN 10) gsNil))) (dCallF s__law_moved (dCons (dIx (dVar 0) (dVar 5)) (dCons (dIx (dVar 2) (dC (.int 0))) (dCons (dVar 7) (dCons (dVar 8) (dCons (dVar 6) dNil))))))) (dRet (dCallF s__law_put (dCons (dVar 2) (dCons (dVar 5) (dCons (dVar 9) (dCons (dVar 10) dNil))))))))))))))
abbrev b__law_after (s__law_live : DF) (s__law_marks : DF) (s__law_put : DF) (s__law_bare : DF) (s__law_moved : DF) : DF := fromBody 4 11 (m__law_after s__law_live s__law_marks s__law_put s__law_bare s__law_moved)
def m_law_k05 (s__law_source : DF) (s__law_short : DF) (s__law_program : DF) (s__law_facts : DF) (s__law_stand : DF) (s__law_marks : DF) (s__law_draw : DF) (s__law_choice : DF) (s_after : DF) (s__law_after : DF) (s_is_stand : DF) : DS := (dSeq (dFor (dItRange (dCons (dOp pAdd (dC (.int 1)) (dCall (pure1 pMin2) (dCons (dCall (pure1 pLen1) (dCons (dVar 0) dNil)) (dCons (dC (.int 10)) dNil)))) dNil)) (gN 1) (dSeq (dSet (gN 2) (dCallF s__law_source (dCons (dVar 0) (dCons (dVar 1) dNil)))) (dSeq (dSet (gN 3) (dTup (dCons (dCallF s__law_program (dCons (dVar 2) (dCons (dC (.int 12)) dNil))) (dCons (dCallF s__law_short (dCons (dVar 2) (dCons (dC (.int 12)) dNil))) dNil)))) (dFor (dItRange (dCons (dC (.int 3)) dNil)) (gN 4) (dSeq (dPar 5 6 (dCons (dCallF s__law_stand (dCons (dVar 2) (dCons (dVar 3) dNil))) (dCons (dCallF s__law_facts (dCons (dVar 2) dNil)) dNil))) (dFor (dItRange (dCons (dC (.int 2)) dNil)) (gN 7) (dSeq (dSet (gN 8) (dOp pAdd (dCallF s__law_marks (dCons (dVar 5) dNil)) (dLst (dCons (dCallF s__law_draw (dCons (dVar 2) (dCons (dC (.int 1000)) dNil))) (dCons (dC (.int 0)) (dCons (dC (.int 999)) dNil)))))) (dSeq (dSet (gN 9) (dComp (dItRange (dCons (dC (.int 3)) dNil)) [12] (gN 12) dYes (dTup (dCons (dC (.str "start")) (dCons (dVar 7) (dCons (dCallF s__law_choice (dCons (dVar 2) (dCons (dVar 8) dNil))) dNil)))))) (dSeq (dSet (gN 9) (dOp pAdd (dVar 9) (dLst (dCons (dTup (dCons (dC (.str "die")) (dCons (dVar 7) (dCons (dC .non) dNil)))) (dCons (dTup (dCons (dC (.str "step")) (dCons (dVar 7) (dCons (dC .non) dNil)))) (dCons (dTup (dCons (dC (.str "judge")) (dCons (dVar 7) (dCons (dC (.bl false)) dNil)))) dNil)))))) (dFor (dItSeq (dOp pAdd (dVar 9) (dLst (dCons (dTup (dCons (dC (.str "judge")) (dCons (dVar 7) (dCons (dC (.bl true)) dNil)))) dNil)))) (gN 10) (dSeq (dSet (gN 11) (dCallF s_after (dCons (dVar 3) (dCons (dVar 6) (dCons (dVar 5) (dCons (dVar 10) dNil)))))) (dSeq (dIf (dCmpT (fun _ => pNe) (dVar 11) (dCallF s__law_after (dCons (dVar 3) (dCons (dVar 6) (dCons (dVar 5) (dCons (dVar 10) dNil)))))) (dRet (dC (.bl false))) dNil') (dIf (dAndT (dCmpT (fun _ => pNotN) (dVar 11) (dC .non)) (dNotT (dVal (dCallF s_is_stand (dCons (dVar 3) (dCons (dVar 11) dNil)))))) (dRet (dC (.bl false))) dNil'))))))))))))) (dRet (dC (.bl true))))
abbrev b_law_k05 (s__law_source : DF) (s__law_short : DF) (s__law_program : DF) (s__law_facts : DF) (s__law_stand : DF) (s__law_marks : DF) (s__law_draw : DF) (s__law_choice : DF) (s_after : DF) (s__law_after : DF) (s_is_stand : DF) : DF := fromBody 1 13 (m_law_k05 s__law_source s__law_short s__law_program s__law_facts s__law_stand s__law_marks s__law_draw s__law_choice s_after s__law_after s_is_stand)
end L3
namespace L3
open PySem PySem.Spec PyProof.Rows L2
/-! ### plain reckoning with the data semantics -/
theorem szk_0 : szOk 0 = true := by decide
theorem szk_1 : szOk 1 = true := by decide
theorem szk_2 : szOk 2 = true := by decide
theorem szk_3 : szOk 3 = true := by decide
theorem szk_4 : szOk 4 = true := by decide
theorem szk_5 : szOk 5 = true := by decide
theorem szk_6 : szOk 6 = true := by decide
theorem szk_7 : szOk 7 = true := by decide
theorem szk_8 : szOk 8 = true := by decide
theorem szk_9 : szOk 9 = true := by decide
theorem szk_10 : szOk 10 = true := by decide
theorem szk_11 : szOk 11 = true := by decide
theorem szk_12 : szOk 12 = true := by decide
theorem szk_13 : szOk 13 = true := by decide
theorem szk_14 : szOk 14 = true := by decide
theorem szk_15 : szOk 15 = true := by decide
theorem szk_16 : szOk 16 = true := by decide
theorem szk_17 : szOk 17 = true := by decide
theorem szk_18 : szOk 18 = true := by decide
theorem szk_19 : szOk 19 = true := by decide
theorem szk_20 : szOk 20 = true := by decide
theorem exS {α : Type} {a : α} {p : α → Prop} (h : p a) : ∃ z, some a = some z ∧ p z := ⟨a, rfl, h⟩
theorem ex_of {α : Type} {o : Option α} {a : α} {p : α → Prop} (e : o = some a) (h : p a) : ∃ z, o = some z ∧ p z := ⟨a, e, h⟩
theorem ifT {c A B : Prop} [Decidable c] (hc : c) (h : A) : if c then A else B := by rw [if_pos hc]; exact h
theorem ifF {c A B : Prop} [Decidable c] (hc : ¬ c) (h : B) : if c then A else B := by rw [if_neg hc]; exact h
theorem if2 {c A B : Prop} [Decidable c] (h1 : c → A) (h2 : ¬ c → B) : if c then A else B := by
  by_cases h : c
  · exact ifT h (h1 h)
  · exact ifF h (h2 h)
theorem ifB {c : Bool} {A B : Prop} (h1 : c = true → A) (h2 : c = false → B) : if c = true then A else B := by
  cases c with
  | true => exact ifT rfl (h1 rfl)
  | false => exact ifF (by simp) (h2 rfl)
theorem pAdd_i {a b : Int} : pAdd (.int a) (.int b) = some (.int (a + b)) := rfl
theorem pSub_i {a b : Int} : pSub (.int a) (.int b) = some (.int (a - b)) := rfl
theorem pLt_i {a b : Int} : pLt (.int a) (.int b) = some (decide (a < b)) := rfl
theorem pLe_i {a b : Int} : pLe (.int a) (.int b) = some (decide (a ≤ b)) := rfl
theorem pGt_i {a b : Int} : pGt (.int a) (.int b) = some (decide (b < a)) := rfl
theorem pGe_i {a b : Int} : pGe (.int a) (.int b) = some (decide (b ≤ a)) := rfl
theorem pAddI_i {a b : Int} : pAddI (.int a) (.int b) = some (.int (a + b)) := rfl
theorem pIsN_non  : pIsN .non .non = some true := rfl
theorem pNotN_non  : pNotN .non .non = some false := rfl
theorem pIsN_bl {b : Bool} : pIsN (.bl b) .non = some false := rfl
theorem pNotN_bl {b : Bool} : pNotN (.bl b) .non = some true := rfl
theorem pIsN_int {i : Int} : pIsN (.int i) .non = some false := rfl
theorem pNotN_int {i : Int} : pNotN (.int i) .non = some true := rfl
theorem pIsN_str {x : Str} : pIsN (.str x) .non = some false := rfl
theorem pNotN_str {x : Str} : pNotN (.str x) .non = some true := rfl
theorem pIsN_tup {zs : List Z} : pIsN (.tup zs) .non = some false := rfl
theorem pNotN_tup {zs : List Z} : pNotN (.tup zs) .non = some true := rfl
theorem pIsN_lst {zs : List Z} : pIsN (.lst zs) .non = some false := rfl
theorem pNotN_lst {zs : List Z} : pNotN (.lst zs) .non = some true := rfl
theorem pIsN_ref {a : Addr} : pIsN (.ref a) .non = some false := rfl
theorem pNotN_ref {a : Addr} : pNotN (.ref a) .non = some true := rfl
theorem pIsN_ty {n : String} : pIsN (.ty n) .non = some false := rfl
theorem pNotN_ty {n : String} : pNotN (.ty n) .non = some true := rfl
theorem pIsN_scr {zs : List Z} : pIsN (.scr zs) .non = some false := rfl
theorem pNotN_scr {zs : List Z} : pNotN (.scr zs) .non = some true := rfl
theorem pIsI_non_bool {S : Sm}  : pIsI S [.non, .ty "bool"] = some (.bl false) := by simp [pIsI, tyName, isTy]
theorem pIsI_non_int {S : Sm}  : pIsI S [.non, .ty "int"] = some (.bl false) := by simp [pIsI, tyName, isTy]
theorem pIsI_non_str {S : Sm}  : pIsI S [.non, .ty "str"] = some (.bl false) := by simp [pIsI, tyName, isTy]
theorem pIsI_non_tuple {S : Sm}  : pIsI S [.non, .ty "tuple"] = some (.bl false) := by simp [pIsI, tyName, isTy]
theorem pIsI_non_list {S : Sm}  : pIsI S [.non, .ty "list"] = some (.bl false) := by simp [pIsI, tyName, isTy]
theorem pIsI_bl_bool {S : Sm} {b : Bool} : pIsI S [(.bl b), .ty "bool"] = some (.bl true) := by simp [pIsI, tyName, isTy]
theorem pIsI_bl_int {S : Sm} {b : Bool} : pIsI S [(.bl b), .ty "int"] = some (.bl true) := by simp [pIsI, tyName, isTy]
theorem pIsI_bl_str {S : Sm} {b : Bool} : pIsI S [(.bl b), .ty "str"] = some (.bl false) := by simp [pIsI, tyName, isTy]
theorem pIsI_bl_tuple {S : Sm} {b : Bool} : pIsI S [(.bl b), .ty "tuple"] = some (.bl false) := by simp [pIsI, tyName, isTy]
theorem pIsI_bl_list {S : Sm} {b : Bool} : pIsI S [(.bl b), .ty "list"] = some (.bl false) := by simp [pIsI, tyName, isTy]
theorem pIsI_int_bool {S : Sm} {i : Int} : pIsI S [(.int i), .ty "bool"] = some (.bl false) := by simp [pIsI, tyName, isTy]
theorem pIsI_int_int {S : Sm} {i : Int} : pIsI S [(.int i), .ty "int"] = some (.bl true) := by simp [pIsI, tyName, isTy]
theorem pIsI_int_str {S : Sm} {i : Int} : pIsI S [(.int i), .ty "str"] = some (.bl false) := by simp [pIsI, tyName, isTy]
theorem pIsI_int_tuple {S : Sm} {i : Int} : pIsI S [(.int i), .ty "tuple"] = some (.bl false) := by simp [pIsI, tyName, isTy]
theorem pIsI_int_list {S : Sm} {i : Int} : pIsI S [(.int i), .ty "list"] = some (.bl false) := by simp [pIsI, tyName, isTy]
theorem pIsI_str_bool {S : Sm} {x : Str} : pIsI S [(.str x), .ty "bool"] = some (.bl false) := by simp [pIsI, tyName, isTy]
theorem pIsI_str_int {S : Sm} {x : Str} : pIsI S [(.str x), .ty "int"] = some (.bl false) := by simp [pIsI, tyName, isTy]
theorem pIsI_str_str {S : Sm} {x : Str} : pIsI S [(.str x), .ty "str"] = some (.bl true) := by simp [pIsI, tyName, isTy]
theorem pIsI_str_tuple {S : Sm} {x : Str} : pIsI S [(.str x), .ty "tuple"] = some (.bl false) := by simp [pIsI, tyName, isTy]
theorem pIsI_str_list {S : Sm} {x : Str} : pIsI S [(.str x), .ty "list"] = some (.bl false) := by simp [pIsI, tyName, isTy]
theorem pIsI_tup_bool {S : Sm} {zs : List Z} : pIsI S [(.tup zs), .ty "bool"] = some (.bl false) := by simp [pIsI, tyName, isTy]
theorem pIsI_tup_int {S : Sm} {zs : List Z} : pIsI S [(.tup zs), .ty "int"] = some (.bl false) := by simp [pIsI, tyName, isTy]
theorem pIsI_tup_str {S : Sm} {zs : List Z} : pIsI S [(.tup zs), .ty "str"] = some (.bl false) := by simp [pIsI, tyName, isTy]
theorem pIsI_tup_tuple {S : Sm} {zs : List Z} : pIsI S [(.tup zs), .ty "tuple"] = some (.bl true) := by simp [pIsI, tyName, isTy]
theorem pIsI_tup_list {S : Sm} {zs : List Z} : pIsI S [(.tup zs), .ty "list"] = some (.bl false) := by simp [pIsI, tyName, isTy]
theorem pIsI_lst_bool {S : Sm} {zs : List Z} : pIsI S [(.lst zs), .ty "bool"] = some (.bl false) := by simp [pIsI, tyName, isTy]
theorem pIsI_lst_int {S : Sm} {zs : List Z} : pIsI S [(.lst zs), .ty "int"] = some (.bl false) := by simp [pIsI, tyName, isTy]
theorem pIsI_lst_str {S : Sm} {zs : List Z} : pIsI S [(.lst zs), .ty "str"] = some (.bl false) := by simp [pIsI, tyName, isTy]
theorem pIsI_lst_tuple {S : Sm} {zs : List Z} : pIsI S [(.lst zs), .ty "tuple"] = some (.bl false) := by simp [pIsI, tyName, isTy]
theorem pIsI_lst_list {S : Sm} {zs : List Z} : pIsI S [(.lst zs), .ty "list"] = some (.bl true) := by simp [pIsI, tyName, isTy]
theorem pLen_tup {S : Sm} {zs : List Z} : pLen1 S [(.tup zs)] = some (.int zs.length) := rfl
theorem pIx_tup {S : Sm} {zs : List Z} {j : Int} : pIx S (.tup zs) (.int j) = atI zs j := rfl
theorem pList_tup {S : Sm} {zs : List Z} : pList S [(.tup zs)] = some (.lst zs) := rfl
theorem pTuple_tup {S : Sm} {zs : List Z} : pTuple S [(.tup zs)] = some (.tup zs) := rfl
theorem seqOf_tup {S : Sm} {zs : List Z} : seqOf S (.tup zs) = some zs := rfl
theorem pLen_lst {S : Sm} {zs : List Z} : pLen1 S [(.lst zs)] = some (.int zs.length) := rfl
theorem pIx_lst {S : Sm} {zs : List Z} {j : Int} : pIx S (.lst zs) (.int j) = atI zs j := rfl
theorem pList_lst {S : Sm} {zs : List Z} : pList S [(.lst zs)] = some (.lst zs) := rfl
theorem pTuple_lst {S : Sm} {zs : List Z} : pTuple S [(.lst zs)] = some (.tup zs) := rfl
theorem seqOf_lst {S : Sm} {zs : List Z} : seqOf S (.lst zs) = some zs := rfl
theorem pLen_scr {S : Sm} {zs : List Z} : pLen1 S [(.scr zs)] = some (.int zs.length) := rfl
theorem pIx_scr {S : Sm} {zs : List Z} {j : Int} : pIx S (.scr zs) (.int j) = atI zs j := rfl
theorem pList_scr {S : Sm} {zs : List Z} : pList S [(.scr zs)] = some (.lst zs) := rfl
theorem pTuple_scr {S : Sm} {zs : List Z} : pTuple S [(.scr zs)] = some (.tup zs) := rfl
theorem seqOf_scr {S : Sm} {zs : List Z} : seqOf S (.scr zs) = some zs := rfl
theorem pSl_tup {S : Sm} {zs : List Z} {lo hi : Option Int} : pSl S (.tup zs) lo hi = some (.tup (cutZ zs lo hi)) := rfl
theorem itemsOf_tup {zs : List Z} : itemsOf (.tup zs) = some zs := rfl
theorem pSl_lst {S : Sm} {zs : List Z} {lo hi : Option Int} : pSl S (.lst zs) lo hi = some (.lst (cutZ zs lo hi)) := rfl
theorem itemsOf_lst {zs : List Z} : itemsOf (.lst zs) = some zs := rfl
theorem pAbs_i {S : Sm} {i : Int} : pAbs S [.int i] = some (.int (if i < 0 then -i else i)) := rfl
theorem pInt_i {S : Sm} {i : Int} : pInt S [.int i] = some (.int i) := rfl
theorem pInt_b {S : Sm} {b : Bool} : pInt S [.bl b] = some (.int (if b then 1 else 0)) := rfl
theorem pMin2_i {S : Sm} {i j : Int} : pMin2 S [.int i, .int j] = some (.int (if j < i then j else i)) := rfl
theorem gT_tup {gs : DGs} {zs : List Z} {env : Env} : gT gs (.tup zs) env = gs zs env := rfl
theorem gsCons_cons {g : DG} {gs : DGs} {z : Z} {zs : List Z} {env : Env} : gsCons g gs (z :: zs) env = (g z env).bind fun e => gs zs e := rfl
theorem gsNil_nil {env : Env} : gsNil [] env = some env := rfl
theorem getE_0 {z : Z} {env : Env} : getE (some z :: env) 0 = some z := rfl
theorem getE_s {o : Option Z} {env : Env} {n : Nat} : getE (o :: env) (n + 1) = getE env n := rfl
theorem atI_0 {α : Type} {x : α} {xs : List α} : atI (x :: xs) 0 = some x := atI_nat (j := 0) rfl
theorem atI_1 {α : Type} {x y : α} {xs : List α} : atI (x :: y :: xs) 1 = some y := atI_nat (j := 1) rfl
theorem atI_2 {α : Type} {x y z : α} {xs : List α} : atI (x :: y :: z :: xs) 2 = some z := atI_nat (j := 2) rfl
theorem atI_3 {α : Type} {x y z u : α} {xs : List α} : atI (x :: y :: z :: u :: xs) 3 = some u := atI_nat (j := 3) rfl
theorem atI_4 {α : Type} {x y z u v : α} {xs : List α} : atI (x :: y :: z :: u :: v :: xs) 4 = some v := atI_nat (j := 4) rfl
theorem pFdiv_i {a b : Int} (h0 : 0 < b) (h1 : b < 1073741824) : pFdiv (.int a) (.int b) = some (.int (a / b)) := by simp [pFdiv, h0, h1]
theorem pMod_i {a b : Int} (h0 : 0 < b) : pMod (.int a) (.int b) = some (.int (a % b)) := by simp [pMod, h0]
theorem small_of {a : Int} (h : -(2 ^ 64) < a) (h' : a < 2 ^ 64) : small a = true := by unfold small; rw [decide_eq_true h, decide_eq_true h']; rfl
theorem pMul_l {a b : Int} (h : -(2 ^ 64) < a) (h' : a < 2 ^ 64) : pMul (.int a) (.int b) = some (.int (a * b)) := by simp [pMul, small_of h h']
theorem pMul_r {a b : Int} (h : -(2 ^ 64) < b) (h' : b < 2 ^ 64) : pMul (.int a) (.int b) = some (.int (a * b)) := by simp [pMul, small_of h h']
theorem sz_of {n : Nat} (h : n ≤ 16777216) : szOk n = true := by unfold szOk; rw [sizeLine_eq]; exact decide_eq_true h
theorem pAdd_t {xs ys : List Z} (h : xs.length + ys.length ≤ 16777216) : pAdd (.tup xs) (.tup ys) = some (.tup (xs ++ ys)) := by simp [pAdd, sz_of h]
theorem pAdd_l {xs ys : List Z} (h : xs.length + ys.length ≤ 16777216) : pAdd (.lst xs) (.lst ys) = some (.lst (xs ++ ys)) := by simp [pAdd, sz_of h]
theorem pEq_of {x y : Z} (h1 : dat x = true) (h2 : dat y = true) (h3 : dep x ≤ 60) (h4 : dep y ≤ 60) : pEq x y = some (zeq x y) := by simp [pEq, h1, h2, h3, h4]
theorem pNe_of {x y : Z} (h1 : dat x = true) (h2 : dat y = true) (h3 : dep x ≤ 60) (h4 : dep y ≤ 60) : pNe x y = some (!zeq x y) := by simp [pNe, h1, h2, h3, h4]
theorem pIn_of {S : Sm} {x y : Z} {ys : List Z} (h : seqOf S y = some ys) (h1 : dat x = true) (h2 : dats ys = true) (h3 : dep x ≤ 60) (h4 : deps ys ≤ 59) : pIn S x y = some (inZ x ys) := by simp [pIn, h, h1, h2, h3, h4]
theorem pNotIn_of {S : Sm} {x y : Z} {ys : List Z} (h : seqOf S y = some ys) (h1 : dat x = true) (h2 : dats ys = true) (h3 : dep x ≤ 60) (h4 : deps ys ≤ 59) : pNotIn S x y = some (!inZ x ys) := by simp [pNotIn, pIn, h, h1, h2, h3, h4]
theorem seqOf_ref {S : Sm} {a : Addr} {zs : List Z} (h : S a = some (.lst zs)) : seqOf S (.ref a) = some zs := by simp [seqOf, h]
theorem pIx_ref {S : Sm} {a : Addr} {zs : List Z} {j : Int} (h : S a = some (.lst zs)) : pIx S (.ref a) (.int j) = atI zs j := by simp [pIx, seqOf, h]
theorem pLen_ref {S : Sm} {a : Addr} {zs : List Z} (h : S a = some (.lst zs)) : pLen1 S [.ref a] = some (.int zs.length) := by simp [pLen1, pLen, seqOf, h]
theorem pTuple_ref {S : Sm} {a : Addr} {zs : List Z} (h : S a = some (.lst zs)) : pTuple S [.ref a] = some (.tup zs) := by simp [pTuple, seqOf, h]
theorem blsOf_map {α : Type} (f : α → Bool) : ∀ xs : List α, blsOf (xs.map fun x => .bl (f x)) = some (xs.map f)
  | [] => rfl
  | x :: xs => by simp [blsOf, blsOf_map f xs]
theorem pAll_map {α : Type} {S : Sm} (f : α → Bool) (xs : List α) : pAll S [.lst (xs.map fun x => .bl (f x))] = some (.bl (xs.all f)) := by simp [pAll, lstOf, blsOf_map]
theorem pAny_map {α : Type} {S : Sm} (f : α → Bool) (xs : List α) : pAny S [.lst (xs.map fun x => .bl (f x))] = some (.bl (xs.any f)) := by simp [pAny, lstOf, blsOf_map]
theorem beq_str (a b : Str) : (a == b) = decide (a = b) := by
  by_cases h : a = b
  · subst h; simp
  · rw [decide_eq_false h]; exact beq_eq_false_iff_ne.mpr h
theorem atI_get' {α : Type} {xs : List α} {i : Int} (h0 : 0 ≤ i) (h1 : i < xs.length) : ∃ x, atI xs i = some x ∧ x ∈ xs ∧ xs[i.toNat]? = some x := by
  have h : i.toNat < xs.length := by omega
  have e : xs[i.toNat]? = some (xs[i.toNat]) := List.getElem?_eq_getElem h
  refine ⟨xs[i.toNat], ?_, List.getElem_mem h, e⟩
  have := atI_nat e
  rwa [Int.toNat_of_nonneg h0] at this
theorem dats_mem : ∀ {zs : List Z}, dats zs = true → ∀ z ∈ zs, dat z = true
  | z :: zs, h, y, hy => by
    simp only [dats, Bool.and_eq_true] at h
    rcases List.mem_cons.mp hy with e | hy
    · rw [e]; exact h.1
    · exact dats_mem h.2 y hy
theorem dats_of : ∀ {zs : List Z}, (∀ z ∈ zs, dat z = true) → dats zs = true
  | [], _ => rfl
  | z :: zs, h => by
    simp only [dats, Bool.and_eq_true]
    exact ⟨h z List.mem_cons_self, dats_of fun y hy => h y (List.mem_cons_of_mem _ hy)⟩
theorem deps_mem : ∀ {zs : List Z} {z : Z}, z ∈ zs → dep z ≤ deps zs
  | y :: zs, z, h => by
    simp only [deps]
    rcases List.mem_cons.mp h with e | h
    · rw [e]; omega
    · have := deps_mem h; omega
theorem deps_of {n : Nat} : ∀ {zs : List Z}, (∀ z ∈ zs, dep z ≤ n) → deps zs ≤ n
  | [], _ => by simp [deps]
  | z :: zs, h => by
    have h1 := h z List.mem_cons_self
    have h2 := deps_of fun y hy => h y (List.mem_cons_of_mem _ hy)
    simp only [deps]
    omega
/-- a comprehension without a test, each element within P -/
theorem compZ_all {g : DG} {me : DE} {env : Env} {S : Sm} {k : List Z → Sm → Prop} (P : Z → Prop) : ∀ (zs acc : List Z), acc.length + zs.length ≤ 16777216 →
    (∀ z ∈ zs, ∃ e, g z env = some e ∧ ∀ k' : Z → Sm → Prop, (∀ y, P y → k' y S) → me EK0 e S k') → (∀ ys, ys.length = zs.length → (∀ y ∈ ys, P y) → k (acc ++ ys) S) → compZ g dYes me zs env S acc k
  | [], acc, _, _, hk => by
    have := hk [] rfl (fun _ h => by simp at h)
    rw [List.append_nil] at this
    exact this
  | z :: zs, acc, hl, h, hk => by
    obtain ⟨e, he, hm⟩ := h z List.mem_cons_self
    rw [List.length_cons] at hl
    refine ⟨e, he, ?_⟩
    simp only [dYes, reduceIte]
    refine hm _ fun y hy => ⟨by rw [sizeLine_eq]; exact decide_eq_true (by omega), ?_⟩
    refine compZ_all P zs (acc ++ [y]) (by rw [List.length_append]; simp; omega) (fun w hw => h w (List.mem_cons_of_mem _ hw)) fun ys hys hp => ?_
    rw [List.append_assoc]
    exact hk (y :: ys) (by simp [hys]) fun w hw => by
      rcases List.mem_cons.mp hw with e | hw
      · rw [e]; exact hy
      · exact hp w hw
/-- a comprehension without a test, by a function -/
theorem compZ_map {g : DG} {me : DE} {env : Env} {S : Sm} {k : List Z → Sm → Prop} (f : Z → Z) : ∀ (zs acc : List Z), acc.length + zs.length ≤ 16777216 →
    (∀ z ∈ zs, ∃ e, g z env = some e ∧ ∀ k' : Z → Sm → Prop, k' (f z) S → me EK0 e S k') → k (acc ++ zs.map f) S → compZ g dYes me zs env S acc k
  | [], acc, _, _, hk => by simpa [compZ] using hk
  | z :: zs, acc, hl, h, hk => by
    obtain ⟨e, he, hm⟩ := h z List.mem_cons_self
    rw [List.length_cons] at hl
    refine ⟨e, he, ?_⟩
    simp only [dYes, reduceIte]
    refine hm _ ⟨by rw [sizeLine_eq]; exact decide_eq_true (by omega), ?_⟩
    exact compZ_map f zs (acc ++ [f z]) (by rw [List.length_append]; simp; omega) (fun w hw => h w (List.mem_cons_of_mem _ hw)) (by simpa using hk)
/-- a comprehension with a test and an element, both functions of the item -/
theorem compZ_filter {g : DG} {t : DT} {me : DE} {env : Env} {S : Sm} {k : List Z → Sm → Prop} (c : Z → Bool) (f : Z → Z) : ∀ (zs acc : List Z), acc.length + zs.length ≤ 16777216 →
    (∀ z ∈ zs, ∃ e, g z env = some e ∧ (∀ k' : Bool → Sm → Prop, k' (c z) S → t EK0 e S k') ∧ (c z = true → ∀ k' : Z → Sm → Prop, k' (f z) S → me EK0 e S k')) → k (acc ++ (zs.filter c).map f) S → compZ g t me zs env S acc k
  | [], acc, _, _, hk => by simpa [compZ] using hk
  | z :: zs, acc, hl, h, hk => by
    obtain ⟨e, he, ht, hm⟩ := h z List.mem_cons_self
    rw [List.length_cons] at hl
    refine ⟨e, he, ht _ ?_⟩
    cases hc : c z with
    | true =>
      refine ifT rfl (hm hc _ ⟨by rw [sizeLine_eq]; exact decide_eq_true (by omega), ?_⟩)
      refine compZ_filter c f zs (acc ++ [f z]) (by rw [List.length_append]; simp; omega) (fun w hw => h w (List.mem_cons_of_mem _ hw)) ?_
      simpa [hc] using hk
    | false =>
      refine ifF (by simp) (compZ_filter c f zs acc (by omega) (fun w hw => h w (List.mem_cons_of_mem _ hw)) ?_)
      simpa [hc] using hk
theorem map_of {α : Type} {Q : α → Prop} {f : α → Z} : ∀ {ys : List Z}, (∀ y ∈ ys, ∃ r, Q r ∧ y = f r) → ∃ rs : List α, (∀ r ∈ rs, Q r) ∧ ys = rs.map f
  | [], _ => ⟨[], fun _ h => by simp at h, rfl⟩
  | y :: ys, h => by
    obtain ⟨r, hr, e⟩ := h y List.mem_cons_self
    obtain ⟨rs, hrs, e2⟩ := map_of fun w hw => h w (List.mem_cons_of_mem _ hw)
    refine ⟨r :: rs, fun w hw => ?_, by rw [e, e2]; rfl⟩
    rcases List.mem_cons.mp hw with e | hw
    · rw [e]; exact hr
    · exact hrs w hw
local macro_rules | `(tactic| walk_at "d") => `(tactic| try simp only [szk_0, szk_1, szk_2, szk_3, szk_4, szk_5, szk_6, szk_7, szk_8, szk_9, szk_10, szk_11, szk_12, szk_13, szk_14, szk_15, szk_16, szk_17, szk_18, szk_19, szk_20, fromBody, dNil', dSeq, dSet, dRet, dRetN, dDrop, dIf, dVar, dC, dOp, dCmp, dCmpT, dChain, dChainT, dVal, dNotT, dAndT, dOrT, dAnd, dOr, dNot, dIfE, dNeg, dIx, dSl, dNoPart, dPart, dNil, dCons, dTup, dLst, dLstM, dCall, pure1, dCallF, dItSeq, dItRange, dItZip, dFor, dComp, dCompM, dYes, dAug, dPar, dSub, dRetF, dFrz, dAppend, dBrk, dCnt, wipeE, gN, dInTab, dIxTab, dCallL, dLenSet, dCount, dAddM, gL, dRaise, dTry, catchBy, dItEnum,
  pAdd_i, pSub_i, pLt_i, pLe_i, pGt_i, pGe_i, pAddI_i, pIsN_non, pNotN_non, pIsN_bl, pNotN_bl, pIsN_int, pNotN_int, pIsN_str, pNotN_str, pIsN_tup, pNotN_tup, pIsN_lst, pNotN_lst, pIsN_ref, pNotN_ref, pIsN_ty, pNotN_ty, pIsN_scr, pNotN_scr, pIsI_non_bool, pIsI_non_int, pIsI_non_str, pIsI_non_tuple, pIsI_non_list, pIsI_bl_bool, pIsI_bl_int, pIsI_bl_str, pIsI_bl_tuple, pIsI_bl_list, pIsI_int_bool, pIsI_int_int, pIsI_int_str, pIsI_int_tuple, pIsI_int_list, pIsI_str_bool, pIsI_str_int, pIsI_str_str, pIsI_str_tuple, pIsI_str_list, pIsI_tup_bool, pIsI_tup_int, pIsI_tup_str, pIsI_tup_tuple, pIsI_tup_list, pIsI_lst_bool, pIsI_lst_int, pIsI_lst_str, pIsI_lst_tuple, pIsI_lst_list, pLen_tup, pIx_tup, pList_tup, pTuple_tup, seqOf_tup, pLen_lst, pIx_lst, pList_lst, pTuple_lst, seqOf_lst, pLen_scr, pIx_scr, pList_scr, pTuple_scr, seqOf_scr, pSl_tup, itemsOf_tup, pSl_lst, itemsOf_lst, pAbs_i, pInt_i, pInt_b, pMin2_i, gT_tup, gsCons_cons, gsNil_nil, getE_0, getE_s,
  Option.some.injEq, exists_eq_left', exists_eq_left, Z.int.injEq, Z.bl.injEq, Z.str.injEq, Z.tup.injEq, Z.lst.injEq, Z.ref.injEq, Option.map_some, Option.bind_some, List.set_cons_zero, List.set_cons_succ, List.map_cons, List.map_nil, List.cons_append, List.nil_append, List.length_cons, List.length_nil, List.replicate_succ, List.replicate_zero, true_and, and_true, if_true, Nat.reduceAdd, Nat.reduceSub, Bool.false_eq_true, if_false, ite_true, ite_false, List.cons.injEq, reduceIte, Bool.not_true, Bool.not_false])
local macro_rules | `(tactic| walk_at "v") => `(tactic| try simp only [szk_0, szk_1, szk_2, szk_3, szk_4, szk_5, szk_6, szk_7, szk_8, szk_9, szk_10, szk_11, szk_12, szk_13, szk_14, szk_15, szk_16, szk_17, szk_18, szk_19, szk_20, 
  pAdd_i, pSub_i, pLt_i, pLe_i, pGt_i, pGe_i, pAddI_i, pIsN_non, pNotN_non, pIsN_bl, pNotN_bl, pIsN_int, pNotN_int, pIsN_str, pNotN_str, pIsN_tup, pNotN_tup, pIsN_lst, pNotN_lst, pIsN_ref, pNotN_ref, pIsN_ty, pNotN_ty, pIsN_scr, pNotN_scr, pIsI_non_bool, pIsI_non_int, pIsI_non_str, pIsI_non_tuple, pIsI_non_list, pIsI_bl_bool, pIsI_bl_int, pIsI_bl_str, pIsI_bl_tuple, pIsI_bl_list, pIsI_int_bool, pIsI_int_int, pIsI_int_str, pIsI_int_tuple, pIsI_int_list, pIsI_str_bool, pIsI_str_int, pIsI_str_str, pIsI_str_tuple, pIsI_str_list, pIsI_tup_bool, pIsI_tup_int, pIsI_tup_str, pIsI_tup_tuple, pIsI_tup_list, pIsI_lst_bool, pIsI_lst_int, pIsI_lst_str, pIsI_lst_tuple, pIsI_lst_list, pLen_tup, pIx_tup, pList_tup, pTuple_tup, seqOf_tup, pLen_lst, pIx_lst, pList_lst, pTuple_lst, seqOf_lst, pLen_scr, pIx_scr, pList_scr, pTuple_scr, seqOf_scr, pSl_tup, itemsOf_tup, pSl_lst, itemsOf_lst, pAbs_i, pInt_i, pInt_b, pMin2_i, gT_tup, gsCons_cons, gsNil_nil, getE_0, getE_s, atI_0, atI_1, atI_2, atI_3, atI_4, sUpd_same,
  Option.some.injEq, exists_eq_left', exists_eq_left, Z.int.injEq, Z.bl.injEq, Z.str.injEq, Z.tup.injEq, Z.lst.injEq, Z.ref.injEq, Option.map_some, Option.bind_some, List.set_cons_zero, List.set_cons_succ, List.map_cons, List.map_nil, List.cons_append, List.nil_append, List.length_cons, List.length_nil, List.replicate_succ, List.replicate_zero, true_and, and_true, if_true, Nat.reduceAdd, Nat.reduceSub, Bool.false_eq_true, if_false, ite_true, ite_false, List.cons.injEq, reduceIte, Bool.not_true, Bool.not_false])
/-! ### draws -/
def s_source : DF := fun zs RE S k => ∃ (ns : List Int) (i : Nat), zs = [.scr (ns.map Z.int), .int i] ∧ i ≤ 1000 ∧ ∀ p, S p = none → k (.ref p) (sUpd S p .src)
def s_draw : DF := fun zs RE S k => ∃ a n, zs = [.ref a, .int n] ∧ S a = some .src ∧ 0 < n ∧ n < 1073741824 ∧ ∀ i, 0 ≤ i → i < n → k (.int i) S
set_option maxHeartbeats 1000000
theorem pPow_10_7 : pPow (.int 10) (.int 7) = some (.int 10000000) := rfl
theorem pPow_10_18 : pPow (.int 10) (.int 18) = some (.int 1000000000000000000) := rfl
theorem mod_b (a b : Int) (h : 0 < b) : 0 ≤ a % b ∧ a % b < b := ⟨Int.emod_nonneg _ (by omega), Int.emod_lt_of_pos _ h⟩
theorem ok_draw (zs RE S R) (h : s_draw zs RE S R) : drawF b__law_draw zs RE S R := by
  obtain ⟨a, n, rfl, hs, h0, h1, hk⟩ := h
  refine ⟨a, hs, fun x y hb => ?_⟩
  obtain ⟨b1, b2, b3⟩ := hb
  unfold b__law_draw m__law_draw
  walk_at "d"
  simp only [pIx_ref sUpd_same]
  walk_at "v"
  refine ifB (fun hx => ?_) (fun hx => ?_)
  · refine ⟨_, pMod_i h0, _, pFdiv_i h0 h1, a, 0, 0, _, rfl, rfl, sUpd_same, rfl, _, _, _, rfl, ⟨?_, b2, b3⟩, by rw [sUpd_upd]; rfl, hk _ (mod_b x n h0).1 (mod_b x n h0).2⟩
    exact Int.ediv_nonneg b1 (by omega)
  · obtain ⟨c1, c2⟩ := mod_b (y * 48271) 2147483647 (by omega)
    refine ⟨_, pMul_r (by omega) (by omega), _, rfl, _, pMod_i (by omega), a, 1, 1, _, rfl, rfl, sUpd_same, rfl, ?_⟩
    simp only [sUpd_upd, List.set_cons_succ, List.set_cons_zero, pIx_ref sUpd_same, atI_1, pPow_10_7]
    walk_at "v"
    generalize y * 48271 % 2147483647 = c at c1 c2 ⊢
    have hd : 0 ≤ c * c % 2147483629 / 64 ∧ c * c % 2147483629 / 64 < 2147483629 := by
      obtain ⟨e1, e2⟩ := mod_b (c * c) 2147483629 (by omega)
      omega
    refine ⟨_, pMul_l (by omega) (by omega), _, rfl, _, pMod_i (by omega), _, pFdiv_i (by omega) (by omega), _, rfl, ?_⟩
    refine ifB (fun hn => ?_) (fun hn => ?_)
    · obtain ⟨d1, d2⟩ := mod_b (c * 48271) 2147483647 (by omega)
      refine ⟨_, pMul_r (by omega) (by omega), _, rfl, _, pMod_i (by omega), a, 1, 1, _, rfl, rfl, sUpd_same, rfl, ?_⟩
      simp only [sUpd_upd, List.set_cons_succ, List.set_cons_zero, pIx_ref sUpd_same, atI_1]
      walk_at "v"
      exact ⟨_, pMul_l (by omega) (by omega), _, rfl, _, pMod_i h0, _, _, _, rfl, ⟨b1, d1, d2⟩, rfl, hk _ (mod_b _ n h0).1 (mod_b _ n h0).2⟩
    · exact ⟨_, pMod_i h0, _, _, _, rfl, ⟨b1, c1, c2⟩, rfl, hk _ (mod_b _ n h0).1 (mod_b _ n h0).2⟩
theorem ok_source (zs RE S R) (h : s_source zs RE S R) : closeF b__law_source zs RE S R := by
  obtain ⟨ns, i, rfl, h0, hk⟩ := h
  unfold closeF b__law_source m__law_source
  walk_at "d"
  rw [List.length_map]
  simp only [pPow_10_18]
  walk_at "v"
  have two : szOk 2 = true := by decide
  refine ifB (fun hi => ?_) (fun hi => ?_)
  · have hi' : (i : Int) < ns.length := of_decide_eq_true hi
    have e : ns[i]? = some (ns[i]'(by omega)) := List.getElem?_eq_getElem (by omega)
    generalize ns[i]'(by omega) = v at e
    refine ⟨.int v, atI_nat (by rw [List.getElem?_map, e]; rfl), _, rfl, _, rfl, ?_⟩
    have hv : 0 ≤ if v < 0 then -v else v := by split <;> omega
    generalize (if v < 0 then -v else v) = c at hv ⊢
    refine ifB (fun hc => ?_) (fun hc => ?_)
    · have hc' : c < 1000000000000000000 := of_decide_eq_true hc
      obtain ⟨e1, e2⟩ := mod_b (c * 7919 + 104729 * (i : Int)) 2147483646 (by omega)
      exact ⟨_, pMul_r (by omega) (by omega), _, pMul_l (by omega) (by omega), _, rfl, _, rfl, _, pMod_i (by omega), _, rfl, fun p hp => ⟨p, _, _, rfl, hp, rfl, ⟨by omega, by omega, by omega⟩, hk p hp⟩⟩
    · obtain ⟨e1, e2⟩ := mod_b (c + (i : Int)) 2147483646 (by omega)
      exact ⟨_, rfl, _, rfl, _, pMod_i (by omega), _, rfl, fun p hp => ⟨p, _, _, rfl, hp, rfl, ⟨hv, by omega, by omega⟩, hk p hp⟩⟩
  · refine ifB (fun hc => ?_) (fun hc => ?_)
    · obtain ⟨e1, e2⟩ := mod_b (0 * 7919 + 104729 * (i : Int)) 2147483646 (by omega)
      exact ⟨_, pMul_r (by omega) (by omega), _, pMul_l (by omega) (by omega), _, rfl, _, rfl, _, pMod_i (by omega), _, rfl, fun p hp => ⟨p, _, _, rfl, hp, rfl, ⟨by omega, by omega, by omega⟩, hk p hp⟩⟩
    · exact absurd hc (by decide)
end L3
namespace L3
open PySem PySem.Spec PyProof.Rows L2
local macro_rules | `(tactic| walk_at "d") => `(tactic| try simp only [szk_0, szk_1, szk_2, szk_3, szk_4, szk_5, szk_6, szk_7, szk_8, szk_9, szk_10, szk_11, szk_12, szk_13, szk_14, szk_15, szk_16, szk_17, szk_18, szk_19, szk_20, fromBody, dNil', dSeq, dSet, dRet, dRetN, dDrop, dIf, dVar, dC, dOp, dCmp, dCmpT, dChain, dChainT, dVal, dNotT, dAndT, dOrT, dAnd, dOr, dNot, dIfE, dNeg, dIx, dSl, dNoPart, dPart, dNil, dCons, dTup, dLst, dLstM, dCall, pure1, dCallF, dItSeq, dItRange, dItZip, dFor, dComp, dCompM, dYes, dAug, dPar, dSub, dRetF, dFrz, dAppend, dBrk, dCnt, wipeE, gN, dInTab, dIxTab, dCallL, dLenSet, dCount, dAddM, gL, dRaise, dTry, catchBy, dItEnum,
  pAdd_i, pSub_i, pLt_i, pLe_i, pGt_i, pGe_i, pAddI_i, pIsN_non, pNotN_non, pIsN_bl, pNotN_bl, pIsN_int, pNotN_int, pIsN_str, pNotN_str, pIsN_tup, pNotN_tup, pIsN_lst, pNotN_lst, pIsN_ref, pNotN_ref, pIsN_ty, pNotN_ty, pIsN_scr, pNotN_scr, pIsI_non_bool, pIsI_non_int, pIsI_non_str, pIsI_non_tuple, pIsI_non_list, pIsI_bl_bool, pIsI_bl_int, pIsI_bl_str, pIsI_bl_tuple, pIsI_bl_list, pIsI_int_bool, pIsI_int_int, pIsI_int_str, pIsI_int_tuple, pIsI_int_list, pIsI_str_bool, pIsI_str_int, pIsI_str_str, pIsI_str_tuple, pIsI_str_list, pIsI_tup_bool, pIsI_tup_int, pIsI_tup_str, pIsI_tup_tuple, pIsI_tup_list, pIsI_lst_bool, pIsI_lst_int, pIsI_lst_str, pIsI_lst_tuple, pIsI_lst_list, pLen_tup, pIx_tup, pList_tup, pTuple_tup, seqOf_tup, pLen_lst, pIx_lst, pList_lst, pTuple_lst, seqOf_lst, pLen_scr, pIx_scr, pList_scr, pTuple_scr, seqOf_scr, pSl_tup, itemsOf_tup, pSl_lst, itemsOf_lst, pAbs_i, pInt_i, pInt_b, pMin2_i, gT_tup, gsCons_cons, gsNil_nil, getE_0, getE_s,
  Option.some.injEq, exists_eq_left', exists_eq_left, Z.int.injEq, Z.bl.injEq, Z.str.injEq, Z.tup.injEq, Z.lst.injEq, Z.ref.injEq, Option.map_some, Option.bind_some, List.set_cons_zero, List.set_cons_succ, List.map_cons, List.map_nil, List.cons_append, List.nil_append, List.length_cons, List.length_nil, List.replicate_succ, List.replicate_zero, true_and, and_true, if_true, Nat.reduceAdd, Nat.reduceSub, Bool.false_eq_true, if_false, ite_true, ite_false, List.cons.injEq, reduceIte, Bool.not_true, Bool.not_false])
local macro_rules | `(tactic| walk_at "v") => `(tactic| try simp only [szk_0, szk_1, szk_2, szk_3, szk_4, szk_5, szk_6, szk_7, szk_8, szk_9, szk_10, szk_11, szk_12, szk_13, szk_14, szk_15, szk_16, szk_17, szk_18, szk_19, szk_20, 
  pAdd_i, pSub_i, pLt_i, pLe_i, pGt_i, pGe_i, pAddI_i, pIsN_non, pNotN_non, pIsN_bl, pNotN_bl, pIsN_int, pNotN_int, pIsN_str, pNotN_str, pIsN_tup, pNotN_tup, pIsN_lst, pNotN_lst, pIsN_ref, pNotN_ref, pIsN_ty, pNotN_ty, pIsN_scr, pNotN_scr, pIsI_non_bool, pIsI_non_int, pIsI_non_str, pIsI_non_tuple, pIsI_non_list, pIsI_bl_bool, pIsI_bl_int, pIsI_bl_str, pIsI_bl_tuple, pIsI_bl_list, pIsI_int_bool, pIsI_int_int, pIsI_int_str, pIsI_int_tuple, pIsI_int_list, pIsI_str_bool, pIsI_str_int, pIsI_str_str, pIsI_str_tuple, pIsI_str_list, pIsI_tup_bool, pIsI_tup_int, pIsI_tup_str, pIsI_tup_tuple, pIsI_tup_list, pIsI_lst_bool, pIsI_lst_int, pIsI_lst_str, pIsI_lst_tuple, pIsI_lst_list, pLen_tup, pIx_tup, pList_tup, pTuple_tup, seqOf_tup, pLen_lst, pIx_lst, pList_lst, pTuple_lst, seqOf_lst, pLen_scr, pIx_scr, pList_scr, pTuple_scr, seqOf_scr, pSl_tup, itemsOf_tup, pSl_lst, itemsOf_lst, pAbs_i, pInt_i, pInt_b, pMin2_i, gT_tup, gsCons_cons, gsNil_nil, getE_0, getE_s, atI_0, atI_1, atI_2, atI_3, atI_4, sUpd_same,
  Option.some.injEq, exists_eq_left', exists_eq_left, Z.int.injEq, Z.bl.injEq, Z.str.injEq, Z.tup.injEq, Z.lst.injEq, Z.ref.injEq, Option.map_some, Option.bind_some, List.set_cons_zero, List.set_cons_succ, List.map_cons, List.map_nil, List.cons_append, List.nil_append, List.length_cons, List.length_nil, List.replicate_succ, List.replicate_zero, true_and, and_true, if_true, Nat.reduceAdd, Nat.reduceSub, Bool.false_eq_true, if_false, ite_true, ite_false, List.cons.injEq, reduceIte, Bool.not_true, Bool.not_false])
/-! ### programs as data -/
inductive Word where
  | make | read | dead | old | same | mine | dropsame | swap | move | back | caught | go | drop | enter | leave
  deriving DecidableEq, Inhabited
def Word.s : Word → Str
  | .make => "make" | .read => "read" | .dead => "dead" | .old => "old" | .same => "same" | .mine => "mine" | .dropsame => "dropsame" | .swap => "swap"
  | .move => "move" | .back => "back" | .caught => "caught" | .go => "go" | .drop => "drop" | .enter => "enter" | .leave => "leave"
def Word.bare : Word → Bool
  | .drop => true | .enter => true | .leave => true
  | _ => false
structure Row where
  j : Bool
  w : Word
  t : Nat
  deriving DecidableEq, Inhabited
def Row.bareZ (r : Row) : Z := if r.w.bare then .tup [.str r.w.s] else .tup [.str r.w.s, .int r.t]
def Row.z (r : Row) : Z := if r.j then .tup [.str "join", r.bareZ] else r.bareZ
structure Row.Wf (n : Nat) (r : Row) : Prop where
  le : r.t ≤ n
  z0 : r.w.bare = true → r.t = 0
abbrev Prog := List Row
def progZ (p : Prog) : Z := .tup (p.map Row.z)
structure PWf (p : Prog) : Prop where
  pos : 1 ≤ p.length
  most : p.length ≤ 12
  rows : ∀ r ∈ p, r.Wf p.length
theorem Word.dat (w : Word) : L3.dat (.str w.s) = true := by cases w <;> decide +kernel
theorem dat_join : L3.dat (.str "join") = true := by decide +kernel
theorem Row.bareZ_dat (r : Row) : L3.dat r.bareZ = true := by
  unfold Row.bareZ
  split <;> simp [L3.dat, L3.dats, r.w.dat] <;> exact r.w.dat
theorem Row.bareZ_dep (r : Row) : L3.dep r.bareZ ≤ 1 := by
  unfold Row.bareZ
  split <;> simp [L3.dep, L3.deps]
theorem Row.z_dat (r : Row) : L3.dat r.z = true := by
  unfold Row.z
  split
  · simp [L3.dat, L3.dats, r.bareZ_dat]
    exact dat_join
  · exact r.bareZ_dat
theorem Row.z_dep (r : Row) : L3.dep r.z ≤ 2 := by
  have h := r.bareZ_dep
  unfold Row.z
  split
  · simp [L3.dep, L3.deps]; omega
  · omega
theorem progZ_dat (p : Prog) : dat (progZ p) = true := by
  simp only [progZ, dat]
  exact dats_of fun z hz => by
    obtain ⟨r, _, rfl⟩ := List.mem_map.mp hz
    exact r.z_dat
theorem progZ_dep (p : Prog) : dep (progZ p) ≤ 3 := by
  simp only [progZ, dep]
  have := deps_of (n := 2) (zs := p.map Row.z) fun z hz => by
    obtain ⟨r, _, rfl⟩ := List.mem_map.mp hz
    exact r.z_dep
  omega

/-! ### draws of rows and programs -/
def s_choice : DF := fun zs RE S k => ∃ a x ys, zs = [.ref a, x] ∧ S a = some .src ∧ itemsOf x = some ys ∧ ys ≠ [] ∧ ys.length ≤ 100000 ∧ ∀ y ∈ ys, k y S
theorem items_len {S : Sm} {x : Z} {ys : List Z} (h : itemsOf x = some ys) : pLen1 S [x] = some (.int ys.length) ∧ seqOf S x = some ys := by
  cases x <;> simp [itemsOf] at h
  · subst h; exact ⟨rfl, rfl⟩
  · subst h; exact ⟨rfl, rfl⟩
theorem ok_choice (zs RE S R) (h : s_choice zs RE S R) : b__law_choice s_draw zs RE S R := by
  obtain ⟨a, x, ys, rfl, hs, hx, hne, hl, hk⟩ := h
  unfold b__law_choice m__law_choice
  walk_at "d"
  obtain ⟨h1, h2⟩ := items_len (S := S) hx
  have hpos : 0 < ys.length := List.length_pos_iff.mpr hne
  refine ⟨_, h1, a, _, rfl, hs, by omega, by omega, fun i h0 hi => ?_⟩
  obtain ⟨y, e1, e2, _⟩ := atI_get' h0 hi
  refine ⟨y, ?_, hk y e2⟩
  simp [pIx, h2, e1]
def words13 : List Word := [.make, .read, .dead, .drop, .dropsame, .old, .enter, .enter, .leave, .go, .same, .mine, .swap]
def words16 : List Word := words13 ++ [.move, .back, .caught]
def wordsZ (ws : List Word) : Z := .lst (ws.map fun w => .str w.s)
def s_words : DF := fun zs RE S k => ∃ n : Nat, zs = [.int n] ∧ n ≤ 16 ∧ k (wordsZ (words16.take n)) S
theorem cut_to {zs : List Z} {n : Nat} : cutZ zs none (some (n : Int)) = zs.take n := by
  unfold cutZ
  rw [HT.sIx_none, HT.sIx_nat, List.drop_zero, Nat.sub_zero]
  by_cases h : n ≤ zs.length
  · rw [Nat.min_eq_left h]
  · rw [Nat.min_eq_right (by omega), List.take_length, List.take_of_length_le (by omega)]
theorem cut_from {zs : List Z} {n : Nat} (h : n ≤ zs.length) : cutZ zs (some (n : Int)) none = zs.drop n := by
  unfold cutZ
  rw [HT.sIx_none, HT.sIx_nat, Nat.min_eq_left h, List.take_of_length_le (by rw [List.length_drop]; exact Nat.le_refl _)]
theorem ok_words (zs RE S R) (h : s_words zs RE S R) : b__law_words zs RE S R := by
  obtain ⟨n, rfl, hn, hk⟩ := h
  unfold b__law_words m__law_words
  walk_at "d"
  refine ⟨_, pAdd_l (by decide), ?_⟩
  walk_at "v"
  rw [cut_to]
  unfold wordsZ at hk
  rw [List.map_take] at hk
  exact hk
def s_row : DF := fun zs RE S k => ∃ (a : Addr) (n : Nat) (ws : List Word), zs = [.ref a, .int n, wordsZ ws] ∧ S a = some .src ∧ ws ≠ [] ∧ ws.length ≤ 1000 ∧ n ≤ 1000 ∧ ∀ r : Row, r.Wf n → r.w ∈ ws → k r.z S
theorem in_bare (w : Word) : inZ (.str w.s) [.str "drop", .str "enter", .str "leave"] = w.bare := by cases w <;> rfl
theorem ok_row (zs RE S R) (h : s_row zs RE S R) : b__law_row s_choice s_draw zs RE S R := by
  obtain ⟨a, n, ws, rfl, hs, hne, hl, hn, hk⟩ := h
  unfold b__law_row m__law_row wordsZ
  walk_at "d"
  refine ⟨a, _, _, rfl, hs, rfl, by simpa using hne, by rw [List.length_map]; omega, fun y hy => ?_⟩
  obtain ⟨w, hw, rfl⟩ := List.mem_map.mp hy
  refine ⟨_, pNotIn_of (ys := [.str "drop", .str "enter", .str "leave"]) rfl w.dat (by decide +kernel) (Nat.zero_le _) (by decide), ?_⟩
  rw [in_bare]
  refine ifB (fun hb => ?_) (fun hb => ?_)
  · have hb' : w.bare = false := by simpa using hb
    refine ⟨a, _, rfl, hs, by omega, by omega, fun i h0 hi => ⟨a, 8, rfl, hs, by omega, by omega, fun j _ _ => ⟨_, pEq_of rfl rfl (Nat.zero_le _) (Nat.zero_le _), ifB (fun hj => ?_) (fun hj => ?_)⟩⟩⟩
    · have := hk ⟨true, w, i.toNat⟩ ⟨by show i.toNat ≤ n; omega, fun z => by simp only at z; rw [z] at hb'; cases hb'⟩ hw
      simpa [Row.z, Row.bareZ, hb', Int.toNat_of_nonneg h0] using this
    · have := hk ⟨false, w, i.toNat⟩ ⟨by show i.toNat ≤ n; omega, fun z => by simp only at z; rw [z] at hb'; cases hb'⟩ hw
      simpa [Row.z, Row.bareZ, hb', Int.toNat_of_nonneg h0] using this
  · have hb' : w.bare = true := by simpa using hb
    refine ⟨a, 8, rfl, hs, by omega, by omega, fun j _ _ => ⟨_, pEq_of rfl rfl (Nat.zero_le _) (Nat.zero_le _), ifB (fun hj => ?_) (fun hj => ?_)⟩⟩
    · have := hk ⟨true, w, 0⟩ ⟨Nat.zero_le _, fun _ => rfl⟩ hw
      simpa [Row.z, Row.bareZ, hb'] using this
    · have := hk ⟨false, w, 0⟩ ⟨Nat.zero_le _, fun _ => rfl⟩ hw
      simpa [Row.z, Row.bareZ, hb'] using this

/-- rows of a program from drawn ones -/
theorem row_z (p : Prog) (i : Nat) (r : Row) : (p.map Row.z).set i r.z = (p.set i r).map Row.z := by rw [List.map_set]
def rEnter : Row := ⟨false, .enter, 0⟩
theorem rEnter_z : rEnter.z = .tup [.str "enter"] := rfl
theorem rEnter_wf (n : Nat) : rEnter.Wf n := ⟨Nat.zero_le _, fun _ => rfl⟩
/-- size rows, one of them "enter" -/
def s_short : DF := fun zs RE S k => ∃ (a : Addr) (m : Nat), zs = [.ref a, .int m] ∧ S a = some .src ∧ 2 ≤ m ∧ m ≤ 12 ∧ ∀ p, PWf p → 2 ≤ p.length → p.length ≤ m → k (progZ p) S
theorem map_row {ys : List Z} {n : Nat} {ws : List Word} (h : ∀ y ∈ ys, ∃ r : Row, (r.Wf n ∧ r.w ∈ ws) ∧ y = r.z) : ∃ p : Prog, (∀ r ∈ p, r.Wf n ∧ r.w ∈ ws) ∧ ys = p.map Row.z := map_of h
theorem set_wf {p : Prog} {n i : Nat} {r : Row} (h : ∀ r ∈ p, r.Wf n) (hr : r.Wf n) : ∀ q ∈ p.set i r, q.Wf n := fun q hq => by
  rcases List.mem_or_eq_of_mem_set hq with h1 | h1
  · exact h q h1
  · rw [h1]; exact hr
theorem ixN_ok {n : Nat} {i : Int} (h0 : 0 ≤ i) (h1 : i < n) : ixN n i = some i.toNat := by unfold ixN; rw [if_pos h0, if_pos h1]
theorem enter_tail {S : Sm} {R : Z → Sm → Prop} {a q : Addr} {n : Nat} {p : Prog} {E : Exc → Sm → Prop} (hs : S a = some .src) (hq : S q = none) (hp : ∀ r ∈ p, r.Wf n) (hl : p.length = n) (n2 : 2 ≤ n) (n12 : n ≤ 12) (hk : ∀ p', PWf p' → p'.length = n → R (progZ p') S) :
    s_draw [.ref a, .int ((n : Int) - 1)] E (sUpd S q (.lst (p.map Row.z))) fun i S3 => ∃ a k j zs, q = a ∧ i = .int k ∧ S3 a = some (.lst zs) ∧ ixN zs.length k = some j ∧ ∃ z, pTuple (sUpd S3 a (.lst (zs.set j (.tup [.str "enter"])))) [.ref q] = some z ∧ R z (rst S (sUpd S3 a (.lst (zs.set j (.tup [.str "enter"]))))) := by
  have ha : a ≠ q := fun e => by rw [e, hq] at hs; cases hs
  refine ⟨a, _, rfl, by rw [sUpd_ne ha]; exact hs, by omega, by omega, fun j j0 j1 => ⟨q, j, j.toNat, _, rfl, rfl, sUpd_same, ?_, ?_⟩⟩
  · rw [List.length_map, hl]
    exact ixN_ok j0 (by omega)
  · rw [sUpd_upd, ← rEnter_z, row_z]
    refine ⟨_, pTuple_ref sUpd_same, ?_⟩
    rw [rst_new hq]
    refine hk _ ⟨?_, ?_, ?_⟩ ?_ <;> rw [List.length_set, hl]
    · omega
    · omega
    · exact set_wf hp (rEnter_wf n)
theorem ok_short (zs RE S R) (h : s_short zs RE S R) : b__law_short s_draw s_row s_words zs (fun e S' => RE e (rst S S')) S (fun z S' => R z (rst S S')) := by
  obtain ⟨a, m, rfl, hs, h1, h2, hk⟩ := h
  unfold b__law_short m__law_short
  walk_at "d"
  refine ⟨a, _, rfl, hs, by omega, by omega, fun i i0 i1 => ⟨_, pAdd_i, 2 + i, rfl, by omega, by omega, ?_⟩⟩
  have hn : ((2 + i).toNat : Int) = 2 + i := by omega
  generalize (2 + i).toNat = n at hn ⊢
  rw [← hn]
  have n2 : 2 ≤ n := by omega
  have nm : n ≤ m := by omega
  refine compZ_all (fun y => ∃ r : Row, (r.Wf n ∧ r.w ∈ words16) ∧ y = r.z) _ _ (by simp; omega) (fun z hz => ⟨_, rfl, fun k' hk' => ?_⟩) fun ys hl hy => ?_
  · walk_at "d"
    refine ⟨16, rfl, by omega, a, n, words16, rfl, hs, by decide, by decide, by omega, fun r h1 h2 => hk' _ ⟨r, ⟨h1, h2⟩, rfl⟩⟩
  · obtain ⟨p, hp, rfl⟩ := map_row hy
    have hpl : p.length = n := by simpa using hl
    exact fun q hq => ⟨_, pSub_i, enter_tail hs hq (fun r hr => (hp r hr).1) hpl n2 (by omega) fun p' w hl' => hk p' w (by omega) (by omega)⟩
/-! the written programs -/
def rw_ (w : Word) (t : Nat := 0) : Row := ⟨false, w, t⟩
def tailP : Prog := [rw_ .make, rw_ .enter, rw_ .drop]
def knownP : Nat → Prog
  | 0 => [rw_ .make, rw_ .enter, rw_ .leave, rw_ .drop]
  | 1 => [rw_ .old 2, rw_ .drop] ++ tailP
  | 2 => [rw_ .read 3, rw_ .dead 0, rw_ .drop] ++ tailP
  | 3 => [rw_ .read 3, rw_ .dead 0, rw_ .dropsame 0] ++ tailP
  | 4 => [rw_ .make 2, rw_ .go 4, rw_ .read, rw_ .swap, rw_ .enter, rw_ .drop]
  | 5 => [rw_ .enter, rw_ .leave]
  | _ => [rw_ .move 1, rw_ .make 2, rw_ .enter, rw_ .back]
def s_known : DF := fun zs RE S k => ∃ i : Int, zs = [.int i] ∧ 0 ≤ i ∧ i < 7 ∧ k (progZ (knownP i.toNat)) S
theorem ok_known (zs RE S R) (h : s_known zs RE S R) : b__law_known zs RE S R := by
  obtain ⟨i, rfl, h0, h1, hk⟩ := h
  unfold b__law_known m__law_known
  walk_at "d"
  refine ⟨_, pAdd_t (by decide), _, pAdd_t (by decide), _, pAdd_t (by decide), _, pAdd_l (by decide), _, pAdd_l (by decide), ?_⟩
  walk_at "v"
  have : i = 0 ∨ i = 1 ∨ i = 2 ∨ i = 3 ∨ i = 4 ∨ i = 5 ∨ i = 6 := by omega
  rcases this with e | e | e | e | e | e | e <;> subst e <;> exact ⟨_, rfl, hk⟩
theorem knownP_wf (i : Nat) : PWf (knownP i) ∧ 2 ≤ (knownP i).length ∧ (knownP i).length ≤ 6 := by
  have c : ∀ p : Prog, (1 ≤ p.length && p.length ≤ 12 && p.all fun r => decide (r.t ≤ p.length) && (!r.w.bare || r.t == 0)) = true → PWf p := fun p h => by
    simp only [Bool.and_eq_true, decide_eq_true_eq, List.all_eq_true, Bool.or_eq_true, Bool.not_eq_true', beq_iff_eq] at h
    refine ⟨h.1.1, h.1.2, fun r hr => ⟨(h.2 r hr).1, fun hb => ?_⟩⟩
    rcases (h.2 r hr).2 with h1 | h1
    · rw [hb] at h1; cases h1
    · exact h1
  match i with
  | 0 => exact ⟨c _ (by decide), by decide, by decide⟩
  | 1 => exact ⟨c _ (by decide), by decide, by decide⟩
  | 2 => exact ⟨c _ (by decide), by decide, by decide⟩
  | 3 => exact ⟨c _ (by decide), by decide, by decide⟩
  | 4 => exact ⟨c _ (by decide), by decide, by decide⟩
  | 5 => exact ⟨c _ (by decide), by decide, by decide⟩
  | n + 6 =>
    have e : knownP (n + 6) = [rw_ .move 1, rw_ .make 2, rw_ .enter, rw_ .back] := rfl
    rw [e]
    exact ⟨c _ (by decide), by decide, by decide⟩
/-- a drawn program, its words told -/
def s_lean : DF := fun zs RE S k => ∃ (a : Addr) (m : Nat), zs = [.ref a, .int m] ∧ S a = some .src ∧ 2 ≤ m ∧ m ≤ 12 ∧ ∀ p, PWf p → 2 ≤ p.length → p.length ≤ m → k (progZ p) S
def moves : List Word := [.make, .drop, .old, .enter, .enter, .leave, .go, .mine, .move, .back]
theorem comp_lean {S : Sm} {a : Addr} {n : Nat} {ws : List Word} {z1 z3 : Z} {k : List Z → Sm → Prop} (hs : S a = some .src) (hw : ws ≠ []) (hwl : ws.length ≤ 1000) (hn : n ≤ 12) (hk : ∀ p : Prog, p.length = n → (∀ r ∈ p, r.Wf n) → k (p.map Row.z) S) :
    compZ (gN 6) dYes (dCallF s_row (dCons (dVar 0) (dCons (dVar 2) (dCons (dVar 4) dNil)))) ((List.range n).map fun (i : Nat) => Z.int i) [some (.ref a), some z1, some (.int n), some z3, some (wordsZ ws), none, none] S [] k := by
  refine compZ_all (fun y => ∃ r : Row, (r.Wf n ∧ r.w ∈ ws) ∧ y = r.z) _ _ (by simp; omega) (fun z hz => ⟨_, rfl, fun k' hk' => ?_⟩) fun ys hl hy => ?_
  · walk_at "d"
    exact ⟨a, n, ws, rfl, hs, hw, hwl, by omega, fun r h1 h2 => hk' _ ⟨r, ⟨h1, h2⟩, rfl⟩⟩
  · obtain ⟨p, hp, rfl⟩ := map_row hy
    exact hk p (by simpa using hl) fun r hr => (hp r hr).1
theorem ok_lean (zs RE S R) (h : s_lean zs RE S R) : b__law_lean s_draw s_words s_choice s_row zs (fun e S' => RE e (rst S S')) S (fun z S' => R z (rst S S')) := by
  obtain ⟨a, m, rfl, hs, h1, h2, hk⟩ := h
  unfold b__law_lean m__law_lean
  walk_at "d"
  refine ⟨a, _, rfl, hs, by omega, by omega, fun i i0 i1 => ⟨_, pAdd_i, _, pLt_i, ?_⟩⟩
  have hn : ((2 + i).toNat : Int) = 2 + i := by omega
  have hn2 : (2 + i).toNat = (2 + i).toNat := rfl
  generalize (2 + i).toNat = n at hn hn2
  have n2 : 2 ≤ n := by omega
  have nm : n ≤ m := by omega
  have tail : ∀ p : Prog, p.length = n → (∀ r ∈ p, r.Wf n) → ∀ q, S q = none → ∃ z_2, pSub (.int (2 + i)) (.int 1) = some z_2 ∧ s_draw [.ref a, z_2] (fun e S' => RE e (rst S S')) (sUpd S q (.lst (p.map Row.z))) fun i S3 => ∃ a k j zs, q = a ∧ i = .int k ∧ S3 a = some (.lst zs) ∧ ixN zs.length k = some j ∧ ∃ z, pTuple (sUpd S3 a (.lst (zs.set j (.tup [.str "enter"])))) [.ref q] = some z ∧ R z (rst S (sUpd S3 a (.lst (zs.set j (.tup [.str "enter"]))))) := fun p hl hp q hq => by
    rw [← hn]
    exact ⟨_, pSub_i, enter_tail hs hq hp hl n2 (by omega) fun p' w hl' => hk p' w (by omega) (by omega)⟩
  refine ifB (fun hc => ?_) (fun hc => ?_)
  · refine ⟨16, rfl, by omega, 2 + i, rfl, by omega, by omega, ?_⟩
    rw [show (2 + i).toNat = n by omega, ← hn]
    refine comp_lean hs (by decide) (by decide) (by omega) fun p hl hp q hq => ?_
    have := tail p hl hp q hq
    rwa [← hn] at this
  · refine ⟨13, rfl, by omega, a, _, _, rfl, hs, rfl, by simp, by simp, fun y hy => ⟨2 + i, rfl, by omega, by omega, ?_⟩⟩
    rw [show (2 + i).toNat = n by omega, ← hn]
    have ex : ∃ ws : List Word, ws ≠ [] ∧ ws.length ≤ 1000 ∧ y = wordsZ ws := by
      rcases List.mem_cons.mp hy with e | hy
      · exact ⟨_, by decide, by decide, e⟩
      · rcases List.mem_cons.mp hy with e | hy
        · exact ⟨moves, by decide, by decide, e⟩
        · simp at hy
    obtain ⟨ws, w1, w2, rfl⟩ := ex
    refine comp_lean hs w1 w2 (by omega) fun p hl hp q hq => ?_
    have := tail p hl hp q hq
    rwa [← hn] at this
end L3
namespace L3
open PySem PySem.Spec PyProof.Rows L2
theorem pEq_i {a b : Int} : pEq (.int a) (.int b) = some (decide (a = b)) := by
  rw [pEq_of rfl rfl (Nat.zero_le _) (Nat.zero_le _)]
  simp only [zeq, Option.some.injEq]
  by_cases h : a = b
  · simp [h]
  · simp [h]
theorem pNe_i {a b : Int} : pNe (.int a) (.int b) = some (!decide (a = b)) := by
  rw [pNe_of rfl rfl (Nat.zero_le _) (Nat.zero_le _)]
  simp only [zeq, Option.some.injEq]
  by_cases h : a = b
  · simp [h]
  · simp [h]
local macro_rules | `(tactic| walk_at "d") => `(tactic| try simp only [szk_0, szk_1, szk_2, szk_3, szk_4, szk_5, szk_6, szk_7, szk_8, szk_9, szk_10, szk_11, szk_12, szk_13, szk_14, szk_15, szk_16, szk_17, szk_18, szk_19, szk_20, fromBody, dNil', dSeq, dSet, dRet, dRetN, dDrop, dIf, dVar, dC, dOp, dCmp, dCmpT, dChain, dChainT, dVal, dNotT, dAndT, dOrT, dAnd, dOr, dNot, dIfE, dNeg, dIx, dSl, dNoPart, dPart, dNil, dCons, dTup, dLst, dLstM, dCall, pure1, dCallF, dItSeq, dItRange, dItZip, dFor, dComp, dCompM, dYes, dAug, dPar, dSub, dRetF, dFrz, dAppend, dBrk, dCnt, wipeE, gN, dInTab, dIxTab, dCallL, dLenSet, dCount, dAddM, gL, dRaise, dTry, catchBy, dItEnum,
  pAdd_i, pEq_i, pNe_i, pSub_i, pLt_i, pLe_i, pGt_i, pGe_i, pAddI_i, pIsN_non, pNotN_non, pIsN_bl, pNotN_bl, pIsN_int, pNotN_int, pIsN_str, pNotN_str, pIsN_tup, pNotN_tup, pIsN_lst, pNotN_lst, pIsN_ref, pNotN_ref, pIsN_ty, pNotN_ty, pIsN_scr, pNotN_scr, pIsI_non_bool, pIsI_non_int, pIsI_non_str, pIsI_non_tuple, pIsI_non_list, pIsI_bl_bool, pIsI_bl_int, pIsI_bl_str, pIsI_bl_tuple, pIsI_bl_list, pIsI_int_bool, pIsI_int_int, pIsI_int_str, pIsI_int_tuple, pIsI_int_list, pIsI_str_bool, pIsI_str_int, pIsI_str_str, pIsI_str_tuple, pIsI_str_list, pIsI_tup_bool, pIsI_tup_int, pIsI_tup_str, pIsI_tup_tuple, pIsI_tup_list, pIsI_lst_bool, pIsI_lst_int, pIsI_lst_str, pIsI_lst_tuple, pIsI_lst_list, pLen_tup, pIx_tup, pList_tup, pTuple_tup, seqOf_tup, pLen_lst, pIx_lst, pList_lst, pTuple_lst, seqOf_lst, pLen_scr, pIx_scr, pList_scr, pTuple_scr, seqOf_scr, pSl_tup, itemsOf_tup, pSl_lst, itemsOf_lst, pAbs_i, pInt_i, pInt_b, pMin2_i, gT_tup, gsCons_cons, gsNil_nil, getE_0, getE_s,
  Option.some.injEq, exists_eq_left', exists_eq_left, Z.int.injEq, Z.bl.injEq, Z.str.injEq, Z.tup.injEq, Z.lst.injEq, Z.ref.injEq, Option.map_some, Option.bind_some, List.set_cons_zero, List.set_cons_succ, List.map_cons, List.map_nil, List.cons_append, List.nil_append, List.length_cons, List.length_nil, List.replicate_succ, List.replicate_zero, true_and, and_true, if_true, Nat.reduceAdd, Nat.reduceSub, Bool.false_eq_true, if_false, ite_true, ite_false, List.cons.injEq, reduceIte, Bool.not_true, Bool.not_false])
local macro_rules | `(tactic| walk_at "v") => `(tactic| try simp only [szk_0, szk_1, szk_2, szk_3, szk_4, szk_5, szk_6, szk_7, szk_8, szk_9, szk_10, szk_11, szk_12, szk_13, szk_14, szk_15, szk_16, szk_17, szk_18, szk_19, szk_20, 
  pAdd_i, pEq_i, pNe_i, pSub_i, pLt_i, pLe_i, pGt_i, pGe_i, pAddI_i, pIsN_non, pNotN_non, pIsN_bl, pNotN_bl, pIsN_int, pNotN_int, pIsN_str, pNotN_str, pIsN_tup, pNotN_tup, pIsN_lst, pNotN_lst, pIsN_ref, pNotN_ref, pIsN_ty, pNotN_ty, pIsN_scr, pNotN_scr, pIsI_non_bool, pIsI_non_int, pIsI_non_str, pIsI_non_tuple, pIsI_non_list, pIsI_bl_bool, pIsI_bl_int, pIsI_bl_str, pIsI_bl_tuple, pIsI_bl_list, pIsI_int_bool, pIsI_int_int, pIsI_int_str, pIsI_int_tuple, pIsI_int_list, pIsI_str_bool, pIsI_str_int, pIsI_str_str, pIsI_str_tuple, pIsI_str_list, pIsI_tup_bool, pIsI_tup_int, pIsI_tup_str, pIsI_tup_tuple, pIsI_tup_list, pIsI_lst_bool, pIsI_lst_int, pIsI_lst_str, pIsI_lst_tuple, pIsI_lst_list, pLen_tup, pIx_tup, pList_tup, pTuple_tup, seqOf_tup, pLen_lst, pIx_lst, pList_lst, pTuple_lst, seqOf_lst, pLen_scr, pIx_scr, pList_scr, pTuple_scr, seqOf_scr, pSl_tup, itemsOf_tup, pSl_lst, itemsOf_lst, pAbs_i, pInt_i, pInt_b, pMin2_i, gT_tup, gsCons_cons, gsNil_nil, getE_0, getE_s, atI_0, atI_1, atI_2, atI_3, atI_4, sUpd_same,
  Option.some.injEq, exists_eq_left', exists_eq_left, Z.int.injEq, Z.bl.injEq, Z.str.injEq, Z.tup.injEq, Z.lst.injEq, Z.ref.injEq, Option.map_some, Option.bind_some, List.set_cons_zero, List.set_cons_succ, List.map_cons, List.map_nil, List.cons_append, List.nil_append, List.length_cons, List.length_nil, List.replicate_succ, List.replicate_zero, true_and, and_true, if_true, Nat.reduceAdd, Nat.reduceSub, Bool.false_eq_true, if_false, ite_true, ite_false, List.cons.injEq, reduceIte, Bool.not_true, Bool.not_false])

set_option maxHeartbeats 1000000
def s_program : DF := fun zs RE S k => ∃ (a : Addr) (m : Nat), zs = [.ref a, .int m] ∧ S a = some .src ∧ 2 ≤ m ∧ m ≤ 12 ∧ ∀ p, PWf p → 2 ≤ p.length → p.length ≤ max m 6 → k (progZ p) S
theorem ok_program (zs RE S R) (h : s_program zs RE S R) : b__law_program s_draw s_lean s_known s_row s_words zs (fun e S' => RE e (rst S S')) S (fun z S' => R z (rst S S')) := by
  obtain ⟨a, m, rfl, hs, h1, h2, hk⟩ := h
  unfold b__law_program m__law_program
  walk_at "d"
  refine ⟨a, 5, rfl, hs, by omega, by omega, fun i i0 i1 => ⟨_, pLt_i, ifB (fun hi => ?_) (fun hi => ?_)⟩⟩
  · exact ⟨a, m, rfl, hs, h1, h2, fun p w p2 pm => by show R (progZ p) (rst S S); rw [rst_self]; exact hk p w p2 (by omega)⟩
  · refine ⟨a, 7, rfl, hs, by omega, by omega, fun j j0 j1 => ⟨j, rfl, j0, j1, _, _, rfl, rfl, fun q hq => ⟨_, pLt_i, ?_⟩⟩⟩
    obtain ⟨w, w2, w6⟩ := knownP_wf j.toNat
    generalize knownP j.toNat = p at w w2 w6
    have ha : a ≠ q := fun e => by rw [e, hq] at hs; cases hs
    have hs' : ∀ o, sUpd S q o a = some .src := fun o => by rw [sUpd_ne ha]; exact hs
    have ret : ∀ p', PWf p' → p'.length = p.length → ∃ z, pTuple (sUpd S q (.lst (p'.map Row.z))) [.ref q] = some z ∧ R z (rst S (sUpd S q (.lst (p'.map Row.z)))) := fun p' w' hl => ⟨_, pTuple_ref sUpd_same, by rw [rst_new hq]; exact hk p' w' (by omega) (by omega)⟩
    refine ifB (fun hi => ?_) (fun hi => ?_)
    · refine ⟨_, pLen_ref sUpd_same, _, pLt_i, ?_⟩
      rw [List.length_map]
      have step : ∀ n : Nat, 0 < n → n ≤ 16 → ∃ z, pLen1 (sUpd S q (.lst (p.map Row.z))) [.ref q] = some z ∧ s_draw [.ref a, z] (fun e S' => RE e (rst S S')) (sUpd S q (.lst (p.map Row.z))) fun y S2 => ∃ z, pLen1 S2 [.ref q] = some z ∧ s_words [.int n] (fun e S' => RE e (rst S S')) S2 fun y_1 S2 => s_row [.ref a, z, y_1] (fun e S' => RE e (rst S S')) S2 fun z S2 => ∃ a k j zs, Z.ref q = Z.ref a ∧ y = .int k ∧ S2 a = some (.lst zs) ∧ ixN zs.length k = some j ∧ ∃ z_1, pTuple (sUpd S2 a (.lst (zs.set j z))) [.ref q] = some z_1 ∧ R z_1 (rst S (sUpd S2 a (.lst (zs.set j z)))) := fun n n0 n16 => by
        refine ⟨_, pLen_ref sUpd_same, a, _, rfl, hs' _, by simp; omega, by simp; omega, fun x x0 x1 => ⟨_, pLen_ref sUpd_same, n, rfl, n16, a, p.length, _, by rw [List.length_map], hs' _, ?_, ?_, by omega, fun r hr _ => ⟨q, x, x.toNat, _, rfl, rfl, sUpd_same, ?_, ?_⟩⟩⟩
        · intro e
          have l : (words16.take n).length = min n 16 := by rw [List.length_take]; rfl
          rw [e] at l
          have l' : 0 = min n 16 := l
          omega
        · rw [List.length_take]
          have l : words16.length = 16 := rfl
          omega
        · rw [List.length_map]
          exact ixN_ok x0 (by rw [List.length_map] at x1; exact x1)
        · rw [sUpd_upd, row_z]
          exact ret _ ⟨by rw [List.length_set]; exact w.pos, by rw [List.length_set]; exact w.most, by rw [List.length_set]; exact set_wf w.rows hr⟩ (List.length_set ..)
      exact ifB (fun _ => step 16 (by omega) (by omega)) (fun _ => step 12 (by omega) (by omega))
    · exact ret p w rfl

/-! ### rows and programs recognized -/
def isFrom (v : Z) (lo hi : Int) : Bool := match v with
  | .int i => decide (lo ≤ i) && decide (i ≤ hi)
  | _ => false
def s_from : DF := fun zs RE S k => ∃ v lo hi, zs = [v, .int lo, .int hi] ∧ dat v = true ∧ k (.bl (isFrom v lo hi)) S
theorem from_body {S : Sm} {R : Z → Sm → Prop} {v : Z} {lo hi : Int} (hd : dat v = true) (hk : R (.bl (isFrom v lo hi)) S) :
    dRet (dAnd (dCall (pure1 pIsI) (dCons (dVar 0) (dCons (dC (.ty "int")) dNil))) (dAnd (dNot (dCall (pure1 pIsI) (dCons (dVar 0) (dCons (dC (.ty "bool")) dNil)))) (dChain (fun _ => pLe) (fun _ => pLe) (dVar 1) (dVar 0) (dVar 2)))) EK0 [some v, some (.int lo), some (.int hi)] S { nx := fun _ S' => R .non S', rt := R } := by
  cases v <;> walk_at "d" <;> first | exact hk | (simp [dat] at hd; done) | skip
  refine ifB (fun h => ?_) (fun h => ?_)
  · simpa [isFrom, h] using hk
  · simpa [isFrom, h] using hk
theorem ok_from (zs RE S R) (h : s_from zs RE S R) : b_is_from zs RE S R := by
  obtain ⟨v, lo, hi, rfl, hd, hk⟩ := h
  exact ⟨rfl, from_body hd hk⟩
theorem ok_lfrom (zs RE S R) (h : s_from zs RE S R) : b__law_from zs RE S R := by
  obtain ⟨v, lo, hi, rfl, hd, hk⟩ := h
  exact ⟨rfl, from_body hd hk⟩
def stepsL : List Z := [.str "drop", .str "enter", .str "leave"]
def jumpsL : List Z := [.str "make", .str "read", .str "dead", .str "old", .str "same", .str "mine", .str "dropsame", .str "swap", .str "move", .str "back", .str "caught", .str "go"]
def bareRow (v : Z) (n : Int) : Bool := match v with
  | .tup (.str w :: r) => if inZ (.str w) stepsL then r.isEmpty else inZ (.str w) jumpsL && match r with
    | [t] => isFrom t 0 n
    | _ => false
  | _ => false
def s_bare : DF := fun zs RE S k => ∃ v n, zs = [v, .int n] ∧ dat v = true ∧ k (.bl (bareRow v n)) S
theorem steps_dat : dats stepsL = true := by decide +kernel
theorem jumps_dat : dats jumpsL = true := by decide +kernel
theorem ok_bare (zs RE S R) (h : s_bare zs RE S R) : b_is_bare_row s_from zs RE S R := by
  obtain ⟨v, n, rfl, hd, hk⟩ := h
  unfold b_is_bare_row m_is_bare_row
  cases v <;> first | (simp [dat] at hd; done) | (walk_at "d"; exact hk) | skip
  rename_i zs
  walk_at "d"
  cases zs with
  | nil => walk_at "d"; exact hk
  | cons x r =>
    have h0 : ((List.length r + 1 : Nat) : Int) ≠ 0 := by omega
    simp only [dat, dats, Bool.and_eq_true] at hd
    simp only [List.length_cons, decide_eq_false h0, atI_0]
    cases x <;> first | (simp [dat] at hd; done) | (walk_at "d"; exact hk) | skip
    rename_i s
    walk_at "d"
    refine ⟨_, pIn_of (ys := stepsL) rfl hd.1 steps_dat (Nat.zero_le _) (by decide), ifB (fun hi => ?_) (fun hi => ?_)⟩
    · cases r with
      | nil => simpa [bareRow, hi] using hk
      | cons y r => 
        have h1 : ((List.length r + 1 + 1 : Nat) : Int) ≠ 1 := by omega
        simp only [List.length_cons, decide_eq_false h1]
        simpa [bareRow, hi] using hk
    · refine ⟨_, pIn_of (ys := jumpsL) rfl hd.1 jumps_dat (Nat.zero_le _) (by decide), ?_⟩
      walk_at "v"
      refine ifB (fun hj => ?_) (fun hj => ?_)
      · cases r with
        | nil => simpa [bareRow, hi, hj] using hk
        | cons y r =>
          cases r with
          | nil =>
            simp only [dats, Bool.and_eq_true] at hd
            simp only [List.length_cons, List.length_nil, atI_1]
            walk_at "v"
            refine ifT (by simp) ⟨_, _, _, rfl, hd.2.1, ?_⟩
            simpa [bareRow, hi, hj] using hk
          | cons u r =>
            have h2 : ((List.length r + 1 + 1 + 1 : Nat) : Int) ≠ 2 := by omega
            simp only [List.length_cons, decide_eq_false h2]
            simpa [bareRow, hi, hj] using hk
      · simpa [bareRow, hi, hj] using hk

def rowOk (v : Z) (n : Int) : Bool := match v with
  | .tup [j, x] => if zeq j (.str "join") then bareRow x n else bareRow v n
  | _ => bareRow v n
def s_isrow : DF := fun zs RE S k => ∃ v n, zs = [v, .int n] ∧ dat v = true ∧ dep v ≤ 50 ∧ k (.bl (rowOk v n)) S
theorem join_dat : dat (.str "join") = true := dat_join
theorem len2 {r : List Z} : ((r.length + 1 : Nat) : Int) = 2 ↔ r.length = 1 := by omega
theorem ok_isrow (zs RE S R) (h : s_isrow zs RE S R) : b_is_row s_bare zs RE S R := by
  obtain ⟨v, n, rfl, hd, hp, hk⟩ := h
  unfold b_is_row m_is_row g_JOIN
  cases v <;> first | (simp [dat] at hd; done) | (walk_at "d"; exact ⟨_, n, rfl, hd, hk⟩) | skip
  rename_i zs
  walk_at "d"
  refine ifB (fun h2 => ?_) (fun h2 => ?_)
  · have e : zs.length = 2 := by
      have := of_decide_eq_true h2
      omega
    match zs, e with
    | [j, x], _ =>
      simp only [dat, dats, Bool.and_eq_true] at hd
      simp only [dep, deps] at hp
      simp only [atI_0]
      walk_at "v"
      refine ⟨_, pEq_of hd.1 dat_join (by omega) (Nat.zero_le _), ifB (fun hj => ?_) (fun hj => ?_)⟩
      · try simp only [atI_1]
        walk_at "v"
        exact ⟨x, n, rfl, hd.2.1, by simpa [rowOk, hj] using hk⟩
      · exact ⟨_, n, rfl, by simp [dat, dats, hd.1, hd.2.1], by simpa [rowOk, hj] using hk⟩
  · have e : zs.length ≠ 2 := by
      have := of_decide_eq_false h2
      omega
    refine ⟨_, n, rfl, hd, ?_⟩
    match zs, e with
    | [], _ => exact hk
    | [_], _ => exact hk
    | [_, _], e => exact absurd rfl e
    | _ :: _ :: _ :: _, _ => exact hk
def isProg (v : Z) : Bool := match v with
  | .tup zs => decide (1 ≤ zs.length) && decide (zs.length ≤ 12) && zs.all fun z => rowOk z zs.length
  | _ => false
def s_isprog : DF := fun zs RE S k => ∃ v, zs = [v] ∧ dat v = true ∧ dep v ≤ 40 ∧ k (.bl (isProg v)) S
theorem ok_isprog (zs RE S R) (h : s_isprog zs RE S R) : b_is_program s_isrow zs RE S R := by
  obtain ⟨v, rfl, hd, hp, hk⟩ := h
  unfold b_is_program m_is_program g_MOST_ROWS
  cases v <;> first | (simp [dat] at hd; done) | (walk_at "d"; exact hk) | skip
  rename_i zs
  walk_at "d"
  have fin : isProg (.tup zs) = false → ¬ (1 ≤ zs.length ∧ zs.length ≤ 12) → R (.bl false) S := fun e _ => by rw [e] at hk; exact hk
  refine ifB (fun h1 => ?_) (fun h1 => ?_)
  · have h1' : 1 ≤ zs.length := by have := of_decide_eq_true h1; omega
    refine ifB (fun h2 => ?_) (fun h2 => ?_)
    · have h2' : ¬ zs.length ≤ 12 := by
        simp only [Bool.not_eq_true', decide_eq_false_iff_not] at h2
        omega
      exact fin (by simp [isProg, h2']) (fun h => h2' h.2)
    · have h2' : zs.length ≤ 12 := by
        simp only [Bool.not_eq_false', decide_eq_true_eq] at h2
        omega
      simp only [dat] at hd
      simp only [dep] at hp
      refine compZ_map (fun z => .bl (rowOk z zs.length)) _ _ (by simp; omega) (fun z hz => ⟨_, rfl, fun k' hk' => ?_⟩) ?_
      · walk_at "d"
        exact ⟨z, _, rfl, dats_mem hd z hz, by have := deps_mem hz; omega, hk'⟩
      · rw [List.nil_append]
        refine ⟨_, pAll_map _ _, ?_⟩
        simpa [isProg, h1', h2'] using hk
  · have h1' : ¬ 1 ≤ zs.length := by have := of_decide_eq_false h1; omega
    exact fin (by simp [isProg, h1']) (fun h => h1' h.1)
end L3
namespace L3
open PySem PySem.Spec PyProof.Rows L2
theorem pNe_b {a b : Bool} : pNe (.bl a) (.bl b) = some (a != b) := by
  rw [pNe_of rfl rfl (Nat.zero_le _) (Nat.zero_le _)]
  cases a <;> cases b <;> rfl
theorem pEq_b {a b : Bool} : pEq (.bl a) (.bl b) = some (a == b) := by
  rw [pEq_of rfl rfl (Nat.zero_le _) (Nat.zero_le _)]
  cases a <;> cases b <;> rfl
local macro_rules | `(tactic| walk_at "d") => `(tactic| try simp only [szk_0, szk_1, szk_2, szk_3, szk_4, szk_5, szk_6, szk_7, szk_8, szk_9, szk_10, szk_11, szk_12, szk_13, szk_14, szk_15, szk_16, szk_17, szk_18, szk_19, szk_20, fromBody, dNil', dSeq, dSet, dRet, dRetN, dDrop, dIf, dVar, dC, dOp, dCmp, dCmpT, dChain, dChainT, dVal, dNotT, dAndT, dOrT, dAnd, dOr, dNot, dIfE, dNeg, dIx, dSl, dNoPart, dPart, dNil, dCons, dTup, dLst, dLstM, dCall, pure1, dCallF, dItSeq, dItRange, dItZip, dFor, dComp, dCompM, dYes, dAug, dPar, dSub, dRetF, dFrz, dAppend, dBrk, dCnt, wipeE, gN, dInTab, dIxTab, dCallL, dLenSet, dCount, dAddM, gL, dRaise, dTry, catchBy, dItEnum,
  pAdd_i, pEq_i, pNe_i, pNe_b, pEq_b, pSub_i, pLt_i, pLe_i, pGt_i, pGe_i, pAddI_i, pIsN_non, pNotN_non, pIsN_bl, pNotN_bl, pIsN_int, pNotN_int, pIsN_str, pNotN_str, pIsN_tup, pNotN_tup, pIsN_lst, pNotN_lst, pIsN_ref, pNotN_ref, pIsN_ty, pNotN_ty, pIsN_scr, pNotN_scr, pIsI_non_bool, pIsI_non_int, pIsI_non_str, pIsI_non_tuple, pIsI_non_list, pIsI_bl_bool, pIsI_bl_int, pIsI_bl_str, pIsI_bl_tuple, pIsI_bl_list, pIsI_int_bool, pIsI_int_int, pIsI_int_str, pIsI_int_tuple, pIsI_int_list, pIsI_str_bool, pIsI_str_int, pIsI_str_str, pIsI_str_tuple, pIsI_str_list, pIsI_tup_bool, pIsI_tup_int, pIsI_tup_str, pIsI_tup_tuple, pIsI_tup_list, pIsI_lst_bool, pIsI_lst_int, pIsI_lst_str, pIsI_lst_tuple, pIsI_lst_list, pLen_tup, pIx_tup, pList_tup, pTuple_tup, seqOf_tup, pLen_lst, pIx_lst, pList_lst, pTuple_lst, seqOf_lst, pLen_scr, pIx_scr, pList_scr, pTuple_scr, seqOf_scr, pSl_tup, itemsOf_tup, pSl_lst, itemsOf_lst, pAbs_i, pInt_i, pInt_b, pMin2_i, gT_tup, gsCons_cons, gsNil_nil, getE_0, getE_s,
  Option.some.injEq, exists_eq_left', exists_eq_left, Z.int.injEq, Z.bl.injEq, Z.str.injEq, Z.tup.injEq, Z.lst.injEq, Z.ref.injEq, Option.map_some, Option.bind_some, List.set_cons_zero, List.set_cons_succ, List.map_cons, List.map_nil, List.cons_append, List.nil_append, List.length_cons, List.length_nil, List.replicate_succ, List.replicate_zero, true_and, and_true, if_true, Nat.reduceAdd, Nat.reduceSub, Bool.false_eq_true, if_false, ite_true, ite_false, List.cons.injEq, reduceIte, Bool.not_true, Bool.not_false])
local macro_rules | `(tactic| walk_at "v") => `(tactic| try simp only [szk_0, szk_1, szk_2, szk_3, szk_4, szk_5, szk_6, szk_7, szk_8, szk_9, szk_10, szk_11, szk_12, szk_13, szk_14, szk_15, szk_16, szk_17, szk_18, szk_19, szk_20, 
  pAdd_i, pEq_i, pNe_i, pNe_b, pEq_b, pSub_i, pLt_i, pLe_i, pGt_i, pGe_i, pAddI_i, pIsN_non, pNotN_non, pIsN_bl, pNotN_bl, pIsN_int, pNotN_int, pIsN_str, pNotN_str, pIsN_tup, pNotN_tup, pIsN_lst, pNotN_lst, pIsN_ref, pNotN_ref, pIsN_ty, pNotN_ty, pIsN_scr, pNotN_scr, pIsI_non_bool, pIsI_non_int, pIsI_non_str, pIsI_non_tuple, pIsI_non_list, pIsI_bl_bool, pIsI_bl_int, pIsI_bl_str, pIsI_bl_tuple, pIsI_bl_list, pIsI_int_bool, pIsI_int_int, pIsI_int_str, pIsI_int_tuple, pIsI_int_list, pIsI_str_bool, pIsI_str_int, pIsI_str_str, pIsI_str_tuple, pIsI_str_list, pIsI_tup_bool, pIsI_tup_int, pIsI_tup_str, pIsI_tup_tuple, pIsI_tup_list, pIsI_lst_bool, pIsI_lst_int, pIsI_lst_str, pIsI_lst_tuple, pIsI_lst_list, pLen_tup, pIx_tup, pList_tup, pTuple_tup, seqOf_tup, pLen_lst, pIx_lst, pList_lst, pTuple_lst, seqOf_lst, pLen_scr, pIx_scr, pList_scr, pTuple_scr, seqOf_scr, pSl_tup, itemsOf_tup, pSl_lst, itemsOf_lst, pAbs_i, pInt_i, pInt_b, pMin2_i, gT_tup, gsCons_cons, gsNil_nil, getE_0, getE_s, atI_0, atI_1, atI_2, atI_3, atI_4, sUpd_same,
  Option.some.injEq, exists_eq_left', exists_eq_left, Z.int.injEq, Z.bl.injEq, Z.str.injEq, Z.tup.injEq, Z.lst.injEq, Z.ref.injEq, Option.map_some, Option.bind_some, List.set_cons_zero, List.set_cons_succ, List.map_cons, List.map_nil, List.cons_append, List.nil_append, List.length_cons, List.length_nil, List.replicate_succ, List.replicate_zero, true_and, and_true, if_true, Nat.reduceAdd, Nat.reduceSub, Bool.false_eq_true, if_false, ite_true, ite_false, List.cons.injEq, reduceIte, Bool.not_true, Bool.not_false])
set_option maxHeartbeats 1000000
/-! ### the law's own check -/
theorem zeq_str {x : Z} {s : Str} (h : zeq x (.str s) = true) : x = .str s := by
  cases x <;> simp [zeq] at h
  rw [h]
theorem steps_jumps {w : Str} (h : inZ (.str w) stepsL = true) : inZ (.str w) jumpsL = false := by
  simp only [inZ, stepsL, List.any_cons, List.any_nil, zeq, Bool.or_eq_true, beq_iff_eq, Bool.or_false] at h
  rcases h with h | h | h <;> subst h <;> decide +kernel
theorem bare_1 (x : Z) (n : Int) : bareRow (.tup [x]) n = match x with | .str w => inZ (.str w) stepsL | _ => false := by
  cases x <;> try rfl
  rename_i w
  simp only [bareRow, List.isEmpty_nil]
  split <;> simp_all
theorem bare_2 (x t : Z) (n : Int) : bareRow (.tup [x, t]) n = match x with | .str w => inZ (.str w) jumpsL && isFrom t 0 n | _ => false := by
  cases x <;> try rfl
  rename_i w
  simp only [bareRow, List.isEmpty_cons]
  split
  · rename_i h
    rw [steps_jumps h]
    rfl
  · rfl
theorem bare_3 (x t u : Z) (r : List Z) (n : Int) : bareRow (.tup (x :: t :: u :: r)) n = false := by
  cases x <;> try rfl
  rename_i w
  simp only [bareRow, List.isEmpty_cons]
  split <;> simp
/-- the end of the check: no join -/
theorem good_bare {S : Sm} {R : Z → Sm → Prop} {RE : Exc → Sm → Prop} {v : Z} {n : Int} {o : Option Z} (hd : dat v = true) (hk : R (.bl (bareRow v n)) S) :
    (dSeq (dIf (dOrT (dNotT (dVal (dCall (pure1 pIsI) (dCons (dVar 0) (dCons (dC (.ty "tuple")) dNil))))) (dOrT (dCmpT pNotIn (dCall (pure1 pLen1) (dCons (dVar 0) dNil)) (dLst (dCons (dC (.int 1)) (dCons (dC (.int 2)) dNil)))) (dNotT (dVal (dCall (pure1 pIsI) (dCons (dIx (dVar 0) (dC (.int 0))) (dCons (dC (.ty "str")) dNil))))))) (dRet (dC (.bl false))) dNil') (dSeq (dIf (dCmpT (fun _ => pEq) (dCall (pure1 pLen1) (dCons (dVar 0) dNil)) (dC (.int 1))) (dRet (dCmp pIn (dIx (dVar 0) (dC (.int 0))) (dLst (dCons (dC (.str "drop")) (dCons (dC (.str "enter")) (dCons (dC (.str "leave")) dNil)))))) dNil') (dSeq (dSet (gN 2) (dLst (dCons (dC (.str "make")) (dCons (dC (.str "read")) (dCons (dC (.str "dead")) (dCons (dC (.str "old")) (dCons (dC (.str "same")) (dCons (dC (.str "mine")) (dCons (dC (.str "dropsame")) (dCons (dC (.str "swap")) (dCons (dC (.str "move")) (dCons (dC (.str "back")) (dCons (dC (.str "caught")) (dCons (dC (.str "go")) dNil)))))))))))))) (dRet (dAnd (dCmp pIn (dIx (dVar 0) (dC (.int 0))) (dVar 2)) (dCallF s_from (dCons (dIx (dVar 0) (dC (.int 1))) (dCons (dC (.int 0)) (dCons (dVar 1) dNil))))))))) (fun e _ S' => RE e S') [some v, some (.int n), o] S { nx := fun _ S' => R .non S', rt := R } := by
  cases v <;> first | (simp [dat] at hd; done) | (walk_at "d"; exact hk) | skip
  rename_i zs
  walk_at "d"
  simp only [dat] at hd
  have two : dats [.int 1, .int 2] = true := rfl
  refine ⟨_, pNotIn_of (ys := [.int 1, .int 2]) rfl rfl two (Nat.zero_le _) (by decide), ?_⟩
  match zs with
  | [] => exact hk
  | [x] =>
    refine ifF (by simp [inZ, zeq]) ?_
    rw [bare_1] at hk
    simp only [dats, Bool.and_eq_true] at hd
    simp only [atI_0]
    cases x <;> first | (simp [dat] at hd; done) | (walk_at "v"; exact hk) | skip
    walk_at "v"
    refine ifT (by simp) ⟨_, pIn_of (ys := stepsL) rfl hd.1 steps_dat (Nat.zero_le _) (by decide), hk⟩
  | [x, t] =>
    refine ifF (by simp [inZ, zeq]) ?_
    rw [bare_2] at hk
    simp only [dats, Bool.and_eq_true] at hd
    simp only [atI_0, atI_1]
    cases x <;> first | (simp [dat] at hd; done) | (walk_at "v"; exact hk) | skip
    walk_at "v"
    refine ifF (by simp) ⟨_, pIn_of (ys := jumpsL) rfl hd.1 jumps_dat (Nat.zero_le _) (by decide), ?_⟩
    simp only at hk
    exact ifB (fun h => ⟨_, _, _, rfl, hd.2.1, by simpa [h] using hk⟩) (fun h => by simpa [h] using hk)
  | x :: t :: u :: r =>
    rw [bare_3] at hk
    refine ifT ?_ hk
    have e1 : ((List.length r + 1 + 1 + 1 : Nat) : Int) ≠ 1 := by omega
    have e2 : ((List.length r + 1 + 1 + 1 : Nat) : Int) ≠ 2 := by omega
    simp only [inZ, List.any_cons, List.any_nil, zeq, List.length_cons, Bool.or_false]
    have f1 : ((1 : Int) == ((List.length r + 1 + 1 + 1 : Nat) : Int)) = false := beq_eq_false_iff_ne.mpr (Ne.symm e1)
    have f2 : ((2 : Int) == ((List.length r + 1 + 1 + 1 : Nat) : Int)) = false := beq_eq_false_iff_ne.mpr (Ne.symm e2)
    rw [f1, f2]
    rfl
theorem bare_join (r : List Z) (n : Int) : bareRow (.tup (.str "join" :: r)) n = false := by
  have e1 : inZ (.str "join") stepsL = false := by decide +kernel
  have e2 : inZ (.str "join") jumpsL = false := by decide +kernel
  simp [bareRow, e1, e2]
theorem seq_ifF {t : DT} {A rest : DS} {E : EK} {env : Env} {S : Sm} {K : Ks} (h : ∀ k : Bool → Sm → Prop, k false S → t E env S k) (hr : rest E env S K) : dSeq (dIf t A dNil') rest E env S K := by
  refine h _ ?_
  rw [if_neg Bool.false_ne_true]
  exact hr
theorem seq_ifT {t : DT} {A B rest : DS} {E : EK} {env : Env} {S : Sm} {K : Ks} (h : ∀ k : Bool → Sm → Prop, k true S → t E env S k) (hr : dSeq A rest E env S K) : dSeq (dIf t A B) rest E env S K := by
  refine h _ ?_
  rw [if_pos rfl]
  exact hr
theorem dif_F {t : DT} {A : DS} {E : EK} {env : Env} {S : Sm} {K : Ks} (h : ∀ k : Bool → Sm → Prop, k false S → t E env S k) (hr : K.nx env S) : dIf t A dNil' E env S K := by
  refine h _ ?_
  rw [if_neg Bool.false_ne_true]
  exact hr
theorem dif_T {t : DT} {A B : DS} {E : EK} {env : Env} {S : Sm} {K : Ks} (h : ∀ k : Bool → Sm → Prop, k true S → t E env S k) (hr : A E env S K) : dIf t A B E env S K := by
  refine h _ ?_
  rw [if_pos rfl]
  exact hr
theorem ok_goodrow (zs RE S R) (h : s_isrow zs RE S R) : b__law_good_row s_from zs RE S R := by
  obtain ⟨v, n, rfl, hd, hp, hk⟩ := h
  unfold b__law_good_row m__law_good_row fromBody
  refine ⟨rfl, ?_⟩
  show dSeq _ _ _ [some v, some (.int n), none] _ _
  have alt : (∃ zs, v = .tup zs) ∨ ((∀ zs, v ≠ .tup zs) ∧ rowOk v n = bareRow v n) := by
    cases v <;> first | exact .inl ⟨_, rfl⟩ | exact .inr ⟨fun _ h => (nomatch h), rfl⟩
  rcases alt with ⟨zs, rfl⟩ | ⟨hn, he⟩
  rotate_left
  · rw [he] at hk
    refine seq_ifF (fun k q => ?_) (good_bare hd hk)
    cases v <;> first | exact absurd rfl (hn _) | (simp [dat] at hd; done) | (walk_at "d"; exact q)
  match zs with
  | [] => exact seq_ifF (fun k q => by walk_at "d"; exact q) (good_bare hd hk)
  | [x] => exact seq_ifF (fun k q => by walk_at "d"; exact q) (good_bare hd hk)
  | x :: t :: u :: r =>
    have e2 : ((List.length r + 1 + 1 + 1 : Nat) : Int) ≠ 2 := by omega
    exact seq_ifF (fun k q => by
      walk_at "d"
      simp only [decide_eq_false e2]
      exact q) (good_bare hd hk)
  | [x, t] =>
    have hd0 := hd
    simp only [dat, dats, Bool.and_eq_true] at hd
    simp only [dep, deps] at hp
    cases hj : zeq x (.str "join") with
    | false =>
      refine seq_ifF (fun k q => ?_) (good_bare hd0 (by simpa [rowOk, hj] using hk))
      walk_at "d"
      simp only [atI_0]
      walk_at "v"
      exact ⟨_, pEq_of hd.1 dat_join (by omega) (Nat.zero_le _), by rw [hj]; exact q⟩
    | true =>
      have hk' : R (.bl (bareRow t n)) S := by simpa [rowOk, hj] using hk
      refine seq_ifT (fun k q => ?_) ?_
      · walk_at "d"
        simp only [atI_0]
        walk_at "v"
        exact ⟨_, pEq_of hd.1 dat_join (by omega) (Nat.zero_le _), by rw [hj]; exact q⟩
      · refine ⟨_, rfl, t, (pIx_tup.trans atI_1), _, rfl, ?_⟩
        · dsimp only [List.set_cons_zero]
          have alt : (∃ y r, t = .tup (y :: r)) ∨ (∀ y r, t ≠ .tup (y :: r)) := by
            cases t with
            | tup ys =>
              cases ys with
              | nil => exact .inr fun _ _ h => by cases h
              | cons y r => exact .inl ⟨y, r, rfl⟩
            | _ => exact .inr fun _ _ h => by cases h
          rcases alt with ⟨y, r, rfl⟩ | hn
          · simp only [dat, dats, Bool.and_eq_true] at hd
            simp only [dep, deps] at hp
            have hl : decide (0 < ((List.length r + 1 : Nat) : Int)) = true := decide_eq_true (by omega)
            cases hy : zeq y (.str "join") with
            | false =>
              refine dif_F (fun k q => ?_) (good_bare (by simp [dat, dats, hd.2.1.1, hd.2.1.2]) hk')
              walk_at "d"
              simp only [hl, atI_0]
              walk_at "v"
              exact ⟨_, pEq_of hd.2.1.1 dat_join (by omega) (Nat.zero_le _), by rw [hy]; exact q⟩
            | true =>
              rw [zeq_str hy, bare_join] at hk'
              refine dif_T (fun k q => ?_) hk'
              walk_at "d"
              simp only [hl, atI_0]
              walk_at "v"
              exact ⟨_, pEq_of hd.2.1.1 dat_join (by omega) (Nat.zero_le _), by rw [hy]; exact q⟩
          · refine dif_F (fun k q => ?_) (good_bare hd.2.1 hk')
            cases t <;> first | (simp [dat] at hd; done) | (walk_at "d"; exact q) | skip
            rename_i ys
            cases ys with
            | nil => walk_at "d"; exact q
            | cons y r => exact absurd rfl (hn y r)
theorem zeqs_nil (xs : List Z) : zeqs xs [] = xs.isEmpty := by cases xs <;> simp [zeqs]
theorem ok_goodprog (zs RE S R) (h : s_isprog zs RE S R) : b__law_good_program s_isrow zs RE S R := by
  obtain ⟨v, rfl, hd, hp, hk⟩ := h
  unfold b__law_good_program m__law_good_program
  cases v <;> first | (simp [dat] at hd; done) | (walk_at "d"; exact hk) | skip
  rename_i zs
  walk_at "d"
  have fin : isProg (.tup zs) = false → R (.bl false) S := fun e => by rw [e] at hk; exact hk
  refine ifB (fun h1 => ?_) (fun h1 => ?_)
  · have h1' : 1 ≤ zs.length := by have := of_decide_eq_true h1; omega
    refine ifB (fun h2 => ?_) (fun h2 => ?_)
    · have h2' : ¬ zs.length ≤ 12 := by
        simp only [Bool.not_eq_true', decide_eq_false_iff_not] at h2
        omega
      exact fin (by simp [isProg, h2'])
    · have h2' : zs.length ≤ 12 := by
        simp only [Bool.not_eq_false', decide_eq_true_eq] at h2
        omega
      simp only [dat] at hd
      simp only [dep] at hp
      refine compZ_filter (fun z => !rowOk z zs.length) id _ _ (by simp; omega) (fun z hz => ⟨_, rfl, fun k' hk' => ?_, fun _ k' hk' => ?_⟩) ?_
      · walk_at "d"
        refine ⟨z, _, rfl, dats_mem hd z hz, by have := deps_mem hz; omega, _, rfl, hk'⟩
      · walk_at "d"
        exact hk'
      · rw [List.nil_append, List.map_id]
        have hf : ∀ z ∈ zs.filter (fun z => !rowOk z zs.length), z ∈ zs := fun z h => (List.mem_filter.mp h).1
        refine ⟨_, pEq_of (by simp only [dat]; exact dats_of fun z h => dats_mem hd z (hf z h)) rfl (by simp only [dep]; have := deps_of (n := deps zs) fun z h => deps_mem (hf z h); omega) (by decide), ?_⟩
        have e : zeq (.lst (zs.filter fun z => !rowOk z zs.length)) (.lst []) = isProg (.tup zs) := by
          simp only [zeq, zeqs_nil, isProg, h1', h2', decide_true, Bool.true_and]
          rw [Bool.eq_iff_iff, List.isEmpty_iff, List.filter_eq_nil_iff, List.all_eq_true]
          simp
        rw [e]
        exact hk
  · have h1' : ¬ 1 ≤ zs.length := by have := of_decide_eq_false h1; omega
    exact fin (by simp [isProg, h1'])
end L3
namespace L3
open PySem PySem.Spec PyProof.Rows L2
local macro_rules | `(tactic| walk_at "d") => `(tactic| try simp only [szk_0, szk_1, szk_2, szk_3, szk_4, szk_5, szk_6, szk_7, szk_8, szk_9, szk_10, szk_11, szk_12, szk_13, szk_14, szk_15, szk_16, szk_17, szk_18, szk_19, szk_20, fromBody, dNil', dSeq, dSet, dRet, dRetN, dDrop, dIf, dVar, dC, dOp, dCmp, dCmpT, dChain, dChainT, dVal, dNotT, dAndT, dOrT, dAnd, dOr, dNot, dIfE, dNeg, dIx, dSl, dNoPart, dPart, dNil, dCons, dTup, dLst, dLstM, dCall, pure1, dCallF, dItSeq, dItRange, dItZip, dFor, dComp, dCompM, dYes, dAug, dPar, dSub, dRetF, dFrz, dAppend, dBrk, dCnt, wipeE, gN, dInTab, dIxTab, dCallL, dLenSet, dCount, dAddM, gL, dRaise, dTry, catchBy, dItEnum,
  pAdd_i, pEq_i, pNe_i, pNe_b, pEq_b, pSub_i, pLt_i, pLe_i, pGt_i, pGe_i, pAddI_i, pIsN_non, pNotN_non, pIsN_bl, pNotN_bl, pIsN_int, pNotN_int, pIsN_str, pNotN_str, pIsN_tup, pNotN_tup, pIsN_lst, pNotN_lst, pIsN_ref, pNotN_ref, pIsN_ty, pNotN_ty, pIsN_scr, pNotN_scr, pIsI_non_bool, pIsI_non_int, pIsI_non_str, pIsI_non_tuple, pIsI_non_list, pIsI_bl_bool, pIsI_bl_int, pIsI_bl_str, pIsI_bl_tuple, pIsI_bl_list, pIsI_int_bool, pIsI_int_int, pIsI_int_str, pIsI_int_tuple, pIsI_int_list, pIsI_str_bool, pIsI_str_int, pIsI_str_str, pIsI_str_tuple, pIsI_str_list, pIsI_tup_bool, pIsI_tup_int, pIsI_tup_str, pIsI_tup_tuple, pIsI_tup_list, pIsI_lst_bool, pIsI_lst_int, pIsI_lst_str, pIsI_lst_tuple, pIsI_lst_list, pLen_tup, pIx_tup, pList_tup, pTuple_tup, seqOf_tup, pLen_lst, pIx_lst, pList_lst, pTuple_lst, seqOf_lst, pLen_scr, pIx_scr, pList_scr, pTuple_scr, seqOf_scr, pSl_tup, itemsOf_tup, pSl_lst, itemsOf_lst, pAbs_i, pInt_i, pInt_b, pMin2_i, gT_tup, gsCons_cons, gsNil_nil, getE_0, getE_s,
  Option.some.injEq, exists_eq_left', exists_eq_left, Z.int.injEq, Z.bl.injEq, Z.str.injEq, Z.tup.injEq, Z.lst.injEq, Z.ref.injEq, Option.map_some, Option.bind_some, List.set_cons_zero, List.set_cons_succ, List.map_cons, List.map_nil, List.cons_append, List.nil_append, List.length_cons, List.length_nil, List.replicate_succ, List.replicate_zero, true_and, and_true, if_true, Nat.reduceAdd, Nat.reduceSub, Bool.false_eq_true, if_false, ite_true, ite_false, List.cons.injEq, reduceIte, Bool.not_true, Bool.not_false])
local macro_rules | `(tactic| walk_at "v") => `(tactic| try simp only [szk_0, szk_1, szk_2, szk_3, szk_4, szk_5, szk_6, szk_7, szk_8, szk_9, szk_10, szk_11, szk_12, szk_13, szk_14, szk_15, szk_16, szk_17, szk_18, szk_19, szk_20, 
  pAdd_i, pEq_i, pNe_i, pNe_b, pEq_b, pSub_i, pLt_i, pLe_i, pGt_i, pGe_i, pAddI_i, pIsN_non, pNotN_non, pIsN_bl, pNotN_bl, pIsN_int, pNotN_int, pIsN_str, pNotN_str, pIsN_tup, pNotN_tup, pIsN_lst, pNotN_lst, pIsN_ref, pNotN_ref, pIsN_ty, pNotN_ty, pIsN_scr, pNotN_scr, pIsI_non_bool, pIsI_non_int, pIsI_non_str, pIsI_non_tuple, pIsI_non_list, pIsI_bl_bool, pIsI_bl_int, pIsI_bl_str, pIsI_bl_tuple, pIsI_bl_list, pIsI_int_bool, pIsI_int_int, pIsI_int_str, pIsI_int_tuple, pIsI_int_list, pIsI_str_bool, pIsI_str_int, pIsI_str_str, pIsI_str_tuple, pIsI_str_list, pIsI_tup_bool, pIsI_tup_int, pIsI_tup_str, pIsI_tup_tuple, pIsI_tup_list, pIsI_lst_bool, pIsI_lst_int, pIsI_lst_str, pIsI_lst_tuple, pIsI_lst_list, pLen_tup, pIx_tup, pList_tup, pTuple_tup, seqOf_tup, pLen_lst, pIx_lst, pList_lst, pTuple_lst, seqOf_lst, pLen_scr, pIx_scr, pList_scr, pTuple_scr, seqOf_scr, pSl_tup, itemsOf_tup, pSl_lst, itemsOf_lst, pAbs_i, pInt_i, pInt_b, pMin2_i, gT_tup, gsCons_cons, gsNil_nil, getE_0, getE_s, atI_0, atI_1, atI_2, atI_3, atI_4, sUpd_same,
  Option.some.injEq, exists_eq_left', exists_eq_left, Z.int.injEq, Z.bl.injEq, Z.str.injEq, Z.tup.injEq, Z.lst.injEq, Z.ref.injEq, Option.map_some, Option.bind_some, List.set_cons_zero, List.set_cons_succ, List.map_cons, List.map_nil, List.cons_append, List.nil_append, List.length_cons, List.length_nil, List.replicate_succ, List.replicate_zero, true_and, and_true, if_true, Nat.reduceAdd, Nat.reduceSub, Bool.false_eq_true, if_false, ite_true, ite_false, List.cons.injEq, reduceIte, Bool.not_true, Bool.not_false])
set_option maxHeartbeats 1000000
/-! ### values with a part changed -/
mutual
/-- no tuple or list is longer -/
def fit (n : Nat) : Z → Bool
  | .tup zs => decide (zs.length ≤ n) && fits n zs
  | .lst zs => decide (zs.length ≤ n) && fits n zs
  | _ => true
def fits (n : Nat) : List Z → Bool
  | [] => true
  | z :: zs => fit n z && fits n zs
end
theorem fits_mem {n : Nat} : ∀ {zs : List Z}, fits n zs = true → ∀ z ∈ zs, fit n z = true
  | z :: zs, h, y, hy => by
    simp only [fits, Bool.and_eq_true] at h
    rcases List.mem_cons.mp hy with e | hy
    · rw [e]; exact h.1
    · exact fits_mem h.2 y hy
theorem fits_of {n : Nat} : ∀ {zs : List Z}, (∀ z ∈ zs, fit n z = true) → fits n zs = true
  | [], _ => rfl
  | z :: zs, h => by
    simp only [fits, Bool.and_eq_true]
    exact ⟨h z List.mem_cons_self, fits_of fun y hy => h y (List.mem_cons_of_mem _ hy)⟩
mutual
theorem fit_mono {n m : Nat} (h : n ≤ m) : ∀ z : Z, fit n z = true → fit m z = true
  | .tup zs, q => by
    simp only [fit, Bool.and_eq_true, decide_eq_true_eq] at q ⊢
    exact ⟨by omega, fits_mono h zs q.2⟩
  | .lst zs, q => by
    simp only [fit, Bool.and_eq_true, decide_eq_true_eq] at q ⊢
    exact ⟨by omega, fits_mono h zs q.2⟩
  | .non, _ => rfl
  | .bl _, _ => rfl
  | .int _, _ => rfl
  | .str _, _ => rfl
  | .ref _, _ => rfl
  | .ty _, _ => rfl
  | .scr _, _ => rfl
theorem fits_mono {n m : Nat} (h : n ≤ m) : ∀ zs : List Z, fits n zs = true → fits m zs = true
  | [], _ => rfl
  | z :: zs, q => by
    simp only [fits, Bool.and_eq_true] at q ⊢
    exact ⟨fit_mono h z q.1, fits_mono h zs q.2⟩
end
/-- a value within bounds -/
structure Val (d n : Nat) (z : Z) : Prop where
  dat : L3.dat z = true
  dep : L3.dep z ≤ d
  fit : L3.fit n z = true
theorem Val.mono {d n d' n' : Nat} {z : Z} (h : Val d n z) (a : d ≤ d') (b : n ≤ n') : Val d' n' z := ⟨h.dat, Nat.le_trans h.dep a, fit_mono b z h.fit⟩
theorem Val.tup {d n : Nat} {zs : List Z} (h : ∀ z ∈ zs, Val d n z) (l : zs.length ≤ n) : Val (d + 1) n (.tup zs) :=
  ⟨by simp only [L3.dat]; exact dats_of fun z hz => (h z hz).dat, by simp only [L3.dep]; have := deps_of (n := d) fun z hz => (h z hz).dep; omega, by simp only [L3.fit, Bool.and_eq_true, decide_eq_true_eq]; exact ⟨l, fits_of fun z hz => (h z hz).fit⟩⟩
theorem Val.lst {d n : Nat} {zs : List Z} (h : ∀ z ∈ zs, Val d n z) (l : zs.length ≤ n) : Val (d + 1) n (.lst zs) :=
  ⟨by simp only [L3.dat]; exact dats_of fun z hz => (h z hz).dat, by simp only [L3.dep]; have := deps_of (n := d) fun z hz => (h z hz).dep; omega, by simp only [L3.fit, Bool.and_eq_true, decide_eq_true_eq]; exact ⟨l, fits_of fun z hz => (h z hz).fit⟩⟩
theorem Val.of_tup {d n : Nat} {zs : List Z} (h : Val d n (.tup zs)) : 1 ≤ d ∧ zs.length ≤ n ∧ ∀ z ∈ zs, Val (d - 1) n z := by
  have h1 := h.dat
  have h2 := h.dep
  have h3 := h.fit
  simp only [L3.dat] at h1
  simp only [L3.dep] at h2
  simp only [L3.fit, Bool.and_eq_true, decide_eq_true_eq] at h3
  exact ⟨by omega, h3.1, fun z hz => ⟨dats_mem h1 z hz, by have := deps_mem hz; omega, fits_mem h3.2 z hz⟩⟩
def s_changed (d : Nat) : DF := fun zs RE S k => ∃ (a : Addr) (v : Z) (n : Nat), zs = [.ref a, v] ∧ S a = some .src ∧ Val d n v ∧ 2 ≤ n ∧ n ≤ 1000 ∧ ∀ y, Val (d + 1) (n + 1) y → k y S
theorem menu_val {y : Z} (h : y ∈ ([.non, .bl true, .bl false, .int 0, .int 1, .int 4, .int 12, .int (-1), .int 999, .int 1000, .str "make", .str "join", .str "drop", .str "old", .str "Make", .str "", .str "start", .str "fresh"] ++
    [.tup [], .tup [.int 0], .tup [.str "drop"], .tup [.str "enter", .int 0], .tup [.str "go"], .tup [.str "go", .int 0], .tup [.int 0, .int 0]] : List Z)) : Val 1 2 y := by
  have c : ∀ l : List Z, (l.all fun z => dat z && decide (dep z ≤ 1) && fit 2 z) = true → ∀ y ∈ l, Val 1 2 y := fun l h y hy => by
    rw [List.all_eq_true] at h
    have := h y hy
    simp only [Bool.and_eq_true, decide_eq_true_eq] at this
    exact ⟨this.1.1, this.1.2, this.2⟩
  exact c _ (by decide +kernel) y h
theorem ok_changed (d : Nat) (hd : d ≤ 50) (sc : DF) (hsc : ∀ zs RE S R, 1 ≤ d → s_changed (d - 1) zs RE S R → sc zs RE S R) (zs RE S R) (h : s_changed d zs RE S R) : fromBody 2 5 (m__law_changed s_draw sc s_choice) zs RE S R := by
  obtain ⟨a, v, n, rfl, hs, hv, h2, hn, hk⟩ := h
  unfold fromBody m__law_changed
  refine ⟨rfl, ?_⟩
  show dSeq _ _ _ [some (.ref a), some v, none, none, none] _ _
  refine ⟨_, rfl, a, 7, rfl, hs, by omega, by omega, fun way w0 w1 => ⟨_, rfl, ?_⟩⟩
  dsimp only [List.set_cons_zero, List.set_cons_succ]
  -- behind the branch for tuples
  have leaf : ∀ o, (dSeq (dSet (gN 3) (dLst (dCons (dC .non) (dCons (dC (.bl true)) (dCons (dC (.bl false)) (dCons (dC (.int 0)) (dCons (dC (.int 1)) (dCons (dC (.int 4)) (dCons (dC (.int 12)) (dCons (dNeg (dC (.int 1))) (dCons (dC (.int 999)) (dCons (dC (.int 1000)) (dCons (dC (.str "make")) (dCons (dC (.str "join")) (dCons (dC (.str "drop")) (dCons (dC (.str "old")) (dCons (dC (.str "Make")) (dCons (dC (.str "")) (dCons (dC (.str "start")) (dCons (dC (.str "fresh")) dNil)))))))))))))))))))) (dRet (dCallF s_choice (dCons (dVar 0) (dCons (dOp pAdd (dVar 3) (dLst (dCons (dTup dNil) (dCons (dTup (dCons (dC (.int 0)) dNil)) (dCons (dTup (dCons (dC (.str "drop")) dNil)) (dCons (dTup (dCons (dC (.str "enter")) (dCons (dC (.int 0)) dNil))) (dCons (dTup (dCons (dC (.str "go")) dNil)) (dCons (dTup (dCons (dC (.str "go")) (dCons (dC (.int 0)) dNil))) (dCons (dTup (dCons (dC (.int 0)) (dCons (dC (.int 0)) dNil))) dNil))))))))) dNil))))) (fun e _ S' => RE e S') [some (.ref a), some v, some (.int way), none, o] S { nx := fun _ S' => R .non S', rt := R } := fun o => by
    walk_at "d"
    refine ⟨_, pAdd_l (by decide), a, _, _, rfl, hs, rfl, by decide, by decide, fun y hy => ?_⟩
    exact hk y ((menu_val hy).mono (by omega) (by omega))
  have alt : (∃ zs, v = .tup zs) ∨ (∀ zs, v ≠ .tup zs) := by
    cases v <;> first | exact .inl ⟨_, rfl⟩ | exact .inr fun _ h => (nomatch h)
  rcases alt with ⟨zs, rfl⟩ | hne
  rotate_left
  · refine seq_ifF (fun k q => ?_) (leaf none)
    have hd := hv.dat
    cases v <;> first | exact absurd rfl (hne _) | (simp [dat] at hd; done) | (walk_at "d"; exact q)
  obtain ⟨d1, zl, hz⟩ := hv.of_tup
  have hz' : ∀ z ∈ zs, Val d (n + 1) z := fun z h => (hz z h).mono (by omega) (by omega)
  have hp := hv.dep
  have test : ∀ k : Bool → Sm → Prop, k (!zs.isEmpty && decide (0 < way)) S → (dAndT (dVal (dCall (pure1 pIsI) (dCons (dVar 1) (dCons (dC (.ty "tuple")) dNil)))) (dAndT (dCmpT (fun _ => pNe) (dVar 1) (dTup dNil)) (dCmpT (fun _ => pGt) (dVar 2) (dC (.int 0))))) (fun e _ S' => RE e S') [some (.ref a), some (.tup zs), some (.int way), none, none] S k := fun k q => by
    walk_at "d"
    refine ⟨_, pNe_of hv.dat rfl (by omega) (Nat.le_of_ble_eq_true rfl), ?_⟩
    have e : zeq (.tup zs) (.tup []) = zs.isEmpty := by simp only [zeq, zeqs_nil]
    rw [e]
    cases h : zs.isEmpty with
    | true => simpa [h] using q
    | false => simpa [h] using q
  cases hb : (!zs.isEmpty && decide (0 < way)) with
  | false => exact seq_ifF (fun k q => test k (by rw [hb]; exact q)) (leaf none)
  | true =>
    have hne : zs ≠ [] := fun e => by rw [e] at hb; simp at hb
    have hpos : 0 < zs.length := List.length_pos_iff.mpr hne
    refine seq_ifT (fun k q => test k (by rw [hb]; exact q)) ?_
    walk_at "d"
    refine ⟨a, _, rfl, hs, by omega, by omega, fun at_ a0 a1 => ?_⟩
    have cut : ∀ {n : Nat}, n ≤ zs.length → cutZ zs none (some (n : Int)) = zs.take n ∧ cutZ zs (some (n : Int)) none = zs.drop n := fun h => ⟨cut_to, cut_from h⟩
    obtain ⟨m, rfl⟩ : ∃ m : Nat, at_ = (m : Int) := ⟨at_.toNat, by omega⟩
    have hm : m < zs.length := by omega
    have tk : ∀ i, ∀ z ∈ zs.take i, z ∈ zs := fun i z h => List.mem_of_mem_take h
    have dr : ∀ i, ∀ z ∈ zs.drop i, z ∈ zs := fun i z h => List.mem_of_mem_drop h
    have c1 := cut (n := m) (by omega)
    have c2 := cut (n := m + 1) (by omega)
    have e1 : ((m + 1 : Nat) : Int) = (m : Int) + 1 := by omega
    rw [e1] at c2
    have two : ∀ xs ys : List Z, (∀ z ∈ xs, z ∈ zs) → (∀ z ∈ ys, z ∈ zs) → xs.length + ys.length ≤ n + 1 → Val (d + 1) (n + 1) (.tup (xs ++ ys)) := fun xs ys h1 h2 h3 => by
      refine Val.tup (fun z h => ?_) (by rw [List.length_append]; exact h3)
      rcases List.mem_append.mp h with h | h
      · exact hz' z (h1 z h)
      · exact hz' z (h2 z h)
    walk_at "v"
    refine ifB (fun hw => ?_) (fun hw => ?_)
    · rw [c1.1, c2.2]
      refine ⟨_, pAdd_t (by simp; omega), hk _ (two _ _ (tk _) (dr _) (by simp; omega))⟩
    · refine ifB (fun hw => ?_) (fun hw => ?_)
      · rw [c2.1, c1.2]
        refine ⟨_, pAdd_t (by simp; omega), hk _ (two _ _ (tk _) (dr _) (by simp; omega))⟩
      · refine ifB (fun hw => ?_) (fun hw => ?_)
        · exact hk _ (Val.lst hz' (by omega))
        · obtain ⟨x, hx, hxm, _⟩ := atI_get' (xs := zs) (i := (m : Int)) (by omega) (by omega)
          rw [c1.1, c2.2]
          refine ⟨x, hx, hsc _ _ _ _ d1 ⟨a, x, n, rfl, hs, hz x hxm, h2, hn, fun y hy => ⟨_, pAdd_t (by simp; omega), _, pAdd_t (by simp; omega), hk _ ?_⟩⟩⟩
          refine Val.tup (fun z h => ?_) (by simp; omega)
          simp only [List.mem_append, List.mem_singleton] at h
          rcases h with (h | h) | h
          · exact hz' z (tk _ z h)
          · rw [h]
            exact hy.mono (by omega) (by omega)
          · exact hz' z (dr _ z h)

def s_chg (D : Nat) : DF := fun zs RE S k => ∃ (a : Addr) (v : Z) (d n : Nat), zs = [.ref a, v] ∧ d ≤ D ∧ S a = some .src ∧ Val d n v ∧ 2 ≤ n ∧ n ≤ 1000 ∧ ∀ y, Val (d + 1) (n + 1) y → k y S
theorem ok_chg (D : Nat) (hD : D ≤ 50) (sc : DF) (hsc : ∀ zs RE S R, 1 ≤ D → s_chg (D - 1) zs RE S R → sc zs RE S R) (zs RE S R) (h : s_chg D zs RE S R) : fromBody 2 5 (m__law_changed s_draw sc s_choice) zs RE S R := by
  obtain ⟨a, v, d, n, rfl, hd, hs, hv, h2, hn, hk⟩ := h
  refine ok_changed d (by omega) sc (fun zs RE S R d1 ⟨a, v, n, e, hs, hv, h2, hn, hk⟩ => ?_) _ _ _ _ ⟨a, v, n, rfl, hs, hv, h2, hn, hk⟩
  exact hsc _ _ _ _ (by omega) ⟨a, v, d - 1, n, e, by omega, hs, hv, h2, hn, hk⟩
/-- a for loop by an invariant over the turns -/
theorem forZ_ind {g : DG} {body : DS} {E : EK} {K : Ks} (I : Nat → L3.Env → Sm → Prop) : ∀ (zs : List Z) (i : Nat) (env : L3.Env) (S : Sm), I i env S →
    (∀ j z, zs[j]? = some z → ∀ env S, I (i + j) env S → ∃ e, g z env = some e ∧ ∀ K' : Ks, (∀ e' s', I (i + j + 1) e' s' → K'.nx e' s') → (∀ e' s', I (i + j + 1) e' s' → K'.ct e' s') → K'.rt = K.rt → K'.bk = K.nx → body E e S K') →
    (∀ env S, I (i + zs.length) env S → K.nx env S) → forZ g body E K zs env S
  | [], i, env, S, h0, _, hd => hd env S h0
  | z :: zs, i, env, S, h0, hs, hd => by
    obtain ⟨e, he, hb⟩ := hs 0 z rfl env S h0
    refine ⟨e, he, hb _ (fun e' s' h => ?_) (fun e' s' h => ?_) rfl rfl⟩
    · refine forZ_ind I zs (i + 1) e' s' (by simpa using h) (fun j y hj env S hI => ?_) (fun env S hI => hd env S ?_)
      · have := hs (j + 1) y (by simpa using hj) env S (by rw [show i + (j + 1) = i + 1 + j by omega]; exact hI)
        rw [show i + (j + 1) = i + 1 + j by omega] at this
        exact this
      · rw [List.length_cons, show i + (zs.length + 1) = i + 1 + zs.length by omega]; exact hI
    · refine forZ_ind I zs (i + 1) e' s' (by simpa using h) (fun j y hj env S hI => ?_) (fun env S hI => hd env S ?_)
      · have := hs (j + 1) y (by simpa using hj) env S (by rw [show i + (j + 1) = i + 1 + j by omega]; exact hI)
        rw [show i + (j + 1) = i + 1 + j by omega] at this
        exact this
      · rw [List.length_cons, show i + (zs.length + 1) = i + 1 + zs.length by omega]; exact hI
/-! ### the law -/

theorem progZ_val {p : Prog} (w : PWf p) : Val 3 12 (progZ p) := by
  refine ⟨progZ_dat p, progZ_dep p, ?_⟩
  simp only [progZ, fit, Bool.and_eq_true, decide_eq_true_eq, List.length_map]
  refine ⟨w.most, fits_of fun z hz => ?_⟩
  obtain ⟨r, _, rfl⟩ := List.mem_map.mp hz
  unfold Row.z Row.bareZ
  split <;> split <;> simp [fit, fits]
/-- no written value is told apart -/
theorem no_written {S : Sm} {K : List Z → Sm → Prop} {W : List Z} {env : L3.Env} (h6 : ∀ v, getE (env.set 6 (some v)) 6 = some v) (h : (W.all fun z => dat z && decide (dep z ≤ 40)) = true) (hl : W.length ≤ 1000) (hk : K [] S) :
    compZ (gN 6) (dCmpT (fun x => pNe) (dCallF s_isprog (dCons (dVar 6) dNil)) (dCallF s_isprog (dCons (dVar 6) dNil))) (dVar 6) W env S [] K := by
  rw [List.all_eq_true] at h
  refine compZ_filter (fun _ => false) id _ _ (by simp; omega) (fun z hz => ⟨_, rfl, fun k' hk' => ?_, fun c => by cases c⟩) (by rw [show W.filter (fun _ => false) = [] from List.filter_eq_nil_iff.mpr (by simp)]; simpa using hk)
  have hz' := h z hz
  simp only [Bool.and_eq_true, decide_eq_true_eq] at hz'
  walk_at "d"
  rw [h6]
  refine ⟨z, rfl, z, rfl, hz'.1, hz'.2, z, rfl, z, rfl, hz'.1, hz'.2, _, pNe_b, ?_⟩
  simpa using hk'
theorem ok_law (zs RE S R) (h : s_theLaw zs RE S R) : b_law_k01 s_source s_choice s_program s_short s_isprog s_isprog (s_chg 10) zs RE S R := by
  obtain ⟨ns, rfl, hn, hk⟩ := h
  unfold b_law_k01 m_law_k01
  walk_at "d"
  refine ⟨_, rfl, _, rfl, _, pAdd_l (by decide), _, pAdd_l (by decide), ?_⟩
  walk_at "v"
  refine compZ_map (fun z => .tup [.tup [z, .int 0]]) _ _ (by decide) (fun z hz => ⟨_, rfl, fun k' hk' => by walk_at "d"; exact hk'⟩) ?_
  refine ⟨_, pAdd_l (by decide), ?_⟩
  generalize hW : (_ ++ _ : List Z) = W
  have hWok : (W.all fun z => dat z && decide (dep z ≤ 40)) = true ∧ W.length ≤ 1000 := by
    rw [← hW]
    exact ⟨by decide +kernel, by decide⟩
  clear hW
  refine ⟨by split <;> omega, by split <;> omega, ?_⟩
  have hcount : (1 + if (8 : Int) < ((List.map Z.int ns).length : Int) then 8 else ((List.map Z.int ns).length : Int)).toNat ≤ 9 := by split <;> omega
  generalize (1 + if (8 : Int) < ((List.map Z.int ns).length : Int) then 8 else ((List.map Z.int ns).length : Int)).toNat = cnt at hcount
  refine forZ_ind (fun _ env _ => ∃ o4 o5 o6 o7 o8, env = [some (Z.scr (List.map Z.int ns)), some (Z.tup [Z.str "go", Z.int 12]), some (Z.tup [Z.str "drop"]), some (Z.lst W), o4, o5, o6, o7, o8, none]) _ 0 _ _ ⟨_, _, _, _, _, rfl⟩ (fun j z hj env S' hI => ?_) (fun env S' hI => ?_)
  · obtain ⟨o4, o5, o6, o7, o8, rfl⟩ := hI
    have hz : ∃ m : Nat, z = .int m ∧ m ≤ 8 := by
      rw [List.getElem?_map] at hj
      cases e : (List.range cnt)[j]? with
      | none => rw [e] at hj; cases hj
      | some m =>
        rw [e] at hj
        cases hj
        obtain ⟨h1, h2⟩ := List.getElem?_eq_some_iff.mp e
        rw [List.getElem_range] at h2
        rw [List.length_range] at h1
        exact ⟨m, rfl, by omega⟩
    obtain ⟨m, rfl, hm⟩ := hz
    refine ⟨_, rfl, fun K' hnx hct hrt hbk => ?_⟩
    walk_at "d"
    refine ⟨ns, m, rfl, by omega, fun p hp => ?_⟩
    refine ⟨p, 12, rfl, sUpd_same, by omega, by omega, fun p1 w1 _ _ => ⟨p, 6, rfl, sUpd_same, by omega, by omega, fun p2 w2 _ _ => ⟨p, _, _, rfl, sUpd_same, rfl, by simp, by simp, fun y hy => ?_⟩⟩⟩
    have hv : Val 3 12 y := by
      rcases List.mem_cons.mp hy with e | hy
      · rw [e]; exact progZ_val w1
      · rcases List.mem_cons.mp hy with e | hy
        · rw [e]; exact progZ_val w2
        · simp at hy
    refine ⟨by omega, by omega, ?_⟩
    refine forZ_ind (fun i env S'' => ∃ v o7 o8, env = [some (Z.scr (List.map Z.int ns)), some (Z.tup [Z.str "go", Z.int 12]), some (Z.tup [Z.str "drop"]), some (Z.lst W), some (Z.int m), some (Z.ref p), some v, o7, o8, none] ∧ S'' p = some .src ∧ Val (3 + i) (12 + i) v) _ 0 _ _ ⟨_, _, _, rfl, sUpd_same, hv⟩ (fun i u hi env S'' hJ => ?_) (fun env S'' hJ => ?_)
    · obtain ⟨v, o7, o8, rfl, hs, hv⟩ := hJ
      have hi5 : i < 5 := by
        obtain ⟨h1, _⟩ := List.getElem?_eq_some_iff.mp hi
        simpa using h1
      refine ⟨_, rfl, fun K'' hnx2 hct2 hrt2 hbk2 => ?_⟩
      walk_at "d"
      have hdep := hv.dep
      refine ⟨v, rfl, hv.dat, by omega, ?_⟩
      walk_at "v"
      refine ⟨v, rfl, hv.dat, by omega, _, pNe_b, ?_⟩
      refine ifF (by simp) ⟨p, v, 3 + (0 + i), 12 + (0 + i), rfl, by omega, hs, hv, by omega, by omega, fun y hy => hnx2 _ _ ⟨y, _, _, rfl, hs, ?_⟩⟩
      exact hy.mono (by omega) (by omega)
    · obtain ⟨v, o7, o8, rfl, _⟩ := hJ
      exact hnx _ _ ⟨_, _, _, _, _, rfl⟩
  · obtain ⟨o4, o5, o6, o7, o8, rfl⟩ := hI
    walk_at "v"
    exact no_written (fun v => rfl) hWok.1 hWok.2 ⟨true, by rw [pEq_of rfl rfl (by decide) (by decide)]; rfl, hk _⟩
end L3
namespace L3
open PySem PySem.Spec PyProof.Rows L2
local macro_rules | `(tactic| walk_at "d") => `(tactic| try simp only [szk_0, szk_1, szk_2, szk_3, szk_4, szk_5, szk_6, szk_7, szk_8, szk_9, szk_10, szk_11, szk_12, szk_13, szk_14, szk_15, szk_16, szk_17, szk_18, szk_19, szk_20, fromBody, dNil', dSeq, dSet, dRet, dRetN, dDrop, dIf, dVar, dC, dOp, dCmp, dCmpT, dChain, dChainT, dVal, dNotT, dAndT, dOrT, dAnd, dOr, dNot, dIfE, dNeg, dIx, dSl, dNoPart, dPart, dNil, dCons, dTup, dLst, dLstM, dCall, pure1, dCallF, dItSeq, dItRange, dItZip, dFor, dComp, dCompM, dYes, dAug, dPar, dSub, dRetF, dFrz, dAppend, dBrk, dCnt, wipeE, gN, dInTab, dIxTab, dCallL, dLenSet, dCount, dAddM, gL, dRaise, dTry, catchBy, dItEnum,
  pAdd_i, pEq_i, pNe_i, pSub_i, pLt_i, pLe_i, pGt_i, pGe_i, pAddI_i, pIsN_non, pNotN_non, pIsN_bl, pNotN_bl, pIsN_int, pNotN_int, pIsN_str, pNotN_str, pIsN_tup, pNotN_tup, pIsN_lst, pNotN_lst, pIsN_ref, pNotN_ref, pIsN_ty, pNotN_ty, pIsN_scr, pNotN_scr, pIsI_non_bool, pIsI_non_int, pIsI_non_str, pIsI_non_tuple, pIsI_non_list, pIsI_bl_bool, pIsI_bl_int, pIsI_bl_str, pIsI_bl_tuple, pIsI_bl_list, pIsI_int_bool, pIsI_int_int, pIsI_int_str, pIsI_int_tuple, pIsI_int_list, pIsI_str_bool, pIsI_str_int, pIsI_str_str, pIsI_str_tuple, pIsI_str_list, pIsI_tup_bool, pIsI_tup_int, pIsI_tup_str, pIsI_tup_tuple, pIsI_tup_list, pIsI_lst_bool, pIsI_lst_int, pIsI_lst_str, pIsI_lst_tuple, pIsI_lst_list, pLen_tup, pIx_tup, pList_tup, pTuple_tup, seqOf_tup, pLen_lst, pIx_lst, pList_lst, pTuple_lst, seqOf_lst, pLen_scr, pIx_scr, pList_scr, pTuple_scr, seqOf_scr, pSl_tup, itemsOf_tup, pSl_lst, itemsOf_lst, pAbs_i, pInt_i, pInt_b, pMin2_i, gT_tup, gsCons_cons, gsNil_nil, getE_0, getE_s,
  Option.some.injEq, exists_eq_left', exists_eq_left, Z.int.injEq, Z.bl.injEq, Z.str.injEq, Z.tup.injEq, Z.lst.injEq, Z.ref.injEq, Option.map_some, Option.bind_some, List.set_cons_zero, List.set_cons_succ, List.map_cons, List.map_nil, List.cons_append, List.nil_append, List.length_cons, List.length_nil, List.replicate_succ, List.replicate_zero, true_and, and_true, if_true, Nat.reduceAdd, Nat.reduceSub, Bool.false_eq_true, if_false, ite_true, ite_false, List.cons.injEq, reduceIte, Bool.not_true, Bool.not_false])
local macro_rules | `(tactic| walk_at "v") => `(tactic| try simp only [szk_0, szk_1, szk_2, szk_3, szk_4, szk_5, szk_6, szk_7, szk_8, szk_9, szk_10, szk_11, szk_12, szk_13, szk_14, szk_15, szk_16, szk_17, szk_18, szk_19, szk_20, 
  pAdd_i, pEq_i, pNe_i, pSub_i, pLt_i, pLe_i, pGt_i, pGe_i, pAddI_i, pIsN_non, pNotN_non, pIsN_bl, pNotN_bl, pIsN_int, pNotN_int, pIsN_str, pNotN_str, pIsN_tup, pNotN_tup, pIsN_lst, pNotN_lst, pIsN_ref, pNotN_ref, pIsN_ty, pNotN_ty, pIsN_scr, pNotN_scr, pIsI_non_bool, pIsI_non_int, pIsI_non_str, pIsI_non_tuple, pIsI_non_list, pIsI_bl_bool, pIsI_bl_int, pIsI_bl_str, pIsI_bl_tuple, pIsI_bl_list, pIsI_int_bool, pIsI_int_int, pIsI_int_str, pIsI_int_tuple, pIsI_int_list, pIsI_str_bool, pIsI_str_int, pIsI_str_str, pIsI_str_tuple, pIsI_str_list, pIsI_tup_bool, pIsI_tup_int, pIsI_tup_str, pIsI_tup_tuple, pIsI_tup_list, pIsI_lst_bool, pIsI_lst_int, pIsI_lst_str, pIsI_lst_tuple, pIsI_lst_list, pLen_tup, pIx_tup, pList_tup, pTuple_tup, seqOf_tup, pLen_lst, pIx_lst, pList_lst, pTuple_lst, seqOf_lst, pLen_scr, pIx_scr, pList_scr, pTuple_scr, seqOf_scr, pSl_tup, itemsOf_tup, pSl_lst, itemsOf_lst, pAbs_i, pInt_i, pInt_b, pMin2_i, gT_tup, gsCons_cons, gsNil_nil, getE_0, getE_s, atI_0, atI_1, atI_2, atI_3, atI_4, sUpd_same,
  Option.some.injEq, exists_eq_left', exists_eq_left, Z.int.injEq, Z.bl.injEq, Z.str.injEq, Z.tup.injEq, Z.lst.injEq, Z.ref.injEq, Option.map_some, Option.bind_some, List.set_cons_zero, List.set_cons_succ, List.map_cons, List.map_nil, List.cons_append, List.nil_append, List.length_cons, List.length_nil, List.replicate_succ, List.replicate_zero, true_and, and_true, if_true, Nat.reduceAdd, Nat.reduceSub, Bool.false_eq_true, if_false, ite_true, ite_false, List.cons.injEq, reduceIte, Bool.not_true, Bool.not_false])
/-! ### joins (k02) -/
mutual
theorem zeq_refl : ∀ z : Z, dat z = true → zeq z z = true
  | .non, _ => by simp [zeq]
  | .bl _, _ => by simp [zeq]
  | .int _, _ => by simp [zeq]
  | .str _, _ => by simp [zeq]
  | .tup zs, h => by
    simp only [zeq]
    exact zeqs_refl zs (by simpa [dat] using h)
  | .lst zs, h => by
    simp only [zeq]
    exact zeqs_refl zs (by simpa [dat] using h)
  | .ref _, h => by simp [dat] at h
  | .ty _, h => by simp [dat] at h
  | .scr _, h => by simp [dat] at h
theorem zeqs_refl : ∀ zs : List Z, dats zs = true → zeqs zs zs = true
  | [], _ => by simp [zeqs]
  | z :: zs, h => by
    simp only [dats, Bool.and_eq_true] at h
    simp only [zeqs, Bool.and_eq_true]
    exact ⟨zeq_refl z h.1, zeqs_refl zs h.2⟩
end
theorem pEq_self {z : Z} (h : dat z = true) (d : dep z ≤ 60) : pEq z z = some true := by rw [pEq_of h h d d, zeq_refl z h]
theorem pNe_self {z : Z} (h : dat z = true) (d : dep z ≤ 60) : pNe z z = some false := by rw [pNe_of h h d d, zeq_refl z h]; rfl
/-- a for over items, each turn told apart by a function of the state -/
def Row.joined (j : Bool) (r : Row) : Row := ⟨j, r.w, r.t⟩
def withJ (p : Prog) (rs : List Nat) : Prog := p.mapIdx fun i r => ⟨decide (i ∈ rs), r.w, r.t⟩
theorem isFrom_nat (t n : Nat) : isFrom (.int t) 0 n = decide (t ≤ n) := by
  simp [isFrom]
theorem bareRow_row (r : Row) (n : Nat) (h : r.Wf n) : bareRow r.bareZ n = true := by
  obtain ⟨j, w, t⟩ := r
  have h1 : t ≤ n := h.le
  unfold Row.bareZ
  cases w <;> simp only [Word.bare, if_true, Bool.false_eq_true, if_false, bareRow, Word.s] <;> first | (rw [if_pos (by decide +kernel)]; rfl) | (rw [if_neg (by decide +kernel), isFrom_nat, decide_eq_true h1]; decide +kernel)
theorem rowOk_row (r : Row) (n : Nat) (h : r.Wf n) : rowOk r.z n = true := by
  have hb := bareRow_row r n h
  obtain ⟨j, w, t⟩ := r
  cases j
  · have e : rowOk (Row.z ⟨false, w, t⟩) n = bareRow (Row.bareZ ⟨false, w, t⟩) n := by
      unfold Row.z Row.bareZ
      cases w <;> simp only [Word.bare, if_true, Bool.false_eq_true, if_false, rowOk, Word.s] <;> first | rfl | (rw [if_neg (by decide +kernel)])
    rw [e]; exact hb
  · have e : rowOk (Row.z ⟨true, w, t⟩) n = bareRow (Row.bareZ ⟨true, w, t⟩) n := by
      unfold Row.z
      simp only [if_true, rowOk]
      rw [if_pos (by decide +kernel)]
    rw [e]; exact hb
theorem isProg_progZ {p : Prog} (w : PWf p) : isProg (progZ p) = true := by
  simp only [progZ, isProg, List.length_map, Bool.and_eq_true, decide_eq_true_eq, List.all_eq_true]
  refine ⟨⟨w.pos, w.most⟩, fun z hz => ?_⟩
  obtain ⟨r, hr, rfl⟩ := List.mem_map.mp hz
  exact rowOk_row r _ (w.rows r hr)
def s_needprog : DF := fun zs RE S k => ∃ v, zs = [v] ∧ dat v = true ∧ dep v ≤ 40 ∧ if isProg v = true then k .non S else RE ⟨"InvalidProgram", none⟩ S
theorem ok_needprog (zs RE S R) (h : s_needprog zs RE S R) : b_need_program s_isprog zs RE S R := by
  obtain ⟨v, rfl, hd, hp, hk⟩ := h
  unfold b_need_program m_need_program
  walk_at "d"
  refine ⟨v, rfl, hd, hp, ?_⟩
  cases e : isProg v <;> rw [e] at hk <;> simpa using hk
def s_barerow : DF := fun zs RE S k => ∃ r : Row, zs = [r.z] ∧ k r.bareZ S
theorem row_head (r : Row) : ∃ x xs, r.z = .tup (x :: xs) ∧ L3.dat x = true ∧ L3.dep x = 0 ∧ zeq x (.str "join") = r.j ∧ (r.j = true → xs = [r.bareZ]) ∧ (r.j = false → r.z = r.bareZ) := by
  obtain ⟨j, w, t⟩ := r
  cases j
  · refine ⟨.str w.s, if w.bare then [] else [.int t], ?_, w.dat, rfl, ?_, (fun e => nomatch e), fun _ => rfl⟩
    · unfold Row.z Row.bareZ
      cases w <;> rfl
    · show zeq (.str w.s) (.str "join") = false
      cases w <;> decide +kernel
  · exact ⟨.str "join", [Row.bareZ ⟨true, w, t⟩], rfl, dat_join, rfl, show zeq (.str "join") (.str "join") = true by decide +kernel, fun _ => rfl, fun e => nomatch e⟩
theorem ok_barerow (zs RE S R) (h : s_barerow zs RE S R) : b_bare_row zs RE S R := by
  obtain ⟨r, rfl, hk⟩ := h
  obtain ⟨x, xs, e, hd, hp, hj, ht, hf⟩ := row_head r
  unfold b_bare_row m_bare_row g_JOIN
  cases hb : r.j with
  | true =>
    rw [e, ht hb]
    walk_at "d"
    simp only [atI_0, atI_1]
    walk_at "v"
    exact ⟨_, pEq_of hd dat_join (by omega) (Nat.zero_le _), by rw [hj, hb]; exact hk⟩
  | false =>
    rw [hf hb] at e ⊢
    rw [e]
    walk_at "d"
    simp only [atI_0]
    walk_at "v"
    exact ⟨_, pEq_of hd dat_join (by omega) (Nat.zero_le _), by rw [hj, hb]; rw [e] at hk; exact hk⟩
theorem ok_lawbare (zs RE S R) (h : s_barerow zs RE S R) : b__law_bare zs RE S R := ok_barerow zs RE S R h
def natsZ (rs : List Nat) : List Z := rs.map fun (n : Nat) => Z.int n
theorem natsZ_dat (rs : List Nat) : dats (natsZ rs) = true := dats_of fun z h => by
  obtain ⟨n, _, rfl⟩ := List.mem_map.mp h
  rfl
theorem natsZ_dep (rs : List Nat) : deps (natsZ rs) ≤ 0 := deps_of fun z h => by
  obtain ⟨n, _, rfl⟩ := List.mem_map.mp h
  exact Nat.le_refl _
theorem inZ_nats (i : Nat) (rs : List Nat) : inZ (.int i) (natsZ rs) = decide (i ∈ rs) := by
  unfold inZ natsZ
  rw [List.any_map]
  by_cases h : i ∈ rs
  · rw [decide_eq_true h, List.any_eq_true]
    exact ⟨i, h, by simp [zeq]⟩
  · rw [decide_eq_false h, List.any_eq_false]
    intro x hx
    simp only [Function.comp, zeq, beq_iff_eq, Int.natCast_inj]
    intro e
    exact h (e ▸ hx)
theorem pIn_nats {S : Sm} (i : Nat) (rs : List Nat) : pIn S (.int i) (.tup (natsZ rs)) = some (decide (i ∈ rs)) := by
  have := natsZ_dep rs
  rw [pIn_of (ys := natsZ rs) rfl rfl (natsZ_dat rs) (Nat.zero_le _) (by omega), inZ_nats]
theorem withJ_len (p : Prog) (rs : List Nat) : (withJ p rs).length = p.length := by simp [withJ]
theorem withJ_get {p : Prog} {rs : List Nat} {i : Nat} {r : Row} (h : p[i]? = some r) : (withJ p rs)[i]? = some ⟨decide (i ∈ rs), r.w, r.t⟩ := by simp [withJ, List.getElem?_mapIdx, h]
theorem withJ_wf {p : Prog} (w : PWf p) (rs : List Nat) : PWf (withJ p rs) := by
  refine ⟨by rw [withJ_len]; exact w.pos, by rw [withJ_len]; exact w.most, fun r hr => ?_⟩
  obtain ⟨i, hi⟩ := List.getElem?_of_mem hr
  simp only [withJ, List.getElem?_mapIdx, Option.map_eq_some_iff] at hi
  obtain ⟨q, hq, rfl⟩ := hi
  have := w.rows q (List.mem_of_getElem? hq)
  rw [withJ_len]
  exact ⟨this.le, this.z0⟩
theorem take_snoc {α : Type} {xs : List α} {i : Nat} {x : α} (h : xs[i]? = some x) : xs.take i ++ [x] = xs.take (i + 1) := by
  rw [List.take_succ, h]; rfl
/-- one more row, joined or not -/
theorem joinedZ (p : Prog) (rs : List Nat) (i : Nat) (r : Row) (h : p[i]? = some r) : ((withJ p rs).map Row.z).take i ++ [if i ∈ rs then .tup [.str "join", r.bareZ] else r.bareZ] = ((withJ p rs).map Row.z).take (i + 1) := by
  apply take_snoc
  rw [List.getElem?_map, withJ_get h]
  by_cases hi : i ∈ rs
  · simp [hi, Row.z, Row.bareZ]
  · simp [hi, Row.z, Row.bareZ]
def s_withjoins : DF := fun zs RE S k => ∃ (p : Prog) (rs : List Nat), zs = [progZ p, .tup (natsZ rs)] ∧ p.length ≤ 12 ∧ k (progZ (withJ p rs)) S
theorem ok_withjoins (zs RE S R) (h : s_withjoins zs RE S R) : b_with_joins s_barerow zs RE S R := by
  obtain ⟨p, rs, rfl, hl, hk⟩ := h
  unfold b_with_joins m_with_joins g_JOIN
  walk_at "d"
  refine ⟨p.map Row.z, Or.inl rfl, ?_⟩
  refine forZ_ind (fun i env S' => S' = S ∧ ∃ o3 o4, env = [some (progZ p), some (.tup (natsZ rs)), some (.tup (((withJ p rs).map Row.z).take i)), o3, o4]) _ 0 _ _ ⟨rfl, _, _, rfl⟩ (fun i z hz env S' hI => ?_) (fun env S' hI => ?_)
  · obtain ⟨rfl, o3, o4, rfl⟩ := hI
    obtain ⟨x, hx, rfl⟩ := enumZ_get hz
    rw [List.getElem?_map] at hx
    cases hr : p[i]? with
    | none => rw [hr] at hx; cases hx
    | some r =>
      rw [hr] at hx
      cases hx
      have hi : i < p.length := (List.getElem?_eq_some_iff.mp hr).1
      refine ⟨_, rfl, fun K' hnx hct hrt hbk => ?_⟩
      walk_at "d"
      rw [Nat.zero_add] at hnx ⊢
      refine ⟨_, pIn_nats i rs, ifB (fun h => ?_) (fun h => ?_)⟩
      · have hm : i ∈ rs := of_decide_eq_true h
        refine ⟨r, rfl, _, pAdd_t (by simp; omega), hnx _ _ ⟨rfl, some (.int i), some r.z, ?_⟩⟩
        rw [← joinedZ p rs i r hr, if_pos hm]
      · have hm : i ∉ rs := of_decide_eq_false h
        refine ⟨r, rfl, _, pAdd_t (by simp; omega), hnx _ _ ⟨rfl, some (.int i), some r.z, ?_⟩⟩
        rw [← joinedZ p rs i r hr, if_neg hm]
  · obtain ⟨rfl, o3, o4, rfl⟩ := hI
    walk_at "d"
    rw [Nat.zero_add, enumZ_len, List.length_map, ← withJ_len p rs, ← List.length_map (f := Row.z), List.take_length]
    exact hk
/-- the row numbers told apart -/
def ltB : Z → Bool
  | .tup [.int a, .int b] => decide (a < b)
  | _ => false
def ascZ (is : List Int) : Bool := (zipZ (is.map Z.int) ((is.map Z.int).drop 1)).all ltB
def RowsBad (n : Nat) (w : Z) : Prop := (∀ ws, w ≠ .tup ws) ∨ (∃ ws, w = .tup ws ∧ ws.length ≤ 1000 ∧ (ws.all fun z => isFrom z 0 ((n : Int) - 1)) = false) ∨
  (∃ is : List Int, w = .tup (is.map Z.int) ∧ is.length ≤ 1000 ∧ ((is.map Z.int).all fun z => isFrom z 0 ((n : Int) - 1)) = true ∧ ascZ is = false)
def s_joined : DF := fun zs RE S k => ∃ v w, zs = [v, w] ∧ dat v = true ∧ dep v ≤ 40 ∧ dat w = true ∧ ((isProg v = false ∧ RE ⟨"InvalidProgram", none⟩ S) ∨ ∃ p, PWf p ∧ v = progZ p ∧
  ((RowsBad p.length w ∧ RE ⟨"InvalidRows", none⟩ S) ∨ ∃ rs : List Nat, w = .tup (natsZ rs) ∧ rs.length ≤ 1000 ∧ ((natsZ rs).all fun z => isFrom z 0 ((p.length : Int) - 1)) = true ∧ ascZ (rs.map fun n : Nat => (n : Int)) = true ∧ k (progZ (withJ p rs)) S))
theorem zip_ints {xs ys : List Int} : ∀ z ∈ zipZ (xs.map Z.int) (ys.map Z.int), ∃ a b, z = .tup [.int a, .int b] := by
  intro z hz
  obtain ⟨i, hi⟩ := List.getElem?_of_mem hz
  obtain ⟨x, y, h1, h2, rfl⟩ := zipZ_get hi
  rw [List.getElem?_map] at h1 h2
  cases e1 : xs[i]? <;> rw [e1] at h1 <;> cases h1
  cases e2 : ys[i]? <;> rw [e2] at h2 <;> cases h2
  exact ⟨_, _, rfl⟩
theorem ok_joined (zs RE S R) (h : s_joined zs RE S R) : b_joined s_needprog s_from s_withjoins zs RE S R := by
  obtain ⟨v, w, rfl, hv, hvp, hw, h⟩ := h
  unfold b_joined m_joined
  walk_at "d"
  refine ⟨v, rfl, hv, hvp, ?_⟩
  rcases h with ⟨hi, hk⟩ | ⟨p, wf, rfl, h⟩
  · rw [hi]; simpa using hk
  rw [isProg_progZ wf]
  -- the two tests over a tuple
  have t1 : ∀ (ws : List Z) (k : List Z → Sm → Prop), dats ws = true → ws.length ≤ 1000 → k (ws.map fun z => .bl (isFrom z 0 ((p.length : Int) - 1))) S →
      compZ (gN 4) dYes (dCallF s_from (dCons (dVar 4) (dCons (dC (.int 0)) (dCons (dOp pSub (dCall (pure1 pLen1) (dCons (dVar 0) dNil)) (dC (.int 1))) dNil)))) ws [some (progZ p), some (.tup ws), none, none, none] S [] k := fun ws k hd hl q => by
    refine compZ_map (fun z => .bl (isFrom z 0 ((p.length : Int) - 1))) _ _ (by simp; omega) (fun z hz => ⟨_, rfl, fun k' hk' => ?_⟩) (by simpa using q)
    walk_at "d"
    refine ⟨_, rfl, _, rfl, z, 0, _, rfl, dats_mem hd z hz, ?_⟩
    rw [List.length_map]
    exact hk'
  have t2 : ∀ (is : List Int) (k : List Z → Sm → Prop), is.length ≤ 1000 → k ((zipZ (is.map Z.int) ((is.map Z.int).drop 1)).map fun z => .bl (ltB z)) S →
      compZ (gT (gsCons (gN 2) (gsCons (gN 3) gsNil))) dYes (dCmp (fun _ => pLt) (dVar 2) (dVar 3)) (zipZ (is.map Z.int) ((is.map Z.int).drop 1)) [some (progZ p), some (.tup (is.map Z.int)), none, none, none] S [] k := fun is k hl q => by
    refine compZ_map (fun z => .bl (ltB z)) _ _ (by rw [zipZ_len]; simp; omega) (fun z hz => ?_) (by simpa using q)
    rw [← List.map_drop] at hz
    obtain ⟨a, b, rfl⟩ := zip_ints z hz
    refine ⟨_, rfl, fun k' hk' => ?_⟩
    walk_at "d"
    exact hk'
  have notT : (∀ ws, w ≠ .tup ws) → RE ⟨"InvalidRows", none⟩ S → ∃ z, pIsI S [w, .ty "tuple"] = some z ∧ z = .bl false := fun hne _ => by
    cases w <;> first | exact absurd rfl (hne _) | (simp [dat] at hw; done) | exact ⟨.bl false, by simp [pIsI, tyName, isTy], rfl⟩
  simp only [if_true]
  rcases h with ⟨hb, hk⟩ | ⟨rs, rfl, hl, h1, h2, hk⟩
  · rcases hb with hne | ⟨ws, rfl, hl, hall⟩ | ⟨is, rfl, hl, hall, hasc⟩
    · obtain ⟨z, e, rfl⟩ := notT hne hk
      exact ⟨_, e, _, rfl, by simpa using hk⟩
    · walk_at "v"
      refine t1 ws _ (by simpa [dat] using hw) hl ⟨_, pAll_map _ _, _, rfl, ?_⟩
      rw [hall]; simpa using hk
    · walk_at "v"
      refine t1 _ _ (by simpa [dat] using hw) (by simpa using hl) ⟨_, pAll_map _ _, _, rfl, ?_⟩
      rw [hall]
      walk_at "v"
      rw [show ((1 : Int)) = ((1 : Nat) : Int) from rfl]
      by_cases h0 : is = []
      · subst h0; exact absurd hasc (by decide)
      have hp0 : 1 ≤ (is.map Z.int).length := by rw [List.length_map]; exact List.length_pos_iff.mpr h0
      rw [cut_from hp0]
      refine ⟨_, _, Or.inl ⟨rfl, rfl⟩, t2 is _ hl ⟨_, pAll_map _ _, _, rfl, ?_⟩⟩
      unfold ascZ at hasc
      rw [hasc]; simpa using hk
  · walk_at "v"
    refine t1 _ _ (by simpa [dat] using hw) (by simpa [natsZ] using hl) ⟨_, pAll_map _ _, _, rfl, ?_⟩
    rw [h1]
    walk_at "v"
    have en : natsZ rs = (rs.map fun n : Nat => (n : Int)).map Z.int := by simp [natsZ]
    rw [show ((1 : Int)) = ((1 : Nat) : Int) from rfl]
    have cut : cutZ (natsZ rs) (some ((1 : Nat) : Int)) none = (natsZ rs).drop 1 := by
      by_cases h0 : rs = []
      · subst h0; rfl
      · exact cut_from (by simp only [natsZ, List.length_map]; exact List.length_pos_iff.mpr h0)
    rw [cut, en]
    refine ⟨_, _, Or.inl ⟨rfl, rfl⟩, t2 _ _ (by simpa using hl) ⟨_, pAll_map _ _, _, rfl, ?_⟩⟩
    unfold ascZ at h2
    rw [h2]
    walk_at "v"
    exact ⟨p, rs, by rw [en], wf.most, by simpa using hk⟩
def s_tried : DF := fun zs RE S k => ∃ v w, zs = [v, w] ∧ dat v = true ∧ dep v ≤ 40 ∧ dat w = true ∧ ((isProg v = false ∧ k (.str "program") S) ∨ ∃ p, PWf p ∧ v = progZ p ∧ RowsBad p.length w ∧ k (.str "rows") S)
theorem ok_tried (zs RE S R) (h : s_tried zs RE S R) : b__law_tried s_joined zs RE S R := by
  obtain ⟨v, w, rfl, hv, hvp, hw, h⟩ := h
  unfold b__law_tried m__law_tried
  walk_at "d"
  refine ⟨v, w, rfl, hv, hvp, hw, ?_⟩
  rcases h with ⟨hi, hk⟩ | ⟨p, wf, e, hb, hk⟩
  · exact .inl ⟨hi, true, by decide +kernel, by walk_at "d"; simpa using hk⟩
  · exact .inr ⟨p, wf, e, .inl ⟨hb, false, by decide +kernel, by
      walk_at "d"
      exact ⟨true, by decide +kernel, by simpa using hk⟩⟩⟩
end L3
namespace L3
open PySem PySem.Spec PyProof.Rows L2
local macro_rules | `(tactic| walk_at "d") => `(tactic| try simp only [szk_0, szk_1, szk_2, szk_3, szk_4, szk_5, szk_6, szk_7, szk_8, szk_9, szk_10, szk_11, szk_12, szk_13, szk_14, szk_15, szk_16, szk_17, szk_18, szk_19, szk_20, fromBody, dNil', dSeq, dSet, dRet, dRetN, dDrop, dIf, dVar, dC, dOp, dCmp, dCmpT, dChain, dChainT, dVal, dNotT, dAndT, dOrT, dAnd, dOr, dNot, dIfE, dNeg, dIx, dSl, dNoPart, dPart, dNil, dCons, dTup, dLst, dLstM, dCall, pure1, dCallF, dItSeq, dItRange, dItZip, dFor, dComp, dCompM, dYes, dAug, dPar, dSub, dRetF, dFrz, dAppend, dBrk, dCnt, wipeE, gN, dInTab, dIxTab, dCallL, dLenSet, dCount, dAddM, gL, dRaise, dTry, catchBy, dItEnum,
  pAdd_i, pEq_i, pNe_i, pSub_i, pLt_i, pLe_i, pGt_i, pGe_i, pAddI_i, pIsN_non, pNotN_non, pIsN_bl, pNotN_bl, pIsN_int, pNotN_int, pIsN_str, pNotN_str, pIsN_tup, pNotN_tup, pIsN_lst, pNotN_lst, pIsN_ref, pNotN_ref, pIsN_ty, pNotN_ty, pIsN_scr, pNotN_scr, pIsI_non_bool, pIsI_non_int, pIsI_non_str, pIsI_non_tuple, pIsI_non_list, pIsI_bl_bool, pIsI_bl_int, pIsI_bl_str, pIsI_bl_tuple, pIsI_bl_list, pIsI_int_bool, pIsI_int_int, pIsI_int_str, pIsI_int_tuple, pIsI_int_list, pIsI_str_bool, pIsI_str_int, pIsI_str_str, pIsI_str_tuple, pIsI_str_list, pIsI_tup_bool, pIsI_tup_int, pIsI_tup_str, pIsI_tup_tuple, pIsI_tup_list, pIsI_lst_bool, pIsI_lst_int, pIsI_lst_str, pIsI_lst_tuple, pIsI_lst_list, pLen_tup, pIx_tup, pList_tup, pTuple_tup, seqOf_tup, pLen_lst, pIx_lst, pList_lst, pTuple_lst, seqOf_lst, pLen_scr, pIx_scr, pList_scr, pTuple_scr, seqOf_scr, pSl_tup, itemsOf_tup, pSl_lst, itemsOf_lst, pAbs_i, pInt_i, pInt_b, pMin2_i, gT_tup, gsCons_cons, gsNil_nil, getE_0, getE_s,
  Option.some.injEq, exists_eq_left', exists_eq_left, Z.int.injEq, Z.bl.injEq, Z.str.injEq, Z.tup.injEq, Z.lst.injEq, Z.ref.injEq, Option.map_some, Option.bind_some, List.set_cons_zero, List.set_cons_succ, List.map_cons, List.map_nil, List.cons_append, List.nil_append, List.length_cons, List.length_nil, List.replicate_succ, List.replicate_zero, true_and, and_true, if_true, Nat.reduceAdd, Nat.reduceSub, Bool.false_eq_true, if_false, ite_true, ite_false, List.cons.injEq, reduceIte, Bool.not_true, Bool.not_false])
local macro_rules | `(tactic| walk_at "v") => `(tactic| try simp only [szk_0, szk_1, szk_2, szk_3, szk_4, szk_5, szk_6, szk_7, szk_8, szk_9, szk_10, szk_11, szk_12, szk_13, szk_14, szk_15, szk_16, szk_17, szk_18, szk_19, szk_20, 
  pAdd_i, pEq_i, pNe_i, pSub_i, pLt_i, pLe_i, pGt_i, pGe_i, pAddI_i, pIsN_non, pNotN_non, pIsN_bl, pNotN_bl, pIsN_int, pNotN_int, pIsN_str, pNotN_str, pIsN_tup, pNotN_tup, pIsN_lst, pNotN_lst, pIsN_ref, pNotN_ref, pIsN_ty, pNotN_ty, pIsN_scr, pNotN_scr, pIsI_non_bool, pIsI_non_int, pIsI_non_str, pIsI_non_tuple, pIsI_non_list, pIsI_bl_bool, pIsI_bl_int, pIsI_bl_str, pIsI_bl_tuple, pIsI_bl_list, pIsI_int_bool, pIsI_int_int, pIsI_int_str, pIsI_int_tuple, pIsI_int_list, pIsI_str_bool, pIsI_str_int, pIsI_str_str, pIsI_str_tuple, pIsI_str_list, pIsI_tup_bool, pIsI_tup_int, pIsI_tup_str, pIsI_tup_tuple, pIsI_tup_list, pIsI_lst_bool, pIsI_lst_int, pIsI_lst_str, pIsI_lst_tuple, pIsI_lst_list, pLen_tup, pIx_tup, pList_tup, pTuple_tup, seqOf_tup, pLen_lst, pIx_lst, pList_lst, pTuple_lst, seqOf_lst, pLen_scr, pIx_scr, pList_scr, pTuple_scr, seqOf_scr, pSl_tup, itemsOf_tup, pSl_lst, itemsOf_lst, pAbs_i, pInt_i, pInt_b, pMin2_i, gT_tup, gsCons_cons, gsNil_nil, getE_0, getE_s, atI_0, atI_1, atI_2, atI_3, atI_4, sUpd_same,
  Option.some.injEq, exists_eq_left', exists_eq_left, Z.int.injEq, Z.bl.injEq, Z.str.injEq, Z.tup.injEq, Z.lst.injEq, Z.ref.injEq, Option.map_some, Option.bind_some, List.set_cons_zero, List.set_cons_succ, List.map_cons, List.map_nil, List.cons_append, List.nil_append, List.length_cons, List.length_nil, List.replicate_succ, List.replicate_zero, true_and, and_true, if_true, Nat.reduceAdd, Nat.reduceSub, Bool.false_eq_true, if_false, ite_true, ite_false, List.cons.injEq, reduceIte, Bool.not_true, Bool.not_false])
/-- some of the items -/
theorem compZ_some {g : DG} {t : DT} {me : DE} {env : Env} {S : Sm} {k : List Z → Sm → Prop} : ∀ (zs acc : List Z), acc.length + zs.length ≤ 16777216 →
    (∀ z ∈ zs, ∃ e, g z env = some e ∧ (∀ k' : Bool → Sm → Prop, (∀ b, k' b S) → t EK0 e S k') ∧ (∀ k' : Z → Sm → Prop, k' z S → me EK0 e S k')) → (∀ ys, ys.Sublist zs → k (acc ++ ys) S) → compZ g t me zs env S acc k
  | [], acc, _, _, hk => by simpa [compZ] using hk [] (List.Sublist.refl _)
  | z :: zs, acc, hl, h, hk => by
    obtain ⟨e, he, ht, hm⟩ := h z List.mem_cons_self
    rw [List.length_cons] at hl
    refine ⟨e, he, ht _ fun b => ?_⟩
    cases b with
    | true =>
      refine ifT rfl (hm _ ⟨by rw [sizeLine_eq]; exact decide_eq_true (by omega), ?_⟩)
      refine compZ_some zs (acc ++ [z]) (by rw [List.length_append]; simp; omega) (fun w hw => h w (List.mem_cons_of_mem _ hw)) fun ys hs => ?_
      rw [List.append_assoc]
      exact hk (z :: ys) (hs.cons_cons z)
    | false => exact ifF (by simp) (compZ_some zs acc (by omega) (fun w hw => h w (List.mem_cons_of_mem _ hw)) fun ys hs => hk ys (hs.cons z))
/-- a comprehension over rows -/
theorem compZ_all2 {g : DG} {me : DE} {env : Env} {S : Sm} {k : List Z → Sm → Prop} (p : Prog) (acc : List Z) (hl : acc.length + p.length ≤ 16777216)
    (h : ∀ r ∈ p, ∃ e, g (Row.z r) env = some e ∧ ∀ k' : Z → Sm → Prop, k' r.bareZ S → me EK0 e S k') (hk : k (acc ++ p.map Row.bareZ) S) : compZ g dYes me (p.map Row.z) env S acc k := by
  induction p generalizing acc with
  | nil => simpa [compZ] using hk
  | cons r p ih =>
    obtain ⟨e, he, hm⟩ := h r List.mem_cons_self
    rw [List.length_cons] at hl
    refine ⟨e, he, ?_⟩
    simp only [dYes, reduceIte]
    refine hm _ ⟨by rw [sizeLine_eq]; exact decide_eq_true (by omega), ?_⟩
    exact ih (acc ++ [r.bareZ]) (by rw [List.length_append]; simp; omega) (fun w hw => h w (List.mem_cons_of_mem _ hw)) (by simpa using hk)
theorem sub_nats {ys : List Z} {n : Nat} (h : ys.Sublist ((List.range n).map fun (i : Nat) => Z.int i)) : ∃ rs : List Nat, rs.Sublist (List.range n) ∧ ys = natsZ rs := by
  obtain ⟨rs, h1, h2⟩ := List.sublist_map_iff.mp h
  exact ⟨rs, h1, h2⟩
theorem asc_all : ∀ is : List Int, is.Pairwise (· < ·) → ascZ is = true
  | [], _ => rfl
  | [a], _ => rfl
  | a :: b :: r, h => by
    have h1 := List.pairwise_cons.mp h
    have ih := asc_all (b :: r) h1.2
    unfold ascZ at ih ⊢
    simp only [List.map_cons, List.drop_succ_cons, List.drop_zero, zipZ, List.all_cons, Bool.and_eq_true] at ih ⊢
    refine ⟨by simp [ltB, h1.1 b List.mem_cons_self], ?_⟩
    exact ih
theorem asc_sub {rs : List Nat} {n : Nat} (h : rs.Sublist (List.range n)) : ascZ (rs.map fun n : Nat => (n : Int)) = true := by
  refine asc_all _ ?_
  have h1 : rs.Pairwise (· < ·) := List.Pairwise.sublist h List.pairwise_lt_range
  rw [List.pairwise_map]
  exact h1.imp fun h => by omega
theorem from_sub {rs : List Nat} {n : Nat} (h : rs.Sublist (List.range n)) : ((natsZ rs).all fun z => isFrom z 0 ((n : Int) - 1)) = true := by
  rw [List.all_eq_true]
  intro z hz
  obtain ⟨i, hi, rfl⟩ := List.mem_map.mp hz
  have := List.mem_range.mp (h.subset hi)
  simp only [isFrom, Bool.and_eq_true, decide_eq_true_eq]
  omega
theorem withJ_nil (p : Prog) : (withJ p []).map Row.z = p.map Row.bareZ := by
  apply List.ext_getElem?
  intro i
  rw [List.getElem?_map, List.getElem?_map]
  cases h : p[i]? with
  | none => simp [withJ, List.getElem?_mapIdx, h]
  | some r =>
    rw [withJ_get h]
    simp [Row.z, Row.bareZ]
theorem bare_withJ (p : Prog) (rs : List Nat) : (withJ p rs).map Row.bareZ = p.map Row.bareZ := by
  apply List.ext_getElem?
  intro i
  rw [List.getElem?_map, List.getElem?_map]
  cases h : p[i]? with
  | none => simp [withJ, List.getElem?_mapIdx, h]
  | some r =>
    rw [withJ_get h]
    simp [Row.bareZ]
theorem withJ_withJ (p : Prog) (rs rs' : List Nat) : withJ (withJ p rs) rs' = withJ p rs' := by
  apply List.ext_getElem?
  intro i
  cases h : p[i]? with
  | none => simp [withJ, List.getElem?_mapIdx, h]
  | some r => rw [withJ_get (withJ_get h), withJ_get h]
theorem rowsBad_lit {n : Nat} (h2 : 2 ≤ n) (h12 : n ≤ 12) : ∀ w ∈ [Z.tup [.int n], .tup [.int (-1)], .tup [.int 1, .int 0], .tup [.int 0, .int 0], .lst [.int 0], .non, .int 0, .tup [.bl true], .tup [.str "0"], .tup [.int 0, .non]], dat w = true ∧ RowsBad n w := by
  intro w hw
  have f1 : ∀ i : Int, isFrom (.int i) 0 ((n : Int) - 1) = (decide (0 ≤ i) && decide (i ≤ (n : Int) - 1)) := fun _ => rfl
  simp only [List.mem_cons, List.not_mem_nil, or_false] at hw
  rcases hw with e | e | e | e | e | e | e | e | e | e <;> subst e
  · exact ⟨rfl, .inr (.inl ⟨_, rfl, by simp, by simp [f1]; omega⟩)⟩
  · exact ⟨rfl, .inr (.inl ⟨_, rfl, by simp, by simp [f1]⟩)⟩
  · exact ⟨rfl, .inr (.inr ⟨[1, 0], rfl, by decide, by simp [f1]; omega, by decide⟩)⟩
  · exact ⟨rfl, .inr (.inr ⟨[0, 0], rfl, by decide, by simp [f1]; omega, by decide⟩)⟩
  · exact ⟨rfl, .inl fun _ h => nomatch h⟩
  · exact ⟨rfl, .inl fun _ h => nomatch h⟩
  · exact ⟨rfl, .inl fun _ h => nomatch h⟩
  · exact ⟨rfl, .inr (.inl ⟨_, rfl, by decide, by simp [isFrom]⟩)⟩
  · exact ⟨by decide +kernel, .inr (.inl ⟨_, rfl, by decide, by simp [isFrom]⟩)⟩
  · exact ⟨rfl, .inr (.inl ⟨_, rfl, by decide, by simp [isFrom, f1]⟩)⟩
theorem tupB_dat (p : Prog) : dat (.tup (p.map Row.bareZ)) = true := by
  simp only [dat]
  exact dats_of fun z hz => by
    obtain ⟨r, _, rfl⟩ := List.mem_map.mp hz
    exact r.bareZ_dat
set_option maxHeartbeats 4000000
theorem ok_law2 (zs RE S R) (h : s_theLaw zs RE S R) : b_law_k02 s_source s_choice s_program s_short s_draw s_joined s_barerow s_isprog s_tried zs RE S R := by
  obtain ⟨ns, rfl, hn, hk⟩ := h
  unfold b_law_k02 m_law_k02
  walk_at "d"
  refine ⟨by split <;> omega, by split <;> omega, ?_⟩
  have hcount : (1 + if (8 : Int) < ((List.map Z.int ns).length : Int) then 8 else ((List.map Z.int ns).length : Int)).toNat ≤ 9 := by split <;> omega
  generalize (1 + if (8 : Int) < ((List.map Z.int ns).length : Int) then 8 else ((List.map Z.int ns).length : Int)).toNat = cnt at hcount
  refine forZ_ind (fun _ env _ => ∃ o1 o2 o3 o4 o5 o6 o7 o8 o9 o10 o11 o12 o13, env = [some (Z.scr (List.map Z.int ns)), o1, o2, o3, o4, o5, o6, o7, o8, o9, o10, o11, o12, o13]) _ 0 _ _ ⟨_, _, _, _, _, _, _, _, _, _, _, _, _, rfl⟩ (fun j z hj env S' hI => ?_) (fun env S' hI => ?_)
  · obtain ⟨o1, o2, o3, o4, o5, o6, o7, o8, o9, o10, o11, o12, o13, rfl⟩ := hI
    have hz : ∃ m : Nat, z = .int m ∧ m ≤ 8 := by
      rw [List.getElem?_map] at hj
      cases e : (List.range cnt)[j]? with
      | none => rw [e] at hj; cases hj
      | some m =>
        rw [e] at hj
        cases hj
        obtain ⟨h1, h2⟩ := List.getElem?_eq_some_iff.mp e
        rw [List.getElem_range] at h2
        rw [List.length_range] at h1
        exact ⟨m, rfl, by omega⟩
    obtain ⟨m, rfl, hm⟩ := hz
    refine ⟨_, rfl, fun K' hnx hct hrt hbk => ?_⟩
    walk_at "d"
    refine ⟨ns, m, rfl, by omega, fun a ha => ?_⟩
    refine ⟨a, 12, rfl, sUpd_same, by omega, by omega, fun p1 w1 l1 _ => ⟨a, 6, rfl, sUpd_same, by omega, by omega, fun p2 w2 l2 _ => ⟨a, _, _, rfl, sUpd_same, rfl, by simp, by simp, fun y hy => ?_⟩⟩⟩
    have hv : ∃ p, PWf p ∧ 2 ≤ p.length ∧ y = progZ p := by
      rcases List.mem_cons.mp hy with e | hy
      · exact ⟨p1, w1, l1, e⟩
      · rcases List.mem_cons.mp hy with e | hy
        · exact ⟨p2, w2, l2, e⟩
        · simp at hy
    obtain ⟨p, wf, p2l, rfl⟩ := hv
    have pd := progZ_dep p
    refine ⟨by omega, by omega, ?_⟩
    refine forZ_ind (fun i env S'' => S'' a = some .src ∧ ∃ o4 o5 o6 o7 o8 o9 o10 o11 o12 o13, env = [some (Z.scr (List.map Z.int ns)), some (Z.int m), some (Z.ref a), some (progZ p), o4, o5, o6, o7, o8, o9, o10, o11, o12, o13]) _ 0 _ _ ⟨sUpd_same, _, _, _, _, _, _, _, _, _, _, rfl⟩ (fun i u hi env S'' hJ => ?_) (fun env S'' hJ => ?_)
    · obtain ⟨hs, o4, o5, o6, o7, o8, o9, o10, o11, o12, o13, rfl⟩ := hJ
      refine ⟨_, rfl, fun K'' hnx2 hct2 hrt2 hbk2 => ?_⟩
      walk_at "d"
      have elen : pLen1 S'' [progZ p] = some (.int p.length) := by
        unfold progZ
        rw [pLen_tup, List.length_map]
      refine ⟨_, elen, p.length, rfl, by have := wf.most; omega, by have := wf.most; omega, ?_⟩
      have ml := wf.most
      refine compZ_some _ _ (by simp; omega) (fun z hz => ⟨_, rfl, fun k' hk' => ?_, fun k' hk' => ?_⟩) fun ys hys => ?_
      · walk_at "d"
        exact ⟨a, 2, rfl, hs, by omega, by omega, fun x _ _ => by walk_at "v"; exact hk' _⟩
      · walk_at "d"
        exact hk'
      · obtain ⟨rs, hrs, rfl⟩ := sub_nats (by simpa using hys)
        rw [List.nil_append]
        have rl : rs.length ≤ 12 := Nat.le_trans (hrs.length_le) (by simpa using ml)
        walk_at "v"
        have wq := withJ_wf wf rs
        have qd := progZ_dep (withJ p rs)
        have nd : ∀ l : List Nat, dat (.tup (natsZ l)) = true := fun l => by simpa [dat] using natsZ_dat l
        refine ⟨_, _, rfl, progZ_dat p, by omega, nd rs, .inr ⟨p, wf, rfl, .inr ⟨rs, rfl, by omega, from_sub hrs, asc_sub hrs, ?_⟩⟩⟩
        refine ⟨p.map Row.z, Or.inl rfl, ?_⟩
        refine forZ_ind (fun i env S3 => S3 = S'' ∧ ∃ o10 o11 o12, env = [some (Z.scr (List.map Z.int ns)), some (Z.int m), some (Z.ref a), some (progZ p), some u, o5, o6, some (.tup (natsZ rs)), some (progZ (withJ p rs)), some (.tup (((withJ p rs).map Row.z).take i)), o10, o11, o12, o13]) _ 0 _ _ ⟨rfl, _, _, _, rfl⟩ (fun i z hz env S3 hI => ?_) (fun env S3 hI => ?_)
        · obtain ⟨rfl, o10, o11, o12, rfl⟩ := hI
          obtain ⟨x, hx, rfl⟩ := enumZ_get hz
          rw [List.getElem?_map] at hx
          cases hr : p[i]? with
          | none => rw [hr] at hx; cases hx
          | some r =>
            rw [hr] at hx
            cases hx
            have hi : i < p.length := (List.getElem?_eq_some_iff.mp hr).1
            refine ⟨_, rfl, fun K3 hnx3 hct3 hrt3 hbk3 => ?_⟩
            walk_at "d"
            rw [Nat.zero_add] at hnx3 ⊢
            refine ⟨r, rfl, _, pIn_nats i rs, ifB (fun h => ?_) (fun h => ?_)⟩
            · have hm : i ∈ rs := of_decide_eq_true h
              refine ⟨_, pAdd_t (by simp; omega), hnx3 _ _ ⟨rfl, some (.int i), some r.z, some r.bareZ, ?_⟩⟩
              rw [← joinedZ p rs i r hr, if_pos hm]
            · have hm : i ∉ rs := of_decide_eq_false h
              refine ⟨_, pAdd_t (by simp; omega), hnx3 _ _ ⟨rfl, some (.int i), some r.z, some r.bareZ, ?_⟩⟩
              rw [← joinedZ p rs i r hr, if_neg hm]
        · obtain ⟨rfl, o10, o11, o12, rfl⟩ := hI
          rw [Nat.zero_add, enumZ_len, List.length_map, ← withJ_len p rs, ← List.length_map (f := Row.z), List.take_length]
          rw [show (Z.tup (List.map Row.z (withJ p rs))) = progZ (withJ p rs) from rfl]
          walk_at "d"
          refine ⟨_, pNe_self (progZ_dat _) (by omega), ?_⟩
          have isT : pIsI S3 [progZ (withJ p rs), .ty "tuple"] = some (.bl true) := by unfold progZ; exact pIsI_tup_tuple
          walk_at "v"
          refine ⟨_, isT, _, rfl, ?_⟩
          walk_at "v"
          refine ⟨_, rfl, progZ_dat _, by omega, ?_⟩
          rw [isProg_progZ wq]
          walk_at "v"
          have t0 : Z.tup [] = .tup (natsZ []) := rfl
          rw [t0]
          refine ⟨_, _, rfl, progZ_dat _, by omega, nd [], .inr ⟨_, wq, rfl, .inr ⟨[], rfl, by simp, rfl, rfl, ?_⟩⟩⟩
          rw [withJ_withJ]
          refine ⟨p.map Row.z, rfl, ?_⟩
          have bq : ∀ z ∈ p.map Row.z, ∃ r : Row, z = r.z := fun z hz => by
            obtain ⟨r, _, rfl⟩ := List.mem_map.mp hz
            exact ⟨r, rfl⟩
          refine compZ_all2 p _ (by simp; omega) (fun r hr => ⟨_, rfl, fun k' hk' => by walk_at "d"; exact ⟨r, rfl, hk'⟩⟩) ?_
          walk_at "v"
          have e1 : progZ (withJ p []) = .tup (p.map Row.bareZ) := by
            unfold progZ
            rw [withJ_nil]
          rw [e1]
          have dd := progZ_dep (withJ p [])
          rw [e1] at dd
          refine ⟨_, pNe_self (tupB_dat p) (by omega), ?_⟩
          walk_at "v"
          refine ⟨_, _, rfl, progZ_dat _, by omega, nd rs, .inr ⟨_, wq, rfl, .inr ⟨rs, rfl, by omega, by rw [withJ_len]; exact from_sub hrs, asc_sub hrs, ?_⟩⟩⟩
          rw [withJ_withJ]
          refine ⟨_, pNe_self (progZ_dat _) (by omega), ?_⟩
          walk_at "v"
          exact hnx2 _ _ ⟨hs, _, _, _, _, _, _, _, _, _, _, rfl⟩
    · obtain ⟨hs, o4, o5, o6, o7, o8, o9, o10, o11, o12, o13, rfl⟩ := hJ
      walk_at "d"
      have elen : pLen1 S'' [progZ p] = some (.int p.length) := by
        unfold progZ
        rw [pLen_tup, List.length_map]
      refine ⟨_, elen, ?_⟩
      walk_at "v"
      have ml := wf.most
      refine compZ_filter (fun _ => false) id _ _ (by simp) (fun z hz => ⟨_, rfl, fun k' hk' => ?_, fun c => by cases c⟩) ?_
      · obtain ⟨d1, b1⟩ := rowsBad_lit p2l ml z hz
        walk_at "d"
        refine ⟨_, z, rfl, progZ_dat p, by omega, d1, .inr ⟨p, wf, rfl, b1, _, pNe_self (by decide +kernel) (by decide), hk'⟩⟩
      · rw [List.filter_eq_nil_iff.mpr (by simp)]
        refine ⟨_, pNe_self rfl (by decide), ?_⟩
        walk_at "v"
        exact hnx _ _ ⟨_, _, _, _, _, _, _, _, _, _, _, _, _, rfl⟩
  · obtain ⟨o1, o2, o3, o4, o5, o6, o7, o8, o9, o10, o11, o12, o13, rfl⟩ := hI
    walk_at "v"
    refine compZ_map (fun _ => .str "program") _ _ (by decide) (fun z hz => ⟨_, rfl, fun k' hk' => ?_⟩) ?_
    · walk_at "d"
      have hzd : dat z = true ∧ dep z ≤ 40 ∧ isProg z = false := by
        simp only [List.mem_cons, List.not_mem_nil, or_false] at hz
        rcases hz with e | e | e <;> subst e <;> exact ⟨by decide +kernel, by decide, by decide +kernel⟩
      exact ⟨z, _, rfl, hzd.1, hzd.2.1, rfl, .inl ⟨hzd.2.2, hk'⟩⟩
    · refine ⟨_, rfl, ?_⟩
      exact ⟨_, pEq_self (by decide +kernel) (by decide), hk _⟩
end L3
namespace L3
open PySem PySem.Spec PyProof.Rows L2
def isNon : Z → Bool
  | .non => true
  | _ => false
theorem pIsN_of (z : Z) : pIsN z .non = some (isNon z) := by cases z <;> rfl
theorem pNotN_of (z : Z) : pNotN z .non = some (!isNon z) := by cases z <;> rfl
local macro_rules | `(tactic| walk_at "d") => `(tactic| try simp only [szk_0, szk_1, szk_2, szk_3, szk_4, szk_5, szk_6, szk_7, szk_8, szk_9, szk_10, szk_11, szk_12, szk_13, szk_14, szk_15, szk_16, szk_17, szk_18, szk_19, szk_20, fromBody, dNil', dSeq, dSet, dRet, dRetN, dDrop, dIf, dVar, dC, dOp, dCmp, dCmpT, dChain, dChainT, dVal, dNotT, dAndT, dOrT, dAnd, dOr, dNot, dIfE, dNeg, dIx, dSl, dNoPart, dPart, dNil, dCons, dTup, dLst, dLstM, dCall, pure1, dCallF, dItSeq, dItRange, dItZip, dFor, dComp, dCompM, dYes, dAug, dPar, dSub, dRetF, dFrz, dAppend, dBrk, dCnt, wipeE, gN, dInTab, dIxTab, dCallL, dLenSet, dCount, dAddM, gL, dRaise, dTry, catchBy, dItEnum,
  pAdd_i, pEq_i, pNe_i, pIsN_of, pNotN_of, pSub_i, pLt_i, pLe_i, pGt_i, pGe_i, pAddI_i, pIsN_non, pNotN_non, pIsN_bl, pNotN_bl, pIsN_int, pNotN_int, pIsN_str, pNotN_str, pIsN_tup, pNotN_tup, pIsN_lst, pNotN_lst, pIsN_ref, pNotN_ref, pIsN_ty, pNotN_ty, pIsN_scr, pNotN_scr, pIsI_non_bool, pIsI_non_int, pIsI_non_str, pIsI_non_tuple, pIsI_non_list, pIsI_bl_bool, pIsI_bl_int, pIsI_bl_str, pIsI_bl_tuple, pIsI_bl_list, pIsI_int_bool, pIsI_int_int, pIsI_int_str, pIsI_int_tuple, pIsI_int_list, pIsI_str_bool, pIsI_str_int, pIsI_str_str, pIsI_str_tuple, pIsI_str_list, pIsI_tup_bool, pIsI_tup_int, pIsI_tup_str, pIsI_tup_tuple, pIsI_tup_list, pIsI_lst_bool, pIsI_lst_int, pIsI_lst_str, pIsI_lst_tuple, pIsI_lst_list, pLen_tup, pIx_tup, pList_tup, pTuple_tup, seqOf_tup, pLen_lst, pIx_lst, pList_lst, pTuple_lst, seqOf_lst, pLen_scr, pIx_scr, pList_scr, pTuple_scr, seqOf_scr, pSl_tup, itemsOf_tup, pSl_lst, itemsOf_lst, pAbs_i, pInt_i, pInt_b, pMin2_i, gT_tup, gsCons_cons, gsNil_nil, getE_0, getE_s,
  Option.some.injEq, exists_eq_left', exists_eq_left, Z.int.injEq, Z.bl.injEq, Z.str.injEq, Z.tup.injEq, Z.lst.injEq, Z.ref.injEq, Option.map_some, Option.bind_some, List.set_cons_zero, List.set_cons_succ, List.map_cons, List.map_nil, List.cons_append, List.nil_append, List.length_cons, List.length_nil, List.replicate_succ, List.replicate_zero, true_and, and_true, if_true, Nat.reduceAdd, Nat.reduceSub, Bool.false_eq_true, if_false, ite_true, ite_false, List.cons.injEq, reduceIte, Bool.not_true, Bool.not_false])
local macro_rules | `(tactic| walk_at "v") => `(tactic| try simp only [szk_0, szk_1, szk_2, szk_3, szk_4, szk_5, szk_6, szk_7, szk_8, szk_9, szk_10, szk_11, szk_12, szk_13, szk_14, szk_15, szk_16, szk_17, szk_18, szk_19, szk_20, 
  pAdd_i, pEq_i, pNe_i, pIsN_of, pNotN_of, pSub_i, pLt_i, pLe_i, pGt_i, pGe_i, pAddI_i, pIsN_non, pNotN_non, pIsN_bl, pNotN_bl, pIsN_int, pNotN_int, pIsN_str, pNotN_str, pIsN_tup, pNotN_tup, pIsN_lst, pNotN_lst, pIsN_ref, pNotN_ref, pIsN_ty, pNotN_ty, pIsN_scr, pNotN_scr, pIsI_non_bool, pIsI_non_int, pIsI_non_str, pIsI_non_tuple, pIsI_non_list, pIsI_bl_bool, pIsI_bl_int, pIsI_bl_str, pIsI_bl_tuple, pIsI_bl_list, pIsI_int_bool, pIsI_int_int, pIsI_int_str, pIsI_int_tuple, pIsI_int_list, pIsI_str_bool, pIsI_str_int, pIsI_str_str, pIsI_str_tuple, pIsI_str_list, pIsI_tup_bool, pIsI_tup_int, pIsI_tup_str, pIsI_tup_tuple, pIsI_tup_list, pIsI_lst_bool, pIsI_lst_int, pIsI_lst_str, pIsI_lst_tuple, pIsI_lst_list, pLen_tup, pIx_tup, pList_tup, pTuple_tup, seqOf_tup, pLen_lst, pIx_lst, pList_lst, pTuple_lst, seqOf_lst, pLen_scr, pIx_scr, pList_scr, pTuple_scr, seqOf_scr, pSl_tup, itemsOf_tup, pSl_lst, itemsOf_lst, pAbs_i, pInt_i, pInt_b, pMin2_i, gT_tup, gsCons_cons, gsNil_nil, getE_0, getE_s, atI_0, atI_1, atI_2, atI_3, atI_4, sUpd_same,
  Option.some.injEq, exists_eq_left', exists_eq_left, Z.int.injEq, Z.bl.injEq, Z.str.injEq, Z.tup.injEq, Z.lst.injEq, Z.ref.injEq, Option.map_some, Option.bind_some, List.set_cons_zero, List.set_cons_succ, List.map_cons, List.map_nil, List.cons_append, List.nil_append, List.length_cons, List.length_nil, List.replicate_succ, List.replicate_zero, true_and, and_true, if_true, Nat.reduceAdd, Nat.reduceSub, Bool.false_eq_true, if_false, ite_true, ite_false, List.cons.injEq, reduceIte, Bool.not_true, Bool.not_false])
set_option maxHeartbeats 1000000
/-! ### stands -/
structure Proc where
  row : Nat
  mark : Nat
  note : Option Nat
  pocket : Option Nat
  ins : Bool
  deriving DecidableEq, Inhabited
def zOpt : Option Nat → Z
  | none => .non
  | some n => .int n
def Proc.z (p : Proc) : Z := .tup [.int p.row, .int p.mark, zOpt p.note, zOpt p.pocket, .bl p.ins]
def zSlot : Option Proc → Z
  | none => .non
  | some p => p.z
structure Stand where
  lock : Option Nat
  slots : List (Option Proc)
  deriving DecidableEq, Inhabited
def Stand.z (s : Stand) : Z := .tup [zOpt s.lock, .tup (s.slots.map zSlot)]
def Stand.marks (s : Stand) : List Nat := s.slots.filterMap (·.map Proc.mark)
def progsZ (ps : List Prog) : Z := .tup (ps.map progZ)
structure PsWf (ps : List Prog) : Prop where
  pos : 1 ≤ ps.length
  most : ps.length ≤ 3
  all : ∀ p ∈ ps, PWf p
theorem progsZ_dat (ps : List Prog) : dat (progsZ ps) = true := by
  simp only [progsZ, dat]
  exact dats_of fun z hz => by
    obtain ⟨r, _, rfl⟩ := List.mem_map.mp hz
    exact progZ_dat r
theorem progsZ_dep (ps : List Prog) : dep (progsZ ps) ≤ 4 := by
  simp only [progsZ, dep]
  have := deps_of (n := 3) (zs := ps.map progZ) fun z hz => by
    obtain ⟨r, _, rfl⟩ := List.mem_map.mp hz
    exact progZ_dep r
  omega
def areProgs (v : Z) : Bool := match v with
  | .tup zs => decide (1 ≤ zs.length) && decide (zs.length ≤ 3) && zs.all isProg
  | _ => false
theorem areProgs_progsZ {ps : List Prog} (w : PsWf ps) : areProgs (progsZ ps) = true := by
  simp only [progsZ, areProgs, List.length_map, Bool.and_eq_true, decide_eq_true_eq, List.all_eq_true]
  refine ⟨⟨w.pos, w.most⟩, fun z hz => ?_⟩
  obtain ⟨p, hp, rfl⟩ := List.mem_map.mp hz
  exact isProg_progZ (w.all p hp)
def s_areprogs : DF := fun zs RE S k => ∃ v, zs = [v] ∧ dat v = true ∧ dep v ≤ 41 ∧ k (.bl (areProgs v)) S
theorem ok_areprogs (zs RE S R) (h : s_areprogs zs RE S R) : b_are_programs s_isprog zs RE S R := by
  obtain ⟨v, rfl, hd, hp, hk⟩ := h
  unfold b_are_programs m_are_programs g_MOST_SLOTS
  cases v <;> first | (simp [dat] at hd; done) | (walk_at "d"; exact hk) | skip
  rename_i vs
  walk_at "d"
  simp only [dat] at hd
  simp only [dep] at hp
  have fin : areProgs (.tup vs) = false → R (.bl false) S := fun e => by rw [e] at hk; exact hk
  refine ifB (fun h1 => ?_) (fun h1 => ?_)
  · walk_at "v"
    cases h2 : decide ((vs.length : Int) ≤ 3) with
    | false =>
      walk_at "v"
      exact fin (by
        have : ¬ vs.length ≤ 3 := by have := of_decide_eq_false h2; omega
        simp [areProgs, this])
    | true =>
      walk_at "v"
      have l3 : vs.length ≤ 3 := by have := of_decide_eq_true h2; omega
      have l1 : 1 ≤ vs.length := by have := of_decide_eq_true h1; omega
      refine compZ_map (fun z => .bl (isProg z)) _ _ (by simp; omega) (fun z hz => ⟨_, rfl, fun k' hk' => ?_⟩) ?_
      · walk_at "d"
        have := deps_mem hz
        exact ⟨z, rfl, dats_mem hd z hz, by omega, hk'⟩
      · rw [List.nil_append]
        refine ⟨_, pAll_map _ _, ?_⟩
        simpa [areProgs, l1, l3] using hk
  · walk_at "v"
    exact fin (by
      have : ¬ 1 ≤ vs.length := by have := of_decide_eq_false h1; omega
      simp [areProgs, this])
def s_needprogs : DF := fun zs RE S k => ∃ v, zs = [v] ∧ dat v = true ∧ dep v ≤ 41 ∧ if areProgs v = true then k .non S else RE ⟨"InvalidPrograms", none⟩ S
theorem ok_needprogs (zs RE S R) (h : s_needprogs zs RE S R) : b_need_programs s_areprogs zs RE S R := by
  obtain ⟨v, rfl, hd, hp, hk⟩ := h
  unfold b_need_programs m_need_programs
  walk_at "d"
  refine ⟨v, rfl, hd, hp, ?_⟩
  cases e : areProgs v <;> rw [e] at hk <;> simpa using hk
def s_mark : DF := fun zs RE S k => ∃ v, zs = [v] ∧ dat v = true ∧ k (.bl (isFrom v 0 999)) S
theorem ok_mark (zs RE S R) (h : s_mark zs RE S R) : b_is_mark s_from zs RE S R := by
  obtain ⟨v, rfl, hd, hk⟩ := h
  unfold b_is_mark m_is_mark g_MOST_MARK
  walk_at "d"
  exact ⟨v, 0, 999, rfl, hd, hk⟩
def isBl : Z → Bool
  | .bl _ => true
  | _ => false
theorem pIsI_bool (S : Sm) {z : Z} (h : dat z = true) : pIsI S [z, .ty "bool"] = some (.bl (isBl z)) := by cases z <;> first | (simp [dat] at h; done) | (walk_at "v"; rfl)
def optMark (z : Z) : Bool := isNon z || isFrom z 0 999
def procOk (n : Nat) : Z → Bool
  | .tup [r, m, a, b, i] => isFrom r 0 ((n : Int) - 1) && (isFrom m 0 999 && isBl i) && (optMark a && optMark b)
  | _ => false
theorem procOk_len {n : Nat} {vs : List Z} (h : vs.length ≠ 5) : procOk n (.tup vs) = false := by
  match vs, h with
  | [], _ => rfl
  | [_], _ => rfl
  | [_, _], _ => rfl
  | [_, _, _], _ => rfl
  | [_, _, _, _], _ => rfl
  | [_, _, _, _, _], h => exact absurd rfl h
  | _ :: _ :: _ :: _ :: _ :: _ :: _, _ => rfl
theorem len_of5 {vs : List Z} (h : vs.length = 5) : ∃ r m a b i, vs = [r, m, a, b, i] := by
  match vs, h with
  | [r, m, a, b, i], _ => exact ⟨r, m, a, b, i, rfl⟩
theorem pLen_prog {S : Sm} (p : Prog) : pLen1 S [progZ p] = some (.int p.length) := by unfold progZ; rw [pLen_tup, List.length_map]
def s_process : DF := fun zs RE S k => ∃ (p : Prog) (v : Z), zs = [progZ p, v] ∧ dat v = true ∧ k (.bl (procOk p.length v)) S
theorem ok_process (zs RE S R) (h : s_process zs RE S R) : b_is_process s_from s_mark zs RE S R := by
  obtain ⟨p, v, rfl, hd, hk⟩ := h
  unfold b_is_process m_is_process
  cases v <;> first | (simp [dat] at hd; done) | (walk_at "d"; exact hk) | skip
  rename_i vs
  walk_at "d"
  by_cases h5 : vs.length = 5
  · obtain ⟨r, m, a, b, i, rfl⟩ := len_of5 h5
    simp only [dat, dats, Bool.and_eq_true] at hd
    obtain ⟨d1, d2, d3, d4, d5, _⟩ := hd
    have e5 : (decide (((0 + 1 + 1 + 1 + 1 + 1 : Nat) : Int) = 5)) = true := by decide
    walk_at "v"
    refine ifF (by simp) ?_
    refine ⟨_, pLen_prog p, ?_⟩
    walk_at "v"
    refine ⟨r, 0, _, rfl, d1, ?_⟩
    have hk2 : ∀ b, procOk p.length (.tup [r, m, a, b, i]) = procOk p.length (.tup [r, m, a, b, i]) := fun _ => rfl
    simp only [procOk] at hk
    cases e1 : isFrom r 0 ((p.length : Int) - 1) with
    | false => rw [e1] at hk; simpa using hk
    | true =>
      rw [e1] at hk
      walk_at "v"
      refine ⟨m, rfl, d2, ?_⟩
      cases e2 : isFrom m 0 999 with
      | false => rw [e2] at hk; simpa using hk
      | true =>
        rw [e2] at hk
        walk_at "v"
        refine ⟨_, pIsI_bool S d5, _, rfl, ?_⟩
        cases e3 : isBl i with
        | false => rw [e3] at hk; simpa using hk
        | true =>
          rw [e3] at hk
          walk_at "v"
          have ecut : cutZ [r, m, a, b, i] (some 2) (some 4) = [a, b] := rfl
          rw [ecut]
          refine compZ_map (fun z => .bl (optMark z)) _ _ (by simp) (fun z hz => ⟨_, rfl, fun k' hk' => ?_⟩) ?_
          · have dz : dat z = true := by
              rcases List.mem_cons.mp hz with e | hz
              · rw [e]; exact d3
              · rw [List.mem_singleton.mp hz]; exact d4
            walk_at "d"
            unfold optMark at hk'
            refine ifB (fun hn => ?_) (fun hn => ?_)
            · rw [hn] at hk'; exact hk'
            · rw [hn] at hk'; exact ⟨z, rfl, dz, hk'⟩
          · rw [List.nil_append]
            refine ⟨_, pAll_map _ _, ?_⟩
            simpa using hk
  · refine ifT (by have : ¬ ((vs.length : Int) = 5) := by omega
                   simp [this]) ?_
    rw [procOk_len h5] at hk
    exact hk
end L3
namespace L3
open PySem PySem.Spec PyProof.Rows L2
local macro_rules | `(tactic| walk_at "d") => `(tactic| try simp only [szk_0, szk_1, szk_2, szk_3, szk_4, szk_5, szk_6, szk_7, szk_8, szk_9, szk_10, szk_11, szk_12, szk_13, szk_14, szk_15, szk_16, szk_17, szk_18, szk_19, szk_20, fromBody, dNil', dSeq, dSet, dRet, dRetN, dDrop, dIf, dVar, dC, dOp, dCmp, dCmpT, dChain, dChainT, dVal, dNotT, dAndT, dOrT, dAnd, dOr, dNot, dIfE, dNeg, dIx, dSl, dNoPart, dPart, dNil, dCons, dTup, dLst, dLstM, dCall, pure1, dCallF, dItSeq, dItRange, dItZip, dFor, dComp, dCompM, dYes, dAug, dPar, dSub, dRetF, dFrz, dAppend, dBrk, dCnt, wipeE, gN, dInTab, dIxTab, dCallL, dLenSet, dCount, dAddM, gL, dRaise, dTry, catchBy, dItEnum,
  pAdd_i, pEq_i, pNe_i, pIsN_of, pNotN_of, pSub_i, pLt_i, pLe_i, pGt_i, pGe_i, pAddI_i, pIsN_non, pNotN_non, pIsN_bl, pNotN_bl, pIsN_int, pNotN_int, pIsN_str, pNotN_str, pIsN_tup, pNotN_tup, pIsN_lst, pNotN_lst, pIsN_ref, pNotN_ref, pIsN_ty, pNotN_ty, pIsN_scr, pNotN_scr, pIsI_non_bool, pIsI_non_int, pIsI_non_str, pIsI_non_tuple, pIsI_non_list, pIsI_bl_bool, pIsI_bl_int, pIsI_bl_str, pIsI_bl_tuple, pIsI_bl_list, pIsI_int_bool, pIsI_int_int, pIsI_int_str, pIsI_int_tuple, pIsI_int_list, pIsI_str_bool, pIsI_str_int, pIsI_str_str, pIsI_str_tuple, pIsI_str_list, pIsI_tup_bool, pIsI_tup_int, pIsI_tup_str, pIsI_tup_tuple, pIsI_tup_list, pIsI_lst_bool, pIsI_lst_int, pIsI_lst_str, pIsI_lst_tuple, pIsI_lst_list, pLen_tup, pIx_tup, pList_tup, pTuple_tup, seqOf_tup, pLen_lst, pIx_lst, pList_lst, pTuple_lst, seqOf_lst, pLen_scr, pIx_scr, pList_scr, pTuple_scr, seqOf_scr, pSl_tup, itemsOf_tup, pSl_lst, itemsOf_lst, pAbs_i, pInt_i, pInt_b, pMin2_i, gT_tup, gsCons_cons, gsNil_nil, getE_0, getE_s,
  Option.some.injEq, exists_eq_left', exists_eq_left, Z.int.injEq, Z.bl.injEq, Z.str.injEq, Z.tup.injEq, Z.lst.injEq, Z.ref.injEq, Option.map_some, Option.bind_some, List.set_cons_zero, List.set_cons_succ, List.map_cons, List.map_nil, List.cons_append, List.nil_append, List.length_cons, List.length_nil, List.replicate_succ, List.replicate_zero, true_and, and_true, if_true, Nat.reduceAdd, Nat.reduceSub, Bool.false_eq_true, if_false, ite_true, ite_false, List.cons.injEq, reduceIte, Bool.not_true, Bool.not_false])
local macro_rules | `(tactic| walk_at "v") => `(tactic| try simp only [szk_0, szk_1, szk_2, szk_3, szk_4, szk_5, szk_6, szk_7, szk_8, szk_9, szk_10, szk_11, szk_12, szk_13, szk_14, szk_15, szk_16, szk_17, szk_18, szk_19, szk_20, 
  pAdd_i, pEq_i, pNe_i, pIsN_of, pNotN_of, pSub_i, pLt_i, pLe_i, pGt_i, pGe_i, pAddI_i, pIsN_non, pNotN_non, pIsN_bl, pNotN_bl, pIsN_int, pNotN_int, pIsN_str, pNotN_str, pIsN_tup, pNotN_tup, pIsN_lst, pNotN_lst, pIsN_ref, pNotN_ref, pIsN_ty, pNotN_ty, pIsN_scr, pNotN_scr, pIsI_non_bool, pIsI_non_int, pIsI_non_str, pIsI_non_tuple, pIsI_non_list, pIsI_bl_bool, pIsI_bl_int, pIsI_bl_str, pIsI_bl_tuple, pIsI_bl_list, pIsI_int_bool, pIsI_int_int, pIsI_int_str, pIsI_int_tuple, pIsI_int_list, pIsI_str_bool, pIsI_str_int, pIsI_str_str, pIsI_str_tuple, pIsI_str_list, pIsI_tup_bool, pIsI_tup_int, pIsI_tup_str, pIsI_tup_tuple, pIsI_tup_list, pIsI_lst_bool, pIsI_lst_int, pIsI_lst_str, pIsI_lst_tuple, pIsI_lst_list, pLen_tup, pIx_tup, pList_tup, pTuple_tup, seqOf_tup, pLen_lst, pIx_lst, pList_lst, pTuple_lst, seqOf_lst, pLen_scr, pIx_scr, pList_scr, pTuple_scr, seqOf_scr, pSl_tup, itemsOf_tup, pSl_lst, itemsOf_lst, pAbs_i, pInt_i, pInt_b, pMin2_i, gT_tup, gsCons_cons, gsNil_nil, getE_0, getE_s, atI_0, atI_1, atI_2, atI_3, atI_4, sUpd_same,
  Option.some.injEq, exists_eq_left', exists_eq_left, Z.int.injEq, Z.bl.injEq, Z.str.injEq, Z.tup.injEq, Z.lst.injEq, Z.ref.injEq, Option.map_some, Option.bind_some, List.set_cons_zero, List.set_cons_succ, List.map_cons, List.map_nil, List.cons_append, List.nil_append, List.length_cons, List.length_nil, List.replicate_succ, List.replicate_zero, true_and, and_true, if_true, Nat.reduceAdd, Nat.reduceSub, Bool.false_eq_true, if_false, ite_true, ite_false, List.cons.injEq, reduceIte, Bool.not_true, Bool.not_false])
set_option maxHeartbeats 2000000
/-- a for that leaves with False at the first item that is not as it should be -/
theorem forZ_allB {g : DG} {body : DS} {E : EK} {K : Ks} {S : Sm} (ok : Z → Bool) (I : L3.Env → Prop) : ∀ (zs : List Z) (env : L3.Env), I env →
    (∀ z ∈ zs, ∀ env, I env → ∃ e, g z env = some e ∧ ∀ K' : Ks, (ok z = true → ∀ e', I e' → K'.nx e' S) → (ok z = false → K'.rt (.bl false) S) → body E e S K') →
    (zs.all ok = false → K.rt (.bl false) S) → (zs.all ok = true → ∀ env, I env → K.nx env S) → forZ g body E K zs env S
  | [], env, h0, _, _, hg => hg rfl env h0
  | z :: zs, env, h0, hs, hb, hg => by
    obtain ⟨e, he, hbody⟩ := hs z List.mem_cons_self env h0
    refine ⟨e, he, hbody _ (fun hz e' h' => ?_) (fun hz => hb (by simp [hz]))⟩
    refine forZ_allB ok I zs e' h' (fun y hy => hs y (List.mem_cons_of_mem _ hy)) (fun h => hb (by simp [h])) (fun h => hg (by simp [h, hz]))
def slotOk : Z → Bool
  | .tup [.tup p, s] => isNon s || procOk p.length s
  | _ => true
def liveM (ss : List Z) : List Int := ss.filterMap fun z => match z with
  | .tup (_ :: .int m :: _) => some m
  | _ => none
def secZ : Z → Z
  | .tup (_ :: m :: _) => m
  | _ => .non
def standOk (ps : List Prog) (v : Z) : Bool := match v with
  | .tup [l, .tup ss] => optMark l && (decide (ss.length = ps.length) && ((zipZ (ps.map progZ) ss).all slotOk && decide (liveM ss).Nodup))
  | _ => false
theorem standOk_len {ps : List Prog} {vs : List Z} (h : vs.length ≠ 2) : standOk ps (.tup vs) = false := by
  match vs, h with
  | [], _ => rfl
  | [_], _ => rfl
  | [_, _], h => exact absurd rfl h
  | _ :: _ :: _ :: _, _ => simp [standOk]
theorem standOk_nt {ps : List Prog} {l s : Z} (h : ∀ ss, s ≠ .tup ss) : standOk ps (.tup [l, s]) = false := by
  cases s <;> first | rfl | exact absurd rfl (h _)
theorem isFrom_int {z : Z} {lo hi : Int} (h : isFrom z lo hi = true) : ∃ i, z = .int i ∧ lo ≤ i ∧ i ≤ hi := by
  cases z <;> simp [isFrom] at h
  exact ⟨_, rfl, h⟩
theorem isBl_bl {z : Z} (h : isBl z = true) : ∃ b, z = .bl b := by
  cases z <;> simp [isBl] at h
  exact ⟨_, rfl⟩
theorem isNon_non {z : Z} (h : isNon z = true) : z = .non := by
  cases z <;> simp [isNon] at h
  rfl
theorem procOk_form {n : Nat} {z : Z} (h : procOk n z = true) : ∃ r m a b i, z = .tup [.int r, .int m, a, b, .bl i] ∧ 0 ≤ m ∧ m ≤ 999 := by
  cases z with
  | tup vs =>
    by_cases h5 : vs.length = 5
    · obtain ⟨r, m, a, b, i, rfl⟩ := len_of5 h5
      simp only [procOk, Bool.and_eq_true] at h
      obtain ⟨r', rfl, _⟩ := isFrom_int h.1.1
      obtain ⟨m', rfl, m0, m9⟩ := isFrom_int h.1.2.1
      obtain ⟨i', rfl⟩ := isBl_bl h.1.2.2
      exact ⟨r', m', a, b, i', rfl, m0, m9⟩
    · rw [procOk_len h5] at h; cases h
  | _ => simp [procOk] at h
/-- the slots, all as they should be -/
theorem zip_slots : ∀ {ps : List Prog} {ss : List Z}, ss.length = ps.length → (zipZ (ps.map progZ) ss).all slotOk = true → ∀ s ∈ ss, s = .non ∨ ∃ r m a b i, s = .tup [.int r, .int m, a, b, .bl i] ∧ 0 ≤ m ∧ m ≤ 999
  | [], [], _, _, s, h => by simp at h
  | [], _ :: _, hl, _, _, _ => by simp at hl
  | _ :: _, [], hl, _, _, _ => by simp at hl
  | p :: ps, y :: ss, hl, h, s, hs => by
    simp only [List.map_cons, zipZ, List.all_cons, Bool.and_eq_true] at h
    rcases List.mem_cons.mp hs with e | hs
    · subst e
      have h1 := h.1
      simp only [progZ, slotOk, Bool.or_eq_true] at h1
      rcases h1 with h1 | h1
      · exact .inl (isNon_non h1)
      · exact .inr (procOk_form h1)
    · exact zip_slots (by simpa using hl) h.2 s hs
theorem live_eq : ∀ {ss : List Z}, (∀ s ∈ ss, s = .non ∨ ∃ r m a b i, s = .tup [.int r, .int m, a, b, .bl i] ∧ 0 ≤ m ∧ m ≤ 999) → (ss.filter fun z => !isNon z).map secZ = (liveM ss).map Z.int
  | [], _ => rfl
  | s :: ss, h => by
    have ih := live_eq fun y hy => h y (List.mem_cons_of_mem _ hy)
    rcases h s List.mem_cons_self with e | ⟨r, m, a, b, i, e, _⟩ <;> subst e
    · simpa [liveM, isNon] using ih
    · have e1 : liveM (.tup [.int r, .int m, a, b, .bl i] :: ss) = m :: liveM ss := rfl
      rw [e1, List.filter_cons_of_pos (by simp [isNon]), List.map_cons, List.map_cons, ih]
      rfl
theorem liveM_len (ss : List Z) : (liveM ss).length ≤ ss.length := List.length_filterMap_le ..
/-- the marks of a stand's processes, taken by a comprehension in slot i -/
theorem comp_live {S : Sm} {i : Nat} {env : L3.Env} {k : List Z → Sm → Prop} {ss : List Z} (hl : ss.length ≤ 1000) (hi : ∀ v, getE (env.set i (some v)) i = some v) (h : ∀ s ∈ ss, s = .non ∨ ∃ r m a b i, s = .tup [.int r, .int m, a, b, .bl i] ∧ 0 ≤ m ∧ m ≤ 999) (hk : k ((liveM ss).map Z.int) S) :
    compZ (gN i) (dCmpT (fun _ => pNotN) (dVar i) (dC .non)) (dIx (dVar i) (dC (.int 1))) ss env S [] k := by
  refine compZ_filter (fun z => !isNon z) secZ _ _ (by simp; omega) (fun z hz => ⟨_, rfl, fun k' hk' => ?_, fun hc k' hk' => ?_⟩) (by rw [live_eq h, List.nil_append]; exact hk)
  · walk_at "d"
    rw [hi]
    exact ⟨z, rfl, hk'⟩
  · walk_at "d"
    rw [hi]
    rcases h z hz with e | ⟨r, m, a, b, j, e, _⟩ <;> subst e
    · simp [isNon] at hc
    · refine ⟨_, rfl, .int m, ?_, hk'⟩
      rw [pIx_tup, atI_1]
def s_live : DF := fun zs RE S k => ∃ (l : Z) (ss : List Z), zs = [.tup [l, .tup ss]] ∧ ss.length ≤ 1000 ∧ (∀ s ∈ ss, s = .non ∨ ∃ r m a b i, s = .tup [.int r, .int m, a, b, .bl i] ∧ 0 ≤ m ∧ m ≤ 999) ∧ k (.lst ((liveM ss).map Z.int)) S
theorem ok_live (zs RE S R) (h : s_live zs RE S R) : b_live_marks zs RE S R := by
  obtain ⟨l, ss, rfl, hl, h, hk⟩ := h
  unfold b_live_marks m_live_marks
  walk_at "d"
  rw [atI_1]
  walk_at "v"
  exact comp_live hl (fun v => rfl) h hk
def s_isstand : DF := fun zs RE S k => ∃ (w v : Z), zs = [w, v] ∧ dat w = true ∧ dep w ≤ 41 ∧ dat v = true ∧ ((areProgs w = false ∧ RE ⟨"InvalidPrograms", none⟩ S) ∨ ∃ ps, PsWf ps ∧ w = progsZ ps ∧ k (.bl (standOk ps v)) S)
theorem pLen_progs {S : Sm} (ps : List Prog) : pLen1 S [progsZ ps] = some (.int ps.length) := by unfold progsZ; rw [pLen_tup, List.length_map]
theorem len_of2 {vs : List Z} (h : vs.length = 2) : ∃ a b, vs = [a, b] := by
  match vs, h with
  | [a, b], _ => exact ⟨a, b, rfl⟩
theorem zip_form {ps : List Prog} {ss : List Z} {z : Z} (h : z ∈ zipZ (ps.map progZ) ss) : ∃ p s, p ∈ ps ∧ s ∈ ss ∧ z = .tup [progZ p, s] := by
  obtain ⟨i, hi⟩ := List.getElem?_of_mem h
  obtain ⟨x, y, h1, h2, rfl⟩ := zipZ_get hi
  rw [List.getElem?_map] at h1
  cases e1 : ps[i]? with
  | none => rw [e1] at h1; cases h1
  | some p =>
    rw [e1] at h1
    cases h1
    exact ⟨p, y, List.mem_of_getElem? e1, List.mem_of_getElem? h2, rfl⟩
theorem slotOk_pair (p : Prog) (s : Z) : slotOk (.tup [progZ p, s]) = (isNon s || procOk p.length s) := by
  unfold progZ
  simp [slotOk]
theorem ok_isstand (zs RE S R) (h : s_isstand zs RE S R) : b_is_stand s_needprogs s_mark s_process s_live zs RE S R := by
  obtain ⟨w, v, rfl, hw, hwp, hd, h⟩ := h
  unfold b_is_stand m_is_stand
  walk_at "d"
  refine ⟨w, rfl, hw, hwp, ?_⟩
  rcases h with ⟨hb, hk⟩ | ⟨ps, wf, rfl, hk⟩
  · rw [hb]; simpa using hk
  rw [areProgs_progsZ wf]
  simp only [if_true]
  have p3 := wf.most
  cases v <;> first | (simp [dat] at hd; done) | (walk_at "v"; exact hk) | skip
  rename_i vs
  walk_at "v"
  by_cases h2 : vs.length = 2
  · obtain ⟨l, s, rfl⟩ := len_of2 h2
    simp only [dat, dats, Bool.and_eq_true] at hd
    obtain ⟨d1, d2, _⟩ := hd
    refine ifF (by simp) ?_
    have fin : standOk ps (.tup [l, s]) = false → R (.bl false) S := fun e => by rw [e] at hk; exact hk
    try simp only [atI_0, atI_1]
    walk_at "v"
    have bad : optMark l = false → R (.bl false) S := fun e => fin (by cases s <;> first | rfl | simp [standOk, e])
    refine ifB (fun hn => ?_) (fun hn => ?_)
    rotate_left
    refine ⟨l, rfl, d1, ?_⟩
    cases hf : isFrom l 0 999 with
    | false =>
      walk_at "v"
      exact bad (by simp [optMark, hn, hf])
    | true => ?_
    all_goals have ho : optMark l = true := by first | (simp [optMark, hn]; done) | simp [optMark, hf]
    all_goals try walk_at "v"
    all_goals
      by_cases hs : ∃ ss, s = .tup ss
      rotate_left
      · have hs' : ∀ ss, s ≠ .tup ss := fun ss e => hs ⟨ss, e⟩
        have := fin (standOk_nt hs')
        cases s <;> first | (simp [dat] at d2; done) | exact absurd rfl (hs' _) | (walk_at "v"; exact this)
      obtain ⟨ss, rfl⟩ := hs
      walk_at "v"
      refine ⟨_, pLen_progs ps, ?_⟩
      walk_at "v"
      by_cases hlen : ss.length = ps.length
      rotate_left
      · refine ifT (by have : ¬ ((ss.length : Int) = ps.length) := by omega
                       simp [this]) ?_
        exact fin (by simp [standOk, hlen])
      refine ifF (by simp [hlen]) ?_
      refine ⟨ps.map progZ, ss, Or.inl ⟨rfl, rfl⟩, ?_⟩
      simp only [dat] at d2
      refine forZ_allB slotOk (fun env => ∃ o2 o3, env = [some (progsZ ps), some (.tup [l, .tup ss]), o2, o3, none]) _ _ ⟨_, _, rfl⟩ (fun z hz env hI => ?_) (fun hz => fin (by simp [standOk, hz])) (fun hz env hI => ?_)
      · obtain ⟨o2, o3, rfl⟩ := hI
        obtain ⟨p, y, hp, hy, rfl⟩ := zip_form hz
        refine ⟨_, rfl, fun K' hg hb => ?_⟩
        walk_at "d"
        rw [slotOk_pair] at hg hb
        cases hn2 : isNon y with
        | true =>
          walk_at "v"
          exact hg (by simp [hn2]) _ ⟨_, _, rfl⟩
        | false =>
          walk_at "v"
          refine ⟨p, y, rfl, dats_mem d2 y hy, ?_⟩
          cases hp2 : procOk p.length y with
          | true =>
            walk_at "v"
            exact hg (by simp [hp2]) _ ⟨_, _, rfl⟩
          | false =>
            walk_at "v"
            exact hb (by simp [hn2, hp2])
      · obtain ⟨o2, o3, rfl⟩ := hI
        walk_at "d"
        have hz2 := zip_slots hlen hz
        refine ⟨l, ss, rfl, by omega, hz2, ?_⟩
        have l3 := liveM_len ss
        refine ⟨liveM ss, rfl, by omega, ?_⟩
        walk_at "v"
        rw [List.length_map]
        have e : (decide ((distN (liveM ss) : Int) = (liveM ss).length)) = standOk ps (.tup [l, .tup ss]) := by
          have := distN_iff (liveM ss)
          simp only [standOk, ho, hlen, hz, decide_true, Bool.true_and, Int.natCast_inj]
          exact decide_eq_decide.mpr this
        rw [e]
        exact hk
  · refine ifT (by have : ¬ ((vs.length : Int) = 2) := by omega
                   simp [this]) ?_
    rw [standOk_len h2] at hk
    exact hk
end L3
namespace L3
open PySem PySem.Spec PyProof.Rows L2
local macro_rules | `(tactic| walk_at "d") => `(tactic| try simp only [szk_0, szk_1, szk_2, szk_3, szk_4, szk_5, szk_6, szk_7, szk_8, szk_9, szk_10, szk_11, szk_12, szk_13, szk_14, szk_15, szk_16, szk_17, szk_18, szk_19, szk_20, fromBody, dNil', dSeq, dSet, dRet, dRetN, dDrop, dIf, dVar, dC, dOp, dCmp, dCmpT, dChain, dChainT, dVal, dNotT, dAndT, dOrT, dAnd, dOr, dNot, dIfE, dNeg, dIx, dSl, dNoPart, dPart, dNil, dCons, dTup, dLst, dLstM, dCall, pure1, dCallF, dItSeq, dItRange, dItZip, dFor, dComp, dCompM, dYes, dAug, dPar, dSub, dRetF, dFrz, dAppend, dBrk, dCnt, wipeE, gN, dInTab, dIxTab, dCallL, dLenSet, dCount, dAddM, gL, dRaise, dTry, catchBy, dItEnum,
  pAdd_i, pEq_i, pNe_i, pIsN_of, pNotN_of, pSub_i, pLt_i, pLe_i, pGt_i, pGe_i, pAddI_i, pIsN_non, pNotN_non, pIsN_bl, pNotN_bl, pIsN_int, pNotN_int, pIsN_str, pNotN_str, pIsN_tup, pNotN_tup, pIsN_lst, pNotN_lst, pIsN_ref, pNotN_ref, pIsN_ty, pNotN_ty, pIsN_scr, pNotN_scr, pIsI_non_bool, pIsI_non_int, pIsI_non_str, pIsI_non_tuple, pIsI_non_list, pIsI_bl_bool, pIsI_bl_int, pIsI_bl_str, pIsI_bl_tuple, pIsI_bl_list, pIsI_int_bool, pIsI_int_int, pIsI_int_str, pIsI_int_tuple, pIsI_int_list, pIsI_str_bool, pIsI_str_int, pIsI_str_str, pIsI_str_tuple, pIsI_str_list, pIsI_tup_bool, pIsI_tup_int, pIsI_tup_str, pIsI_tup_tuple, pIsI_tup_list, pIsI_lst_bool, pIsI_lst_int, pIsI_lst_str, pIsI_lst_tuple, pIsI_lst_list, pLen_tup, pIx_tup, pList_tup, pTuple_tup, seqOf_tup, pLen_lst, pIx_lst, pList_lst, pTuple_lst, seqOf_lst, pLen_scr, pIx_scr, pList_scr, pTuple_scr, seqOf_scr, pSl_tup, itemsOf_tup, pSl_lst, itemsOf_lst, pAbs_i, pInt_i, pInt_b, pMin2_i, gT_tup, gsCons_cons, gsNil_nil, getE_0, getE_s,
  Option.some.injEq, exists_eq_left', exists_eq_left, Z.int.injEq, Z.bl.injEq, Z.str.injEq, Z.tup.injEq, Z.lst.injEq, Z.ref.injEq, Option.map_some, Option.bind_some, List.set_cons_zero, List.set_cons_succ, List.map_cons, List.map_nil, List.cons_append, List.nil_append, List.length_cons, List.length_nil, List.replicate_succ, List.replicate_zero, true_and, and_true, if_true, Nat.reduceAdd, Nat.reduceSub, Bool.false_eq_true, if_false, ite_true, ite_false, List.cons.injEq, reduceIte, Bool.not_true, Bool.not_false])
local macro_rules | `(tactic| walk_at "v") => `(tactic| try simp only [szk_0, szk_1, szk_2, szk_3, szk_4, szk_5, szk_6, szk_7, szk_8, szk_9, szk_10, szk_11, szk_12, szk_13, szk_14, szk_15, szk_16, szk_17, szk_18, szk_19, szk_20, 
  pAdd_i, pEq_i, pNe_i, pIsN_of, pNotN_of, pSub_i, pLt_i, pLe_i, pGt_i, pGe_i, pAddI_i, pIsN_non, pNotN_non, pIsN_bl, pNotN_bl, pIsN_int, pNotN_int, pIsN_str, pNotN_str, pIsN_tup, pNotN_tup, pIsN_lst, pNotN_lst, pIsN_ref, pNotN_ref, pIsN_ty, pNotN_ty, pIsN_scr, pNotN_scr, pIsI_non_bool, pIsI_non_int, pIsI_non_str, pIsI_non_tuple, pIsI_non_list, pIsI_bl_bool, pIsI_bl_int, pIsI_bl_str, pIsI_bl_tuple, pIsI_bl_list, pIsI_int_bool, pIsI_int_int, pIsI_int_str, pIsI_int_tuple, pIsI_int_list, pIsI_str_bool, pIsI_str_int, pIsI_str_str, pIsI_str_tuple, pIsI_str_list, pIsI_tup_bool, pIsI_tup_int, pIsI_tup_str, pIsI_tup_tuple, pIsI_tup_list, pIsI_lst_bool, pIsI_lst_int, pIsI_lst_str, pIsI_lst_tuple, pIsI_lst_list, pLen_tup, pIx_tup, pList_tup, pTuple_tup, seqOf_tup, pLen_lst, pIx_lst, pList_lst, pTuple_lst, seqOf_lst, pLen_scr, pIx_scr, pList_scr, pTuple_scr, seqOf_scr, pSl_tup, itemsOf_tup, pSl_lst, itemsOf_lst, pAbs_i, pInt_i, pInt_b, pMin2_i, gT_tup, gsCons_cons, gsNil_nil, getE_0, getE_s, atI_0, atI_1, atI_2, atI_3, atI_4, sUpd_same,
  Option.some.injEq, exists_eq_left', exists_eq_left, Z.int.injEq, Z.bl.injEq, Z.str.injEq, Z.tup.injEq, Z.lst.injEq, Z.ref.injEq, Option.map_some, Option.bind_some, List.set_cons_zero, List.set_cons_succ, List.map_cons, List.map_nil, List.cons_append, List.nil_append, List.length_cons, List.length_nil, List.replicate_succ, List.replicate_zero, true_and, and_true, if_true, Nat.reduceAdd, Nat.reduceSub, Bool.false_eq_true, if_false, ite_true, ite_false, List.cons.injEq, reduceIte, Bool.not_true, Bool.not_false])
set_option maxHeartbeats 2000000
theorem pMul_t {zs : List Z} {k : Int} (h0 : zs ≠ []) (h1 : 0 ≤ k) (h2 : k ≤ 1000) (h3 : zs.length ≤ 1000) : pMul (.tup zs) (.int k) = some (.tup (List.replicate k.toNat zs).flatten) := by
  have e : zs.isEmpty = false := by cases zs <;> first | exact absurd rfl h0 | rfl
  simp [pMul, e, h1, h2, h3]
def firstSt (ps : List Prog) : Stand := ⟨none, List.replicate ps.length none⟩
theorem nones (n : Nat) : (List.replicate n [Z.non]).flatten = (List.replicate n (none : Option Proc)).map zSlot := by
  induction n with
  | zero => rfl
  | succ n ih => rw [List.replicate_succ, List.flatten_cons, ih, List.replicate_succ, List.map_cons]; rfl
theorem pMul_none (n : Nat) (h : n ≤ 1000) : pMul (.tup [.non]) (.int n) = some (.tup ((List.replicate n (none : Option Proc)).map zSlot)) := by
  rw [pMul_t (by simp) (by omega) (by omega) (by simp), Int.toNat_natCast, nones]
def s_empty : DF := fun zs RE S k => ∃ ps : List Prog, zs = [progsZ ps] ∧ ps.length ≤ 3 ∧ k (firstSt ps).z S
theorem ok_empty (zs RE S R) (h : s_empty zs RE S R) : b_empty_stand zs RE S R := by
  obtain ⟨ps, rfl, hl, hk⟩ := h
  unfold b_empty_stand m_empty_stand
  walk_at "d"
  refine ⟨_, pLen_progs ps, _, pMul_none ps.length (by omega), ?_⟩
  exact hk
def s_first : DF := fun zs RE S k => ∃ w, zs = [w] ∧ dat w = true ∧ dep w ≤ 41 ∧ ((areProgs w = false ∧ RE ⟨"InvalidPrograms", none⟩ S) ∨ ∃ ps, PsWf ps ∧ w = progsZ ps ∧ k (firstSt ps).z S)
theorem ok_first (zs RE S R) (h : s_first zs RE S R) : b_first_stand s_needprogs s_empty zs RE S R := by
  obtain ⟨w, rfl, hw, hwp, h⟩ := h
  unfold b_first_stand m_first_stand
  walk_at "d"
  refine ⟨w, rfl, hw, hwp, ?_⟩
  rcases h with ⟨hb, hk⟩ | ⟨ps, wf, rfl, hk⟩
  · rw [hb]; simpa using hk
  · rw [areProgs_progsZ wf]
    simp only [if_true]
    exact ⟨ps, rfl, wf.most, hk⟩
/-! ### the law's own checks -/
def s_goodproc : DF := fun zs RE S k => ∃ (p : Prog) (v : Z), zs = [progZ p, v] ∧ dat v = true ∧ dep v ≤ 50 ∧ k (.bl (isNon v || procOk p.length v)) S
theorem optL (a b : Z) (f : Z → Bool) : ([a, b].filter f).isEmpty = (!f a && !f b) := by
  cases h1 : f a <;> cases h2 : f b <;> simp [h1, h2]
theorem pEq_nil {ys : List Z} (h : dats ys = true) (d : deps ys ≤ 50) : pEq (.lst ys) (.lst []) = some ys.isEmpty := by
  rw [pEq_of (by simpa [dat] using h) rfl (by simp only [dep]; omega) (by decide)]
  simp only [zeq, zeqs_nil]
theorem pNe_nil {ys : List Z} (h : dats ys = true) (d : deps ys ≤ 50) : pNe (.lst ys) (.lst []) = some (!ys.isEmpty) := by
  rw [pNe_of (by simpa [dat] using h) rfl (by simp only [dep]; omega) (by decide)]
  simp only [zeq, zeqs_nil]
theorem ok_goodproc (zs RE S R) (h : s_goodproc zs RE S R) : b__law_good_process s_from zs RE S R := by
  obtain ⟨p, v, rfl, hd, hdp, hk⟩ := h
  unfold b__law_good_process m__law_good_process
  cases v <;> first | (simp [dat] at hd; done) | (walk_at "d"; simpa [isNon, procOk] using hk) | skip
  rename_i vs
  have e0 : isNon (.tup vs) = false := rfl
  rw [e0, Bool.false_or] at hk
  walk_at "d"
  rw [e0]
  walk_at "v"
  by_cases h5 : vs.length = 5
  · obtain ⟨r, m, a, b, i, rfl⟩ := len_of5 h5
    simp only [dat, dats, Bool.and_eq_true] at hd
    obtain ⟨d1, d2, d3, d4, d5, _⟩ := hd
    walk_at "v"
    refine ifF (by simp) ?_
    refine ⟨_, pLen_prog p, ?_⟩
    walk_at "v"
    refine ⟨r, 0, _, rfl, d1, ?_⟩
    simp only [procOk] at hk
    cases e1 : isFrom r 0 ((p.length : Int) - 1) with
    | false => rw [e1] at hk; simpa using hk
    | true =>
      rw [e1] at hk
      walk_at "v"
      refine ⟨m, 0, 999, rfl, d2, ?_⟩
      cases e2 : isFrom m 0 999 with
      | false => rw [e2] at hk; simpa using hk
      | true =>
        rw [e2] at hk
        walk_at "v"
        refine ⟨_, pIsI_bool S d5, _, rfl, ?_⟩
        cases e3 : isBl i with
        | false => rw [e3] at hk; simpa using hk
        | true =>
          rw [e3] at hk
          walk_at "v"
          have ecut : cutZ [r, m, a, b, i] (some 2) (some 4) = [a, b] := rfl
          rw [ecut]
          have dz : ∀ z ∈ [a, b], dat z = true := fun z hz => by
            rcases List.mem_cons.mp hz with e | hz
            · rw [e]; exact d3
            · rw [List.mem_singleton.mp hz]; exact d4
          refine compZ_filter (fun z => !optMark z) id _ _ (by simp) (fun z hz => ⟨_, rfl, fun k' hk' => ?_, fun _ k' hk' => by walk_at "d"; exact hk'⟩) ?_
          · walk_at "d"
            unfold optMark at hk'
            cases hn : isNon z with
            | true => rw [hn] at hk'; simpa using hk'
            | false =>
              rw [hn] at hk'
              walk_at "v"
              exact ⟨z, 0, 999, rfl, dz z hz, _, rfl, by simpa using hk'⟩
          · rw [List.nil_append, List.map_id]
            have hdat : dats ([a, b].filter fun z => !optMark z) = true := dats_of fun z hz => dz z (List.mem_filter.mp hz).1
            have hdp2 : deps ([a, b].filter fun z => !optMark z) ≤ 50 := deps_of fun z hz => by
              have h1 := deps_mem (zs := [.int 0, m, a, b, i]) (z := z) (by
                rcases List.mem_cons.mp (List.mem_filter.mp hz).1 with e | h
                · simp [e]
                · simp [List.mem_singleton.mp h])
              simp only [dep, deps] at h1 hdp
              omega
            refine ⟨_, pEq_nil hdat hdp2, ?_⟩
            rw [optL]
            simpa using hk
  · refine ifT (by have : ¬ ((vs.length : Int) = 5) := by omega
                   simp [this]) ?_
    rw [procOk_len h5] at hk
    exact hk
def s_goodstand : DF := fun zs RE S k => ∃ (ps : List Prog) (v : Z), PsWf ps ∧ zs = [progsZ ps, v] ∧ dat v = true ∧ dep v ≤ 50 ∧ k (.bl (standOk ps v)) S
theorem cntL (ns : List Int) : ((ns.map Z.int).filter fun z => match z with | .int m => decide (1 < ((ns.count m : Nat) : Int)) | _ => false).isEmpty = decide ns.Nodup := by
  by_cases h : ns.Nodup
  · rw [decide_eq_true h, List.isEmpty_iff, List.filter_eq_nil_iff]
    intro z hz
    obtain ⟨m, hm, rfl⟩ := List.mem_map.mp hz
    have := List.nodup_iff_count.mp h m
    simp only [decide_eq_true_eq]
    omega
  · rw [decide_eq_false h]
    have h1 : ¬ ∀ a, ns.count a ≤ 1 := fun q => h (List.nodup_iff_count.mpr q)
    obtain ⟨m, hm⟩ := Classical.not_forall.mp h1
    have hmem : m ∈ ns := List.count_pos_iff.mp (by omega)
    cases e : ((ns.map Z.int).filter fun z => match z with | .int m => decide (1 < ((ns.count m : Nat) : Int)) | _ => false).isEmpty with
    | false => rfl
    | true =>
      rw [List.isEmpty_iff, List.filter_eq_nil_iff] at e
      have := e (.int m) (List.mem_map.mpr ⟨m, hmem, rfl⟩)
      simp only [decide_eq_true_eq] at this
      omega
theorem ok_goodstand (zs RE S R) (h : s_goodstand zs RE S R) : b__law_good_stand s_from s_goodproc zs RE S R := by
  obtain ⟨ps, v, wf, rfl, hd, hdp, hk⟩ := h
  unfold b__law_good_stand m__law_good_stand
  have p3 := wf.most
  walk_at "d"
  cases v <;> first | (simp [dat] at hd; done) | (walk_at "v"; exact hk) | skip
  rename_i vs
  walk_at "v"
  by_cases h2 : vs.length = 2
  · obtain ⟨l, s, rfl⟩ := len_of2 h2
    simp only [dat, dats, Bool.and_eq_true] at hd
    obtain ⟨d1, d2, _⟩ := hd
    simp only [dep, deps] at hdp
    refine ifF (by simp) ?_
    have fin : standOk ps (.tup [l, s]) = false → R (.bl false) S := fun e => by rw [e] at hk; exact hk
    try simp only [atI_0, atI_1]
    walk_at "v"
    have bad : optMark l = false → R (.bl false) S := fun e => fin (by cases s <;> first | rfl | simp [standOk, e])
    refine ifB (fun hn => ?_) (fun hn => ?_)
    rotate_left
    refine ⟨l, 0, 999, rfl, d1, ?_⟩
    cases hf : isFrom l 0 999 with
    | false =>
      walk_at "v"
      exact bad (by simp [optMark, hn, hf])
    | true => ?_
    all_goals have ho : optMark l = true := by first | (simp [optMark, hn]; done) | simp [optMark, hf]
    all_goals try walk_at "v"
    all_goals
      by_cases hs : ∃ ss, s = .tup ss
      rotate_left
      · have hs' : ∀ ss, s ≠ .tup ss := fun ss e => hs ⟨ss, e⟩
        have := fin (standOk_nt hs')
        cases s <;> first | (simp [dat] at d2; done) | exact absurd rfl (hs' _) | (walk_at "v"; exact this)
      obtain ⟨ss, rfl⟩ := hs
      walk_at "v"
      refine ⟨_, pLen_progs ps, ?_⟩
      walk_at "v"
      by_cases hlen : ss.length = ps.length
      rotate_left
      · refine ifT (by have : ¬ ((ss.length : Int) = ps.length) := by omega
                       simp [this]) ?_
        exact fin (by simp [standOk, hlen])
      refine ifF (by simp [hlen]) ?_
      refine ⟨ps.map progZ, ss, Or.inl ⟨rfl, rfl⟩, ?_⟩
      simp only [dat] at d2
      refine forZ_allB slotOk (fun env => ∃ o2 o3, env = [some (progsZ ps), some (.tup [l, .tup ss]), o2, o3, none, none]) _ _ ⟨_, _, rfl⟩ (fun z hz env hI => ?_) (fun hz => fin (by simp [standOk, hz])) (fun hz env hI => ?_)
      · obtain ⟨o2, o3, rfl⟩ := hI
        obtain ⟨p, y, hp, hy, rfl⟩ := zip_form hz
        refine ⟨_, rfl, fun K' hg hb => ?_⟩
        walk_at "d"
        rw [slotOk_pair] at hg hb
        have hy2 := deps_mem hy
        simp only [dep] at hdp
        refine ⟨p, y, rfl, dats_mem d2 y hy, by omega, ?_⟩
        cases hp2 : (isNon y || procOk p.length y) with
        | true =>
          walk_at "v"
          exact hg hp2 _ ⟨_, _, rfl⟩
        | false =>
          walk_at "v"
          exact hb hp2
      · obtain ⟨o2, o3, rfl⟩ := hI
        walk_at "d"
        have hz2 := zip_slots hlen hz
        have l3 := liveM_len ss
        rw [atI_1]
        walk_at "v"
        refine comp_live (by omega) ?_ hz2 ?_
        · intro v; rfl
        walk_at "v"
        refine compZ_filter (fun z => match z with | .int m => decide (1 < (((liveM ss).count m : Nat) : Int)) | _ => false) id _ _ (by simp; omega) (fun z hz3 => ⟨_, rfl, fun k' hk' => ?_, fun _ k' hk' => by walk_at "d"; exact hk'⟩) ?_
        · obtain ⟨m, hm, rfl⟩ := List.mem_map.mp hz3
          walk_at "d"
          exact ⟨liveM ss, rfl, hk'⟩
        · rw [List.nil_append, List.map_id]
          have hints : ∀ z ∈ ((liveM ss).map Z.int).filter (fun z => match z with | .int m => decide (1 < (((liveM ss).count m : Nat) : Int)) | _ => false), dat z = true ∧ dep z = 0 := fun z hz => by
            obtain ⟨m, _, rfl⟩ := List.mem_map.mp (List.mem_filter.mp hz).1
            exact ⟨rfl, rfl⟩
          refine ⟨_, pEq_nil (dats_of fun z hz => (hints z hz).1) (deps_of fun z hz => by rw [(hints z hz).2]; omega), ?_⟩
          rw [cntL]
          have e : decide (liveM ss).Nodup = standOk ps (.tup [l, .tup ss]) := by
            simp only [standOk, ho, hlen, hz, decide_true, Bool.true_and]
          rw [e]
          exact hk
  · refine ifT (by have : ¬ ((vs.length : Int) = 2) := by omega
                   simp [this]) ?_
    rw [standOk_len h2] at hk
    exact hk
end L3
namespace L3
open PySem PySem.Spec PyProof.Rows L2
local macro_rules | `(tactic| walk_at "d") => `(tactic| try simp only [szk_0, szk_1, szk_2, szk_3, szk_4, szk_5, szk_6, szk_7, szk_8, szk_9, szk_10, szk_11, szk_12, szk_13, szk_14, szk_15, szk_16, szk_17, szk_18, szk_19, szk_20, fromBody, dNil', dSeq, dSet, dRet, dRetN, dDrop, dIf, dVar, dC, dOp, dCmp, dCmpT, dChain, dChainT, dVal, dNotT, dAndT, dOrT, dAnd, dOr, dNot, dIfE, dNeg, dIx, dSl, dNoPart, dPart, dNil, dCons, dTup, dLst, dLstM, dCall, pure1, dCallF, dItSeq, dItRange, dItZip, dFor, dComp, dCompM, dYes, dAug, dPar, dSub, dRetF, dFrz, dAppend, dBrk, dCnt, wipeE, gN, dInTab, dIxTab, dCallL, dLenSet, dCount, dAddM, gL, dRaise, dTry, catchBy, dItEnum,
  pAdd_i, pEq_i, pNe_i, pIsN_of, pNotN_of, pSub_i, pLt_i, pLe_i, pGt_i, pGe_i, pAddI_i, pIsN_non, pNotN_non, pIsN_bl, pNotN_bl, pIsN_int, pNotN_int, pIsN_str, pNotN_str, pIsN_tup, pNotN_tup, pIsN_lst, pNotN_lst, pIsN_ref, pNotN_ref, pIsN_ty, pNotN_ty, pIsN_scr, pNotN_scr, pIsI_non_bool, pIsI_non_int, pIsI_non_str, pIsI_non_tuple, pIsI_non_list, pIsI_bl_bool, pIsI_bl_int, pIsI_bl_str, pIsI_bl_tuple, pIsI_bl_list, pIsI_int_bool, pIsI_int_int, pIsI_int_str, pIsI_int_tuple, pIsI_int_list, pIsI_str_bool, pIsI_str_int, pIsI_str_str, pIsI_str_tuple, pIsI_str_list, pIsI_tup_bool, pIsI_tup_int, pIsI_tup_str, pIsI_tup_tuple, pIsI_tup_list, pIsI_lst_bool, pIsI_lst_int, pIsI_lst_str, pIsI_lst_tuple, pIsI_lst_list, pLen_tup, pIx_tup, pList_tup, pTuple_tup, seqOf_tup, pLen_lst, pIx_lst, pList_lst, pTuple_lst, seqOf_lst, pLen_scr, pIx_scr, pList_scr, pTuple_scr, seqOf_scr, pSl_tup, itemsOf_tup, pSl_lst, itemsOf_lst, pAbs_i, pInt_i, pInt_b, pMin2_i, gT_tup, gsCons_cons, gsNil_nil, getE_0, getE_s,
  Option.some.injEq, exists_eq_left', exists_eq_left, Z.int.injEq, Z.bl.injEq, Z.str.injEq, Z.tup.injEq, Z.lst.injEq, Z.ref.injEq, Option.map_some, Option.bind_some, List.set_cons_zero, List.set_cons_succ, List.map_cons, List.map_nil, List.cons_append, List.nil_append, List.length_cons, List.length_nil, List.replicate_succ, List.replicate_zero, true_and, and_true, if_true, Nat.reduceAdd, Nat.reduceSub, Bool.false_eq_true, if_false, ite_true, ite_false, List.cons.injEq, reduceIte, Bool.not_true, Bool.not_false])
local macro_rules | `(tactic| walk_at "v") => `(tactic| try simp only [szk_0, szk_1, szk_2, szk_3, szk_4, szk_5, szk_6, szk_7, szk_8, szk_9, szk_10, szk_11, szk_12, szk_13, szk_14, szk_15, szk_16, szk_17, szk_18, szk_19, szk_20, 
  pAdd_i, pEq_i, pNe_i, pIsN_of, pNotN_of, pSub_i, pLt_i, pLe_i, pGt_i, pGe_i, pAddI_i, pIsN_non, pNotN_non, pIsN_bl, pNotN_bl, pIsN_int, pNotN_int, pIsN_str, pNotN_str, pIsN_tup, pNotN_tup, pIsN_lst, pNotN_lst, pIsN_ref, pNotN_ref, pIsN_ty, pNotN_ty, pIsN_scr, pNotN_scr, pIsI_non_bool, pIsI_non_int, pIsI_non_str, pIsI_non_tuple, pIsI_non_list, pIsI_bl_bool, pIsI_bl_int, pIsI_bl_str, pIsI_bl_tuple, pIsI_bl_list, pIsI_int_bool, pIsI_int_int, pIsI_int_str, pIsI_int_tuple, pIsI_int_list, pIsI_str_bool, pIsI_str_int, pIsI_str_str, pIsI_str_tuple, pIsI_str_list, pIsI_tup_bool, pIsI_tup_int, pIsI_tup_str, pIsI_tup_tuple, pIsI_tup_list, pIsI_lst_bool, pIsI_lst_int, pIsI_lst_str, pIsI_lst_tuple, pIsI_lst_list, pLen_tup, pIx_tup, pList_tup, pTuple_tup, seqOf_tup, pLen_lst, pIx_lst, pList_lst, pTuple_lst, seqOf_lst, pLen_scr, pIx_scr, pList_scr, pTuple_scr, seqOf_scr, pSl_tup, itemsOf_tup, pSl_lst, itemsOf_lst, pAbs_i, pInt_i, pInt_b, pMin2_i, gT_tup, gsCons_cons, gsNil_nil, getE_0, getE_s, atI_0, atI_1, atI_2, atI_3, atI_4, sUpd_same,
  Option.some.injEq, exists_eq_left', exists_eq_left, Z.int.injEq, Z.bl.injEq, Z.str.injEq, Z.tup.injEq, Z.lst.injEq, Z.ref.injEq, Option.map_some, Option.bind_some, List.set_cons_zero, List.set_cons_succ, List.map_cons, List.map_nil, List.cons_append, List.nil_append, List.length_cons, List.length_nil, List.replicate_succ, List.replicate_zero, true_and, and_true, if_true, Nat.reduceAdd, Nat.reduceSub, Bool.false_eq_true, if_false, ite_true, ite_false, List.cons.injEq, reduceIte, Bool.not_true, Bool.not_false])
set_option maxHeartbeats 2000000
/-! ### drawn programs and stands -/
def s_programs : DF := fun zs RE S k => ∃ (a : Addr) (c m : Nat), zs = [.ref a, .int c, .int m] ∧ S a = some .src ∧ 1 ≤ c ∧ c ≤ 3 ∧ 2 ≤ m ∧ m ≤ 12 ∧ ∀ ps : List Prog, PsWf ps → ps.length = c → (∀ p ∈ ps, 2 ≤ p.length) → k (progsZ ps) S
theorem ok_programs (zs RE S R) (h : s_programs zs RE S R) : b__law_programs s_program s_draw s_lean zs RE S R := by
  obtain ⟨a, c, m, rfl, hs, c1, c3, m2, m12, hk⟩ := h
  unfold b__law_programs m__law_programs
  walk_at "d"
  refine ⟨a, m, rfl, hs, m2, m12, fun p w p2 pm => ⟨a, 2, rfl, hs, by omega, by omega, fun i i0 i1 => ?_⟩⟩
  walk_at "v"
  have rest : ∃ z, pSub (.int c) (.int 1) = some z ∧ True := ⟨_, pSub_i, trivial⟩
  have tail : compZ (gN 4) dYes (dCallF s_lean (dCons (dVar 0) (dCons (dVar 2) dNil))) ((List.range ((c : Int) - 1).toNat).map fun (i : Nat) => Z.int i) [some (.ref a), some (.int c), some (.int m), some (progZ p), none] S [] (fun ys S2 => ∃ z, pAdd (.tup [progZ p]) (.tup ys) = some z ∧ R z S2) := by
    refine compZ_all (fun y => ∃ q : Prog, (PWf q ∧ 2 ≤ q.length) ∧ y = progZ q) _ _ (by simp; omega) (fun z hz => ⟨_, rfl, fun k' hk' => ?_⟩) fun ys hl hy => ?_
    · walk_at "d"
      exact ⟨a, m, rfl, hs, m2, m12, fun q wq q2 _ => hk' _ ⟨q, ⟨wq, q2⟩, rfl⟩⟩
    · obtain ⟨qs, hq, rfl⟩ := map_of hy
      rw [List.nil_append]
      rw [List.length_map, List.length_map, List.length_range] at hl
      refine ⟨_, pAdd_t (by simp; omega), ?_⟩
      refine hk (p :: qs) ⟨by simp, by rw [List.length_cons]; omega, fun q hq' => ?_⟩ (by rw [List.length_cons]; omega) fun q hq' => ?_
      · rcases List.mem_cons.mp hq' with e | hq'
        · rw [e]; exact w
        · exact (hq q hq').1
      · rcases List.mem_cons.mp hq' with e | hq'
        · rw [e]; exact p2
        · exact (hq q hq').2
  refine ifB (fun hi => ?_) (fun hi => ?_)
  · refine ⟨_, pLen_prog p, ?_⟩
    walk_at "v"
    refine ifB (fun h6 => ?_) (fun h6 => ?_)
    · refine ⟨_, pMul_t (by simp) (by omega) (by omega) (by simp), ?_⟩
      have e : (List.replicate (c : Int).toNat [progZ p]).flatten = (List.replicate c p).map progZ := by
        rw [Int.toNat_natCast]
        clear c1 c3 hk rest tail
        induction c with
        | zero => rfl
        | succ c ih => rw [List.replicate_succ, List.flatten_cons, ih, List.replicate_succ, List.map_cons]; rfl
      rw [e]
      refine hk (List.replicate c p) ⟨by simpa using c1, by simpa using c3, fun q hq => ?_⟩ (by simp) fun q hq => ?_
      · rw [List.eq_of_mem_replicate hq]; exact w
      · rw [List.eq_of_mem_replicate hq]; exact p2
    · first | exact tail | (refine ⟨by omega, by omega, ?_⟩; exact tail)
  · first | exact tail | (refine ⟨by omega, by omega, ?_⟩; exact tail)
structure Proc.Wf (p : Prog) (q : Proc) : Prop where
  row : q.row < p.length
  mark : q.mark ≤ 999
  note : ∀ m, q.note = some m → m ≤ 999
  pocket : ∀ m, q.pocket = some m → m ≤ 999
structure SWf (ps : List Prog) (st : Stand) : Prop where
  len : st.slots.length = ps.length
  lock : ∀ m, st.lock = some m → m ≤ 999
  proc : ∀ (i : Nat) (p : Prog) (q : Proc), ps[i]? = some p → st.slots[i]? = some (some q) → q.Wf p
  nod : st.marks.Nodup
theorem choice_opt {ms : List Nat} {y : Z} (h : y ∈ natsZ ms ++ [.non, .non]) : ∃ o : Option Nat, y = zOpt o ∧ ∀ m, o = some m → m ∈ ms := by
  rcases List.mem_append.mp h with h | h
  · obtain ⟨m, hm, rfl⟩ := List.mem_map.mp h
    exact ⟨some m, rfl, fun m' e => by cases e; exact hm⟩
  · refine ⟨none, ?_, fun m' e => nomatch e⟩
    simpa [zOpt] using h
def s_lawproc : DF := fun zs RE S k => ∃ (a : Addr) (p : Prog) (ms : List Nat), zs = [.ref a, progZ p, .lst (natsZ ms)] ∧ S a = some .src ∧ 1 ≤ p.length ∧ p.length ≤ 12 ∧ ms.length ≤ 100 ∧
  ∀ (row : Nat) (note pocket : Option Nat) (ins : Bool), row < p.length → (∀ m, note = some m → m ∈ ms) → (∀ m, pocket = some m → m ∈ ms) → k (.tup [.int row, .int 0, zOpt note, zOpt pocket, .bl ins]) S
theorem ok_lawproc (zs RE S R) (h : s_lawproc zs RE S R) : b__law_process s_choice s_draw zs RE S R := by
  obtain ⟨a, p, ms, rfl, hs, p1, p12, hl, hk⟩ := h
  unfold b__law_process m__law_process
  walk_at "d"
  have nl : (natsZ ms).length = ms.length := by simp [natsZ]
  refine ⟨by omega, by omega, ?_⟩
  refine compZ_all (fun y => y ∈ natsZ ms ++ [.non, .non]) _ _ (by simp) (fun z hz => ⟨_, rfl, fun k' hk' => ?_⟩) fun ys hy1 hy => ?_
  · walk_at "d"
    exact ⟨_, pAdd_l (by simp [nl]; omega), a, _, _, rfl, hs, rfl, by simp, by simp [nl]; omega, fun y hy => hk' y hy⟩
  · have : ∃ u v, ys = [u, v] := by
      have e : ys.length = 2 := by simpa using hy1
      match ys, e with
      | [u, v], _ => exact ⟨u, v, rfl⟩
    obtain ⟨u, v, rfl⟩ := this
    obtain ⟨o1, rfl, h1⟩ := choice_opt (hy u (by simp))
    obtain ⟨o2, rfl, h2⟩ := choice_opt (hy v (by simp))
    walk_at "v"
    refine ⟨_, rfl, ?_⟩
    walk_at "v"
    refine ⟨_, pLen_prog p, a, p.length, rfl, hs, by omega, by omega, fun i i0 i1 => ⟨a, 3, rfl, hs, by omega, by omega, fun j j0 j1 => ?_⟩⟩
    walk_at "v"
    have := hk i.toNat o1 o2 (decide (j = 0)) (by omega) h1 h2
    rw [Int.toNat_of_nonneg i0] at this
    exact this
end L3
namespace L3
open PySem PySem.Spec PyProof.Rows L2
local macro_rules | `(tactic| walk_at "d") => `(tactic| try simp only [szk_0, szk_1, szk_2, szk_3, szk_4, szk_5, szk_6, szk_7, szk_8, szk_9, szk_10, szk_11, szk_12, szk_13, szk_14, szk_15, szk_16, szk_17, szk_18, szk_19, szk_20, fromBody, dNil', dSeq, dSet, dRet, dRetN, dDrop, dIf, dVar, dC, dOp, dCmp, dCmpT, dChain, dChainT, dVal, dNotT, dAndT, dOrT, dAnd, dOr, dNot, dIfE, dNeg, dIx, dSl, dNoPart, dPart, dNil, dCons, dTup, dLst, dLstM, dCall, pure1, dCallF, dItSeq, dItRange, dItZip, dFor, dComp, dCompM, dYes, dAug, dPar, dSub, dRetF, dFrz, dAppend, dBrk, dCnt, wipeE, gN, dInTab, dIxTab, dCallL, dLenSet, dCount, dAddM, gL, dRaise, dTry, catchBy, dItEnum,
  pAdd_i, pEq_i, pNe_i, pIsN_of, pNotN_of, pSub_i, pLt_i, pLe_i, pGt_i, pGe_i, pAddI_i, pIsN_non, pNotN_non, pIsN_bl, pNotN_bl, pIsN_int, pNotN_int, pIsN_str, pNotN_str, pIsN_tup, pNotN_tup, pIsN_lst, pNotN_lst, pIsN_ref, pNotN_ref, pIsN_ty, pNotN_ty, pIsN_scr, pNotN_scr, pIsI_non_bool, pIsI_non_int, pIsI_non_str, pIsI_non_tuple, pIsI_non_list, pIsI_bl_bool, pIsI_bl_int, pIsI_bl_str, pIsI_bl_tuple, pIsI_bl_list, pIsI_int_bool, pIsI_int_int, pIsI_int_str, pIsI_int_tuple, pIsI_int_list, pIsI_str_bool, pIsI_str_int, pIsI_str_str, pIsI_str_tuple, pIsI_str_list, pIsI_tup_bool, pIsI_tup_int, pIsI_tup_str, pIsI_tup_tuple, pIsI_tup_list, pIsI_lst_bool, pIsI_lst_int, pIsI_lst_str, pIsI_lst_tuple, pIsI_lst_list, pLen_tup, pIx_tup, pList_tup, pTuple_tup, seqOf_tup, pLen_lst, pIx_lst, pList_lst, pTuple_lst, seqOf_lst, pLen_scr, pIx_scr, pList_scr, pTuple_scr, seqOf_scr, pSl_tup, itemsOf_tup, pSl_lst, itemsOf_lst, pAbs_i, pInt_i, pInt_b, pMin2_i, gT_tup, gsCons_cons, gsNil_nil, getE_0, getE_s,
  Option.some.injEq, exists_eq_left', exists_eq_left, Z.int.injEq, Z.bl.injEq, Z.str.injEq, Z.tup.injEq, Z.lst.injEq, Z.ref.injEq, Option.map_some, Option.bind_some, List.set_cons_zero, List.set_cons_succ, List.map_cons, List.map_nil, List.cons_append, List.nil_append, List.length_cons, List.length_nil, List.replicate_succ, List.replicate_zero, true_and, and_true, if_true, Nat.reduceAdd, Nat.reduceSub, Bool.false_eq_true, if_false, ite_true, ite_false, List.cons.injEq, reduceIte, Bool.not_true, Bool.not_false])
local macro_rules | `(tactic| walk_at "v") => `(tactic| try simp only [szk_0, szk_1, szk_2, szk_3, szk_4, szk_5, szk_6, szk_7, szk_8, szk_9, szk_10, szk_11, szk_12, szk_13, szk_14, szk_15, szk_16, szk_17, szk_18, szk_19, szk_20, 
  pAdd_i, pEq_i, pNe_i, pIsN_of, pNotN_of, pSub_i, pLt_i, pLe_i, pGt_i, pGe_i, pAddI_i, pIsN_non, pNotN_non, pIsN_bl, pNotN_bl, pIsN_int, pNotN_int, pIsN_str, pNotN_str, pIsN_tup, pNotN_tup, pIsN_lst, pNotN_lst, pIsN_ref, pNotN_ref, pIsN_ty, pNotN_ty, pIsN_scr, pNotN_scr, pIsI_non_bool, pIsI_non_int, pIsI_non_str, pIsI_non_tuple, pIsI_non_list, pIsI_bl_bool, pIsI_bl_int, pIsI_bl_str, pIsI_bl_tuple, pIsI_bl_list, pIsI_int_bool, pIsI_int_int, pIsI_int_str, pIsI_int_tuple, pIsI_int_list, pIsI_str_bool, pIsI_str_int, pIsI_str_str, pIsI_str_tuple, pIsI_str_list, pIsI_tup_bool, pIsI_tup_int, pIsI_tup_str, pIsI_tup_tuple, pIsI_tup_list, pIsI_lst_bool, pIsI_lst_int, pIsI_lst_str, pIsI_lst_tuple, pIsI_lst_list, pLen_tup, pIx_tup, pList_tup, pTuple_tup, seqOf_tup, pLen_lst, pIx_lst, pList_lst, pTuple_lst, seqOf_lst, pLen_scr, pIx_scr, pList_scr, pTuple_scr, seqOf_scr, pSl_tup, itemsOf_tup, pSl_lst, itemsOf_lst, pAbs_i, pInt_i, pInt_b, pMin2_i, gT_tup, gsCons_cons, gsNil_nil, getE_0, getE_s, atI_0, atI_1, atI_2, atI_3, atI_4, sUpd_same,
  Option.some.injEq, exists_eq_left', exists_eq_left, Z.int.injEq, Z.bl.injEq, Z.str.injEq, Z.tup.injEq, Z.lst.injEq, Z.ref.injEq, Option.map_some, Option.bind_some, List.set_cons_zero, List.set_cons_succ, List.map_cons, List.map_nil, List.cons_append, List.nil_append, List.length_cons, List.length_nil, List.replicate_succ, List.replicate_zero, true_and, and_true, if_true, Nat.reduceAdd, Nat.reduceSub, Bool.false_eq_true, if_false, ite_true, ite_false, List.cons.injEq, reduceIte, Bool.not_true, Bool.not_false])
set_option maxHeartbeats 2000000
def s_lawstand : DF := fun zs RE S k => ∃ (a : Addr) (ps : List Prog), zs = [.ref a, progsZ ps] ∧ S a = some .src ∧ PsWf ps ∧ ∀ st : Stand, SWf ps st → k st.z S
/-- marks of the first slots -/
def ownM (qs : List (Option Proc)) : List Nat := qs.filterMap (·.map Proc.mark)
structure QWf (ps : List Prog) (qs : List (Option Proc)) : Prop where
  proc : ∀ (i : Nat) (p : Prog) (q : Proc), ps[i]? = some p → qs[i]? = some (some q) → q.Wf p
  nod : (ownM qs).Nodup
theorem QWf.none {ps : List Prog} {qs : List (Option Proc)} (h : QWf ps qs) : QWf ps (qs ++ [none]) := by
  refine ⟨fun i p q h1 h2 => ?_, by simpa [ownM] using h.nod⟩
  by_cases hi : i < qs.length
  · rw [List.getElem?_append_left hi] at h2
    exact h.proc i p q h1 h2
  · rw [List.getElem?_append_right (by omega)] at h2
    cases e : i - qs.length with
    | zero => rw [e] at h2; simp at h2
    | succ n => rw [e] at h2; simp at h2
theorem QWf.some {ps : List Prog} {qs : List (Option Proc)} {p : Prog} {q : Proc} (h : QWf ps qs) (hp : ps[qs.length]? = some p) (hq : q.Wf p) (hm : q.mark ∉ ownM qs) : QWf ps (qs ++ [some q]) := by
  refine ⟨fun i p' q' h1 h2 => ?_, ?_⟩
  · by_cases hi : i < qs.length
    · rw [List.getElem?_append_left hi] at h2
      exact h.proc i p' q' h1 h2
    · rw [List.getElem?_append_right (by omega)] at h2
      cases e : i - qs.length with
      | zero =>
        rw [e] at h2
        have e2 : i = qs.length := by omega
        rw [e2, hp] at h1
        simp at h2
        cases h1
        rw [← h2]; exact hq
      | succ n => rw [e] at h2; simp at h2
  · have e : ownM (qs ++ [Option.some q]) = ownM qs ++ [q.mark] := by simp [ownM]
    rw [e, List.nodup_append]
    refine ⟨h.nod, by simp, fun x hx y hy e => ?_⟩
    rw [List.mem_singleton] at hy
    subst hy
    subst e
    exact hm hx
theorem ownM_snoc (qs : List (Option Proc)) (q : Proc) : natsZ (ownM (qs ++ [some q])) = natsZ (ownM qs) ++ [.int q.mark] := by simp [ownM, natsZ]
theorem ownM_none (qs : List (Option Proc)) : ownM (qs ++ [none]) = ownM qs := by simp [ownM]
theorem ownM_len (qs : List (Option Proc)) : (ownM qs).length ≤ qs.length := List.length_filterMap_le ..
theorem pIn_natsL {S : Sm} (i : Nat) (rs : List Nat) : pIn S (.int i) (.lst (natsZ rs)) = some (decide (i ∈ rs)) := by
  have := natsZ_dep rs
  rw [pIn_of (ys := natsZ rs) rfl rfl (natsZ_dat rs) (Nat.zero_le _) (by omega), inZ_nats]
theorem slots_len (qs : List (Option Proc)) : (qs.map zSlot).length = qs.length := List.length_map ..
theorem ok_lawstand (zs RE S R) (h : s_lawstand zs RE S R) : b__law_stand s_choice s_draw s_lawproc zs RE S R := by
  obtain ⟨a, ps, rfl, hs, wf, hk⟩ := h
  unfold b__law_stand m__law_stand
  have p3 := wf.most
  walk_at "d"
  refine ⟨a, _, _, rfl, hs, rfl, by simp, by simp, fun y hy => ?_⟩
  have hw : ∃ w : Nat, y = .int w ∧ 1 ≤ w ∧ w ≤ 1000 := by
    simp only [List.mem_cons, List.not_mem_nil, or_false] at hy
    rcases hy with e | e | e
    · exact ⟨4, e, by omega, by omega⟩
    · exact ⟨8, e, by omega, by omega⟩
    · exact ⟨1000, e, by omega, by omega⟩
  obtain ⟨w, rfl, w1, w9⟩ := hw
  refine ⟨by omega, by omega, ?_⟩
  refine compZ_all (fun y => ∃ m : Nat, m ≤ 999 ∧ y = .int m) _ _ (by simp) (fun z hz => ⟨_, rfl, fun k' hk' => ?_⟩) fun ys hyl hys => ?_
  · walk_at "d"
    exact ⟨a, w, rfl, hs, by omega, by omega, fun i i0 i1 => hk' _ ⟨i.toNat, by omega, by rw [Int.toNat_of_nonneg i0]⟩⟩
  obtain ⟨ms, hms, rfl⟩ := map_of hys
  have l4 : ms.length = 4 := by simpa using hyl
  rw [List.nil_append]
  rw [show (List.map (fun r : Nat => Z.int r) ms) = natsZ ms from rfl]
  walk_at "v"
  refine ⟨_, _, ⟨rfl, rfl⟩, ps.map progZ, by unfold progsZ; exact itemsOf_tup, ?_⟩
  refine forZ_ind (fun i env S' => S' = S ∧ ∃ qs o6 o7 o8, qs.length = i ∧ QWf ps qs ∧ env = [some (.ref a), some (progsZ ps), some (.int w), some (.lst (natsZ ms)), some (.tup (qs.map zSlot)), some (.lst (natsZ (ownM qs))), o6, o7, o8, none]) _ 0 _ _
    ⟨rfl, [], _, _, _, rfl, ⟨fun _ _ _ _ h => by simp at h, by simp [ownM]⟩, rfl⟩ (fun i z hz env S' hI => ?_) (fun env S' hI => ?_)
  · obtain ⟨rfl, qs, o6, o7, o8, hqi, hq, rfl⟩ := hI
    rw [List.getElem?_map] at hz
    cases hp : ps[i]? with
    | none => rw [hp] at hz; cases hz
    | some p =>
      rw [hp] at hz
      cases hz
      have wp := wf.all p (List.mem_of_getElem? hp)
      have i3 : i < ps.length := (List.getElem?_eq_some_iff.mp hp).1
      have ql : qs.length = i := by omega
      have ol := ownM_len qs
      refine ⟨_, rfl, fun K' hnx hct hrt hbk => ?_⟩
      walk_at "d"
      refine ⟨a, _, _, rfl, hs, rfl, fun e => ?_, by simp [natsZ]; omega, fun y hy => ?_⟩
      · rw [show ms = [] from by simpa [natsZ] using e] at l4; simp at l4
      obtain ⟨m, hm, rfl⟩ := List.mem_map.mp hy
      have nil_case : K'.nx [some (.ref a), some (progsZ ps), some (.int w), some (.lst (natsZ ms)), some (.tup (qs.map zSlot ++ [.non])), some (.lst (natsZ (ownM qs))), some (progZ p), some (.int m), o8, none] S' := by
        refine hnx _ _ ⟨rfl, qs ++ [none], some (progZ p), some (.int m), o8, by simp; omega, hq.none, ?_⟩
        rw [ownM_none, List.map_append]
        rfl
      refine ⟨_, pIn_natsL m (ownM qs), ifB (fun hin => ?_) (fun hin => ?_)⟩
      · exact ⟨_, pAdd_t (by simp; omega), nil_case⟩
      · refine ⟨a, 4, rfl, hs, by omega, by omega, fun j j0 j1 => ?_⟩
        walk_at "v"
        refine ifB (fun hj => ?_) (fun hj => ?_)
        · exact ⟨_, pAdd_t (by simp; omega), nil_case⟩
        · refine ⟨a, p, ms, rfl, hs, wp.pos, wp.most, by omega, fun row note pocket ins hr hn hpk => ?_⟩
          walk_at "v"
          have c1 : cutZ [.int row, .int 0, zOpt note, zOpt pocket, .bl ins] none (some 1) = [.int row] := rfl
          have c2 : cutZ [.int row, .int 0, zOpt note, zOpt pocket, .bl ins] (some 2) none = [zOpt note, zOpt pocket, .bl ins] := rfl
          rw [c1, c2]
          refine ⟨_, pAdd_t (by simp), _, pAdd_t (by simp), _, pAdd_t (by simp; omega), _, pAdd_l (by simp [natsZ]; omega), ?_⟩
          have hm' : m ∉ ownM qs := of_decide_eq_false hin
          refine ⟨_, _, ⟨rfl, rfl⟩, ?_⟩
          refine hnx _ _ ⟨rfl, qs ++ [some ⟨row, m, note, pocket, ins⟩], some (progZ p), some (.int m), some (.tup [.int row, .int 0, zOpt note, zOpt pocket, .bl ins]), by simp; omega, hq.some (by rw [ql]; exact hp) ⟨hr, hms m hm, fun m' e => hms m' (hn m' e), fun m' e => hms m' (hpk m' e)⟩ hm', ?_⟩
          rw [ownM_snoc, List.map_append]
          rfl
  · obtain ⟨rfl, qs, o6, o7, o8, hqi, hq, rfl⟩ := hI
    walk_at "d"
    refine ⟨_, pAdd_l (by simp [natsZ]; omega), a, _, _, rfl, hs, rfl, by simp, by simp [natsZ]; omega, fun y hy => ?_⟩
    obtain ⟨o, rfl, ho⟩ := choice_opt hy
    have hl : qs.length = ps.length := by simpa using hqi
    exact hk ⟨o, qs⟩ ⟨hl, fun m e => hms m (ho m e), hq.proc, hq.nod⟩
theorem zOpt_val (o : Option Nat) : Val 0 12 (zOpt o) := by cases o <;> exact ⟨rfl, Nat.le_refl _, rfl⟩
theorem slot_val (o : Option Proc) : Val 1 12 (zSlot o) := by
  cases o with
  | none => exact ⟨rfl, Nat.zero_le _, rfl⟩
  | some q =>
    refine Val.tup (fun z hz => ?_) (by simp)
    simp only [List.mem_cons, List.not_mem_nil, or_false] at hz
    rcases hz with e | e | e | e | e <;> subst e <;> first | exact zOpt_val _ | exact ⟨rfl, Nat.le_refl _, rfl⟩
theorem stand_val {ps : List Prog} {st : Stand} (w : SWf ps st) (p : ps.length ≤ 3) : Val 3 12 st.z := by
  refine Val.tup (fun z hz => ?_) (by simp)
  simp only [List.mem_cons, List.not_mem_nil, or_false] at hz
  rcases hz with e | e <;> subst e
  · exact (zOpt_val _).mono (by omega) (by omega)
  · refine Val.tup (fun z hz => ?_) (by rw [List.length_map, w.len]; omega)
    obtain ⟨o, _, rfl⟩ := List.mem_map.mp hz
    exact slot_val o
end L3
namespace L3
open PySem PySem.Spec PyProof.Rows L2
theorem pEq_nn : pEq .non .non = some true := rfl
theorem pEq_ni {i : Int} : pEq .non (.int i) = some false := rfl
theorem pEq_in {i : Int} : pEq (.int i) .non = some false := rfl
theorem isNon_non' : isNon .non = true := rfl
theorem isNon_int {i : Int} : isNon (.int i) = false := rfl
local macro_rules | `(tactic| walk_at "d") => `(tactic| try simp only [szk_0, szk_1, szk_2, szk_3, szk_4, szk_5, szk_6, szk_7, szk_8, szk_9, szk_10, szk_11, szk_12, szk_13, szk_14, szk_15, szk_16, szk_17, szk_18, szk_19, szk_20, fromBody, dNil', dSeq, dSet, dRet, dRetN, dDrop, dIf, dVar, dC, dOp, dCmp, dCmpT, dChain, dChainT, dVal, dNotT, dAndT, dOrT, dAnd, dOr, dNot, dIfE, dNeg, dIx, dSl, dNoPart, dPart, dNil, dCons, dTup, dLst, dLstM, dCall, pure1, dCallF, dItSeq, dItRange, dItZip, dFor, dComp, dCompM, dYes, dAug, dPar, dSub, dRetF, dFrz, dAppend, dBrk, dCnt, wipeE, gN, dInTab, dIxTab, dCallL, dLenSet, dCount, dAddM, gL, dRaise, dTry, catchBy, dItEnum,
  pAdd_i, pEq_i, pNe_i, pIsN_of, pNotN_of, pEq_nn, pEq_ni, pEq_in, isNon_non', isNon_int, pSub_i, pLt_i, pLe_i, pGt_i, pGe_i, pAddI_i, pIsN_non, pNotN_non, pIsN_bl, pNotN_bl, pIsN_int, pNotN_int, pIsN_str, pNotN_str, pIsN_tup, pNotN_tup, pIsN_lst, pNotN_lst, pIsN_ref, pNotN_ref, pIsN_ty, pNotN_ty, pIsN_scr, pNotN_scr, pIsI_non_bool, pIsI_non_int, pIsI_non_str, pIsI_non_tuple, pIsI_non_list, pIsI_bl_bool, pIsI_bl_int, pIsI_bl_str, pIsI_bl_tuple, pIsI_bl_list, pIsI_int_bool, pIsI_int_int, pIsI_int_str, pIsI_int_tuple, pIsI_int_list, pIsI_str_bool, pIsI_str_int, pIsI_str_str, pIsI_str_tuple, pIsI_str_list, pIsI_tup_bool, pIsI_tup_int, pIsI_tup_str, pIsI_tup_tuple, pIsI_tup_list, pIsI_lst_bool, pIsI_lst_int, pIsI_lst_str, pIsI_lst_tuple, pIsI_lst_list, pLen_tup, pIx_tup, pList_tup, pTuple_tup, seqOf_tup, pLen_lst, pIx_lst, pList_lst, pTuple_lst, seqOf_lst, pLen_scr, pIx_scr, pList_scr, pTuple_scr, seqOf_scr, pSl_tup, itemsOf_tup, pSl_lst, itemsOf_lst, pAbs_i, pInt_i, pInt_b, pMin2_i, gT_tup, gsCons_cons, gsNil_nil, getE_0, getE_s,
  Option.some.injEq, exists_eq_left', exists_eq_left, Z.int.injEq, Z.bl.injEq, Z.str.injEq, Z.tup.injEq, Z.lst.injEq, Z.ref.injEq, Option.map_some, Option.bind_some, List.set_cons_zero, List.set_cons_succ, List.map_cons, List.map_nil, List.cons_append, List.nil_append, List.length_cons, List.length_nil, List.replicate_succ, List.replicate_zero, true_and, and_true, if_true, Nat.reduceAdd, Nat.reduceSub, Bool.false_eq_true, if_false, ite_true, ite_false, List.cons.injEq, reduceIte, Bool.not_true, Bool.not_false])
local macro_rules | `(tactic| walk_at "v") => `(tactic| try simp only [szk_0, szk_1, szk_2, szk_3, szk_4, szk_5, szk_6, szk_7, szk_8, szk_9, szk_10, szk_11, szk_12, szk_13, szk_14, szk_15, szk_16, szk_17, szk_18, szk_19, szk_20, 
  pAdd_i, pEq_i, pNe_i, pIsN_of, pNotN_of, pEq_nn, pEq_ni, pEq_in, isNon_non', isNon_int, pSub_i, pLt_i, pLe_i, pGt_i, pGe_i, pAddI_i, pIsN_non, pNotN_non, pIsN_bl, pNotN_bl, pIsN_int, pNotN_int, pIsN_str, pNotN_str, pIsN_tup, pNotN_tup, pIsN_lst, pNotN_lst, pIsN_ref, pNotN_ref, pIsN_ty, pNotN_ty, pIsN_scr, pNotN_scr, pIsI_non_bool, pIsI_non_int, pIsI_non_str, pIsI_non_tuple, pIsI_non_list, pIsI_bl_bool, pIsI_bl_int, pIsI_bl_str, pIsI_bl_tuple, pIsI_bl_list, pIsI_int_bool, pIsI_int_int, pIsI_int_str, pIsI_int_tuple, pIsI_int_list, pIsI_str_bool, pIsI_str_int, pIsI_str_str, pIsI_str_tuple, pIsI_str_list, pIsI_tup_bool, pIsI_tup_int, pIsI_tup_str, pIsI_tup_tuple, pIsI_tup_list, pIsI_lst_bool, pIsI_lst_int, pIsI_lst_str, pIsI_lst_tuple, pIsI_lst_list, pLen_tup, pIx_tup, pList_tup, pTuple_tup, seqOf_tup, pLen_lst, pIx_lst, pList_lst, pTuple_lst, seqOf_lst, pLen_scr, pIx_scr, pList_scr, pTuple_scr, seqOf_scr, pSl_tup, itemsOf_tup, pSl_lst, itemsOf_lst, pAbs_i, pInt_i, pInt_b, pMin2_i, gT_tup, gsCons_cons, gsNil_nil, getE_0, getE_s, atI_0, atI_1, atI_2, atI_3, atI_4, sUpd_same,
  Option.some.injEq, exists_eq_left', exists_eq_left, Z.int.injEq, Z.bl.injEq, Z.str.injEq, Z.tup.injEq, Z.lst.injEq, Z.ref.injEq, Option.map_some, Option.bind_some, List.set_cons_zero, List.set_cons_succ, List.map_cons, List.map_nil, List.cons_append, List.nil_append, List.length_cons, List.length_nil, List.replicate_succ, List.replicate_zero, true_and, and_true, if_true, Nat.reduceAdd, Nat.reduceSub, Bool.false_eq_true, if_false, ite_true, ite_false, List.cons.injEq, reduceIte, Bool.not_true, Bool.not_false])
set_option maxHeartbeats 2000000
/-! ### what a row does -/
abbrev ON := Option Nat
structure Act where
  went : Bool
  lock : ON
  note : ON
  pocket : ON
def Act.z (a : Act) : Z := .tup [.bl a.went, zOpt a.lock, zOpt a.note, zOpt a.pocket]
def act (w : Word) (lock : ON) (own : Nat) (note pocket : ON) (live : List Nat) (judged : Bool) : Act := match w with
  | .make => ⟨lock.isNone, if lock.isNone then some own else lock, note, pocket⟩
  | .read => ⟨lock.isSome, lock, if lock.isNone then note else lock, pocket⟩
  | .same => ⟨lock.isSome && decide (lock = note), lock, note, pocket⟩
  | .mine => ⟨decide (lock = some own), lock, note, pocket⟩
  | .drop => ⟨true, none, note, pocket⟩
  | .dropsame => ⟨lock.isSome && decide (lock = note), if lock.isSome && decide (lock = note) then none else lock, note, pocket⟩
  | .swap => ⟨lock.isSome && decide (lock = note), if lock.isSome && decide (lock = note) then some own else lock, note, pocket⟩
  | .move => ⟨lock.isSome, none, note, if lock.isNone then pocket else lock⟩
  | .back => ⟨lock.isNone && pocket.isSome, if lock.isNone && pocket.isSome then pocket else lock, note, if lock.isNone && pocket.isSome then none else pocket⟩
  | .caught => ⟨pocket.isSome && decide (pocket = note), lock, note, pocket⟩
  | .dead => ⟨match note with | some n => !decide (n ∈ live) | none => false, lock, note, pocket⟩
  | .old => ⟨judged, lock, note, pocket⟩
  | .go => ⟨false, lock, note, pocket⟩
  | .enter => ⟨true, lock, note, pocket⟩
  | .leave => ⟨true, lock, note, pocket⟩
def s_rowF (w : Word) : DF := fun zs RE S k => ∃ (lock : ON) (own : Nat) (note pocket : ON), zs = [zOpt lock, .int own, zOpt note, zOpt pocket] ∧ k (act w lock own note pocket [] false).z S
theorem ok_row_make (zs RE S R) (h : s_rowF .make zs RE S R) : b_row_make zs RE S R := by
  unfold b_row_make
  obtain ⟨lock, own, note, pocket, rfl, hk⟩ := h
  cases lock <;> cases note <;> cases pocket <;> simp only [zOpt] <;> unfold m_row_make <;> walk_at "d" <;> simp only [act, Act.z, zOpt, Option.isNone_none, Option.isNone_some, Option.isSome_none, Option.isSome_some, Bool.true_and, Bool.false_and, if_true, if_false, Bool.false_eq_true, ite_true, ite_false] at hk <;>
  first | exact hk | (simp only [Int.natCast_inj, Option.some.injEq] at hk ⊢; exact hk) | (simpa using hk) | (refine ifB (fun e => ?_) (fun e => ?_) <;> simp only [decide_eq_true_eq, decide_eq_false_iff_not, Int.natCast_inj] at e <;> simpa [e, zOpt] using hk) | (split <;> rename_i e <;> simp only [decide_eq_true_eq, Int.natCast_inj] at e <;> simpa [e, zOpt, Int.natCast_inj] using hk)
theorem ok_row_read (zs RE S R) (h : s_rowF .read zs RE S R) : b_row_read zs RE S R := by
  unfold b_row_read
  obtain ⟨lock, own, note, pocket, rfl, hk⟩ := h
  cases lock <;> cases note <;> cases pocket <;> simp only [zOpt] <;> unfold m_row_read <;> walk_at "d" <;> simp only [act, Act.z, zOpt, Option.isNone_none, Option.isNone_some, Option.isSome_none, Option.isSome_some, Bool.true_and, Bool.false_and, if_true, if_false, Bool.false_eq_true, ite_true, ite_false] at hk <;>
  first | exact hk | (simp only [Int.natCast_inj, Option.some.injEq] at hk ⊢; exact hk) | (simpa using hk) | (refine ifB (fun e => ?_) (fun e => ?_) <;> simp only [decide_eq_true_eq, decide_eq_false_iff_not, Int.natCast_inj] at e <;> simpa [e, zOpt] using hk) | (split <;> rename_i e <;> simp only [decide_eq_true_eq, Int.natCast_inj] at e <;> simpa [e, zOpt, Int.natCast_inj] using hk)
theorem ok_row_same (zs RE S R) (h : s_rowF .same zs RE S R) : b_row_same zs RE S R := by
  unfold b_row_same
  obtain ⟨lock, own, note, pocket, rfl, hk⟩ := h
  cases lock <;> cases note <;> cases pocket <;> simp only [zOpt] <;> unfold m_row_same <;> walk_at "d" <;> simp only [act, Act.z, zOpt, Option.isNone_none, Option.isNone_some, Option.isSome_none, Option.isSome_some, Bool.true_and, Bool.false_and, if_true, if_false, Bool.false_eq_true, ite_true, ite_false] at hk <;>
  first | exact hk | (simp only [Int.natCast_inj, Option.some.injEq] at hk ⊢; exact hk) | (simpa using hk) | (refine ifB (fun e => ?_) (fun e => ?_) <;> simp only [decide_eq_true_eq, decide_eq_false_iff_not, Int.natCast_inj] at e <;> simpa [e, zOpt] using hk) | (split <;> rename_i e <;> simp only [decide_eq_true_eq, Int.natCast_inj] at e <;> simpa [e, zOpt, Int.natCast_inj] using hk)
theorem ok_row_mine (zs RE S R) (h : s_rowF .mine zs RE S R) : b_row_mine zs RE S R := by
  unfold b_row_mine
  obtain ⟨lock, own, note, pocket, rfl, hk⟩ := h
  cases lock <;> cases note <;> cases pocket <;> simp only [zOpt] <;> unfold m_row_mine <;> walk_at "d" <;> simp only [act, Act.z, zOpt, Option.isNone_none, Option.isNone_some, Option.isSome_none, Option.isSome_some, Bool.true_and, Bool.false_and, if_true, if_false, Bool.false_eq_true, ite_true, ite_false] at hk <;>
  first | exact hk | (simp only [Int.natCast_inj, Option.some.injEq] at hk ⊢; exact hk) | (simpa using hk) | (refine ifB (fun e => ?_) (fun e => ?_) <;> simp only [decide_eq_true_eq, decide_eq_false_iff_not, Int.natCast_inj] at e <;> simpa [e, zOpt] using hk) | (split <;> rename_i e <;> simp only [decide_eq_true_eq, Int.natCast_inj] at e <;> simpa [e, zOpt, Int.natCast_inj] using hk)
theorem ok_row_drop (zs RE S R) (h : s_rowF .drop zs RE S R) : b_row_drop zs RE S R := by
  unfold b_row_drop
  obtain ⟨lock, own, note, pocket, rfl, hk⟩ := h
  cases lock <;> cases note <;> cases pocket <;> simp only [zOpt] <;> unfold m_row_drop <;> walk_at "d" <;> simp only [act, Act.z, zOpt, Option.isNone_none, Option.isNone_some, Option.isSome_none, Option.isSome_some, Bool.true_and, Bool.false_and, if_true, if_false, Bool.false_eq_true, ite_true, ite_false] at hk <;>
  first | exact hk | (simp only [Int.natCast_inj, Option.some.injEq] at hk ⊢; exact hk) | (simpa using hk) | (refine ifB (fun e => ?_) (fun e => ?_) <;> simp only [decide_eq_true_eq, decide_eq_false_iff_not, Int.natCast_inj] at e <;> simpa [e, zOpt] using hk) | (split <;> rename_i e <;> simp only [decide_eq_true_eq, Int.natCast_inj] at e <;> simpa [e, zOpt, Int.natCast_inj] using hk)
theorem ok_row_drop_same (zs RE S R) (h : s_rowF .dropsame zs RE S R) : b_row_drop_same zs RE S R := by
  unfold b_row_drop_same
  obtain ⟨lock, own, note, pocket, rfl, hk⟩ := h
  cases lock <;> cases note <;> cases pocket <;> simp only [zOpt] <;> unfold m_row_drop_same <;> walk_at "d" <;> simp only [act, Act.z, zOpt, Option.isNone_none, Option.isNone_some, Option.isSome_none, Option.isSome_some, Bool.true_and, Bool.false_and, if_true, if_false, Bool.false_eq_true, ite_true, ite_false] at hk <;>
  first | exact hk | (simp only [Int.natCast_inj, Option.some.injEq] at hk ⊢; exact hk) | (simpa using hk) | (refine ifB (fun e => ?_) (fun e => ?_) <;> simp only [decide_eq_true_eq, decide_eq_false_iff_not, Int.natCast_inj] at e <;> simpa [e, zOpt] using hk) | (split <;> rename_i e <;> simp only [decide_eq_true_eq, Int.natCast_inj] at e <;> simpa [e, zOpt, Int.natCast_inj] using hk)
theorem ok_row_swap (zs RE S R) (h : s_rowF .swap zs RE S R) : b_row_swap zs RE S R := by
  unfold b_row_swap
  obtain ⟨lock, own, note, pocket, rfl, hk⟩ := h
  cases lock <;> cases note <;> cases pocket <;> simp only [zOpt] <;> unfold m_row_swap <;> walk_at "d" <;> simp only [act, Act.z, zOpt, Option.isNone_none, Option.isNone_some, Option.isSome_none, Option.isSome_some, Bool.true_and, Bool.false_and, if_true, if_false, Bool.false_eq_true, ite_true, ite_false] at hk <;>
  first | exact hk | (simp only [Int.natCast_inj, Option.some.injEq] at hk ⊢; exact hk) | (simpa using hk) | (refine ifB (fun e => ?_) (fun e => ?_) <;> simp only [decide_eq_true_eq, decide_eq_false_iff_not, Int.natCast_inj] at e <;> simpa [e, zOpt] using hk) | (split <;> rename_i e <;> simp only [decide_eq_true_eq, Int.natCast_inj] at e <;> simpa [e, zOpt, Int.natCast_inj] using hk)
theorem ok_row_move (zs RE S R) (h : s_rowF .move zs RE S R) : b_row_move zs RE S R := by
  unfold b_row_move
  obtain ⟨lock, own, note, pocket, rfl, hk⟩ := h
  cases lock <;> cases note <;> cases pocket <;> simp only [zOpt] <;> unfold m_row_move <;> walk_at "d" <;> simp only [act, Act.z, zOpt, Option.isNone_none, Option.isNone_some, Option.isSome_none, Option.isSome_some, Bool.true_and, Bool.false_and, if_true, if_false, Bool.false_eq_true, ite_true, ite_false] at hk <;>
  first | exact hk | (simp only [Int.natCast_inj, Option.some.injEq] at hk ⊢; exact hk) | (simpa using hk) | (refine ifB (fun e => ?_) (fun e => ?_) <;> simp only [decide_eq_true_eq, decide_eq_false_iff_not, Int.natCast_inj] at e <;> simpa [e, zOpt] using hk) | (split <;> rename_i e <;> simp only [decide_eq_true_eq, Int.natCast_inj] at e <;> simpa [e, zOpt, Int.natCast_inj] using hk)
theorem ok_row_back (zs RE S R) (h : s_rowF .back zs RE S R) : b_row_back zs RE S R := by
  unfold b_row_back
  obtain ⟨lock, own, note, pocket, rfl, hk⟩ := h
  cases lock <;> cases note <;> cases pocket <;> simp only [zOpt] <;> unfold m_row_back <;> walk_at "d" <;> simp only [act, Act.z, zOpt, Option.isNone_none, Option.isNone_some, Option.isSome_none, Option.isSome_some, Bool.true_and, Bool.false_and, if_true, if_false, Bool.false_eq_true, ite_true, ite_false] at hk <;>
  first | exact hk | (simp only [Int.natCast_inj, Option.some.injEq] at hk ⊢; exact hk) | (simpa using hk) | (refine ifB (fun e => ?_) (fun e => ?_) <;> simp only [decide_eq_true_eq, decide_eq_false_iff_not, Int.natCast_inj] at e <;> simpa [e, zOpt] using hk) | (split <;> rename_i e <;> simp only [decide_eq_true_eq, Int.natCast_inj] at e <;> simpa [e, zOpt, Int.natCast_inj] using hk)
theorem ok_row_caught (zs RE S R) (h : s_rowF .caught zs RE S R) : b_row_caught zs RE S R := by
  unfold b_row_caught
  obtain ⟨lock, own, note, pocket, rfl, hk⟩ := h
  cases lock <;> cases note <;> cases pocket <;> simp only [zOpt] <;> unfold m_row_caught <;> walk_at "d" <;> simp only [act, Act.z, zOpt, Option.isNone_none, Option.isNone_some, Option.isSome_none, Option.isSome_some, Bool.true_and, Bool.false_and, if_true, if_false, Bool.false_eq_true, ite_true, ite_false] at hk <;>
  first | exact hk | (simp only [Int.natCast_inj, Option.some.injEq] at hk ⊢; exact hk) | (simpa using hk) | (refine ifB (fun e => ?_) (fun e => ?_) <;> simp only [decide_eq_true_eq, decide_eq_false_iff_not, Int.natCast_inj] at e <;> simpa [e, zOpt] using hk) | (split <;> rename_i e <;> simp only [decide_eq_true_eq, Int.natCast_inj] at e <;> simpa [e, zOpt, Int.natCast_inj] using hk)
theorem pIn_opt {S : Sm} (o : ON) (rs : List Nat) : pIn S (zOpt o) (.lst (natsZ rs)) = some (match o with | some n => decide (n ∈ rs) | none => false) := by
  cases o with
  | some n => exact pIn_natsL n rs
  | none =>
    have := natsZ_dep rs
    show pIn S .non _ = _
    rw [pIn_of (ys := natsZ rs) rfl rfl (natsZ_dat rs) (Nat.zero_le _) (by omega)]
    unfold inZ natsZ
    rw [List.any_map]
    simp [zeq]
structure Don where
  lock : ON
  proc : Proc
def doneF (r : Row) (lock : ON) (q : Proc) (live : List Nat) (jb : Bool) : Don :=
  ⟨(act r.w lock q.mark q.note q.pocket live jb).lock, ⟨if (act r.w lock q.mark q.note q.pocket live jb).went then q.row + 1 else r.t, q.mark, (act r.w lock q.mark q.note q.pocket live jb).note, (act r.w lock q.mark q.note q.pocket live jb).pocket, match r.w with | .enter => true | .leave => false | _ => q.ins⟩⟩
def s_done : DF := fun zs RE S k => ∃ (r : Row) (lock : ON) (q : Proc) (live : List Nat) (j : Z) (jb : Bool), zs = [r.bareZ, zOpt lock, q.z, .lst (natsZ live), j] ∧ (r.w = .old → j = .bl jb) ∧ k (.tup [zOpt (doneF r lock q live jb).lock, (doneF r lock q live jb).proc.z]) S
theorem Row.head_w (r : Row) {S : Sm} : pIx S r.bareZ (.int 0) = some (.str r.w.s) := by
  unfold Row.bareZ
  split <;> rw [pIx_tup] <;> exact atI_0
theorem Row.t_w (r : Row) {S : Sm} (h : r.w.bare = false) : pIx S r.bareZ (.int 1) = some (.int r.t) := by
  unfold Row.bareZ
  rw [if_neg (by simp [h]), pIx_tup]
  exact atI_1
def tabO : Word → Option Str
  | .make => some "row_make" | .read => some "row_read" | .same => some "row_same" | .mine => some "row_mine" | .drop => some "row_drop" | .swap => some "row_swap" | .dropsame => some "row_drop_same"
  | .move => some "row_move" | .back => some "row_back" | .caught => some "row_caught" | _ => none
theorem tab_w (w : Word) : tab_ACTIONS.lookup w.s = some (tabO w) := by cases w <;> decide +kernel
theorem act_any (w : Word) (h : (tabO w).isSome = true) (lock : ON) (own : Nat) (note pocket : ON) (live live' : List Nat) (jb jb' : Bool) : act w lock own note pocket live jb = act w lock own note pocket live' jb' := by
  cases w <;> first | rfl | (simp [tabO] at h)
theorem eqW (w v : Word) : pEq (.str w.s) (.str v.s) = some (decide (w = v)) := by
  rw [pEq_of w.dat v.dat (Nat.zero_le _) (Nat.zero_le _)]
  cases w <;> cases v <;> rfl
theorem mem_tab (w : Word) {f : Str} (h : tabO w = some f) : (f, s_rowF w) ∈ ([("row_make", s_rowF .make), ("row_read", s_rowF .read), ("row_same", s_rowF .same), ("row_mine", s_rowF .mine), ("row_drop", s_rowF .drop), ("row_swap", s_rowF .swap), ("row_drop_same", s_rowF .dropsame), ("row_move", s_rowF .move), ("row_back", s_rowF .back), ("row_caught", s_rowF .caught)] : List (Str × DF)) := by
  cases w <;> simp only [tabO, Option.some.injEq, reduceCtorEq] at h <;> subst h <;> simp
theorem pNotIn_opt {S : Sm} (o : ON) (rs : List Nat) : pNotIn S (zOpt o) (.lst (natsZ rs)) = some (!(match o with | some n => decide (n ∈ rs) | none => false)) := by
  unfold pNotIn
  rw [pIn_opt]; rfl
theorem ok_done (FA : Str → Addr → Prop) (zs RE S R) (h : s_done zs RE S R) : b_done FA (s_rowF .make) (s_rowF .read) (s_rowF .same) (s_rowF .mine) (s_rowF .drop) (s_rowF .swap) (s_rowF .dropsame) (s_rowF .move) (s_rowF .back) (s_rowF .caught) zs RE S R := by
  obtain ⟨r, lock, q, live, j, jb, rfl, hj, hk⟩ := h
  unfold b_done m_done Proc.z
  walk_at "d"
  refine ⟨_, r.head_w, ?_⟩
  refine ⟨_, _, rfl, tab_w r.w, ?_⟩
  -- what is given back
  have fin : ∀ a : Act, a = act r.w lock q.mark q.note q.pocket live jb → (r.w.bare = true → a.went = true) → ∀ (wi : Bool), wi = (match r.w with | .enter => true | .leave => false | _ => q.ins) →
      (if a.went = true then R (.tup [zOpt a.lock, .tup [.int (q.row + 1), .int q.mark, zOpt a.note, zOpt a.pocket, .bl wi]]) S else ∃ z, pIx S r.bareZ (.int 1) = some z ∧ R (.tup [zOpt a.lock, .tup [z, .int q.mark, zOpt a.note, zOpt a.pocket, .bl wi]]) S) := fun a ha hb wi hwi => by
    subst hwi
    subst ha
    unfold doneF at hk
    cases hw : (act r.w lock q.mark q.note q.pocket live jb).went with
    | true =>
      rw [hw] at hk
      refine ifT rfl ?_
      simpa [Proc.z] using hk
    | false =>
      rw [hw] at hk
      refine ifF (by simp) ⟨_, r.t_w ?_, ?_⟩
      · cases e : r.w.bare with
        | false => rfl
        | true => rw [hb e] at hw; cases hw
      · simpa [Proc.z] using hk
  cases ho : tabO r.w with
  | some f =>
    walk_at "v"
    simp only [Option.isSome_some, if_true]
    refine ⟨_, f, rfl, by rw [tab_w, ho], fun a ha => ?_⟩
    have hsome : (tabO r.w).isSome = true := by rw [ho]; rfl
    refine ⟨a, f, s_rowF r.w, rfl, mem_tab r.w ho, ha, lock, q.mark, q.note, q.pocket, rfl, ?_⟩
    have ea := act_any r.w hsome lock q.mark q.note q.pocket [] live false jb
    unfold Act.z
    walk_at "v"
    have F := fin _ ea (fun hb => ?_) q.ins ?_
    · refine ⟨_, rfl, ?_⟩
      walk_at "d"
      exact F
    · rw [ea]
      cases e : r.w <;> rw [e] at hb hsome <;> simp [Word.bare, tabO] at hb hsome
      rfl
    · cases e : r.w <;> rw [e] at hsome <;> simp [tabO] at hsome <;> rfl
  | none =>
    simp only [Option.isSome_none, Bool.false_eq_true, if_false]
    refine ⟨_, eqW r.w .dead, ifB (fun e => ?_) (fun e1 => ?_)⟩
    · have e' : r.w = .dead := of_decide_eq_true e
      have F := fin _ rfl (by rw [e']; intro h; cases h) q.ins (by rw [e'])
      rw [e'] at F
      cases hn : q.note with
      | none =>
        rw [hn] at F
        simpa [act, zOpt, isNon] using F
      | some n =>
        rw [hn] at F
        simp only [zOpt, isNon, Bool.not_false, if_true]
        refine ⟨_, pNotIn_opt (some n) live, ?_⟩
        simpa [act, zOpt] using F
    refine ⟨_, eqW r.w .old, ifB (fun e => ?_) (fun e2 => ?_)⟩
    · have e' : r.w = .old := of_decide_eq_true e
      have F := fin _ rfl (by rw [e']; intro h; cases h) q.ins (by rw [e'])
      rw [e'] at F
      rw [hj e']
      walk_at "v"
      cases jb <;> simpa [act] using F
    refine ⟨_, eqW r.w .go, ifB (fun e => ?_) (fun e3 => ?_)⟩
    · have e' : r.w = .go := of_decide_eq_true e
      have F := fin _ rfl (by rw [e']; intro h; cases h) q.ins (by rw [e'])
      rw [e'] at F
      simpa [act] using F
    refine ⟨_, eqW r.w .enter, ?_⟩
    have hw : r.w = .enter ∨ r.w = .leave := by
      have f1 := of_decide_eq_false e1
      have f2 := of_decide_eq_false e2
      have f3 := of_decide_eq_false e3
      cases e : r.w <;> rw [e] at ho f1 f2 f3 <;> simp [tabO] at ho f1 f2 f3 <;> simp
    rcases hw with e' | e'
    · have F := fin _ rfl (by rw [e']; intro h; rfl) true (by rw [e'])
      rw [e'] at F ⊢
      simpa [act] using F
    · have F := fin _ rfl (by rw [e']; intro h; rfl) false (by rw [e'])
      rw [e'] at F ⊢
      simpa [act] using F
end L3
namespace L3
open PySem PySem.Spec PyProof.Rows L2
local macro_rules | `(tactic| walk_at "d") => `(tactic| try simp only [szk_0, szk_1, szk_2, szk_3, szk_4, szk_5, szk_6, szk_7, szk_8, szk_9, szk_10, szk_11, szk_12, szk_13, szk_14, szk_15, szk_16, szk_17, szk_18, szk_19, szk_20, fromBody, dNil', dSeq, dSet, dRet, dRetN, dDrop, dIf, dVar, dC, dOp, dCmp, dCmpT, dChain, dChainT, dVal, dNotT, dAndT, dOrT, dAnd, dOr, dNot, dIfE, dNeg, dIx, dSl, dNoPart, dPart, dNil, dCons, dTup, dLst, dLstM, dCall, pure1, dCallF, dItSeq, dItRange, dItZip, dFor, dComp, dCompM, dYes, dAug, dPar, dSub, dRetF, dFrz, dAppend, dBrk, dCnt, wipeE, gN, dInTab, dIxTab, dCallL, dLenSet, dCount, dAddM, gL, dRaise, dTry, catchBy, dItEnum,
  pAdd_i, pEq_i, pNe_i, pIsN_of, pNotN_of, pEq_nn, pEq_ni, pEq_in, isNon_non', isNon_int, pSub_i, pLt_i, pLe_i, pGt_i, pGe_i, pAddI_i, pIsN_non, pNotN_non, pIsN_bl, pNotN_bl, pIsN_int, pNotN_int, pIsN_str, pNotN_str, pIsN_tup, pNotN_tup, pIsN_lst, pNotN_lst, pIsN_ref, pNotN_ref, pIsN_ty, pNotN_ty, pIsN_scr, pNotN_scr, pIsI_non_bool, pIsI_non_int, pIsI_non_str, pIsI_non_tuple, pIsI_non_list, pIsI_bl_bool, pIsI_bl_int, pIsI_bl_str, pIsI_bl_tuple, pIsI_bl_list, pIsI_int_bool, pIsI_int_int, pIsI_int_str, pIsI_int_tuple, pIsI_int_list, pIsI_str_bool, pIsI_str_int, pIsI_str_str, pIsI_str_tuple, pIsI_str_list, pIsI_tup_bool, pIsI_tup_int, pIsI_tup_str, pIsI_tup_tuple, pIsI_tup_list, pIsI_lst_bool, pIsI_lst_int, pIsI_lst_str, pIsI_lst_tuple, pIsI_lst_list, pLen_tup, pIx_tup, pList_tup, pTuple_tup, seqOf_tup, pLen_lst, pIx_lst, pList_lst, pTuple_lst, seqOf_lst, pLen_scr, pIx_scr, pList_scr, pTuple_scr, seqOf_scr, pSl_tup, itemsOf_tup, pSl_lst, itemsOf_lst, pAbs_i, pInt_i, pInt_b, pMin2_i, gT_tup, gsCons_cons, gsNil_nil, getE_0, getE_s,
  Option.some.injEq, exists_eq_left', exists_eq_left, Z.int.injEq, Z.bl.injEq, Z.str.injEq, Z.tup.injEq, Z.lst.injEq, Z.ref.injEq, Option.map_some, Option.bind_some, List.set_cons_zero, List.set_cons_succ, List.map_cons, List.map_nil, List.cons_append, List.nil_append, List.length_cons, List.length_nil, List.replicate_succ, List.replicate_zero, true_and, and_true, if_true, Nat.reduceAdd, Nat.reduceSub, Bool.false_eq_true, if_false, ite_true, ite_false, List.cons.injEq, reduceIte, Bool.not_true, Bool.not_false])
local macro_rules | `(tactic| walk_at "v") => `(tactic| try simp only [szk_0, szk_1, szk_2, szk_3, szk_4, szk_5, szk_6, szk_7, szk_8, szk_9, szk_10, szk_11, szk_12, szk_13, szk_14, szk_15, szk_16, szk_17, szk_18, szk_19, szk_20, 
  pAdd_i, pEq_i, pNe_i, pIsN_of, pNotN_of, pEq_nn, pEq_ni, pEq_in, isNon_non', isNon_int, pSub_i, pLt_i, pLe_i, pGt_i, pGe_i, pAddI_i, pIsN_non, pNotN_non, pIsN_bl, pNotN_bl, pIsN_int, pNotN_int, pIsN_str, pNotN_str, pIsN_tup, pNotN_tup, pIsN_lst, pNotN_lst, pIsN_ref, pNotN_ref, pIsN_ty, pNotN_ty, pIsN_scr, pNotN_scr, pIsI_non_bool, pIsI_non_int, pIsI_non_str, pIsI_non_tuple, pIsI_non_list, pIsI_bl_bool, pIsI_bl_int, pIsI_bl_str, pIsI_bl_tuple, pIsI_bl_list, pIsI_int_bool, pIsI_int_int, pIsI_int_str, pIsI_int_tuple, pIsI_int_list, pIsI_str_bool, pIsI_str_int, pIsI_str_str, pIsI_str_tuple, pIsI_str_list, pIsI_tup_bool, pIsI_tup_int, pIsI_tup_str, pIsI_tup_tuple, pIsI_tup_list, pIsI_lst_bool, pIsI_lst_int, pIsI_lst_str, pIsI_lst_tuple, pIsI_lst_list, pLen_tup, pIx_tup, pList_tup, pTuple_tup, seqOf_tup, pLen_lst, pIx_lst, pList_lst, pTuple_lst, seqOf_lst, pLen_scr, pIx_scr, pList_scr, pTuple_scr, seqOf_scr, pSl_tup, itemsOf_tup, pSl_lst, itemsOf_lst, pAbs_i, pInt_i, pInt_b, pMin2_i, gT_tup, gsCons_cons, gsNil_nil, getE_0, getE_s, atI_0, atI_1, atI_2, atI_3, atI_4, sUpd_same,
  Option.some.injEq, exists_eq_left', exists_eq_left, Z.int.injEq, Z.bl.injEq, Z.str.injEq, Z.tup.injEq, Z.lst.injEq, Z.ref.injEq, Option.map_some, Option.bind_some, List.set_cons_zero, List.set_cons_succ, List.map_cons, List.map_nil, List.cons_append, List.nil_append, List.length_cons, List.length_nil, List.replicate_succ, List.replicate_zero, true_and, and_true, if_true, Nat.reduceAdd, Nat.reduceSub, Bool.false_eq_true, if_false, ite_true, ite_false, List.cons.injEq, reduceIte, Bool.not_true, Bool.not_false])
set_option maxHeartbeats 2000000
/-! ### rows on end -/
def Word.alone : Word → Bool
  | .old => true | .enter => true | .leave => true
  | _ => false
structure Adv where
  lock : ON
  proc : Proc
/-- does it go on behind row r (at place at) with the process q'? -/
def goOn (p : Prog) (r : Row) (at_ : Nat) (q' : Proc) : Bool := r.j && (!decide (r.w = .enter) && (decide (q'.row = at_ + 1) && (match p[q'.row]? with | some r' => !r'.w.alone | none => false)))
def advF (p : Prog) (live : List Nat) (jb : Bool) : Nat → ON → Proc → Adv
  | 0, lock, q => ⟨lock, q⟩
  | n + 1, lock, q => match p[q.row]? with
    | none => ⟨lock, q⟩
    | some r => if goOn p r q.row (doneF r lock q live jb).proc then advF p live jb n (doneF r lock q live jb).lock (doneF r lock q live jb).proc else ⟨(doneF r lock q live jb).lock, (doneF r lock q live jb).proc⟩
def endF (p : Prog) (q : Proc) : Option Proc := if q.row = p.length then none else some q
theorem doneF_row {p : Prog} (wf : PWf p) {r : Row} (hr : r ∈ p) {at_ : Nat} (lock : ON) (q : Proc) (hq : q.row < p.length) (live : List Nat) (jb : Bool) : (doneF r lock q live jb).proc.row ≤ p.length := by
  have h1 := (wf.rows r hr).le
  unfold doneF
  simp only
  split <;> omega
def s_wordat : DF := fun zs RE S k => ∃ (p : Prog) (i : Nat) (r : Row), zs = [progZ p, .int i] ∧ p[i]? = some r ∧ k (.str r.w.s) S
theorem pIx_prog {S : Sm} {p : Prog} {i : Nat} {r : Row} (h : p[i]? = some r) : pIx S (progZ p) (.int i) = some r.z := by
  unfold progZ
  rw [pIx_tup]
  exact atI_nat (by rw [List.getElem?_map, h]; rfl)
theorem ok_wordat (zs RE S R) (h : s_wordat zs RE S R) : b_word_at s_barerow zs RE S R := by
  obtain ⟨p, i, r, rfl, hr, hk⟩ := h
  unfold b_word_at m_word_at
  walk_at "d"
  exact ⟨_, pIx_prog hr, r, rfl, _, r.head_w, hk⟩
theorem pIx_row0 {S : Sm} (r : Row) : ∃ x, pIx S r.z (.int 0) = some x ∧ pEq x (.str "join") = some r.j := by
  obtain ⟨x, xs, e, hd, hp, hj, _, _⟩ := row_head r
  refine ⟨x, by rw [e, pIx_tup]; exact atI_0, ?_⟩
  rw [pEq_of hd dat_join (by omega) (Nat.zero_le _), hj]
theorem alone_in (w : Word) {S : Sm} : pNotIn S (.str w.s) g_ALONE = some (!w.alone) := by
  rw [pNotIn_of (ys := [.str "old", .str "enter", .str "leave"]) rfl w.dat (by decide +kernel) (Nat.zero_le _) (by decide)]
  cases w <;> rfl
def s_advanced : DF := fun zs RE S k => ∃ (p : Prog) (lock : ON) (q : Proc) (live : List Nat) (j : Z) (jb : Bool) (r : Row), zs = [progZ p, zOpt lock, q.z, .lst (natsZ live), j] ∧ PWf p ∧ p[q.row]? = some r ∧ (r.w = .old → j = .bl jb) ∧
  k (.tup [zOpt (advF p live jb p.length lock q).lock, zSlot (endF p (advF p live jb p.length lock q).proc)]) S
theorem neW (w v : Word) : pNe (.str w.s) (.str v.s) = some (!decide (w = v)) := by
  rw [pNe_of w.dat v.dat (Nat.zero_le _) (Nat.zero_le _)]
  cases w <;> cases v <;> rfl
theorem Proc.row_ix {S : Sm} (q : Proc) : pIx S q.z (.int 0) = some (.int q.row) := by unfold Proc.z; rw [pIx_tup]; exact atI_0
theorem ok_advanced (zs RE S R) (h : s_advanced zs RE S R) : b_advanced s_done s_barerow s_wordat zs RE S R := by
  obtain ⟨p, lock, q, live, j, jb, r0, rfl, wf, hr0, hj, hk⟩ := h
  unfold b_advanced m_advanced g_JOIN
  walk_at "d"
  have hq0 : q.row < p.length := (List.getElem?_eq_some_iff.mp hr0).1
  -- n: what is left of the fuel; at n = 0 it has stopped
  let IA : Nat → L3.Env → Prop := fun n env => ∃ (m : Nat) (l : ON) (q' : Proc) (r : Row) (o6 o7 : Option Z), n = m + 1 ∧ p[q'.row]? = some r ∧ (r.w = .old → j = .bl jb) ∧ p.length ≤ m + 1 + q'.row ∧
      (advF p live jb (m + 1) l q') = advF p live jb p.length lock q ∧ env = [some (progZ p), some (zOpt l), some q'.z, some (.lst (natsZ live)), some j, some (.bl true), o6, o7]
  let IB : Nat → L3.Env → Prop := fun n env => ∃ (o6 o7 : Option Z), n = 0 ∧ env = [some (progZ p), some (zOpt (advF p live jb p.length lock q).lock), some (advF p live jb p.length lock q).proc.z, some (.lst (natsZ live)), some j, some (.bl false), o6, o7]
  refine ⟨fun n env S' => S' = S ∧ (IA n env ∨ IB n env), ⟨p.length, rfl, .inl ⟨p.length - 1, lock, q, r0, none, none, by omega, hr0, hj, by omega, by rw [Nat.sub_add_cancel (by omega)], rfl⟩⟩, fun n env S' hI => ?_⟩
  obtain ⟨rfl, hI⟩ := hI
  rcases hI with ⟨m, l, q', r, o6, o7, rfl, hr, hjr, hfuel, hadv, rfl⟩ | ⟨o6, o7, rfl, rfl⟩
  · walk_at "d"
    have hq' : q'.row < p.length := (List.getElem?_eq_some_iff.mp hr).1
    refine ⟨_, q'.row_ix, ?_⟩
    walk_at "v"
    refine ⟨_, pIx_prog hr, r, rfl, r, l, q', live, j, jb, rfl, hjr, ?_⟩
    have hD := doneF_row wf (List.mem_of_getElem? hr) (at_ := q'.row) l q' hq' live jb
    have estep : advF p live jb (m + 1) l q' = if goOn p r q'.row (doneF r l q' live jb).proc then advF p live jb m (doneF r l q' live jb).lock (doneF r l q' live jb).proc else ⟨(doneF r l q' live jb).lock, (doneF r l q' live jb).proc⟩ := by
      show (match p[q'.row]? with | none => _ | some r => _) = _
      rw [hr]
    generalize doneF r l q' live jb = D at hD estep ⊢
    refine ⟨_, rfl, ?_⟩
    walk_at "d"
    refine ⟨_, D.proc.row_ix, ?_⟩
    walk_at "v"
    obtain ⟨x, hx, hej⟩ := pIx_row0 (S := S') r
    refine ⟨_, pIx_prog hr, x, hx, _, hej, ?_⟩
    have stop : goOn p r q'.row D.proc = false → ∃ m_1, m_1 < m + 1 ∧ (IA m_1 [some (progZ p), some (zOpt D.lock), some D.proc.z, some (.lst (natsZ live)), some j, some (.bl false), some (.int q'.row), some (.int D.proc.row)] ∨ IB m_1 [some (progZ p), some (zOpt D.lock), some D.proc.z, some (.lst (natsZ live)), some j, some (.bl false), some (.int q'.row), some (.int D.proc.row)]) := fun hg => by
      rw [hg, hadv] at estep
      exact ⟨0, by omega, .inr ⟨_, _, rfl, by rw [estep]; rfl⟩⟩
    have go : ∀ r', p[D.proc.row]? = some r' → r'.w ≠ .old → D.proc.row = q'.row + 1 → goOn p r q'.row D.proc = true → ∃ m_1, m_1 < m + 1 ∧ (IA m_1 [some (progZ p), some (zOpt D.lock), some D.proc.z, some (.lst (natsZ live)), some j, some (.bl true), some (.int q'.row), some (.int D.proc.row)] ∨ IB m_1 [some (progZ p), some (zOpt D.lock), some D.proc.z, some (.lst (natsZ live)), some j, some (.bl true), some (.int q'.row), some (.int D.proc.row)]) := fun r' hr' hno hrow hg => by
      rw [hg, hadv] at estep
      have hlt := (List.getElem?_eq_some_iff.mp hr').1
      exact ⟨m, by omega, .inl ⟨m - 1, D.lock, D.proc, r', _, _, by omega, hr', fun e => absurd e hno, by omega, by rw [Nat.sub_add_cancel (by omega), estep]; rfl, rfl⟩⟩
    cases hj1 : r.j with
    | false =>
      walk_at "v"
      exact stop (by simp [goOn, hj1])
    | true =>
      walk_at "v"
      refine ⟨p, q'.row, r, rfl, hr, _, neW r.w .enter, ?_⟩
      cases hne : decide (r.w = .enter) with
      | true =>
        walk_at "v"
        exact stop (by simp [goOn, hne])
      | false =>
        walk_at "v"
        by_cases hrow : D.proc.row = q'.row + 1
        rotate_left
        · have e : decide ((D.proc.row : Int) = q'.row + 1) = false := by
            apply decide_eq_false; omega
          rw [e]
          walk_at "v"
          exact stop (by simp [goOn, hrow])
        · have e : decide ((D.proc.row : Int) = q'.row + 1) = true := by
            apply decide_eq_true; omega
          rw [e]
          walk_at "v"
          refine ⟨_, pLen_prog p, ?_⟩
          walk_at "v"
          by_cases hlt : D.proc.row < p.length
          rotate_left
          · have e : decide ((D.proc.row : Int) < p.length) = false := by
              apply decide_eq_false; omega
            rw [e]
            walk_at "v"
            exact stop (by simp [goOn, List.getElem?_eq_none (by omega : p.length ≤ D.proc.row)])
          · have e : decide ((D.proc.row : Int) < p.length) = true := by
              apply decide_eq_true; omega
            rw [e]
            walk_at "v"
            have hr' : p[D.proc.row]? = some (p[D.proc.row]'hlt) := List.getElem?_eq_getElem hlt
            generalize (p[D.proc.row]'hlt) = r' at hr'
            refine ⟨p, D.proc.row, r', rfl, hr', _, alone_in r'.w, ?_⟩
            cases hal : r'.w.alone with
            | true =>
              walk_at "v"
              exact stop (by simp only [goOn, hr', hal, Bool.not_true, Bool.and_false])
            | false =>
              walk_at "v"
              refine go r' hr' (fun e => by rw [e] at hal; cases hal) hrow (by unfold goOn; rw [hj1, hne, hr']; simp [hal, hrow])
  · walk_at "d"
    refine ⟨_, Proc.row_ix _, _, pLen_prog p, ?_⟩
    walk_at "v"
    have hfin : (if (advF p live jb p.length lock q).proc.row = p.length then R (.tup [zOpt (advF p live jb p.length lock q).lock, .non]) S' else R (.tup [zOpt (advF p live jb p.length lock q).lock, (advF p live jb p.length lock q).proc.z]) S') := by
      unfold endF at hk
      by_cases e : (advF p live jb p.length lock q).proc.row = p.length
      · rw [if_pos e] at hk ⊢; exact hk
      · rw [if_neg e] at hk ⊢; exact hk
    by_cases e : (advF p live jb p.length lock q).proc.row = p.length
    · rw [if_pos e] at hfin
      exact ifT (by rw [e]; simp) hfin
    · rw [if_neg e] at hfin
      exact ifF (by simp; omega) hfin
end L3
namespace L3
open PySem PySem.Spec PyProof.Rows L2
local macro_rules | `(tactic| walk_at "d") => `(tactic| try simp only [szk_0, szk_1, szk_2, szk_3, szk_4, szk_5, szk_6, szk_7, szk_8, szk_9, szk_10, szk_11, szk_12, szk_13, szk_14, szk_15, szk_16, szk_17, szk_18, szk_19, szk_20, fromBody, dNil', dSeq, dSet, dRet, dRetN, dDrop, dIf, dVar, dC, dOp, dCmp, dCmpT, dChain, dChainT, dVal, dNotT, dAndT, dOrT, dAnd, dOr, dNot, dIfE, dNeg, dIx, dSl, dNoPart, dPart, dNil, dCons, dTup, dLst, dLstM, dCall, pure1, dCallF, dItSeq, dItRange, dItZip, dFor, dComp, dCompM, dYes, dAug, dPar, dSub, dRetF, dFrz, dAppend, dBrk, dCnt, wipeE, gN, dInTab, dIxTab, dCallL, dLenSet, dCount, dAddM, gL, dRaise, dTry, catchBy, dItEnum,
  pAdd_i, pEq_i, pNe_i, pIsN_of, pNotN_of, pEq_nn, pEq_ni, pEq_in, isNon_non', isNon_int, pSub_i, pLt_i, pLe_i, pGt_i, pGe_i, pAddI_i, pIsN_non, pNotN_non, pIsN_bl, pNotN_bl, pIsN_int, pNotN_int, pIsN_str, pNotN_str, pIsN_tup, pNotN_tup, pIsN_lst, pNotN_lst, pIsN_ref, pNotN_ref, pIsN_ty, pNotN_ty, pIsN_scr, pNotN_scr, pIsI_non_bool, pIsI_non_int, pIsI_non_str, pIsI_non_tuple, pIsI_non_list, pIsI_bl_bool, pIsI_bl_int, pIsI_bl_str, pIsI_bl_tuple, pIsI_bl_list, pIsI_int_bool, pIsI_int_int, pIsI_int_str, pIsI_int_tuple, pIsI_int_list, pIsI_str_bool, pIsI_str_int, pIsI_str_str, pIsI_str_tuple, pIsI_str_list, pIsI_tup_bool, pIsI_tup_int, pIsI_tup_str, pIsI_tup_tuple, pIsI_tup_list, pIsI_lst_bool, pIsI_lst_int, pIsI_lst_str, pIsI_lst_tuple, pIsI_lst_list, pLen_tup, pIx_tup, pList_tup, pTuple_tup, seqOf_tup, pLen_lst, pIx_lst, pList_lst, pTuple_lst, seqOf_lst, pLen_scr, pIx_scr, pList_scr, pTuple_scr, seqOf_scr, pSl_tup, itemsOf_tup, pSl_lst, itemsOf_lst, pAbs_i, pInt_i, pInt_b, pMin2_i, gT_tup, gsCons_cons, gsNil_nil, getE_0, getE_s,
  Option.some.injEq, exists_eq_left', exists_eq_left, Z.int.injEq, Z.bl.injEq, Z.str.injEq, Z.tup.injEq, Z.lst.injEq, Z.ref.injEq, Option.map_some, Option.bind_some, List.set_cons_zero, List.set_cons_succ, List.map_cons, List.map_nil, List.cons_append, List.nil_append, List.length_cons, List.length_nil, List.replicate_succ, List.replicate_zero, true_and, and_true, if_true, Nat.reduceAdd, Nat.reduceSub, Bool.false_eq_true, if_false, ite_true, ite_false, List.cons.injEq, reduceIte, Bool.not_true, Bool.not_false])
local macro_rules | `(tactic| walk_at "v") => `(tactic| try simp only [szk_0, szk_1, szk_2, szk_3, szk_4, szk_5, szk_6, szk_7, szk_8, szk_9, szk_10, szk_11, szk_12, szk_13, szk_14, szk_15, szk_16, szk_17, szk_18, szk_19, szk_20, 
  pAdd_i, pEq_i, pNe_i, pIsN_of, pNotN_of, pEq_nn, pEq_ni, pEq_in, isNon_non', isNon_int, pSub_i, pLt_i, pLe_i, pGt_i, pGe_i, pAddI_i, pIsN_non, pNotN_non, pIsN_bl, pNotN_bl, pIsN_int, pNotN_int, pIsN_str, pNotN_str, pIsN_tup, pNotN_tup, pIsN_lst, pNotN_lst, pIsN_ref, pNotN_ref, pIsN_ty, pNotN_ty, pIsN_scr, pNotN_scr, pIsI_non_bool, pIsI_non_int, pIsI_non_str, pIsI_non_tuple, pIsI_non_list, pIsI_bl_bool, pIsI_bl_int, pIsI_bl_str, pIsI_bl_tuple, pIsI_bl_list, pIsI_int_bool, pIsI_int_int, pIsI_int_str, pIsI_int_tuple, pIsI_int_list, pIsI_str_bool, pIsI_str_int, pIsI_str_str, pIsI_str_tuple, pIsI_str_list, pIsI_tup_bool, pIsI_tup_int, pIsI_tup_str, pIsI_tup_tuple, pIsI_tup_list, pIsI_lst_bool, pIsI_lst_int, pIsI_lst_str, pIsI_lst_tuple, pIsI_lst_list, pLen_tup, pIx_tup, pList_tup, pTuple_tup, seqOf_tup, pLen_lst, pIx_lst, pList_lst, pTuple_lst, seqOf_lst, pLen_scr, pIx_scr, pList_scr, pTuple_scr, seqOf_scr, pSl_tup, itemsOf_tup, pSl_lst, itemsOf_lst, pAbs_i, pInt_i, pInt_b, pMin2_i, gT_tup, gsCons_cons, gsNil_nil, getE_0, getE_s, atI_0, atI_1, atI_2, atI_3, atI_4, sUpd_same,
  Option.some.injEq, exists_eq_left', exists_eq_left, Z.int.injEq, Z.bl.injEq, Z.str.injEq, Z.tup.injEq, Z.lst.injEq, Z.ref.injEq, Option.map_some, Option.bind_some, List.set_cons_zero, List.set_cons_succ, List.map_cons, List.map_nil, List.cons_append, List.nil_append, List.length_cons, List.length_nil, List.replicate_succ, List.replicate_zero, true_and, and_true, if_true, Nat.reduceAdd, Nat.reduceSub, Bool.false_eq_true, if_false, ite_true, ite_false, List.cons.injEq, reduceIte, Bool.not_true, Bool.not_false])
set_option maxHeartbeats 2000000
/-! ### events -/
structure Facts where
  fr : Bool
  pr : Bool
  st : Bool
def factL (f : Facts) : List Z := (if f.fr then [.str "fresh"] else []) ++ ((if f.pr then [.str "prompt"] else []) ++ (if f.st then [.str "steady"] else []))
def factsZ (f : Facts) : Z := .tup (factL f)
theorem factsZ_dat (f : Facts) : dat (factsZ f) = true := by obtain ⟨a, b, c⟩ := f; cases a <;> cases b <;> cases c <;> decide +kernel
theorem factsZ_dep (f : Facts) : dep (factsZ f) ≤ 1 := by obtain ⟨a, b, c⟩ := f; cases a <;> cases b <;> cases c <;> decide
theorem pIn_fresh {S : Sm} (f : Facts) : pIn S (.str "fresh") (factsZ f) = some f.fr := by
  obtain ⟨a, b, c⟩ := f
  cases a <;> cases b <;> cases c <;> exact (pIn_of rfl (by decide +kernel) (by decide +kernel) (by decide) (by decide)).trans (by decide +kernel)
theorem pIn_prompt {S : Sm} (f : Facts) : pIn S (.str "prompt") (factsZ f) = some f.pr := by
  obtain ⟨a, b, c⟩ := f
  cases a <;> cases b <;> cases c <;> exact (pIn_of rfl (by decide +kernel) (by decide +kernel) (by decide) (by decide)).trans (by decide +kernel)
theorem pIn_steady {S : Sm} (f : Facts) : pIn S (.str "steady") (factsZ f) = some f.st := by
  obtain ⟨a, b, c⟩ := f
  cases a <;> cases b <;> cases c <;> exact (pIn_of rfl (by decide +kernel) (by decide +kernel) (by decide) (by decide)).trans (by decide +kernel)
def s_needfacts : DF := fun zs RE S k => ∃ f : Facts, zs = [factsZ f] ∧ k .non S
theorem ok_needfacts (zs RE S R) (h : s_needfacts zs RE S R) : b_need_facts zs RE S R := by
  obtain ⟨f, rfl, hk⟩ := h
  unfold b_need_facts m_need_facts factsZ
  walk_at "d"
  have hF : ∀ z ∈ factL f, z = .str "fresh" ∨ z = .str "prompt" ∨ z = .str "steady" := fun z hz => by
    unfold factL at hz
    rcases List.mem_append.mp hz with h | h
    · split at h
      · exact .inl (List.mem_singleton.mp h)
      · simp at h
    · rcases List.mem_append.mp h with h | h
      · split at h
        · exact .inr (.inl (List.mem_singleton.mp h))
        · simp at h
      · split at h
        · exact .inr (.inr (List.mem_singleton.mp h))
        · simp at h
  have hl : (factL f).length ≤ 3 := by
    obtain ⟨a, b, c⟩ := f
    cases a <;> cases b <;> cases c <;> decide
  refine compZ_map (fun z => .bl ((fun _ => true) z)) _ _ (by simp; omega) (fun z hz => ⟨_, rfl, fun k' hk' => ?_⟩) ?_
  · walk_at "d"
    rcases hF z hz with e | e | e <;> subst e <;> walk_at "v" <;> exact ⟨true, (pIn_of rfl (by decide +kernel) (by decide +kernel) (by decide) (by decide)).trans (by decide +kernel), hk'⟩
  · rw [List.nil_append]
    refine ⟨_, pAll_map _ _, ?_⟩
    have e1 : ∀ l : List Z, l.all (fun _ => true) = true := fun l => by simp
    rw [e1]
    walk_at "v"
    refine ⟨_, _, Or.inl ⟨rfl, rfl⟩, ?_⟩
    have hz : ∀ z ∈ zipZ (factL f) (cutZ (factL f) (some 1) none), ∃ a b : Str, z = .tup [.str a, .str b] ∧ pLt (.str a) (.str b) = some true := by
      obtain ⟨a, b, c⟩ := f
      cases a <;> cases b <;> cases c <;> intro z hz
      · exact absurd hz (by have e : zipZ (factL ⟨false, false, false⟩) (cutZ (factL ⟨false, false, false⟩) (some 1) none) = [] := rfl
                            rw [e]; simp)
      · exact absurd hz (by have e : zipZ (factL ⟨false, false, true⟩) (cutZ (factL ⟨false, false, true⟩) (some 1) none) = [] := rfl
                            rw [e]; simp)
      · exact absurd hz (by have e : zipZ (factL ⟨false, true, false⟩) (cutZ (factL ⟨false, true, false⟩) (some 1) none) = [] := rfl
                            rw [e]; simp)
      · have e : zipZ (factL ⟨false, true, true⟩) (cutZ (factL ⟨false, true, true⟩) (some 1) none) = [.tup [.str "prompt", .str "steady"]] := rfl
        rw [e] at hz
        rw [List.mem_singleton.mp hz]
        exact ⟨_, _, rfl, by decide +kernel⟩
      · exact absurd hz (by have e : zipZ (factL ⟨true, false, false⟩) (cutZ (factL ⟨true, false, false⟩) (some 1) none) = [] := rfl
                            rw [e]; simp)
      · have e : zipZ (factL ⟨true, false, true⟩) (cutZ (factL ⟨true, false, true⟩) (some 1) none) = [.tup [.str "fresh", .str "steady"]] := rfl
        rw [e] at hz
        rw [List.mem_singleton.mp hz]
        exact ⟨_, _, rfl, by decide +kernel⟩
      · have e : zipZ (factL ⟨true, true, false⟩) (cutZ (factL ⟨true, true, false⟩) (some 1) none) = [.tup [.str "fresh", .str "prompt"]] := rfl
        rw [e] at hz
        rw [List.mem_singleton.mp hz]
        exact ⟨_, _, rfl, by decide +kernel⟩
      · have e : zipZ (factL ⟨true, true, true⟩) (cutZ (factL ⟨true, true, true⟩) (some 1) none) = [.tup [.str "fresh", .str "prompt"], .tup [.str "prompt", .str "steady"]] := rfl
        rw [e] at hz
        simp only [List.mem_cons, List.not_mem_nil, or_false] at hz
        rcases hz with e | e <;> rw [e] <;> exact ⟨_, _, rfl, by decide +kernel⟩
    have hzl : (zipZ (factL f) (cutZ (factL f) (some 1) none)).length ≤ 3 := by rw [zipZ_len]; omega
    refine compZ_map (fun z => .bl ((fun _ => true) z)) _ _ (by simp; omega) (fun z hz' => ?_) ?_
    · obtain ⟨a, b, rfl, hlt⟩ := hz z hz'
      refine ⟨_, rfl, fun k' hk' => ?_⟩
      walk_at "d"
      exact ⟨true, hlt, hk'⟩
    · rw [List.nil_append]
      refine ⟨_, pAll_map _ _, ?_⟩
      rw [e1]
      simpa using hk
inductive Ev where
  | start (i m : Nat) | die (i : Nat) | step (i : Nat) | judge (i : Nat) (b : Bool)
def Ev.z : Ev → Z
  | .start i m => .tup [.str "start", .int i, .int m]
  | .die i => .tup [.str "die", .int i, .non]
  | .step i => .tup [.str "step", .int i, .non]
  | .judge i b => .tup [.str "judge", .int i, .bl b]
def Ev.slot : Ev → Nat
  | .start i _ => i | .die i => i | .step i => i | .judge i _ => i
structure Ev.Wf (n : Nat) (e : Ev) : Prop where
  slot : e.slot < n
  mark : ∀ i m, e = .start i m → m ≤ 999
def s_isevent : DF := fun zs RE S k => ∃ (ps : List Prog) (e : Ev), zs = [progsZ ps, e.z] ∧ e.Wf ps.length ∧ k (.bl true) S
theorem from_ok {i : Nat} {n : Nat} (h : i < n) : isFrom (.int i) 0 ((n : Int) - 1) = true := by
  simp only [isFrom, Bool.and_eq_true, decide_eq_true_eq]; omega
theorem ok_isevent (zs RE S R) (h : s_isevent zs RE S R) : b_is_event s_from s_mark zs RE S R := by
  obtain ⟨ps, e, rfl, w, hk⟩ := h
  unfold b_is_event m_is_event
  have hs := w.slot
  cases e with
  | start i m =>
    unfold Ev.z
    walk_at "d"
    simp only [atI_0, atI_1, atI_2]
    walk_at "v"
    refine ifF (by simp) ⟨false, (by
      unfold pNotIn
      rw [show pIn S (.str "start") g_DEEDS = some true from (pIn_of rfl (by decide +kernel) (by decide +kernel) (by decide) (by decide)).trans (by decide +kernel)]; rfl), ?_⟩
    walk_at "v"
    refine ⟨_, pLen_progs ps, _, pSub_i, _, 0, _, rfl, rfl, ?_⟩
    rw [from_ok (show i < ps.length from hs)]
    walk_at "v"
    have hm := w.mark i m rfl
    refine ⟨true, (by rw [pEq_of (by decide +kernel) (by decide +kernel) (by decide) (by decide)]; decide +kernel), ?_⟩
    walk_at "v"
    refine ⟨_, rfl, rfl, ?_⟩
    have e2 : isFrom (.int m) 0 999 = true := by
      simp only [isFrom, Bool.and_eq_true, decide_eq_true_eq]; omega
    rw [e2]
    exact hk
  | die i =>
    unfold Ev.z
    walk_at "d"
    simp only [atI_0, atI_1, atI_2]
    walk_at "v"
    refine ifF (by simp) ⟨false, (by
      unfold pNotIn
      rw [show pIn S (.str "die") g_DEEDS = some true from (pIn_of rfl (by decide +kernel) (by decide +kernel) (by decide) (by decide)).trans (by decide +kernel)]; rfl), ?_⟩
    walk_at "v"
    refine ⟨_, pLen_progs ps, _, pSub_i, _, 0, _, rfl, rfl, ?_⟩
    rw [from_ok (show i < ps.length from hs)]
    walk_at "v"
    refine ⟨false, (by rw [pEq_of (by decide +kernel) (by decide +kernel) (by decide) (by decide)]; decide +kernel), ?_⟩
    walk_at "v"
    refine ⟨false, (by rw [pEq_of (by decide +kernel) (by decide +kernel) (by decide) (by decide)]; decide +kernel), ?_⟩
    walk_at "v"
    exact hk
  | step i =>
    unfold Ev.z
    walk_at "d"
    simp only [atI_0, atI_1, atI_2]
    walk_at "v"
    refine ifF (by simp) ⟨false, (by
      unfold pNotIn
      rw [show pIn S (.str "step") g_DEEDS = some true from (pIn_of rfl (by decide +kernel) (by decide +kernel) (by decide) (by decide)).trans (by decide +kernel)]; rfl), ?_⟩
    walk_at "v"
    refine ⟨_, pLen_progs ps, _, pSub_i, _, 0, _, rfl, rfl, ?_⟩
    rw [from_ok (show i < ps.length from hs)]
    walk_at "v"
    refine ⟨false, (by rw [pEq_of (by decide +kernel) (by decide +kernel) (by decide) (by decide)]; decide +kernel), ?_⟩
    walk_at "v"
    refine ⟨false, (by rw [pEq_of (by decide +kernel) (by decide +kernel) (by decide) (by decide)]; decide +kernel), ?_⟩
    walk_at "v"
    exact hk
  | judge i b =>
    unfold Ev.z
    walk_at "d"
    simp only [atI_0, atI_1, atI_2]
    walk_at "v"
    refine ifF (by simp) ⟨false, (by
      unfold pNotIn
      rw [show pIn S (.str "judge") g_DEEDS = some true from (pIn_of rfl (by decide +kernel) (by decide +kernel) (by decide) (by decide)).trans (by decide +kernel)]; rfl), ?_⟩
    walk_at "v"
    refine ⟨_, pLen_progs ps, _, pSub_i, _, 0, _, rfl, rfl, ?_⟩
    rw [from_ok (show i < ps.length from hs)]
    walk_at "v"
    refine ⟨false, (by rw [pEq_of (by decide +kernel) (by decide +kernel) (by decide) (by decide)]; decide +kernel), ?_⟩
    walk_at "v"
    refine ⟨true, (by rw [pEq_of (by decide +kernel) (by decide +kernel) (by decide) (by decide)]; decide +kernel), ?_⟩
    walk_at "v"
    exact hk
def s_needevent : DF := fun zs RE S k => ∃ (ps : List Prog) (e : Ev), zs = [progsZ ps, e.z] ∧ e.Wf ps.length ∧ k .non S
theorem ok_needevent (zs RE S R) (h : s_needevent zs RE S R) : b_need_event s_isevent zs RE S R := by
  obtain ⟨ps, e, rfl, w, hk⟩ := h
  unfold b_need_event m_need_event
  walk_at "d"
  exact ⟨ps, e, rfl, w, _, rfl, by simpa using hk⟩
/-! ### stands as they are -/
theorem live_st (st : Stand) : (liveM (st.slots.map zSlot)).map Z.int = natsZ st.marks := by
  unfold liveM Stand.marks natsZ
  induction st.slots with
  | nil => rfl
  | cons o r ih =>
    cases o with
    | none => simpa [zSlot] using ih
    | some q => simpa [zSlot, Proc.z] using ih
theorem slots_form (st : Stand) (h : ∀ q, some q ∈ st.slots → q.mark ≤ 999) : ∀ s ∈ st.slots.map zSlot, s = .non ∨ ∃ r m a b i, s = .tup [.int r, .int m, a, b, .bl i] ∧ 0 ≤ m ∧ m ≤ 999 := fun s hs => by
  obtain ⟨o, ho, rfl⟩ := List.mem_map.mp hs
  cases o with
  | none => exact .inl rfl
  | some q => exact .inr ⟨_, _, _, _, _, rfl, by omega, by have := h q ho; omega⟩
theorem SWf.marks9 {ps : List Prog} {st : Stand} (w : SWf ps st) : ∀ q, some q ∈ st.slots → q.mark ≤ 999 := fun q hq => by
  obtain ⟨i, hi⟩ := List.getElem?_of_mem hq
  have hl := (List.getElem?_eq_some_iff.mp hi).1
  have hp : ps[i]? = some (ps[i]'(by rw [← w.len]; exact hl)) := List.getElem?_eq_getElem _
  exact (w.proc i _ q hp hi).mark
theorem live_call {ps : List Prog} {st : Stand} (w : SWf ps st) (p3 : ps.length ≤ 3) {RE S} {k : Z → Sm → Prop} (hk : k (.lst (natsZ st.marks)) S) : s_live [st.z] RE S k := by
  refine ⟨_, _, rfl, by rw [List.length_map, w.len]; omega, slots_form st w.marks9, ?_⟩
  rw [live_st]; exact hk
theorem standOk_of {ps : List Prog} {st : Stand} (w : SWf ps st) : standOk ps st.z = true := by
  have hnat : ∀ {o : ON}, (∀ m, o = some m → m ≤ 999) → optMark (zOpt o) = true := fun {o} h => by
    cases o with
    | none => rfl
    | some m =>
      have := h m rfl
      simp only [zOpt, optMark, isNon, isFrom, Bool.false_or, Bool.and_eq_true, decide_eq_true_eq]
      omega
  have hzip : ∀ (ps : List Prog) (qs : List (Option Proc)), (∀ (i : Nat) (p : Prog) (q : Proc), ps[i]? = some p → qs[i]? = some (some q) → q.Wf p) → (zipZ (ps.map progZ) (qs.map zSlot)).all slotOk = true := fun ps => by
    induction ps with
    | nil => intro qs _; simp [zipZ]
    | cons p ps ih =>
      intro qs h
      cases qs with
      | nil => simp [zipZ]
      | cons o qs =>
        simp only [List.map_cons, zipZ, List.all_cons, Bool.and_eq_true]
        refine ⟨?_, ih qs fun i p q h1 h2 => h (i + 1) p q (by simpa using h1) (by simpa using h2)⟩
        rw [slotOk_pair]
        cases o with
        | none => rfl
        | some q =>
          have hq := h 0 p q rfl rfl
          have h1 := hq.row
          have h2 := hq.mark
          simp only [zSlot, Proc.z, procOk, isNon, Bool.false_or, Bool.and_eq_true]
          refine ⟨⟨?_, ?_, rfl⟩, hnat hq.note, hnat hq.pocket⟩
          · simp only [isFrom, Bool.and_eq_true, decide_eq_true_eq]; omega
          · simp only [isFrom, Bool.and_eq_true, decide_eq_true_eq]; omega
  simp only [Stand.z, standOk, Bool.and_eq_true, decide_eq_true_eq]
  refine ⟨hnat w.lock, by rw [List.length_map]; exact w.len, hzip ps st.slots w.proc, ?_⟩
  have e := live_st st
  have inj : ∀ (a : List Int) (b : List Nat), a.map Z.int = natsZ b → a = b.map fun n : Nat => (n : Int) := fun a => by
    induction a with
    | nil => intro b h; cases b <;> first | rfl | simp [natsZ] at h
    | cons x a ih =>
      intro b h
      cases b with
      | nil => simp [natsZ] at h
      | cons y b =>
        simp only [natsZ, List.map_cons, List.cons.injEq, Z.int.injEq] at h
        rw [List.map_cons, ← ih b h.2, h.1]
  rw [inj _ _ e]
  unfold List.Nodup
  rw [List.pairwise_map]
  exact List.Pairwise.imp (fun h e => h (by omega)) w.nod
end L3
namespace L3
open PySem PySem.Spec PyProof.Rows L2
local macro_rules | `(tactic| walk_at "d") => `(tactic| try simp only [szk_0, szk_1, szk_2, szk_3, szk_4, szk_5, szk_6, szk_7, szk_8, szk_9, szk_10, szk_11, szk_12, szk_13, szk_14, szk_15, szk_16, szk_17, szk_18, szk_19, szk_20, fromBody, dNil', dSeq, dSet, dRet, dRetN, dDrop, dIf, dVar, dC, dOp, dCmp, dCmpT, dChain, dChainT, dVal, dNotT, dAndT, dOrT, dAnd, dOr, dNot, dIfE, dNeg, dIx, dSl, dNoPart, dPart, dNil, dCons, dTup, dLst, dLstM, dCall, pure1, dCallF, dItSeq, dItRange, dItZip, dFor, dComp, dCompM, dYes, dAug, dPar, dSub, dRetF, dFrz, dAppend, dBrk, dCnt, wipeE, gN, dInTab, dIxTab, dCallL, dLenSet, dCount, dAddM, gL, dRaise, dTry, catchBy, dItEnum,
  pAdd_i, pEq_i, pNe_i, pIsN_of, pNotN_of, pEq_nn, pEq_ni, pEq_in, isNon_non', isNon_int, pSub_i, pLt_i, pLe_i, pGt_i, pGe_i, pAddI_i, pIsN_non, pNotN_non, pIsN_bl, pNotN_bl, pIsN_int, pNotN_int, pIsN_str, pNotN_str, pIsN_tup, pNotN_tup, pIsN_lst, pNotN_lst, pIsN_ref, pNotN_ref, pIsN_ty, pNotN_ty, pIsN_scr, pNotN_scr, pIsI_non_bool, pIsI_non_int, pIsI_non_str, pIsI_non_tuple, pIsI_non_list, pIsI_bl_bool, pIsI_bl_int, pIsI_bl_str, pIsI_bl_tuple, pIsI_bl_list, pIsI_int_bool, pIsI_int_int, pIsI_int_str, pIsI_int_tuple, pIsI_int_list, pIsI_str_bool, pIsI_str_int, pIsI_str_str, pIsI_str_tuple, pIsI_str_list, pIsI_tup_bool, pIsI_tup_int, pIsI_tup_str, pIsI_tup_tuple, pIsI_tup_list, pIsI_lst_bool, pIsI_lst_int, pIsI_lst_str, pIsI_lst_tuple, pIsI_lst_list, pLen_tup, pIx_tup, pList_tup, pTuple_tup, seqOf_tup, pLen_lst, pIx_lst, pList_lst, pTuple_lst, seqOf_lst, pLen_scr, pIx_scr, pList_scr, pTuple_scr, seqOf_scr, pSl_tup, itemsOf_tup, pSl_lst, itemsOf_lst, pAbs_i, pInt_i, pInt_b, pMin2_i, gT_tup, gsCons_cons, gsNil_nil, getE_0, getE_s,
  Option.some.injEq, exists_eq_left', exists_eq_left, Z.int.injEq, Z.bl.injEq, Z.str.injEq, Z.tup.injEq, Z.lst.injEq, Z.ref.injEq, Option.map_some, Option.bind_some, List.set_cons_zero, List.set_cons_succ, List.map_cons, List.map_nil, List.cons_append, List.nil_append, List.length_cons, List.length_nil, List.replicate_succ, List.replicate_zero, true_and, and_true, if_true, Nat.reduceAdd, Nat.reduceSub, Bool.false_eq_true, if_false, ite_true, ite_false, List.cons.injEq, reduceIte, Bool.not_true, Bool.not_false])
local macro_rules | `(tactic| walk_at "v") => `(tactic| try simp only [szk_0, szk_1, szk_2, szk_3, szk_4, szk_5, szk_6, szk_7, szk_8, szk_9, szk_10, szk_11, szk_12, szk_13, szk_14, szk_15, szk_16, szk_17, szk_18, szk_19, szk_20, 
  pAdd_i, pEq_i, pNe_i, pIsN_of, pNotN_of, pEq_nn, pEq_ni, pEq_in, isNon_non', isNon_int, pSub_i, pLt_i, pLe_i, pGt_i, pGe_i, pAddI_i, pIsN_non, pNotN_non, pIsN_bl, pNotN_bl, pIsN_int, pNotN_int, pIsN_str, pNotN_str, pIsN_tup, pNotN_tup, pIsN_lst, pNotN_lst, pIsN_ref, pNotN_ref, pIsN_ty, pNotN_ty, pIsN_scr, pNotN_scr, pIsI_non_bool, pIsI_non_int, pIsI_non_str, pIsI_non_tuple, pIsI_non_list, pIsI_bl_bool, pIsI_bl_int, pIsI_bl_str, pIsI_bl_tuple, pIsI_bl_list, pIsI_int_bool, pIsI_int_int, pIsI_int_str, pIsI_int_tuple, pIsI_int_list, pIsI_str_bool, pIsI_str_int, pIsI_str_str, pIsI_str_tuple, pIsI_str_list, pIsI_tup_bool, pIsI_tup_int, pIsI_tup_str, pIsI_tup_tuple, pIsI_tup_list, pIsI_lst_bool, pIsI_lst_int, pIsI_lst_str, pIsI_lst_tuple, pIsI_lst_list, pLen_tup, pIx_tup, pList_tup, pTuple_tup, seqOf_tup, pLen_lst, pIx_lst, pList_lst, pTuple_lst, seqOf_lst, pLen_scr, pIx_scr, pList_scr, pTuple_scr, seqOf_scr, pSl_tup, itemsOf_tup, pSl_lst, itemsOf_lst, pAbs_i, pInt_i, pInt_b, pMin2_i, gT_tup, gsCons_cons, gsNil_nil, getE_0, getE_s, atI_0, atI_1, atI_2, atI_3, atI_4, sUpd_same,
  Option.some.injEq, exists_eq_left', exists_eq_left, Z.int.injEq, Z.bl.injEq, Z.str.injEq, Z.tup.injEq, Z.lst.injEq, Z.ref.injEq, Option.map_some, Option.bind_some, List.set_cons_zero, List.set_cons_succ, List.map_cons, List.map_nil, List.cons_append, List.nil_append, List.length_cons, List.length_nil, List.replicate_succ, List.replicate_zero, true_and, and_true, if_true, Nat.reduceAdd, Nat.reduceSub, Bool.false_eq_true, if_false, ite_true, ite_false, List.cons.injEq, reduceIte, Bool.not_true, Bool.not_false])
set_option maxHeartbeats 2000000
/-! ### marks, slots put -/
def procMs : Option Proc → List ON
  | none => []
  | some q => [some q.mark, q.note, q.pocket]
def allO (st : Stand) : List ON := st.lock :: (st.slots.map procMs).flatten
def allM (st : Stand) : List Nat := (allO st).filterMap id
theorem opt_filter (os : List ON) : ((os.map zOpt).filter fun z => !isNon z) = natsZ (os.filterMap id) := by
  induction os with
  | nil => rfl
  | cons o os ih =>
    cases o with
    | none => simpa [zOpt, isNon] using ih
    | some n =>
      rw [List.map_cons, List.filter_cons_of_pos (by rfl), ih]; rfl
theorem comp_opt {S : Sm} {i : Nat} {env : L3.Env} {k : List Z → Sm → Prop} {os : List ON} (hl : os.length ≤ 1000) (hi : ∀ v, getE (env.set i (some v)) i = some v) (hk : k (natsZ (os.filterMap id)) S) :
    compZ (gN i) (dCmpT (fun _ => pNotN) (dVar i) (dC .non)) (dVar i) (os.map zOpt) env S [] k := by
  refine compZ_filter (fun z => !isNon z) id _ _ (by simp; omega) (fun z hz => ⟨_, rfl, fun k' hk' => ?_, fun hc k' hk' => ?_⟩) (by rw [opt_filter, List.map_id, List.nil_append]; exact hk)
  · walk_at "d"
    rw [hi]
    exact ⟨z, rfl, hk'⟩
  · walk_at "d"
    rw [hi]
    exact ⟨z, rfl, hk'⟩
def s_marksof : DF := fun zs RE S k => ∃ st : Stand, zs = [st.z] ∧ st.slots.length ≤ 3 ∧ k (.lst (natsZ (allM st))) S
theorem flat_len (l : List (Option Proc)) : ((l.map procMs).flatten).length ≤ 3 * l.length := by
  induction l with
  | nil => simp
  | cons o l ih =>
    rw [List.map_cons, List.flatten_cons, List.length_append, List.length_cons]
    have : (procMs o).length ≤ 3 := by cases o <;> simp [procMs]
    omega
theorem take_step {st : Stand} {i : Nat} {o : Option Proc} (h : st.slots[i]? = some o) : ((st.slots.take (i + 1)).map procMs).flatten = ((st.slots.take i).map procMs).flatten ++ procMs o := by
  rw [← take_snoc h, List.map_append, List.flatten_append]; simp
theorem ok_marksof (zs RE S R) (h : s_marksof zs RE S R) : b_marks_of zs RE S R := by
  obtain ⟨st, rfl, h3, hk⟩ := h
  unfold b_marks_of m_marks_of Stand.z
  walk_at "d"
  simp only [atI_0, atI_1]
  walk_at "v"
  refine forZ_ind (fun i env S' => S' = S ∧ ∃ o2, env = [some (.tup [zOpt st.lock, .tup (st.slots.map zSlot)]), some (.lst ((st.lock :: ((st.slots.take i).map procMs).flatten).map zOpt)), o2, none]) _ 0 _ _ ⟨rfl, _, rfl⟩ (fun i z hz env S' hI => ?_) (fun env S' hI => ?_)
  · obtain ⟨rfl, o2, rfl⟩ := hI
    rw [List.getElem?_map] at hz
    cases ho : st.slots[i]? with
    | none => rw [ho] at hz; cases hz
    | some o =>
      rw [ho] at hz
      cases hz
      refine ⟨_, rfl, fun K' hnx hct hrt hbk => ?_⟩
      rw [Nat.zero_add] at hnx ⊢
      rw [take_step ho] at hnx
      cases o with
      | none =>
        simp only [zSlot]
        walk_at "d"
        exact hnx _ _ ⟨rfl, some .non, by simp [procMs]⟩
      | some q =>
        simp only [zSlot, Proc.z]
        walk_at "d"
        simp only [isNon, atI_1, atI_2, atI_3]
        walk_at "v"
        have hf := flat_len (st.slots.take i)
        have ht : (st.slots.take i).length ≤ 3 := by rw [List.length_take]; omega
        have hf2 : (List.map zOpt ((st.slots.take i).map procMs).flatten).length ≤ 9 := by rw [List.length_map]; omega
        refine ⟨_, pAdd_l (by simp only [List.length_cons, List.length_nil]; omega), hnx _ _ ⟨rfl, some (Proc.z q), ?_⟩⟩
        simp [procMs, zOpt, Proc.z]
  · obtain ⟨rfl, o2, rfl⟩ := hI
    walk_at "d"
    rw [Nat.zero_add, List.length_map, List.take_length]
    have hf := flat_len st.slots
    have : (zOpt st.lock :: (List.map procMs st.slots).flatten.map zOpt) = (allO st).map zOpt := by simp [allO]
    refine comp_opt (os := st.lock :: (st.slots.map procMs).flatten) (by rw [List.length_cons]; omega) (fun v => rfl) hk
def setSt (st : Stand) (i : Nat) (l : ON) (o : Option Proc) : Stand := ⟨l, st.slots.set i o⟩
def s_withslot : DF := fun zs RE S k => ∃ (st : Stand) (i : Nat) (l : ON) (o : Option Proc), zs = [st.z, .int i, zOpt l, zSlot o] ∧ i < st.slots.length ∧ st.slots.length ≤ 3 ∧ k (setSt st i l o).z S
theorem ok_withslot (zs RE S R) (h : s_withslot zs RE S R) : b_with_slot zs RE S R := by
  obtain ⟨st, i, l, o, rfl, hi, h3, hk⟩ := h
  unfold b_with_slot m_with_slot Stand.z
  walk_at "d"
  simp only [atI_1]
  walk_at "v"
  rw [cut_to, show (i : Int) + 1 = ((i + 1 : Nat) : Int) by omega, cut_from (by rw [List.length_map]; omega)]
  refine ⟨_, pAdd_t (by simp; omega), _, pAdd_t (by simp; omega), ?_⟩
  unfold setSt Stand.z at hk
  have e : (st.slots.set i o).map zSlot = (st.slots.map zSlot).take i ++ [zSlot o] ++ (st.slots.map zSlot).drop (i + 1) := by
    rw [List.map_set, List.set_eq_take_append_cons_drop, if_pos (by rw [List.length_map]; exact hi)]
    simp
  rw [e] at hk
  exact hk
end L3
namespace L3
open PySem PySem.Spec PyProof.Rows L2
local macro_rules | `(tactic| walk_at "d") => `(tactic| try simp only [szk_0, szk_1, szk_2, szk_3, szk_4, szk_5, szk_6, szk_7, szk_8, szk_9, szk_10, szk_11, szk_12, szk_13, szk_14, szk_15, szk_16, szk_17, szk_18, szk_19, szk_20, fromBody, dNil', dSeq, dSet, dRet, dRetN, dDrop, dIf, dVar, dC, dOp, dCmp, dCmpT, dChain, dChainT, dVal, dNotT, dAndT, dOrT, dAnd, dOr, dNot, dIfE, dNeg, dIx, dSl, dNoPart, dPart, dNil, dCons, dTup, dLst, dLstM, dCall, pure1, dCallF, dItSeq, dItRange, dItZip, dFor, dComp, dCompM, dYes, dAug, dPar, dSub, dRetF, dFrz, dAppend, dBrk, dCnt, wipeE, gN, dInTab, dIxTab, dCallL, dLenSet, dCount, dAddM, gL, dRaise, dTry, catchBy, dItEnum,
  pAdd_i, pEq_i, pNe_i, pIsN_of, pNotN_of, pEq_nn, pEq_ni, pEq_in, isNon_non', isNon_int, pSub_i, pLt_i, pLe_i, pGt_i, pGe_i, pAddI_i, pIsN_non, pNotN_non, pIsN_bl, pNotN_bl, pIsN_int, pNotN_int, pIsN_str, pNotN_str, pIsN_tup, pNotN_tup, pIsN_lst, pNotN_lst, pIsN_ref, pNotN_ref, pIsN_ty, pNotN_ty, pIsN_scr, pNotN_scr, pIsI_non_bool, pIsI_non_int, pIsI_non_str, pIsI_non_tuple, pIsI_non_list, pIsI_bl_bool, pIsI_bl_int, pIsI_bl_str, pIsI_bl_tuple, pIsI_bl_list, pIsI_int_bool, pIsI_int_int, pIsI_int_str, pIsI_int_tuple, pIsI_int_list, pIsI_str_bool, pIsI_str_int, pIsI_str_str, pIsI_str_tuple, pIsI_str_list, pIsI_tup_bool, pIsI_tup_int, pIsI_tup_str, pIsI_tup_tuple, pIsI_tup_list, pIsI_lst_bool, pIsI_lst_int, pIsI_lst_str, pIsI_lst_tuple, pIsI_lst_list, pLen_tup, pIx_tup, pList_tup, pTuple_tup, seqOf_tup, pLen_lst, pIx_lst, pList_lst, pTuple_lst, seqOf_lst, pLen_scr, pIx_scr, pList_scr, pTuple_scr, seqOf_scr, pSl_tup, itemsOf_tup, pSl_lst, itemsOf_lst, pAbs_i, pInt_i, pInt_b, pMin2_i, gT_tup, gsCons_cons, gsNil_nil, getE_0, getE_s,
  Option.some.injEq, exists_eq_left', exists_eq_left, Z.int.injEq, Z.bl.injEq, Z.str.injEq, Z.tup.injEq, Z.lst.injEq, Z.ref.injEq, Option.map_some, Option.bind_some, List.set_cons_zero, List.set_cons_succ, List.map_cons, List.map_nil, List.cons_append, List.nil_append, List.length_cons, List.length_nil, List.replicate_succ, List.replicate_zero, true_and, and_true, if_true, Nat.reduceAdd, Nat.reduceSub, Bool.false_eq_true, if_false, ite_true, ite_false, List.cons.injEq, reduceIte, Bool.not_true, Bool.not_false])
local macro_rules | `(tactic| walk_at "v") => `(tactic| try simp only [szk_0, szk_1, szk_2, szk_3, szk_4, szk_5, szk_6, szk_7, szk_8, szk_9, szk_10, szk_11, szk_12, szk_13, szk_14, szk_15, szk_16, szk_17, szk_18, szk_19, szk_20, 
  pAdd_i, pEq_i, pNe_i, pIsN_of, pNotN_of, pEq_nn, pEq_ni, pEq_in, isNon_non', isNon_int, pSub_i, pLt_i, pLe_i, pGt_i, pGe_i, pAddI_i, pIsN_non, pNotN_non, pIsN_bl, pNotN_bl, pIsN_int, pNotN_int, pIsN_str, pNotN_str, pIsN_tup, pNotN_tup, pIsN_lst, pNotN_lst, pIsN_ref, pNotN_ref, pIsN_ty, pNotN_ty, pIsN_scr, pNotN_scr, pIsI_non_bool, pIsI_non_int, pIsI_non_str, pIsI_non_tuple, pIsI_non_list, pIsI_bl_bool, pIsI_bl_int, pIsI_bl_str, pIsI_bl_tuple, pIsI_bl_list, pIsI_int_bool, pIsI_int_int, pIsI_int_str, pIsI_int_tuple, pIsI_int_list, pIsI_str_bool, pIsI_str_int, pIsI_str_str, pIsI_str_tuple, pIsI_str_list, pIsI_tup_bool, pIsI_tup_int, pIsI_tup_str, pIsI_tup_tuple, pIsI_tup_list, pIsI_lst_bool, pIsI_lst_int, pIsI_lst_str, pIsI_lst_tuple, pIsI_lst_list, pLen_tup, pIx_tup, pList_tup, pTuple_tup, seqOf_tup, pLen_lst, pIx_lst, pList_lst, pTuple_lst, seqOf_lst, pLen_scr, pIx_scr, pList_scr, pTuple_scr, seqOf_scr, pSl_tup, itemsOf_tup, pSl_lst, itemsOf_lst, pAbs_i, pInt_i, pInt_b, pMin2_i, gT_tup, gsCons_cons, gsNil_nil, getE_0, getE_s, atI_0, atI_1, atI_2, atI_3, atI_4, sUpd_same,
  Option.some.injEq, exists_eq_left', exists_eq_left, Z.int.injEq, Z.bl.injEq, Z.str.injEq, Z.tup.injEq, Z.lst.injEq, Z.ref.injEq, Option.map_some, Option.bind_some, List.set_cons_zero, List.set_cons_succ, List.map_cons, List.map_nil, List.cons_append, List.nil_append, List.length_cons, List.length_nil, List.replicate_succ, List.replicate_zero, true_and, and_true, if_true, Nat.reduceAdd, Nat.reduceSub, Bool.false_eq_true, if_false, ite_true, ite_false, List.cons.injEq, reduceIte, Bool.not_true, Bool.not_false])
set_option maxHeartbeats 2000000
/-! ### behind an event -/
theorem st_ix0 {S : Sm} (st : Stand) : pIx S st.z (.int 0) = some (zOpt st.lock) := by unfold Stand.z; rw [pIx_tup]; exact atI_0
theorem st_ix1 {S : Sm} (st : Stand) : pIx S st.z (.int 1) = some (.tup (st.slots.map zSlot)) := by unfold Stand.z; rw [pIx_tup]; exact atI_1
theorem slot_ix {S : Sm} {st : Stand} {i : Nat} {o : Option Proc} (h : st.slots[i]? = some o) : pIx S (.tup (st.slots.map zSlot)) (.int i) = some (zSlot o) := by
  rw [pIx_tup]
  exact atI_nat (by rw [List.getElem?_map, h]; rfl)
theorem isNon_slot (o : Option Proc) : isNon (zSlot o) = o.isNone := by cases o <;> rfl
theorem isNon_opt (o : ON) : isNon (zOpt o) = o.isNone := by cases o <;> rfl
def inO (o : ON) (ms : List Nat) : Bool := match o with
  | some n => decide (n ∈ ms)
  | none => false
theorem pNotIn_nats {S : Sm} (i : Nat) (rs : List Nat) : pNotIn S (.int i) (.lst (natsZ rs)) = some (!decide (i ∈ rs)) := by
  unfold pNotIn; rw [pIn_natsL]; rfl
theorem pNotIn_fresh {S : Sm} (f : Facts) : pNotIn S g_FRESH (factsZ f) = some (!f.fr) := by
  unfold pNotIn; rw [show pIn S g_FRESH (factsZ f) = some f.fr from pIn_fresh f]; rfl
theorem pNotIn_prompt {S : Sm} (f : Facts) : pNotIn S g_PROMPT (factsZ f) = some (!f.pr) := by
  unfold pNotIn; rw [show pIn S g_PROMPT (factsZ f) = some f.pr from pIn_prompt f]; rfl
def mayStart (f : Facts) (st : Stand) (o : Option Proc) (m : Nat) : Bool := o.isNone && (!decide (m ∈ st.marks) && (!f.fr || !decide (m ∈ allM st)))
def mayJudge (f : Facts) (st : Stand) (b : Bool) : Bool := !b || (st.lock.isSome && (!f.pr || !inO st.lock st.marks))
def s_maystart : DF := fun zs RE S k => ∃ (ps : List Prog) (f : Facts) (st : Stand) (i m : Nat) (o : Option Proc), zs = [factsZ f, st.z, .int i, .int m] ∧ PsWf ps ∧ SWf ps st ∧ st.slots[i]? = some o ∧ k (.bl (mayStart f st o m)) S
theorem ok_maystart (zs RE S R) (h : s_maystart zs RE S R) : b_may_start s_live s_marksof zs RE S R := by
  obtain ⟨ps, f, st, i, m, o, rfl, wf, w, ho, hk⟩ := h
  unfold b_may_start m_may_start
  have p3 := wf.most
  walk_at "d"
  refine ⟨_, st_ix1 st, _, slot_ix ho, ?_⟩
  rw [isNon_slot]
  unfold mayStart at hk
  cases h1 : o.isNone with
  | false => rw [h1] at hk; simpa using hk
  | true =>
    rw [h1] at hk
    walk_at "v"
    refine live_call w p3 ⟨_, pIn_natsL m st.marks, ?_⟩
    cases h2 : decide (m ∈ st.marks) with
    | true => rw [h2] at hk; simpa using hk
    | false =>
      rw [h2] at hk
      walk_at "v"
      refine ⟨_, pNotIn_fresh f, ?_⟩
      cases h3 : f.fr with
      | false => rw [h3] at hk; simpa using hk
      | true =>
        rw [h3] at hk
        walk_at "v"
        refine ⟨st, rfl, by rw [w.len]; exact p3, _, pNotIn_nats m (allM st), ?_⟩
        simpa using hk
def s_mayjudge : DF := fun zs RE S k => ∃ (ps : List Prog) (f : Facts) (st : Stand) (b : Bool), zs = [factsZ f, st.z, .bl b] ∧ PsWf ps ∧ SWf ps st ∧ k (.bl (mayJudge f st b)) S
theorem ok_mayjudge (zs RE S R) (h : s_mayjudge zs RE S R) : b_may_judge s_live zs RE S R := by
  obtain ⟨ps, f, st, b, rfl, wf, w, hk⟩ := h
  unfold b_may_judge m_may_judge
  have p3 := wf.most
  walk_at "d"
  unfold mayJudge at hk
  cases b with
  | false => simpa using hk
  | true =>
    walk_at "v"
    refine ⟨_, st_ix0 st, ?_⟩
    rw [isNon_opt]
    cases hl : st.lock with
    | none => rw [hl] at hk; simpa using hk
    | some n =>
      rw [hl] at hk
      simp only [Option.isNone_some, Bool.not_false, if_true]
      refine ⟨_, pNotIn_prompt f, ?_⟩
      cases h3 : f.pr with
      | false => rw [h3] at hk; simpa using hk
      | true =>
        rw [h3] at hk
        walk_at "v"
        refine ⟨_, st_ix0 st, live_call w p3 ⟨_, by rw [hl]; exact pNotIn_nats n st.marks, ?_⟩⟩
        simpa [inO] using hk
def zSt : Option Stand → Z
  | none => .non
  | some s => s.z
def movedSt (p : Prog) (st : Stand) (i : Nat) (q : Proc) (jb : Bool) : Stand :=
  setSt st i (advF p st.marks jb p.length st.lock q).lock (endF p (advF p st.marks jb p.length st.lock q).proc)
/-- the stand behind an event, o the slot's process, p its program, r the row it is at -/
def beh (ps : List Prog) (f : Facts) (st : Stand) (e : Ev) : Option Stand :=
  match e, st.slots[e.slot]? with
  | .start i m, some o => if mayStart f st o m then some (setSt st i st.lock (some ⟨0, m, none, none, false⟩)) else none
  | .die i, some (some _) => if f.st then none else some (setSt st i st.lock none)
  | .step i, some (some q) => match ps[i]? with
    | none => none
    | some p => match p[q.row]? with
      | none => none
      | some r => if r.w = .old then none else some (movedSt p st i q false)
  | .judge i b, some (some q) => match ps[i]? with
    | none => none
    | some p => match p[q.row]? with
      | none => none
      | some r => if r.w = .old then (if mayJudge f st b then some (movedSt p st i q b) else none) else none
  | _, _ => none
def s_behind : DF := fun zs RE S k => ∃ (ps : List Prog) (f : Facts) (st : Stand) (e : Ev), zs = [progsZ ps, factsZ f, st.z, e.z] ∧ PsWf ps ∧ SWf ps st ∧ e.Wf ps.length ∧ k (zSt (beh ps f st e)) S
theorem pIx_progs {S : Sm} {ps : List Prog} {i : Nat} {p : Prog} (h : ps[i]? = some p) : pIx S (progsZ ps) (.int i) = some (progZ p) := by
  unfold progsZ
  rw [pIx_tup]
  exact atI_nat (by rw [List.getElem?_map, h]; rfl)
theorem evs (a b : String) (ha : dat (.str a) = true := by decide +kernel) (hb : dat (.str b) = true := by decide +kernel) (v : Bool) (hv : zeq (.str a) (.str b) = v := by decide +kernel) : pEq (.str a) (.str b) = some v := by
  rw [pEq_of ha hb (Nat.zero_le _) (Nat.zero_le _), hv]
theorem beh_common {ps : List Prog} {st : Stand} {i : Nat} (wf : PsWf ps) (w : SWf ps st) (hi : i < ps.length) :
    ∃ o p, st.slots[i]? = some o ∧ ps[i]? = some p ∧ ∀ q, o = some q → ∃ r, p[q.row]? = some r := by
  have h1 : st.slots[i]? = some (st.slots[i]'(by rw [w.len]; exact hi)) := List.getElem?_eq_getElem _
  have h2 : ps[i]? = some (ps[i]'hi) := List.getElem?_eq_getElem _
  refine ⟨_, _, h1, h2, fun q hq => ?_⟩
  rw [hq] at h1
  have := (w.proc i _ q h2 h1).row
  exact ⟨_, List.getElem?_eq_getElem this⟩
end L3
namespace L3
open PySem PySem.Spec PyProof.Rows L2
local macro_rules | `(tactic| walk_at "d") => `(tactic| try simp only [szk_0, szk_1, szk_2, szk_3, szk_4, szk_5, szk_6, szk_7, szk_8, szk_9, szk_10, szk_11, szk_12, szk_13, szk_14, szk_15, szk_16, szk_17, szk_18, szk_19, szk_20, fromBody, dNil', dSeq, dSet, dRet, dRetN, dDrop, dIf, dVar, dC, dOp, dCmp, dCmpT, dChain, dChainT, dVal, dNotT, dAndT, dOrT, dAnd, dOr, dNot, dIfE, dNeg, dIx, dSl, dNoPart, dPart, dNil, dCons, dTup, dLst, dLstM, dCall, pure1, dCallF, dItSeq, dItRange, dItZip, dFor, dComp, dCompM, dYes, dAug, dPar, dSub, dRetF, dFrz, dAppend, dBrk, dCnt, wipeE, gN, dInTab, dIxTab, dCallL, dLenSet, dCount, dAddM, gL, dRaise, dTry, catchBy, dItEnum,
  pAdd_i, pEq_i, pNe_i, pIsN_of, pNotN_of, pEq_nn, pEq_ni, pEq_in, isNon_non', isNon_int, pNe_b, pEq_b, pSub_i, pLt_i, pLe_i, pGt_i, pGe_i, pAddI_i, pIsN_non, pNotN_non, pIsN_bl, pNotN_bl, pIsN_int, pNotN_int, pIsN_str, pNotN_str, pIsN_tup, pNotN_tup, pIsN_lst, pNotN_lst, pIsN_ref, pNotN_ref, pIsN_ty, pNotN_ty, pIsN_scr, pNotN_scr, pIsI_non_bool, pIsI_non_int, pIsI_non_str, pIsI_non_tuple, pIsI_non_list, pIsI_bl_bool, pIsI_bl_int, pIsI_bl_str, pIsI_bl_tuple, pIsI_bl_list, pIsI_int_bool, pIsI_int_int, pIsI_int_str, pIsI_int_tuple, pIsI_int_list, pIsI_str_bool, pIsI_str_int, pIsI_str_str, pIsI_str_tuple, pIsI_str_list, pIsI_tup_bool, pIsI_tup_int, pIsI_tup_str, pIsI_tup_tuple, pIsI_tup_list, pIsI_lst_bool, pIsI_lst_int, pIsI_lst_str, pIsI_lst_tuple, pIsI_lst_list, pLen_tup, pIx_tup, pList_tup, pTuple_tup, seqOf_tup, pLen_lst, pIx_lst, pList_lst, pTuple_lst, seqOf_lst, pLen_scr, pIx_scr, pList_scr, pTuple_scr, seqOf_scr, pSl_tup, itemsOf_tup, pSl_lst, itemsOf_lst, pAbs_i, pInt_i, pInt_b, pMin2_i, gT_tup, gsCons_cons, gsNil_nil, getE_0, getE_s,
  Option.some.injEq, exists_eq_left', exists_eq_left, Z.int.injEq, Z.bl.injEq, Z.str.injEq, Z.tup.injEq, Z.lst.injEq, Z.ref.injEq, Option.map_some, Option.bind_some, List.set_cons_zero, List.set_cons_succ, List.map_cons, List.map_nil, List.cons_append, List.nil_append, List.length_cons, List.length_nil, List.replicate_succ, List.replicate_zero, true_and, and_true, if_true, Nat.reduceAdd, Nat.reduceSub, Bool.false_eq_true, if_false, ite_true, ite_false, List.cons.injEq, reduceIte, Bool.not_true, Bool.not_false])
local macro_rules | `(tactic| walk_at "v") => `(tactic| try simp only [szk_0, szk_1, szk_2, szk_3, szk_4, szk_5, szk_6, szk_7, szk_8, szk_9, szk_10, szk_11, szk_12, szk_13, szk_14, szk_15, szk_16, szk_17, szk_18, szk_19, szk_20, 
  pAdd_i, pEq_i, pNe_i, pIsN_of, pNotN_of, pEq_nn, pEq_ni, pEq_in, isNon_non', isNon_int, pNe_b, pEq_b, pSub_i, pLt_i, pLe_i, pGt_i, pGe_i, pAddI_i, pIsN_non, pNotN_non, pIsN_bl, pNotN_bl, pIsN_int, pNotN_int, pIsN_str, pNotN_str, pIsN_tup, pNotN_tup, pIsN_lst, pNotN_lst, pIsN_ref, pNotN_ref, pIsN_ty, pNotN_ty, pIsN_scr, pNotN_scr, pIsI_non_bool, pIsI_non_int, pIsI_non_str, pIsI_non_tuple, pIsI_non_list, pIsI_bl_bool, pIsI_bl_int, pIsI_bl_str, pIsI_bl_tuple, pIsI_bl_list, pIsI_int_bool, pIsI_int_int, pIsI_int_str, pIsI_int_tuple, pIsI_int_list, pIsI_str_bool, pIsI_str_int, pIsI_str_str, pIsI_str_tuple, pIsI_str_list, pIsI_tup_bool, pIsI_tup_int, pIsI_tup_str, pIsI_tup_tuple, pIsI_tup_list, pIsI_lst_bool, pIsI_lst_int, pIsI_lst_str, pIsI_lst_tuple, pIsI_lst_list, pLen_tup, pIx_tup, pList_tup, pTuple_tup, seqOf_tup, pLen_lst, pIx_lst, pList_lst, pTuple_lst, seqOf_lst, pLen_scr, pIx_scr, pList_scr, pTuple_scr, seqOf_scr, pSl_tup, itemsOf_tup, pSl_lst, itemsOf_lst, pAbs_i, pInt_i, pInt_b, pMin2_i, gT_tup, gsCons_cons, gsNil_nil, getE_0, getE_s, atI_0, atI_1, atI_2, atI_3, atI_4, sUpd_same,
  Option.some.injEq, exists_eq_left', exists_eq_left, Z.int.injEq, Z.bl.injEq, Z.str.injEq, Z.tup.injEq, Z.lst.injEq, Z.ref.injEq, Option.map_some, Option.bind_some, List.set_cons_zero, List.set_cons_succ, List.map_cons, List.map_nil, List.cons_append, List.nil_append, List.length_cons, List.length_nil, List.replicate_succ, List.replicate_zero, true_and, and_true, if_true, Nat.reduceAdd, Nat.reduceSub, Bool.false_eq_true, if_false, ite_true, ite_false, List.cons.injEq, reduceIte, Bool.not_true, Bool.not_false])
set_option maxHeartbeats 2000000
theorem isNon_proc (q : Proc) : isNon q.z = false := rfl
theorem pEqS {x y : Z} (h1 : dat x = true) (h2 : dat y = true) (h3 : dep x ≤ 60) (h4 : dep y ≤ 60) (v : Bool) (hv : zeq x y = v) : pEq x y = some v := by rw [pEq_of h1 h2 h3 h4, hv]
theorem e_ss : pEq (.str "start") g_START = some true := pEqS (by decide +kernel) (by decide +kernel) (by decide) (by decide) _ (by decide +kernel)
theorem e_ds : pEq (.str "die") g_START = some false := pEqS (by decide +kernel) (by decide +kernel) (by decide) (by decide) _ (by decide +kernel)
theorem e_ts : pEq (.str "step") g_START = some false := pEqS (by decide +kernel) (by decide +kernel) (by decide) (by decide) _ (by decide +kernel)
theorem e_js : pEq (.str "judge") g_START = some false := pEqS (by decide +kernel) (by decide +kernel) (by decide) (by decide) _ (by decide +kernel)
theorem e_dd : pEq (.str "die") g_DIE = some true := pEqS (by decide +kernel) (by decide +kernel) (by decide) (by decide) _ (by decide +kernel)
theorem e_td : pEq (.str "step") g_DIE = some false := pEqS (by decide +kernel) (by decide +kernel) (by decide) (by decide) _ (by decide +kernel)
theorem e_jd : pEq (.str "judge") g_DIE = some false := pEqS (by decide +kernel) (by decide +kernel) (by decide) (by decide) _ (by decide +kernel)
theorem e_tj : pEq (.str "step") g_JUDGE = some false := pEqS (by decide +kernel) (by decide +kernel) (by decide) (by decide) _ (by decide +kernel)
theorem e_jj : pEq (.str "judge") g_JUDGE = some true := pEqS (by decide +kernel) (by decide +kernel) (by decide) (by decide) _ (by decide +kernel)
theorem e_dj : pEq (.str "die") g_JUDGE = some false := pEqS (by decide +kernel) (by decide +kernel) (by decide) (by decide) _ (by decide +kernel)
theorem ok_behind (zs RE S R) (h : s_behind zs RE S R) : b_behind s_maystart s_withslot s_wordat s_mayjudge s_advanced s_live zs RE S R := by
  obtain ⟨ps, f, st, e, rfl, wf, w, we, hk⟩ := h
  unfold b_behind m_behind
  have p3 := wf.most
  have sl := w.len
  obtain ⟨o, p, ho, hp, hrow⟩ := beh_common wf w we.slot
  have hil : e.slot < st.slots.length := by rw [sl]; exact we.slot
  have wp := wf.all p (List.mem_of_getElem? hp)
  cases e with
  | start i m =>
    simp only [Ev.slot] at ho hp hil
    simp only [beh, Ev.slot, ho] at hk
    unfold Ev.z
    walk_at "d"
    refine ⟨_, st_ix1 st, _, slot_ix ho, _, e_ss, ?_⟩
    walk_at "v"
    refine ⟨ps, f, st, i, m, o, rfl, wf, w, ho, ?_⟩
    cases hm : mayStart f st o m with
    | false => rw [hm] at hk; simpa [zSt] using hk
    | true =>
      rw [hm] at hk
      walk_at "v"
      exact ⟨_, st_ix0 st, st, i, st.lock, some ⟨0, m, none, none, false⟩, rfl, hil, by omega, hk⟩
  | die i =>
    simp only [Ev.slot] at ho hp hil
    unfold Ev.z
    walk_at "d"
    refine ⟨_, st_ix1 st, _, slot_ix ho, _, e_ds, ?_⟩
    walk_at "v"
    rw [isNon_slot]
    cases o with
    | none =>
      simp only [beh, Ev.slot, ho] at hk
      simpa [zSt] using hk
    | some q =>
      simp only [beh, Ev.slot, ho] at hk
      simp only [Option.isNone_some, Bool.false_eq_true, if_false]
      refine ⟨_, e_dd, ?_⟩
      walk_at "v"
      refine ⟨_, show pIn S g_STEADY (factsZ f) = some f.st from pIn_steady f, ?_⟩
      cases hs : f.st with
      | true => rw [hs] at hk; simpa [zSt] using hk
      | false =>
        rw [hs] at hk
        walk_at "v"
        exact ⟨_, st_ix0 st, st, i, st.lock, none, rfl, hil, by omega, by simpa [zSt] using hk⟩
  | step i =>
    simp only [Ev.slot] at ho hp hil
    unfold Ev.z
    walk_at "d"
    refine ⟨_, st_ix1 st, _, slot_ix ho, _, e_ts, ?_⟩
    walk_at "v"
    rw [isNon_slot]
    cases o with
    | none =>
      simp only [beh, Ev.slot, ho] at hk
      simpa [zSt] using hk
    | some q =>
      obtain ⟨r, hr⟩ := hrow q rfl
      simp only [beh, Ev.slot, ho, hp, hr] at hk
      simp only [Option.isNone_some, Bool.false_eq_true, if_false, zSlot]
      refine ⟨_, e_td, ?_⟩
      walk_at "v"
      refine ⟨_, e_tj, _, pIx_progs hp, _, q.row_ix, p, q.row, r, rfl, hr, _, eqW r.w .old, ?_⟩
      walk_at "v"
      by_cases hold : r.w = .old
      · rw [decide_eq_true hold]
        rw [if_pos hold] at hk
        simpa [zSt] using hk
      · rw [decide_eq_false hold]
        rw [if_neg hold] at hk
        refine ifF (by simp) ⟨_, e_tj, ?_⟩
        walk_at "v"
        refine ⟨_, pIx_progs hp, _, st_ix0 st, live_call w p3 ⟨p, st.lock, q, st.marks, .non, false, r, rfl, wp, hr, fun e => absurd e hold, ?_⟩⟩
        refine ⟨_, rfl, ?_⟩
        walk_at "d"
        exact ⟨st, i, _, _, rfl, hil, by omega, hk⟩
  | judge i b =>
    simp only [Ev.slot] at ho hp hil
    unfold Ev.z
    walk_at "d"
    refine ⟨_, st_ix1 st, _, slot_ix ho, _, e_js, ?_⟩
    walk_at "v"
    rw [isNon_slot]
    cases o with
    | none =>
      simp only [beh, Ev.slot, ho] at hk
      simpa [zSt] using hk
    | some q =>
      obtain ⟨r, hr⟩ := hrow q rfl
      simp only [beh, Ev.slot, ho, hp, hr] at hk
      simp only [Option.isNone_some, Bool.false_eq_true, if_false, zSlot]
      refine ⟨_, e_jd, ?_⟩
      walk_at "v"
      refine ⟨_, e_jj, _, pIx_progs hp, _, q.row_ix, p, q.row, r, rfl, hr, _, eqW r.w .old, ?_⟩
      walk_at "v"
      by_cases hold : r.w = .old
      · rw [decide_eq_true hold]
        rw [if_pos hold] at hk
        refine ifF (by simp) ⟨_, e_jj, ?_⟩
        walk_at "v"
        refine ⟨ps, f, st, b, rfl, wf, w, ?_⟩
        cases hm : mayJudge f st b with
        | false => rw [hm] at hk; simpa [zSt] using hk
        | true =>
          rw [hm] at hk
          walk_at "v"
          refine ⟨_, pIx_progs hp, _, st_ix0 st, live_call w p3 ⟨p, st.lock, q, st.marks, .bl b, b, r, rfl, wp, hr, fun _ => rfl, ?_⟩⟩
          refine ⟨_, rfl, ?_⟩
          walk_at "d"
          exact ⟨st, i, _, _, rfl, hil, by omega, hk⟩
      · rw [decide_eq_false hold]
        rw [if_neg hold] at hk
        simpa [zSt] using hk
def s_after : DF := s_behind
def s_needstand : DF := fun zs RE S k => ∃ (ps : List Prog) (st : Stand), zs = [progsZ ps, st.z] ∧ PsWf ps ∧ SWf ps st ∧ k .non S
theorem zslot_dat (o : Option Proc) : dat (zSlot o) = true := (slot_val o).dat
theorem st_dat (st : Stand) : dat st.z = true := by
  simp only [Stand.z, dat, dats, Bool.and_true, Bool.and_eq_true]
  exact ⟨(zOpt_val _).dat, dats_of fun z hz => by
    obtain ⟨o, _, rfl⟩ := List.mem_map.mp hz
    exact zslot_dat o⟩
theorem st_dep (st : Stand) : dep st.z ≤ 3 := by
  have h1 := (zOpt_val st.lock).dep
  have h2 : deps (st.slots.map zSlot) ≤ 1 := deps_of fun z hz => by
    obtain ⟨o, _, rfl⟩ := List.mem_map.mp hz
    exact (slot_val o).dep
  simp only [Stand.z, dep, deps]
  omega
theorem ok_needstand (zs RE S R) (h : s_needstand zs RE S R) : b_need_stand s_isstand zs RE S R := by
  obtain ⟨ps, st, rfl, wf, w, hk⟩ := h
  unfold b_need_stand m_need_stand
  have pd := progsZ_dep ps
  walk_at "d"
  refine ⟨_, _, rfl, progsZ_dat ps, by omega, st_dat st, .inr ⟨ps, wf, rfl, ?_⟩⟩
  rw [standOk_of w]
  simpa using hk
theorem ok_after (zs RE S R) (h : s_after zs RE S R) : b_after s_needprogs s_needfacts s_needstand s_needevent s_behind zs RE S R := by
  obtain ⟨ps, f, st, e, rfl, wf, w, we, hk⟩ := h
  unfold b_after m_after
  have pd := progsZ_dep ps
  walk_at "d"
  refine ⟨_, rfl, progsZ_dat ps, by omega, ?_⟩
  rw [areProgs_progsZ wf]
  simp only [if_true]
  exact ⟨f, rfl, ps, st, rfl, wf, w, ps, e, rfl, we, ps, f, st, e, rfl, wf, w, we, hk⟩
end L3
namespace L3
open PySem PySem.Spec PyProof.Rows L2
theorem eq_make {w : Word} : pEq (.str w.s) (.str "make") = some (decide (w = .make)) := eqW w .make
theorem eq_read {w : Word} : pEq (.str w.s) (.str "read") = some (decide (w = .read)) := eqW w .read
theorem eq_drop {w : Word} : pEq (.str w.s) (.str "drop") = some (decide (w = .drop)) := eqW w .drop
theorem eq_dropsame {w : Word} : pEq (.str w.s) (.str "dropsame") = some (decide (w = .dropsame)) := eqW w .dropsame
theorem eq_swap {w : Word} : pEq (.str w.s) (.str "swap") = some (decide (w = .swap)) := eqW w .swap
theorem eq_move {w : Word} : pEq (.str w.s) (.str "move") = some (decide (w = .move)) := eqW w .move
theorem eq_back {w : Word} : pEq (.str w.s) (.str "back") = some (decide (w = .back)) := eqW w .back
theorem eq_old {w : Word} : pEq (.str w.s) (.str "old") = some (decide (w = .old)) := eqW w .old
theorem eq_same {w : Word} : pEq (.str w.s) (.str "same") = some (decide (w = .same)) := eqW w .same
theorem eq_dead {w : Word} : pEq (.str w.s) (.str "dead") = some (decide (w = .dead)) := eqW w .dead
theorem eq_mine {w : Word} : pEq (.str w.s) (.str "mine") = some (decide (w = .mine)) := eqW w .mine
theorem eq_caught {w : Word} : pEq (.str w.s) (.str "caught") = some (decide (w = .caught)) := eqW w .caught
theorem eq_enter {w : Word} : pEq (.str w.s) (.str "enter") = some (decide (w = .enter)) := eqW w .enter
theorem ne_leave {w : Word} : pNe (.str w.s) (.str "leave") = some (!decide (w = .leave)) := neW w .leave
theorem ne_enter {w : Word} : pNe (.str w.s) (.str "enter") = some (!decide (w = .enter)) := neW w .enter
theorem in_el {w : Word} {S : Sm} : pIn S (.str w.s) (.lst [.str "enter", .str "leave"]) = some (decide (w = .enter) || decide (w = .leave)) := by
  rw [pIn_of (ys := [.str "enter", .str "leave"]) rfl w.dat (by decide +kernel) (Nat.zero_le _) (by decide)]
  cases w <;> rfl
theorem in_oel {w : Word} {S : Sm} : pIn S (.str w.s) (.lst [.str "old", .str "enter", .str "leave"]) = some w.alone := by
  rw [pIn_of (ys := [.str "old", .str "enter", .str "leave"]) rfl w.dat (by decide +kernel) (Nat.zero_le _) (by decide)]
  cases w <;> rfl
theorem cut14 {a b c d e : Z} : cutZ [a, b, c, d, e] (some 1) (some 4) = [b, c, d] := rfl
theorem notin_i {S : Sm} (n : Nat) (rs : List Nat) : pNotIn S (.int n) (.lst (natsZ rs)) = some (!decide (n ∈ rs)) := pNotIn_nats n rs
theorem pEq_oo {a b : ON} : pEq (zOpt a) (zOpt b) = some (decide (a = b)) := by
  cases a <;> cases b
  · rfl
  · rfl
  · rfl
  · show pEq (.int _) (.int _) = _
    rw [pEq_i]
    simp [Int.natCast_inj]
theorem pEq_oi {a : ON} {n : Nat} : pEq (zOpt a) (.int n) = some (decide (a = some n)) := pEq_oo (b := some n)
theorem pNotIn_o {S : Sm} {o : ON} {rs : List Nat} : pNotIn S (zOpt o) (.lst (natsZ rs)) = some (!inO o rs) := by
  rw [pNotIn_opt]; rfl
local macro_rules | `(tactic| walk_at "d") => `(tactic| try simp only [szk_0, szk_1, szk_2, szk_3, szk_4, szk_5, szk_6, szk_7, szk_8, szk_9, szk_10, szk_11, szk_12, szk_13, szk_14, szk_15, szk_16, szk_17, szk_18, szk_19, szk_20, fromBody, dNil', dSeq, dSet, dRet, dRetN, dDrop, dIf, dVar, dC, dOp, dCmp, dCmpT, dChain, dChainT, dVal, dNotT, dAndT, dOrT, dAnd, dOr, dNot, dIfE, dNeg, dIx, dSl, dNoPart, dPart, dNil, dCons, dTup, dLst, dLstM, dCall, pure1, dCallF, dItSeq, dItRange, dItZip, dFor, dComp, dCompM, dYes, dAug, dPar, dSub, dRetF, dFrz, dAppend, dBrk, dCnt, wipeE, gN, dInTab, dIxTab, dCallL, dLenSet, dCount, dAddM, gL, dRaise, dTry, catchBy, dItEnum,
  pAdd_i, pNotIn_o, pEq_i, pNe_i, pIsN_of, pNotN_of, pEq_nn, pEq_ni, pEq_in, isNon_non', isNon_int, pNe_b, pEq_b, eq_make, eq_read, eq_drop, eq_dropsame, eq_swap, eq_move, eq_back, eq_old, eq_same, eq_dead, eq_mine, eq_caught, eq_enter, ne_leave, ne_enter, in_el, in_oel, cut14, notin_i, isNon_opt, pEq_oo, pEq_oi, eq_self, reduceCtorEq, decide_true, decide_false, Bool.not_true, Bool.not_false, Bool.or_false, Bool.or_true, Bool.false_or, Bool.true_or, pSub_i, pLt_i, pLe_i, pGt_i, pGe_i, pAddI_i, pIsN_non, pNotN_non, pIsN_bl, pNotN_bl, pIsN_int, pNotN_int, pIsN_str, pNotN_str, pIsN_tup, pNotN_tup, pIsN_lst, pNotN_lst, pIsN_ref, pNotN_ref, pIsN_ty, pNotN_ty, pIsN_scr, pNotN_scr, pIsI_non_bool, pIsI_non_int, pIsI_non_str, pIsI_non_tuple, pIsI_non_list, pIsI_bl_bool, pIsI_bl_int, pIsI_bl_str, pIsI_bl_tuple, pIsI_bl_list, pIsI_int_bool, pIsI_int_int, pIsI_int_str, pIsI_int_tuple, pIsI_int_list, pIsI_str_bool, pIsI_str_int, pIsI_str_str, pIsI_str_tuple, pIsI_str_list, pIsI_tup_bool, pIsI_tup_int, pIsI_tup_str, pIsI_tup_tuple, pIsI_tup_list, pIsI_lst_bool, pIsI_lst_int, pIsI_lst_str, pIsI_lst_tuple, pIsI_lst_list, pLen_tup, pIx_tup, pList_tup, pTuple_tup, seqOf_tup, pLen_lst, pIx_lst, pList_lst, pTuple_lst, seqOf_lst, pLen_scr, pIx_scr, pList_scr, pTuple_scr, seqOf_scr, pSl_tup, itemsOf_tup, pSl_lst, itemsOf_lst, pAbs_i, pInt_i, pInt_b, pMin2_i, gT_tup, gsCons_cons, gsNil_nil, getE_0, getE_s,
  Option.some.injEq, exists_eq_left', exists_eq_left, Z.int.injEq, Z.bl.injEq, Z.str.injEq, Z.tup.injEq, Z.lst.injEq, Z.ref.injEq, Option.map_some, Option.bind_some, List.set_cons_zero, List.set_cons_succ, List.map_cons, List.map_nil, List.cons_append, List.nil_append, List.length_cons, List.length_nil, List.replicate_succ, List.replicate_zero, true_and, and_true, if_true, Nat.reduceAdd, Nat.reduceSub, Bool.false_eq_true, if_false, ite_true, ite_false, List.cons.injEq, reduceIte, Bool.not_true, Bool.not_false])
local macro_rules | `(tactic| walk_at "v") => `(tactic| try simp only [szk_0, szk_1, szk_2, szk_3, szk_4, szk_5, szk_6, szk_7, szk_8, szk_9, szk_10, szk_11, szk_12, szk_13, szk_14, szk_15, szk_16, szk_17, szk_18, szk_19, szk_20, 
  pAdd_i, pNotIn_o, pEq_i, pNe_i, pIsN_of, pNotN_of, pEq_nn, pEq_ni, pEq_in, isNon_non', isNon_int, pNe_b, pEq_b, eq_make, eq_read, eq_drop, eq_dropsame, eq_swap, eq_move, eq_back, eq_old, eq_same, eq_dead, eq_mine, eq_caught, eq_enter, ne_leave, ne_enter, in_el, in_oel, cut14, notin_i, isNon_opt, pEq_oo, pEq_oi, eq_self, reduceCtorEq, decide_true, decide_false, Bool.not_true, Bool.not_false, Bool.or_false, Bool.or_true, Bool.false_or, Bool.true_or, pSub_i, pLt_i, pLe_i, pGt_i, pGe_i, pAddI_i, pIsN_non, pNotN_non, pIsN_bl, pNotN_bl, pIsN_int, pNotN_int, pIsN_str, pNotN_str, pIsN_tup, pNotN_tup, pIsN_lst, pNotN_lst, pIsN_ref, pNotN_ref, pIsN_ty, pNotN_ty, pIsN_scr, pNotN_scr, pIsI_non_bool, pIsI_non_int, pIsI_non_str, pIsI_non_tuple, pIsI_non_list, pIsI_bl_bool, pIsI_bl_int, pIsI_bl_str, pIsI_bl_tuple, pIsI_bl_list, pIsI_int_bool, pIsI_int_int, pIsI_int_str, pIsI_int_tuple, pIsI_int_list, pIsI_str_bool, pIsI_str_int, pIsI_str_str, pIsI_str_tuple, pIsI_str_list, pIsI_tup_bool, pIsI_tup_int, pIsI_tup_str, pIsI_tup_tuple, pIsI_tup_list, pIsI_lst_bool, pIsI_lst_int, pIsI_lst_str, pIsI_lst_tuple, pIsI_lst_list, pLen_tup, pIx_tup, pList_tup, pTuple_tup, seqOf_tup, pLen_lst, pIx_lst, pList_lst, pTuple_lst, seqOf_lst, pLen_scr, pIx_scr, pList_scr, pTuple_scr, seqOf_scr, pSl_tup, itemsOf_tup, pSl_lst, itemsOf_lst, pAbs_i, pInt_i, pInt_b, pMin2_i, gT_tup, gsCons_cons, gsNil_nil, getE_0, getE_s, atI_0, atI_1, atI_2, atI_3, atI_4, sUpd_same,
  Option.some.injEq, exists_eq_left', exists_eq_left, Z.int.injEq, Z.bl.injEq, Z.str.injEq, Z.tup.injEq, Z.lst.injEq, Z.ref.injEq, Option.map_some, Option.bind_some, List.set_cons_zero, List.set_cons_succ, List.map_cons, List.map_nil, List.cons_append, List.nil_append, List.length_cons, List.length_nil, List.replicate_succ, List.replicate_zero, true_and, and_true, if_true, Nat.reduceAdd, Nat.reduceSub, Bool.false_eq_true, if_false, ite_true, ite_false, List.cons.injEq, reduceIte, Bool.not_true, Bool.not_false])
set_option maxHeartbeats 4000000
/-! ### the law's own events -/
def actedZ (a : Act) : Z := if a.went then .tup [zOpt a.lock, zOpt a.note, zOpt a.pocket] else .non
def s_acted : DF := fun zs RE S k => ∃ (w : Word) (lock : ON) (q : Proc) (live : List Nat) (j : Z) (jb : Bool), zs = [.str w.s, zOpt lock, q.z, .lst (natsZ live), j] ∧ (w = .old → j = .bl jb) ∧ k (actedZ (act w lock q.mark q.note q.pocket live jb)) S
def s_lawlive : DF := fun zs RE S k => ∃ (ps : List Prog) (st : Stand), zs = [st.z] ∧ ps.length ≤ 3 ∧ SWf ps st ∧ k (.lst (natsZ st.marks)) S
theorem ok_lawlive (zs RE S R) (h : s_lawlive zs RE S R) : b__law_live zs RE S R := by
  obtain ⟨ps, st, rfl, p3, w, hk⟩ := h
  unfold b__law_live m__law_live Stand.z
  walk_at "d"
  rw [atI_1]
  walk_at "v"
  refine comp_live (by rw [List.length_map, w.len]; omega) (fun v => rfl) (slots_form st w.marks9) ?_
  rw [live_st]; exact hk
theorem ok_lawput (zs RE S R) (h : s_withslot zs RE S R) : b__law_put zs RE S R := ok_withslot zs RE S R h
theorem ok_lawmarks (zs RE S R) (h : s_marksof zs RE S R) : b__law_marks zs RE S R := by
  obtain ⟨st, rfl, h3, hk⟩ := h
  unfold b__law_marks m__law_marks Stand.z
  walk_at "d"
  simp only [atI_0, atI_1]
  walk_at "v"
  refine forZ_ind (fun i env S' => S' = S ∧ ∃ o2, env = [some (.tup [zOpt st.lock, .tup (st.slots.map zSlot)]), some (.lst ((st.lock :: ((st.slots.take i).map procMs).flatten).map zOpt)), o2, none]) _ 0 _ _ ⟨rfl, _, rfl⟩ (fun i z hz env S' hI => ?_) (fun env S' hI => ?_)
  · obtain ⟨rfl, o2, rfl⟩ := hI
    rw [List.getElem?_map] at hz
    cases ho : st.slots[i]? with
    | none => rw [ho] at hz; cases hz
    | some o =>
      rw [ho] at hz
      cases hz
      refine ⟨_, rfl, fun K' hnx hct hrt hbk => ?_⟩
      rw [Nat.zero_add] at hnx ⊢
      rw [take_step ho] at hnx
      cases o with
      | none =>
        simp only [zSlot]
        walk_at "d"
        exact hnx _ _ ⟨rfl, some .non, by simp [procMs]⟩
      | some q =>
        simp only [zSlot, Proc.z]
        walk_at "d"
        simp only [isNon]
        walk_at "v"
        have hf := flat_len (st.slots.take i)
        have ht : (st.slots.take i).length ≤ 3 := by rw [List.length_take]; omega
        have hf2 : (List.map zOpt ((st.slots.take i).map procMs).flatten).length ≤ 9 := by rw [List.length_map]; omega
        refine ⟨_, pAdd_l (by simp only [List.length_cons, List.length_nil]; omega), hnx _ _ ⟨rfl, some (Proc.z q), ?_⟩⟩
        simp [procMs, zOpt, Proc.z]
  · obtain ⟨rfl, o2, rfl⟩ := hI
    walk_at "d"
    rw [Nat.zero_add, List.length_map, List.take_length]
    have hf := flat_len st.slots
    refine comp_opt (os := st.lock :: (st.slots.map procMs).flatten) (by rw [List.length_cons]; omega) (fun v => rfl) hk
end L3
namespace L3
open PySem PySem.Spec PyProof.Rows L2
local macro_rules | `(tactic| walk_at "d") => `(tactic| try simp only [szk_0, szk_1, szk_2, szk_3, szk_4, szk_5, szk_6, szk_7, szk_8, szk_9, szk_10, szk_11, szk_12, szk_13, szk_14, szk_15, szk_16, szk_17, szk_18, szk_19, szk_20, fromBody, dNil', dSeq, dSet, dRet, dRetN, dDrop, dIf, dVar, dC, dOp, dCmp, dCmpT, dChain, dChainT, dVal, dNotT, dAndT, dOrT, dAnd, dOr, dNot, dIfE, dNeg, dIx, dSl, dNoPart, dPart, dNil, dCons, dTup, dLst, dLstM, dCall, pure1, dCallF, dItSeq, dItRange, dItZip, dFor, dComp, dCompM, dYes, dAug, dPar, dSub, dRetF, dFrz, dAppend, dBrk, dCnt, wipeE, gN, dInTab, dIxTab, dCallL, dLenSet, dCount, dAddM, gL, dRaise, dTry, catchBy, dItEnum,
  pAdd_i, pNotIn_o, pEq_i, pNe_i, pIsN_of, pNotN_of, pEq_nn, pEq_ni, pEq_in, isNon_non', isNon_int, pNe_b, pEq_b, eq_make, eq_read, eq_drop, eq_dropsame, eq_swap, eq_move, eq_back, eq_old, eq_same, eq_dead, eq_mine, eq_caught, eq_enter, ne_leave, ne_enter, in_el, in_oel, cut14, notin_i, isNon_opt, pEq_oo, pEq_oi, eq_self, reduceCtorEq, decide_true, decide_false, Bool.not_true, Bool.not_false, Bool.or_false, Bool.or_true, Bool.false_or, Bool.true_or, pSub_i, pLt_i, pLe_i, pGt_i, pGe_i, pAddI_i, pIsN_non, pNotN_non, pIsN_bl, pNotN_bl, pIsN_int, pNotN_int, pIsN_str, pNotN_str, pIsN_tup, pNotN_tup, pIsN_lst, pNotN_lst, pIsN_ref, pNotN_ref, pIsN_ty, pNotN_ty, pIsN_scr, pNotN_scr, pIsI_non_bool, pIsI_non_int, pIsI_non_str, pIsI_non_tuple, pIsI_non_list, pIsI_bl_bool, pIsI_bl_int, pIsI_bl_str, pIsI_bl_tuple, pIsI_bl_list, pIsI_int_bool, pIsI_int_int, pIsI_int_str, pIsI_int_tuple, pIsI_int_list, pIsI_str_bool, pIsI_str_int, pIsI_str_str, pIsI_str_tuple, pIsI_str_list, pIsI_tup_bool, pIsI_tup_int, pIsI_tup_str, pIsI_tup_tuple, pIsI_tup_list, pIsI_lst_bool, pIsI_lst_int, pIsI_lst_str, pIsI_lst_tuple, pIsI_lst_list, pLen_tup, pIx_tup, pList_tup, pTuple_tup, seqOf_tup, pLen_lst, pIx_lst, pList_lst, pTuple_lst, seqOf_lst, pLen_scr, pIx_scr, pList_scr, pTuple_scr, seqOf_scr, pSl_tup, itemsOf_tup, pSl_lst, itemsOf_lst, pAbs_i, pInt_i, pInt_b, pMin2_i, gT_tup, gsCons_cons, gsNil_nil, getE_0, getE_s,
  Option.some.injEq, exists_eq_left', exists_eq_left, Z.int.injEq, Z.bl.injEq, Z.str.injEq, Z.tup.injEq, Z.lst.injEq, Z.ref.injEq, Option.map_some, Option.bind_some, List.set_cons_zero, List.set_cons_succ, List.map_cons, List.map_nil, List.cons_append, List.nil_append, List.length_cons, List.length_nil, List.replicate_succ, List.replicate_zero, true_and, and_true, if_true, Nat.reduceAdd, Nat.reduceSub, Bool.false_eq_true, if_false, ite_true, ite_false, List.cons.injEq, reduceIte, Bool.not_true, Bool.not_false])
local macro_rules | `(tactic| walk_at "v") => `(tactic| try simp only [szk_0, szk_1, szk_2, szk_3, szk_4, szk_5, szk_6, szk_7, szk_8, szk_9, szk_10, szk_11, szk_12, szk_13, szk_14, szk_15, szk_16, szk_17, szk_18, szk_19, szk_20, 
  pAdd_i, pNotIn_o, pEq_i, pNe_i, pIsN_of, pNotN_of, pEq_nn, pEq_ni, pEq_in, isNon_non', isNon_int, pNe_b, pEq_b, eq_make, eq_read, eq_drop, eq_dropsame, eq_swap, eq_move, eq_back, eq_old, eq_same, eq_dead, eq_mine, eq_caught, eq_enter, ne_leave, ne_enter, in_el, in_oel, cut14, notin_i, isNon_opt, pEq_oo, pEq_oi, eq_self, reduceCtorEq, decide_true, decide_false, Bool.not_true, Bool.not_false, Bool.or_false, Bool.or_true, Bool.false_or, Bool.true_or, pSub_i, pLt_i, pLe_i, pGt_i, pGe_i, pAddI_i, pIsN_non, pNotN_non, pIsN_bl, pNotN_bl, pIsN_int, pNotN_int, pIsN_str, pNotN_str, pIsN_tup, pNotN_tup, pIsN_lst, pNotN_lst, pIsN_ref, pNotN_ref, pIsN_ty, pNotN_ty, pIsN_scr, pNotN_scr, pIsI_non_bool, pIsI_non_int, pIsI_non_str, pIsI_non_tuple, pIsI_non_list, pIsI_bl_bool, pIsI_bl_int, pIsI_bl_str, pIsI_bl_tuple, pIsI_bl_list, pIsI_int_bool, pIsI_int_int, pIsI_int_str, pIsI_int_tuple, pIsI_int_list, pIsI_str_bool, pIsI_str_int, pIsI_str_str, pIsI_str_tuple, pIsI_str_list, pIsI_tup_bool, pIsI_tup_int, pIsI_tup_str, pIsI_tup_tuple, pIsI_tup_list, pIsI_lst_bool, pIsI_lst_int, pIsI_lst_str, pIsI_lst_tuple, pIsI_lst_list, pLen_tup, pIx_tup, pList_tup, pTuple_tup, seqOf_tup, pLen_lst, pIx_lst, pList_lst, pTuple_lst, seqOf_lst, pLen_scr, pIx_scr, pList_scr, pTuple_scr, seqOf_scr, pSl_tup, itemsOf_tup, pSl_lst, itemsOf_lst, pAbs_i, pInt_i, pInt_b, pMin2_i, gT_tup, gsCons_cons, gsNil_nil, getE_0, getE_s, atI_0, atI_1, atI_2, atI_3, atI_4, sUpd_same,
  Option.some.injEq, exists_eq_left', exists_eq_left, Z.int.injEq, Z.bl.injEq, Z.str.injEq, Z.tup.injEq, Z.lst.injEq, Z.ref.injEq, Option.map_some, Option.bind_some, List.set_cons_zero, List.set_cons_succ, List.map_cons, List.map_nil, List.cons_append, List.nil_append, List.length_cons, List.length_nil, List.replicate_succ, List.replicate_zero, true_and, and_true, if_true, Nat.reduceAdd, Nat.reduceSub, Bool.false_eq_true, if_false, ite_true, ite_false, List.cons.injEq, reduceIte, Bool.not_true, Bool.not_false])
set_option maxHeartbeats 1000000
theorem seq_set' {g : DG} {m : DE} {b : DS} {E : EK} {env e : L3.Env} {S : Sm} {K : Ks} {z : Z} (hm : ∀ k : Z → Sm → Prop, k z S → m E env S k) (hg : g z env = some e) (hb : b E e S K) : dSeq (dSet g m) b E env S K := hm _ ⟨e, hg, hb⟩
section
variable {t u : DT} {x y : DE} {E : EK} {env : L3.Env} {S : Sm} {a b : Bool}
theorem tand (h1 : ∀ k : Bool → Sm → Prop, k a S → t E env S k) (h2 : ∀ k : Bool → Sm → Prop, k b S → u E env S k) : ∀ k : Bool → Sm → Prop, k (a && b) S → dAndT t u E env S k := fun k q => h1 _ (by
  cases a with
  | true => exact ifT rfl (h2 k q)
  | false => exact ifF (by simp) q)
theorem tor (h1 : ∀ k : Bool → Sm → Prop, k a S → t E env S k) (h2 : ∀ k : Bool → Sm → Prop, k b S → u E env S k) : ∀ k : Bool → Sm → Prop, k (a || b) S → dOrT t u E env S k := fun k q => h1 _ (by
  cases a with
  | true => exact ifT rfl q
  | false => exact ifF (by simp) (h2 k q))
theorem eand (h1 : ∀ k : Z → Sm → Prop, k (.bl a) S → x E env S k) (h2 : a = true → ∀ k : Z → Sm → Prop, k (.bl b) S → y E env S k) : ∀ k : Z → Sm → Prop, k (.bl (a && b)) S → dAnd x y E env S k := fun k q => h1 _ ⟨a, rfl, by
  cases a with
  | true => exact ifT rfl (h2 rfl k q)
  | false => exact ifF (by simp) q⟩
theorem eor (h1 : ∀ k : Z → Sm → Prop, k (.bl a) S → x E env S k) (h2 : a = false → ∀ k : Z → Sm → Prop, k (.bl b) S → y E env S k) : ∀ k : Z → Sm → Prop, k (.bl (a || b)) S → dOr x y E env S k := fun k q => h1 _ ⟨a, rfl, by
  cases a with
  | true => exact ifT rfl q
  | false => exact ifF (by simp) (h2 rfl k q)⟩
end
def notedB (lock note : ON) : Bool := lock.isSome && decide (lock = note)
theorem ok_acted (zs RE S R) (h : s_acted zs RE S R) : b__law_acted zs RE S R := by
  obtain ⟨w, lock, ⟨row, own, note, pocket, ins⟩, live, j, jb, rfl, hj, hk⟩ := h
  unfold b__law_acted m__law_acted Proc.z
  refine ⟨rfl, ?_⟩
  simp only at hk
  refine seq_set' (z := .tup [.int own, zOpt note, zOpt pocket]) (e := [some (.str w.s), some (zOpt lock), some (Proc.z ⟨row, own, note, pocket, ins⟩), some (.lst (natsZ live)), some j, some (.int own), some (zOpt note), some (zOpt pocket), none, none]) (by (intro k q; walk_at "d"; exact q)) rfl ?_
  refine seq_set' (z := .bl (notedB lock note)) (e := [some (.str w.s), some (zOpt lock), some (Proc.z ⟨row, own, note, pocket, ins⟩), some (.lst (natsZ live)), some j, some (.int own), some (zOpt note), some (zOpt pocket), some (.bl (notedB lock note)), none]) (fun k q => by
    walk_at "d"
    unfold notedB at q
    cases lock with
    | none => simpa using q
    | some l => simpa using q) rfl ?_
  cases c1 : (decide (w = .make) && lock.isNone) with
  | true =>
    refine seq_ifT (by rw [← c1]; exact tand (by (intro k q; walk_at "d"; exact q)) (by (intro k q; walk_at "d"; exact q))) ?_
    walk_at "d"
    simp only [Bool.and_eq_true, decide_eq_true_eq] at c1
    rw [c1.1] at hk
    cases lock <;> simp at c1
    simpa [act, actedZ, zOpt] using hk
  | false =>
  refine seq_ifF (by rw [← c1]; exact tand (by (intro k q; walk_at "d"; exact q)) (by (intro k q; walk_at "d"; exact q))) ?_
  cases c2 : (decide (w = .read) && !lock.isNone) with
  | true =>
    refine seq_ifT (by rw [← c2]; exact tand (by (intro k q; walk_at "d"; exact q)) (by (intro k q; walk_at "d"; exact q))) ?_
    walk_at "d"
    simp only [Bool.and_eq_true, decide_eq_true_eq] at c2
    rw [c2.1] at hk
    cases lock <;> simp at c2
    simpa [act, actedZ, zOpt] using hk
  | false =>
  refine seq_ifF (by rw [← c2]; exact tand (by (intro k q; walk_at "d"; exact q)) (by (intro k q; walk_at "d"; exact q))) ?_
  cases c3 : (decide (w = .drop) || (decide (w = .dropsame) && notedB lock note)) with
  | true =>
    refine seq_ifT (by rw [← c3]; exact tor (by (intro k q; walk_at "d"; exact q)) (tand (by (intro k q; walk_at "d"; exact q)) (by (intro k q; walk_at "d"; exact q)))) ?_
    walk_at "d"
    simp only [Bool.or_eq_true, Bool.and_eq_true, decide_eq_true_eq] at c3
    rcases c3 with c3 | ⟨c3, c3'⟩
    · rw [c3] at hk
      simpa [act, actedZ, zOpt] using hk
    · rw [c3] at hk
      unfold notedB at c3'
      simp only [act, actedZ, c3', if_true] at hk
      simpa [zOpt] using hk
  | false =>
  refine seq_ifF (by rw [← c3]; exact tor (by (intro k q; walk_at "d"; exact q)) (tand (by (intro k q; walk_at "d"; exact q)) (by (intro k q; walk_at "d"; exact q)))) ?_
  cases c4 : (decide (w = .swap) && notedB lock note) with
  | true =>
    refine seq_ifT (by rw [← c4]; exact tand (by (intro k q; walk_at "d"; exact q)) (by (intro k q; walk_at "d"; exact q))) ?_
    walk_at "d"
    simp only [Bool.and_eq_true, decide_eq_true_eq] at c4
    rw [c4.1] at hk
    have c4' := c4.2
    unfold notedB at c4'
    simp only [act, actedZ, c4', if_true] at hk
    simpa [zOpt] using hk
  | false =>
  refine seq_ifF (by rw [← c4]; exact tand (by (intro k q; walk_at "d"; exact q)) (by (intro k q; walk_at "d"; exact q))) ?_
  cases c5 : (decide (w = .move) && !lock.isNone) with
  | true =>
    refine seq_ifT (by rw [← c5]; exact tand (by (intro k q; walk_at "d"; exact q)) (by (intro k q; walk_at "d"; exact q))) ?_
    walk_at "d"
    simp only [Bool.and_eq_true, decide_eq_true_eq] at c5
    rw [c5.1] at hk
    cases lock <;> simp at c5
    simpa [act, actedZ, zOpt] using hk
  | false =>
  refine seq_ifF (by rw [← c5]; exact tand (by (intro k q; walk_at "d"; exact q)) (by (intro k q; walk_at "d"; exact q))) ?_
  cases c6 : (decide (w = .back) && (lock.isNone && !pocket.isNone)) with
  | true =>
    refine seq_ifT (by rw [← c6]; exact tand (by (intro k q; walk_at "d"; exact q)) (tand (by (intro k q; walk_at "d"; exact q)) (by (intro k q; walk_at "d"; exact q)))) ?_
    walk_at "d"
    simp only [Bool.and_eq_true, decide_eq_true_eq] at c6
    rw [c6.1] at hk
    cases lock <;> cases pocket <;> simp at c6
    simpa [act, actedZ, zOpt] using hk
  | false =>
  refine seq_ifF (by rw [← c6]; exact tand (by (intro k q; walk_at "d"; exact q)) (tand (by (intro k q; walk_at "d"; exact q)) (by (intro k q; walk_at "d"; exact q)))) ?_
  have ej : ∀ k : Z → Sm → Prop, k (.bl (decide (w = .old) && jb)) S → (dAnd (dCmp (fun _ => pEq) (dVar 0) (dC (.str "old"))) (dCmp (fun _ => pIsT) (dVar 4) (dC (.bl true)))) (fun e _ S' => RE e S') [some (.str w.s), some (zOpt lock), some (Proc.z ⟨row, own, note, pocket, ins⟩), some (.lst (natsZ live)), some j, some (.int own), some (zOpt note), some (zOpt pocket), some (.bl (notedB lock note)), none] S k := eand (by (intro k q; walk_at "d"; exact q)) (fun hw k q => by
    rw [hj (of_decide_eq_true hw)]
    walk_at "d"
    refine ⟨jb, by cases jb <;> rfl, q⟩)
  generalize hg1 : ((decide (w = .enter) || decide (w = .leave)) || ((decide (w = .old) && jb) || (decide (w = .same) && notedB lock note))) = g1
  refine seq_set' (z := .bl g1) (e := [some (.str w.s), some (zOpt lock), some (Proc.z ⟨row, own, note, pocket, ins⟩), some (.lst (natsZ live)), some j, some (.int own), some (zOpt note), some (zOpt pocket), some (.bl (notedB lock note)), some (.bl g1)]) (by rw [← hg1]; exact eor (by (intro k q; walk_at "d"; exact q)) (fun _ => eor ej (fun _ => eand (by (intro k q; walk_at "d"; exact q)) (fun _ => by (intro k q; walk_at "d"; exact q))))) rfl ?_
  generalize hg2 : (g1 || ((decide (w = .dead) && (!note.isNone && !inO note live)) || (decide (w = .mine) && decide (lock = some own)))) = g2
  refine seq_set' (z := .bl g2) (e := [some (.str w.s), some (zOpt lock), some (Proc.z ⟨row, own, note, pocket, ins⟩), some (.lst (natsZ live)), some j, some (.int own), some (zOpt note), some (zOpt pocket), some (.bl (notedB lock note)), some (.bl g2)]) (by rw [← hg2]; exact eor (by (intro k q; walk_at "d"; exact q)) (fun _ => eor (eand (by (intro k q; walk_at "d"; exact q)) (fun _ => eand (by (intro k q; walk_at "d"; exact q)) (fun _ => by (intro k q; walk_at "d"; exact q)))) (fun _ => eand (by (intro k q; walk_at "d"; exact q)) (fun _ => by (intro k q; walk_at "d"; exact q))))) rfl ?_
  generalize hg3 : (g2 || (decide (w = .caught) && (!pocket.isNone && decide (pocket = note)))) = g3
  refine seq_set' (z := .bl g3) (e := [some (.str w.s), some (zOpt lock), some (Proc.z ⟨row, own, note, pocket, ins⟩), some (.lst (natsZ live)), some j, some (.int own), some (zOpt note), some (zOpt pocket), some (.bl (notedB lock note)), some (.bl g3)]) (by rw [← hg3]; exact eor (by (intro k q; walk_at "d"; exact q)) (fun _ => eand (by (intro k q; walk_at "d"; exact q)) (fun _ => eand (by (intro k q; walk_at "d"; exact q)) (fun _ => by (intro k q; walk_at "d"; exact q))))) rfl ?_
  have fin : (act w lock own note pocket live jb).went = g3 ∧ (g3 = true → act w lock own note pocket live jb = ⟨true, lock, note, pocket⟩) := by
    subst hg1 hg2 hg3
    clear ej hk hj
    cases w <;> cases lock <;> cases note <;> cases pocket <;> simp [act, inO, notedB] at c1 c2 c3 c4 c5 c6 ⊢ <;> simp_all
  walk_at "d"
  unfold actedZ at hk
  rw [fin.1] at hk
  cases hb : g3 with
  | true =>
    rw [hb] at hk
    rw [fin.2 hb] at hk
    simpa using hk
  | false =>
    rw [hb] at hk
    simpa using hk
end L3
namespace L3
open PySem PySem.Spec PyProof.Rows L2
local macro_rules | `(tactic| walk_at "d") => `(tactic| try simp only [szk_0, szk_1, szk_2, szk_3, szk_4, szk_5, szk_6, szk_7, szk_8, szk_9, szk_10, szk_11, szk_12, szk_13, szk_14, szk_15, szk_16, szk_17, szk_18, szk_19, szk_20, fromBody, dNil', dSeq, dSet, dRet, dRetN, dDrop, dIf, dVar, dC, dOp, dCmp, dCmpT, dChain, dChainT, dVal, dNotT, dAndT, dOrT, dAnd, dOr, dNot, dIfE, dNeg, dIx, dSl, dNoPart, dPart, dNil, dCons, dTup, dLst, dLstM, dCall, pure1, dCallF, dItSeq, dItRange, dItZip, dFor, dComp, dCompM, dYes, dAug, dPar, dSub, dRetF, dFrz, dAppend, dBrk, dCnt, wipeE, gN, dInTab, dIxTab, dCallL, dLenSet, dCount, dAddM, gL, dRaise, dTry, catchBy, dItEnum,
  pAdd_i, pNotIn_o, pEq_i, pNe_i, pIsN_of, pNotN_of, pEq_nn, pEq_ni, pEq_in, isNon_non', isNon_int, pNe_b, pEq_b, eq_make, eq_read, eq_drop, eq_dropsame, eq_swap, eq_move, eq_back, eq_old, eq_same, eq_dead, eq_mine, eq_caught, eq_enter, ne_leave, ne_enter, in_el, in_oel, cut14, notin_i, isNon_opt, pEq_oo, pEq_oi, eq_self, reduceCtorEq, decide_true, decide_false, Bool.not_true, Bool.not_false, Bool.or_false, Bool.or_true, Bool.false_or, Bool.true_or, pSub_i, pLt_i, pLe_i, pGt_i, pGe_i, pAddI_i, pIsN_non, pNotN_non, pIsN_bl, pNotN_bl, pIsN_int, pNotN_int, pIsN_str, pNotN_str, pIsN_tup, pNotN_tup, pIsN_lst, pNotN_lst, pIsN_ref, pNotN_ref, pIsN_ty, pNotN_ty, pIsN_scr, pNotN_scr, pIsI_non_bool, pIsI_non_int, pIsI_non_str, pIsI_non_tuple, pIsI_non_list, pIsI_bl_bool, pIsI_bl_int, pIsI_bl_str, pIsI_bl_tuple, pIsI_bl_list, pIsI_int_bool, pIsI_int_int, pIsI_int_str, pIsI_int_tuple, pIsI_int_list, pIsI_str_bool, pIsI_str_int, pIsI_str_str, pIsI_str_tuple, pIsI_str_list, pIsI_tup_bool, pIsI_tup_int, pIsI_tup_str, pIsI_tup_tuple, pIsI_tup_list, pIsI_lst_bool, pIsI_lst_int, pIsI_lst_str, pIsI_lst_tuple, pIsI_lst_list, pLen_tup, pIx_tup, pList_tup, pTuple_tup, seqOf_tup, pLen_lst, pIx_lst, pList_lst, pTuple_lst, seqOf_lst, pLen_scr, pIx_scr, pList_scr, pTuple_scr, seqOf_scr, pSl_tup, itemsOf_tup, pSl_lst, itemsOf_lst, pAbs_i, pInt_i, pInt_b, pMin2_i, gT_tup, gsCons_cons, gsNil_nil, getE_0, getE_s,
  Option.some.injEq, exists_eq_left', exists_eq_left, Z.int.injEq, Z.bl.injEq, Z.str.injEq, Z.tup.injEq, Z.lst.injEq, Z.ref.injEq, Option.map_some, Option.bind_some, List.set_cons_zero, List.set_cons_succ, List.map_cons, List.map_nil, List.cons_append, List.nil_append, List.length_cons, List.length_nil, List.replicate_succ, List.replicate_zero, true_and, and_true, if_true, Nat.reduceAdd, Nat.reduceSub, Bool.false_eq_true, if_false, ite_true, ite_false, List.cons.injEq, reduceIte, Bool.not_true, Bool.not_false])
local macro_rules | `(tactic| walk_at "v") => `(tactic| try simp only [szk_0, szk_1, szk_2, szk_3, szk_4, szk_5, szk_6, szk_7, szk_8, szk_9, szk_10, szk_11, szk_12, szk_13, szk_14, szk_15, szk_16, szk_17, szk_18, szk_19, szk_20, 
  pAdd_i, pNotIn_o, pEq_i, pNe_i, pIsN_of, pNotN_of, pEq_nn, pEq_ni, pEq_in, isNon_non', isNon_int, pNe_b, pEq_b, eq_make, eq_read, eq_drop, eq_dropsame, eq_swap, eq_move, eq_back, eq_old, eq_same, eq_dead, eq_mine, eq_caught, eq_enter, ne_leave, ne_enter, in_el, in_oel, cut14, notin_i, isNon_opt, pEq_oo, pEq_oi, eq_self, reduceCtorEq, decide_true, decide_false, Bool.not_true, Bool.not_false, Bool.or_false, Bool.or_true, Bool.false_or, Bool.true_or, pSub_i, pLt_i, pLe_i, pGt_i, pGe_i, pAddI_i, pIsN_non, pNotN_non, pIsN_bl, pNotN_bl, pIsN_int, pNotN_int, pIsN_str, pNotN_str, pIsN_tup, pNotN_tup, pIsN_lst, pNotN_lst, pIsN_ref, pNotN_ref, pIsN_ty, pNotN_ty, pIsN_scr, pNotN_scr, pIsI_non_bool, pIsI_non_int, pIsI_non_str, pIsI_non_tuple, pIsI_non_list, pIsI_bl_bool, pIsI_bl_int, pIsI_bl_str, pIsI_bl_tuple, pIsI_bl_list, pIsI_int_bool, pIsI_int_int, pIsI_int_str, pIsI_int_tuple, pIsI_int_list, pIsI_str_bool, pIsI_str_int, pIsI_str_str, pIsI_str_tuple, pIsI_str_list, pIsI_tup_bool, pIsI_tup_int, pIsI_tup_str, pIsI_tup_tuple, pIsI_tup_list, pIsI_lst_bool, pIsI_lst_int, pIsI_lst_str, pIsI_lst_tuple, pIsI_lst_list, pLen_tup, pIx_tup, pList_tup, pTuple_tup, seqOf_tup, pLen_lst, pIx_lst, pList_lst, pTuple_lst, seqOf_lst, pLen_scr, pIx_scr, pList_scr, pTuple_scr, seqOf_scr, pSl_tup, itemsOf_tup, pSl_lst, itemsOf_lst, pAbs_i, pInt_i, pInt_b, pMin2_i, gT_tup, gsCons_cons, gsNil_nil, getE_0, getE_s, atI_0, atI_1, atI_2, atI_3, atI_4, sUpd_same,
  Option.some.injEq, exists_eq_left', exists_eq_left, Z.int.injEq, Z.bl.injEq, Z.str.injEq, Z.tup.injEq, Z.lst.injEq, Z.ref.injEq, Option.map_some, Option.bind_some, List.set_cons_zero, List.set_cons_succ, List.map_cons, List.map_nil, List.cons_append, List.nil_append, List.length_cons, List.length_nil, List.replicate_succ, List.replicate_zero, true_and, and_true, if_true, Nat.reduceAdd, Nat.reduceSub, Bool.false_eq_true, if_false, ite_true, ite_false, List.cons.injEq, reduceIte, Bool.not_true, Bool.not_false])
set_option maxHeartbeats 2000000
theorem seq_par' {i j : Nat} {m : DA} {b : DS} {E : EK} {env e : L3.Env} {S : Sm} {K : Ks} {y z : Z} (hm : ∀ k : List Z → Sm → Prop, k [y, z] S → m E env S k) (hg : (env.set i (some y)).set j (some z) = e) (hb : b E e S K) : dSeq (dPar i j m) b E env S K := by
  subst hg
  exact hm _ ⟨y, z, rfl, hb⟩
theorem seq_assoc {a b c : DS} {E : EK} {env : L3.Env} {S : Sm} {K : Ks} (h : dSeq a (dSeq b c) E env S K) : dSeq (dSeq a b) c E env S K := h
def lmTail : DS := (dSeq (dSet (gN 6) (dAnd (dCmp (fun _ => pEq) (dIx (dIx (dVar 0) (dVar 5)) (dC (.int 0))) (dC (.str "join"))) (dAnd (dCmp (fun _ => pNe) (dIx (dVar 7) (dC (.int 0))) (dC (.str "enter"))) (dAnd (dCmp (fun _ => pEq) (dVar 9) (dOp pAdd (dVar 5) (dC (.int 1)))) (dCmp (fun _ => pLt) (dVar 9) (dCall (pure1 pLen1) (dCons (dVar 0) dNil))))))) (dSeq (dIf (dAndT (dVal (dVar 6)) (dCmpT pIn (dIx (dCallF s_barerow (dCons (dIx (dVar 0) (dVar 9)) dNil)) (dC (.int 0))) (dLst (dCons (dC (.str "old")) (dCons (dC (.str "enter")) (dCons (dC (.str "leave")) dNil)))))) (dSet (gN 6) (dC (.bl false))) dNil') (dSet (gN 5) (dVar 9))))
def lmEnv (p : Prog) (l : ON) (q : Proc) (live : List Nat) (j : Z) (at_ : Nat) (again : Bool) (row found : Z) (there : Nat) : L3.Env :=
  [some (progZ p), some (zOpt l), some q.z, some (.lst (natsZ live)), some j, some (.int at_), some (.bl again), some row, some found, some (.int there)]
theorem lmTail_ok {E : EK} {S : Sm} {K : Ks} {p : Prog} {r : Row} {l : ON} {q : Proc} {live : List Nat} {j : Z} {at_ : Nat} {fnd : Z} (hr : p[at_]? = some r) (hlt : q.row ≤ p.length)
    (stop : goOn p r at_ q = false → K.nx (lmEnv p l q live j q.row false r.bareZ fnd q.row) S)
    (go : ∀ r', p[q.row]? = some r' → r'.w ≠ .old → q.row = at_ + 1 → goOn p r at_ q = true → K.nx (lmEnv p l q live j q.row true r.bareZ fnd q.row) S) :
    lmTail E (lmEnv p l q live j at_ true r.bareZ fnd q.row) S K := by
  unfold lmTail
  obtain ⟨x, hx, hej⟩ := pIx_row0 (S := S) r
  generalize hg : (r.j && (!decide (r.w = .enter) && (decide ((q.row : Int) = at_ + 1) && decide ((q.row : Int) < p.length)))) = g
  refine seq_set' (z := .bl g) (e := lmEnv p l q live j at_ g r.bareZ fnd q.row) (by
    rw [← hg]
    unfold lmEnv
    refine eand (fun k q => by walk_at "d"; exact ⟨_, pIx_prog hr, x, hx, _, hej, q⟩) (fun _ => eand (fun k q => by walk_at "d"; exact ⟨_, r.head_w, by walk_at "v"; exact q⟩) (fun _ => eand (by (intro k q; walk_at "d"; exact q)) (fun _ k q => by walk_at "d"; exact ⟨_, pLen_prog p, by walk_at "v"; exact q⟩)))) rfl ?_
  have stopF : goOn p r at_ q = false → ∀ k : Ks, k = K → True := fun _ _ _ => trivial
  cases hgg : g with
  | false =>
    rw [hgg] at hg
    refine seq_ifF (fun k q => ?_) ?_
    · unfold lmEnv
      walk_at "d"
      exact q
    · unfold lmEnv at stop ⊢
      walk_at "d"
      refine stop ?_
      unfold goOn
      cases hj1 : r.j <;> rw [hj1] at hg <;> simp only [Bool.true_and, Bool.false_and] at hg ⊢
      cases hne : decide (r.w = .enter) <;> rw [hne] at hg <;> simp only [Bool.not_false, Bool.not_true, Bool.true_and, Bool.false_and] at hg ⊢
      by_cases hrow : q.row = at_ + 1
      · have e1 : decide ((q.row : Int) = at_ + 1) = true := decide_eq_true (by omega)
        rw [e1, Bool.true_and] at hg
        have e2 : ¬ q.row < p.length := by have := of_decide_eq_false hg; omega
        rw [List.getElem?_eq_none (by omega : p.length ≤ q.row), Bool.and_false]
      · rw [decide_eq_false hrow, Bool.false_and]
  | true =>
    rw [hgg] at hg
    simp only [Bool.and_eq_true, Bool.not_eq_true', decide_eq_true_eq, decide_eq_false_iff_not] at hg
    obtain ⟨g1, g2, g3, g4⟩ := hg
    have hrow : q.row = at_ + 1 := by omega
    have hl : q.row < p.length := by omega
    have hr' : p[q.row]? = some (p[q.row]'hl) := List.getElem?_eq_getElem hl
    generalize (p[q.row]'hl) = r' at hr'
    have hgo : goOn p r at_ q = !r'.w.alone := by
      unfold goOn
      rw [g1, hr']
      simp [g2, hrow]
    have test : ∀ k : Bool → Sm → Prop, k r'.w.alone S → (dAndT (dVal (dVar 6)) (dCmpT pIn (dIx (dCallF s_barerow (dCons (dIx (dVar 0) (dVar 9)) dNil)) (dC (.int 0))) (dLst (dCons (dC (.str "old")) (dCons (dC (.str "enter")) (dCons (dC (.str "leave")) dNil)))))) E (lmEnv p l q live j at_ true r.bareZ fnd q.row) S k := fun k q => by
      unfold lmEnv
      walk_at "d"
      refine ⟨_, pIx_prog hr', r', rfl, _, r'.head_w, ?_⟩
      walk_at "v"
      exact q
    cases hal : r'.w.alone with
    | true =>
      rw [hal] at test hgo
      refine seq_ifT test ?_
      unfold lmEnv at stop ⊢
      walk_at "d"
      exact stop (by rw [hgo]; rfl)
    | false =>
      rw [hal] at test hgo
      refine seq_ifF test ?_
      unfold lmEnv at go ⊢
      walk_at "d"
      exact go r' hr' (fun e => by rw [e] at hal; cases hal) hrow (by rw [hgo]; rfl)
def s_lawmoved : DF := s_advanced
theorem act_stay {w : Word} {lock : ON} {own : Nat} {note pocket : ON} {live : List Nat} {jb : Bool} (h : (act w lock own note pocket live jb).went = false) : act w lock own note pocket live jb = ⟨false, lock, note, pocket⟩ ∧ w.bare = false := by
  cases w <;> cases lock <;> cases note <;> cases pocket <;> simp [act, Word.bare] at h ⊢ <;> simp_all
theorem ok_lawmoved (zs RE S R) (h : s_lawmoved zs RE S R) : b__law_moved s_barerow s_acted zs RE S R := by
  obtain ⟨p, lock, q, live, j, jb, r0, rfl, wf, hr0, hj, hk⟩ := h
  unfold b__law_moved m__law_moved
  refine ⟨rfl, ?_⟩
  have hq0 : q.row < p.length := (List.getElem?_eq_some_iff.mp hr0).1
  refine seq_par' (y := .int q.row) (z := .bl true) (e := [some (progZ p), some (zOpt lock), some q.z, some (.lst (natsZ live)), some j, some (.int q.row), some (.bl true), none, none, none]) (fun k q' => by walk_at "d"; exact ⟨_, q.row_ix, q'⟩) rfl ?_
  let IA : Nat → L3.Env → Prop := fun n env => ∃ (m : Nat) (l : ON) (q' : Proc) (r : Row) (o7 o8 o9 : Option Z), n = m + 1 ∧ p[q'.row]? = some r ∧ (r.w = .old → j = .bl jb) ∧ p.length ≤ m + 1 + q'.row ∧
      (advF p live jb (m + 1) l q') = advF p live jb p.length lock q ∧ env = [some (progZ p), some (zOpt l), some q'.z, some (.lst (natsZ live)), some j, some (.int q'.row), some (.bl true), o7, o8, o9]
  let IB : Nat → L3.Env → Prop := fun n env => ∃ (o7 o8 o9 : Option Z), n = 0 ∧ env = [some (progZ p), some (zOpt (advF p live jb p.length lock q).lock), some (advF p live jb p.length lock q).proc.z, some (.lst (natsZ live)), some j, some (.int (advF p live jb p.length lock q).proc.row), some (.bl false), o7, o8, o9]
  refine ⟨fun n env S' => S' = S ∧ (IA n env ∨ IB n env), ⟨p.length, rfl, .inl ⟨p.length - 1, lock, q, r0, none, none, none, by omega, hr0, hj, by omega, by rw [Nat.sub_add_cancel (by omega)], rfl⟩⟩, fun n env S' hI => ?_⟩
  obtain ⟨rfl, hI⟩ := hI
  rcases hI with ⟨m, l, q', r, o7, o8, o9, rfl, hr, hjr, hfuel, hadv, rfl⟩ | ⟨o7, o8, o9, rfl, rfl⟩
  · refine ⟨_, rfl, true, rfl, ifT rfl ?_⟩
    have hq' : q'.row < p.length := (List.getElem?_eq_some_iff.mp hr).1
    have hD := doneF_row wf (List.mem_of_getElem? hr) (at_ := q'.row) l q' hq' live jb
    have estep : advF p live jb (m + 1) l q' = if goOn p r q'.row (doneF r l q' live jb).proc then advF p live jb m (doneF r l q' live jb).lock (doneF r l q' live jb).proc else ⟨(doneF r l q' live jb).lock, (doneF r l q' live jb).proc⟩ := by
      show (match p[q'.row]? with | none => _ | some r => _) = _
      rw [hr]
    refine seq_set' (z := r.bareZ) (e := [some (progZ p), some (zOpt l), some q'.z, some (.lst (natsZ live)), some j, some (.int q'.row), some (.bl true), some r.bareZ, o8, o9]) (fun k q => by walk_at "d"; exact ⟨_, pIx_prog hr, r, rfl, q⟩) rfl ?_
    refine seq_set' (z := actedZ (act r.w l q'.mark q'.note q'.pocket live jb)) (e := [some (progZ p), some (zOpt l), some q'.z, some (.lst (natsZ live)), some j, some (.int q'.row), some (.bl true), some r.bareZ, some (actedZ (act r.w l q'.mark q'.note q'.pocket live jb)), o9]) (fun k q => by walk_at "d"; exact ⟨_, r.head_w, r.w, l, q', live, j, jb, rfl, hjr, q⟩) rfl ?_
    have tail : ∀ (fnd : Z) (K : Ks), K.nx = (fun e s => ∃ m_1, m_1 < m + 1 ∧ s = S' ∧ (IA m_1 e ∨ IB m_1 e)) → lmTail (fun e _ S' => RE e S') (lmEnv p (doneF r l q' live jb).lock (doneF r l q' live jb).proc live j q'.row true r.bareZ fnd (doneF r l q' live jb).proc.row) S' K := fun fnd K hK => by
      generalize doneF r l q' live jb = D at hD estep ⊢
      refine lmTail_ok hr hD (fun hg => ?_) (fun r' hr' hno hrow hg => ?_)
      · rw [hK]
        rw [hg, hadv] at estep
        exact ⟨0, by omega, rfl, .inr ⟨_, _, _, rfl, by rw [estep]; rfl⟩⟩
      · rw [hK]
        rw [hg, hadv] at estep
        have hlt := (List.getElem?_eq_some_iff.mp hr').1
        exact ⟨m, by omega, rfl, .inl ⟨m - 1, D.lock, D.proc, r', _, _, _, by omega, hr', fun e => absurd e hno, by omega, by rw [Nat.sub_add_cancel (by omega), estep]; rfl, rfl⟩⟩
    have insE : ∀ (a : Act), (decide (r.w = .enter) || (q'.ins && !decide (r.w = .leave))) = (doneF r l q' live jb).proc.ins := fun _ => by
      show _ = (match r.w with | .enter => true | .leave => false | _ => q'.ins)
      cases r.w <;> simp
    have e8 : ∀ (x y z u : Z) (b : Bool), cutZ [x, y, z, u, .bl b] (some 4) none = [.bl b] := fun _ _ _ _ _ => rfl
    have e2 : ∀ (x y z u v : Z), cutZ [x, y, z, u, v] none (some 2) = [x, y] := fun _ _ _ _ _ => rfl
    have e1 : ∀ (x y z : Z), cutZ [x, y, z] (some 1) none = [y, z] := fun _ _ _ => rfl
    have dz : (doneF r l q' live jb).proc.z = .tup [.int (doneF r l q' live jb).proc.row, .int q'.mark, zOpt (act r.w l q'.mark q'.note q'.pocket live jb).note, zOpt (act r.w l q'.mark q'.note q'.pocket live jb).pocket, .bl (doneF r l q' live jb).proc.ins] := rfl
    have dl : (doneF r l q' live jb).lock = (act r.w l q'.mark q'.note q'.pocket live jb).lock := rfl
    cases hw : (act r.w l q'.mark q'.note q'.pocket live jb).went with
    | true =>
      have ez : actedZ (act r.w l q'.mark q'.note q'.pocket live jb) = .tup [zOpt (act r.w l q'.mark q'.note q'.pocket live jb).lock, zOpt (act r.w l q'.mark q'.note q'.pocket live jb).note, zOpt (act r.w l q'.mark q'.note q'.pocket live jb).pocket] := by unfold actedZ; rw [hw]; rfl
      have er : (doneF r l q' live jb).proc.row = q'.row + 1 := by simp [doneF, hw]
      rw [ez]
      generalize (act r.w l q'.mark q'.note q'.pocket live jb) = ac at dz dl ⊢
      generalize doneF r l q' live jb = D at tail insE dz dl er
      refine seq_set' (z := .int D.proc.row) (e := [some (progZ p), some (zOpt l), some q'.z, some (.lst (natsZ live)), some j, some (.int q'.row), some (.bl true), some r.bareZ, some (.tup [zOpt ac.lock, zOpt ac.note, zOpt ac.pocket]), some (.int D.proc.row)]) (fun k q => by
        walk_at "d"
        rw [er] at q
        simpa [isNon] using q) rfl ?_
      refine seq_ifT (fun k q => by walk_at "d"; simpa [isNon] using q) (seq_assoc ?_)
      refine seq_set' (z := zOpt ac.lock) (e := [some (progZ p), some (zOpt ac.lock), some q'.z, some (.lst (natsZ live)), some j, some (.int q'.row), some (.bl true), some r.bareZ, some (.tup [zOpt ac.lock, zOpt ac.note, zOpt ac.pocket]), some (.int D.proc.row)]) (fun k q => by
        walk_at "d"
        exact ⟨_, atI_0, q⟩) rfl ?_
      refine seq_set' (z := .tup [.int q'.row, .int q'.mark, zOpt ac.note, zOpt ac.pocket, .bl q'.ins]) (e := [some (progZ p), some (zOpt ac.lock), some (.tup [.int q'.row, .int q'.mark, zOpt ac.note, zOpt ac.pocket, .bl q'.ins]), some (.lst (natsZ live)), some j, some (.int q'.row), some (.bl true), some r.bareZ, some (.tup [zOpt ac.lock, zOpt ac.note, zOpt ac.pocket]), some (.int D.proc.row)]) (fun k q => by
        unfold Proc.z
        walk_at "d"
        rw [e2, e1, e8]
        exact ⟨_, pAdd_t (by simp), _, pAdd_t (by simp), q⟩) rfl ?_
      refine seq_set' (z := D.proc.z) (e := lmEnv p D.lock D.proc live j q'.row true r.bareZ (.tup [zOpt ac.lock, zOpt ac.note, zOpt ac.pocket]) D.proc.row) (fun k q => by
        walk_at "d"
        refine ⟨_, pAdd_t (by simp), _, r.head_w, ?_⟩
        walk_at "v"
        rw [dz, ← insE ac] at q
        cases h1 : decide (r.w = .enter) <;> rw [h1] at q <;> simp only [if_true, if_false, Bool.false_eq_true, Bool.true_or, Bool.false_or] at q ⊢
        · cases h2 : q'.ins <;> rw [h2] at q <;> simp only [if_true, if_false, Bool.false_eq_true, Bool.true_and, Bool.false_and] at q ⊢
          · exact ⟨_, pAdd_t (by simp), q⟩
          · exact ⟨_, r.head_w, by walk_at "v"; exact ⟨_, pAdd_t (by simp), q⟩⟩
        · exact ⟨_, pAdd_t (by simp), q⟩) (by rw [dl]; rfl) ?_
      exact tail _ _ rfl
    | false =>
      obtain ⟨est, hbare⟩ := act_stay hw
      have ez : actedZ (act r.w l q'.mark q'.note q'.pocket live jb) = .non := by unfold actedZ; rw [hw]; rfl
      have er : (doneF r l q' live jb).proc.row = r.t := by simp [doneF, hw]
      rw [ez]
      rw [est] at dz dl
      generalize doneF r l q' live jb = D at tail insE dz dl er
      refine seq_set' (z := .int D.proc.row) (e := [some (progZ p), some (zOpt l), some q'.z, some (.lst (natsZ live)), some j, some (.int q'.row), some (.bl true), some r.bareZ, some .non, some (.int D.proc.row)]) (fun k q => by
        walk_at "d"
        rw [er] at q
        exact ⟨_, r.t_w hbare, q⟩) rfl ?_
      refine seq_ifF (fun k q => by walk_at "d"; exact q) ?_
      refine seq_set' (z := D.proc.z) (e := lmEnv p D.lock D.proc live j q'.row true r.bareZ .non D.proc.row) (fun k q => by
        unfold Proc.z
        walk_at "d"
        refine ⟨_, pAdd_t (by simp), _, r.head_w, ?_⟩
        walk_at "v"
        rw [dz, ← insE ⟨true, none, none, none⟩] at q
        cases h1 : decide (r.w = .enter) <;> rw [h1] at q <;> simp only [if_true, if_false, Bool.false_eq_true, Bool.true_or, Bool.false_or] at q ⊢
        · cases h2 : q'.ins <;> rw [h2] at q <;> simp only [if_true, if_false, Bool.false_eq_true, Bool.true_and, Bool.false_and] at q ⊢
          · exact ⟨_, pAdd_t (by simp), q⟩
          · exact ⟨_, r.head_w, by walk_at "v"; exact ⟨_, pAdd_t (by simp), q⟩⟩
        · exact ⟨_, pAdd_t (by simp), q⟩) (by rw [dl]; rfl) ?_
      exact tail _ _ rfl
  · refine ⟨_, rfl, false, rfl, ifF (by simp) ?_⟩
    walk_at "d"
    refine ⟨_, pLen_prog p, ?_⟩
    walk_at "v"
    have hfin : (if (advF p live jb p.length lock q).proc.row = p.length then R (.tup [zOpt (advF p live jb p.length lock q).lock, .non]) S' else R (.tup [zOpt (advF p live jb p.length lock q).lock, (advF p live jb p.length lock q).proc.z]) S') := by
      unfold endF at hk
      by_cases e : (advF p live jb p.length lock q).proc.row = p.length
      · rw [if_pos e] at hk ⊢; exact hk
      · rw [if_neg e] at hk ⊢; exact hk
    by_cases e : (advF p live jb p.length lock q).proc.row = p.length
    · rw [if_pos e] at hfin
      exact ifT (by rw [e]; simp) hfin
    · rw [if_neg e] at hfin
      exact ifF (by simp; omega) hfin
end L3
namespace L3
open PySem PySem.Spec PyProof.Rows L2
local macro_rules | `(tactic| walk_at "d") => `(tactic| try simp only [szk_0, szk_1, szk_2, szk_3, szk_4, szk_5, szk_6, szk_7, szk_8, szk_9, szk_10, szk_11, szk_12, szk_13, szk_14, szk_15, szk_16, szk_17, szk_18, szk_19, szk_20, fromBody, dNil', dSeq, dSet, dRet, dRetN, dDrop, dIf, dVar, dC, dOp, dCmp, dCmpT, dChain, dChainT, dVal, dNotT, dAndT, dOrT, dAnd, dOr, dNot, dIfE, dNeg, dIx, dSl, dNoPart, dPart, dNil, dCons, dTup, dLst, dLstM, dCall, pure1, dCallF, dItSeq, dItRange, dItZip, dFor, dComp, dCompM, dYes, dAug, dPar, dSub, dRetF, dFrz, dAppend, dBrk, dCnt, wipeE, gN, dInTab, dIxTab, dCallL, dLenSet, dCount, dAddM, gL, dRaise, dTry, catchBy, dItEnum,
  pAdd_i, pNotIn_o, pEq_i, pNe_i, pIsN_of, pNotN_of, pEq_nn, pEq_ni, pEq_in, isNon_non', isNon_int, pNe_b, pEq_b, eq_make, eq_read, eq_drop, eq_dropsame, eq_swap, eq_move, eq_back, eq_old, eq_same, eq_dead, eq_mine, eq_caught, eq_enter, ne_leave, ne_enter, in_el, in_oel, cut14, notin_i, isNon_opt, pEq_oo, pEq_oi, eq_self, reduceCtorEq, decide_true, decide_false, Bool.not_true, Bool.not_false, Bool.or_false, Bool.or_true, Bool.false_or, Bool.true_or, pSub_i, pLt_i, pLe_i, pGt_i, pGe_i, pAddI_i, pIsN_non, pNotN_non, pIsN_bl, pNotN_bl, pIsN_int, pNotN_int, pIsN_str, pNotN_str, pIsN_tup, pNotN_tup, pIsN_lst, pNotN_lst, pIsN_ref, pNotN_ref, pIsN_ty, pNotN_ty, pIsN_scr, pNotN_scr, pIsI_non_bool, pIsI_non_int, pIsI_non_str, pIsI_non_tuple, pIsI_non_list, pIsI_bl_bool, pIsI_bl_int, pIsI_bl_str, pIsI_bl_tuple, pIsI_bl_list, pIsI_int_bool, pIsI_int_int, pIsI_int_str, pIsI_int_tuple, pIsI_int_list, pIsI_str_bool, pIsI_str_int, pIsI_str_str, pIsI_str_tuple, pIsI_str_list, pIsI_tup_bool, pIsI_tup_int, pIsI_tup_str, pIsI_tup_tuple, pIsI_tup_list, pIsI_lst_bool, pIsI_lst_int, pIsI_lst_str, pIsI_lst_tuple, pIsI_lst_list, pLen_tup, pIx_tup, pList_tup, pTuple_tup, seqOf_tup, pLen_lst, pIx_lst, pList_lst, pTuple_lst, seqOf_lst, pLen_scr, pIx_scr, pList_scr, pTuple_scr, seqOf_scr, pSl_tup, itemsOf_tup, pSl_lst, itemsOf_lst, pAbs_i, pInt_i, pInt_b, pMin2_i, gT_tup, gsCons_cons, gsNil_nil, getE_0, getE_s,
  Option.some.injEq, exists_eq_left', exists_eq_left, Z.int.injEq, Z.bl.injEq, Z.str.injEq, Z.tup.injEq, Z.lst.injEq, Z.ref.injEq, Option.map_some, Option.bind_some, List.set_cons_zero, List.set_cons_succ, List.map_cons, List.map_nil, List.cons_append, List.nil_append, List.length_cons, List.length_nil, List.replicate_succ, List.replicate_zero, true_and, and_true, if_true, Nat.reduceAdd, Nat.reduceSub, Bool.false_eq_true, if_false, ite_true, ite_false, List.cons.injEq, reduceIte, Bool.not_true, Bool.not_false])
local macro_rules | `(tactic| walk_at "v") => `(tactic| try simp only [szk_0, szk_1, szk_2, szk_3, szk_4, szk_5, szk_6, szk_7, szk_8, szk_9, szk_10, szk_11, szk_12, szk_13, szk_14, szk_15, szk_16, szk_17, szk_18, szk_19, szk_20, 
  pAdd_i, pNotIn_o, pEq_i, pNe_i, pIsN_of, pNotN_of, pEq_nn, pEq_ni, pEq_in, isNon_non', isNon_int, pNe_b, pEq_b, eq_make, eq_read, eq_drop, eq_dropsame, eq_swap, eq_move, eq_back, eq_old, eq_same, eq_dead, eq_mine, eq_caught, eq_enter, ne_leave, ne_enter, in_el, in_oel, cut14, notin_i, isNon_opt, pEq_oo, pEq_oi, eq_self, reduceCtorEq, decide_true, decide_false, Bool.not_true, Bool.not_false, Bool.or_false, Bool.or_true, Bool.false_or, Bool.true_or, pSub_i, pLt_i, pLe_i, pGt_i, pGe_i, pAddI_i, pIsN_non, pNotN_non, pIsN_bl, pNotN_bl, pIsN_int, pNotN_int, pIsN_str, pNotN_str, pIsN_tup, pNotN_tup, pIsN_lst, pNotN_lst, pIsN_ref, pNotN_ref, pIsN_ty, pNotN_ty, pIsN_scr, pNotN_scr, pIsI_non_bool, pIsI_non_int, pIsI_non_str, pIsI_non_tuple, pIsI_non_list, pIsI_bl_bool, pIsI_bl_int, pIsI_bl_str, pIsI_bl_tuple, pIsI_bl_list, pIsI_int_bool, pIsI_int_int, pIsI_int_str, pIsI_int_tuple, pIsI_int_list, pIsI_str_bool, pIsI_str_int, pIsI_str_str, pIsI_str_tuple, pIsI_str_list, pIsI_tup_bool, pIsI_tup_int, pIsI_tup_str, pIsI_tup_tuple, pIsI_tup_list, pIsI_lst_bool, pIsI_lst_int, pIsI_lst_str, pIsI_lst_tuple, pIsI_lst_list, pLen_tup, pIx_tup, pList_tup, pTuple_tup, seqOf_tup, pLen_lst, pIx_lst, pList_lst, pTuple_lst, seqOf_lst, pLen_scr, pIx_scr, pList_scr, pTuple_scr, seqOf_scr, pSl_tup, itemsOf_tup, pSl_lst, itemsOf_lst, pAbs_i, pInt_i, pInt_b, pMin2_i, gT_tup, gsCons_cons, gsNil_nil, getE_0, getE_s, atI_0, atI_1, atI_2, atI_3, atI_4, sUpd_same,
  Option.some.injEq, exists_eq_left', exists_eq_left, Z.int.injEq, Z.bl.injEq, Z.str.injEq, Z.tup.injEq, Z.lst.injEq, Z.ref.injEq, Option.map_some, Option.bind_some, List.set_cons_zero, List.set_cons_succ, List.map_cons, List.map_nil, List.cons_append, List.nil_append, List.length_cons, List.length_nil, List.replicate_succ, List.replicate_zero, true_and, and_true, if_true, Nat.reduceAdd, Nat.reduceSub, Bool.false_eq_true, if_false, ite_true, ite_false, List.cons.injEq, reduceIte, Bool.not_true, Bool.not_false])
set_option maxHeartbeats 2000000
theorem l_ss : pEq (.str "start") (.str "start") = some true := e_ss
theorem l_ds : pEq (.str "die") (.str "start") = some false := e_ds
theorem l_ts : pEq (.str "step") (.str "start") = some false := e_ts
theorem l_js : pEq (.str "judge") (.str "start") = some false := e_js
theorem l_dd : pEq (.str "die") (.str "die") = some true := e_dd
theorem l_td : pEq (.str "step") (.str "die") = some false := e_td
theorem l_jd : pEq (.str "judge") (.str "die") = some false := e_jd
theorem l_tj : pEq (.str "step") (.str "judge") = some false := e_tj
theorem l_jj : pEq (.str "judge") (.str "judge") = some true := e_jj
theorem marks_call {ps : List Prog} {st : Stand} (w : SWf ps st) (p3 : ps.length ≤ 3) {RE S} {k : Z → Sm → Prop} (hk : k (.lst (natsZ st.marks)) S) : s_lawlive [st.z] RE S k := ⟨ps, st, rfl, p3, w, hk⟩
def afEnv (ps : List Prog) (f : Facts) (st : Stand) (e d i v : Z) (o : Option Proc) : L3.Env :=
  [some (progsZ ps), some (factsZ f), some st.z, some e, some d, some i, some v, some (zSlot o), some (.lst (natsZ st.marks)), none, none]
theorem ok_lawafter (zs RE S R) (h : s_behind zs RE S R) : b__law_after s_lawlive s_marksof s_withslot s_barerow s_lawmoved zs RE S R := by
  obtain ⟨ps, f, st, e, rfl, wf, w, we, hk⟩ := h
  unfold b__law_after m__law_after
  have p3 := wf.most
  have sl := w.len
  obtain ⟨o, p, ho, hp, hrow⟩ := beh_common wf w we.slot
  have hil : e.slot < st.slots.length := by rw [sl]; exact we.slot
  have wp := wf.all p (List.mem_of_getElem? hp)
  refine ⟨rfl, ?_⟩
  cases e with
  | start i m =>
    simp only [Ev.slot] at ho hp hil
    simp only [beh, Ev.slot, ho] at hk
    refine seq_set' (z := (Ev.start i m).z) (e := [some (progsZ ps), some (factsZ f), some st.z, some (Ev.start i m).z, some (.str "start"), some (.int i), some (.int m), none, none, none, none]) (by (intro k q; walk_at "d"; exact q)) rfl ?_
    refine seq_par' (y := zSlot o) (z := .lst (natsZ st.marks)) (e := afEnv ps f st (Ev.start i m).z (.str "start") (.int i) (.int m) o) (fun k q => by
      walk_at "d"
      exact ⟨_, st_ix1 st, _, slot_ix ho, marks_call w p3 q⟩) rfl ?_
    refine seq_ifT (fun k q => by unfold afEnv; walk_at "d"; exact ⟨_, l_ss, q⟩) (seq_assoc ?_)
    have test : ∀ k : Bool → Sm → Prop, k (!o.isNone || (decide (m ∈ st.marks) || (f.fr && decide (m ∈ allM st)))) S → (dOrT (dCmpT (fun _ => pNotN) (dVar 7) (dC .non)) (dOrT (dCmpT pIn (dVar 6) (dVar 8)) (dAndT (dCmpT pIn (dC (.str "fresh")) (dVar 1)) (dCmpT pIn (dVar 6) (dCallF s_marksof (dCons (dVar 2) dNil)))))) (fun e _ S' => RE e S') (afEnv ps f st (Ev.start i m).z (.str "start") (.int i) (.int m) o) S k :=
      tor (fun k q => by unfold afEnv; walk_at "d"; rw [isNon_slot]; exact q) (tor (fun k q => by unfold afEnv; walk_at "d"; exact ⟨_, pIn_natsL m st.marks, q⟩) (tand (fun k q => by unfold afEnv; walk_at "d"; exact ⟨_, pIn_fresh f, q⟩) (fun k q => by unfold afEnv; walk_at "d"; exact ⟨st, rfl, by omega, _, pIn_natsL m (allM st), q⟩)))
    have hms : mayStart f st o m = !(!o.isNone || (decide (m ∈ st.marks) || (f.fr && decide (m ∈ allM st)))) := by
      unfold mayStart
      cases o.isNone <;> cases decide (m ∈ st.marks) <;> cases f.fr <;> simp
    generalize (!o.isNone || (decide (m ∈ st.marks) || (f.fr && decide (m ∈ allM st)))) = t at test hms
    rw [hms] at hk
    cases t with
    | true =>
      refine seq_ifT test ?_
      walk_at "d"
      simpa [zSt] using hk
    | false =>
      refine seq_ifF test ?_
      unfold afEnv
      walk_at "d"
      exact ⟨_, st_ix0 st, st, i, st.lock, some ⟨0, m, none, none, false⟩, rfl, hil, by omega, by simpa [zSt] using hk⟩
  | die i =>
    simp only [Ev.slot] at ho hp hil
    refine seq_set' (z := (Ev.die i).z) (e := [some (progsZ ps), some (factsZ f), some st.z, some (Ev.die i).z, some (.str "die"), some (.int i), some .non, none, none, none, none]) (by (intro k q; walk_at "d"; exact q)) rfl ?_
    refine seq_par' (y := zSlot o) (z := .lst (natsZ st.marks)) (e := afEnv ps f st (Ev.die i).z (.str "die") (.int i) .non o) (fun k q => by
      walk_at "d"
      exact ⟨_, st_ix1 st, _, slot_ix ho, marks_call w p3 q⟩) rfl ?_
    refine seq_ifF (fun k q => by unfold afEnv; walk_at "d"; exact ⟨_, l_ds, q⟩) ?_
    have t2 : ∀ k : Bool → Sm → Prop, k (o.isNone || (true && f.st)) S → (dOrT (dCmpT (fun _ => pIsN) (dVar 7) (dC .non)) (dAndT (dCmpT (fun _ => pEq) (dVar 4) (dC (.str "die"))) (dCmpT pIn (dC (.str "steady")) (dVar 1)))) (fun e _ S' => RE e S') (afEnv ps f st (Ev.die i).z (.str "die") (.int i) .non o) S k :=
      tor (fun k q => by unfold afEnv; walk_at "d"; rw [isNon_slot]; exact q) (tand (fun k q => by unfold afEnv; walk_at "d"; exact ⟨_, l_dd, q⟩) (fun k q => by unfold afEnv; walk_at "d"; exact ⟨_, pIn_steady f, q⟩))
    cases o with
    | none =>
      simp only [beh, Ev.slot, ho] at hk
      refine seq_ifT (fun k q => t2 k (by simpa using q)) ?_
      walk_at "d"
      simpa [zSt] using hk
    | some q =>
      simp only [beh, Ev.slot, ho] at hk
      cases hs : f.st with
      | true =>
        rw [hs] at hk
        refine seq_ifT (fun k q => t2 k (by simpa [hs] using q)) ?_
        walk_at "d"
        simpa [zSt] using hk
      | false =>
        rw [hs] at hk
        refine seq_ifF (fun k q => t2 k (by simpa [hs] using q)) ?_
        refine seq_ifT (fun k q => by unfold afEnv; walk_at "d"; exact ⟨_, l_dd, q⟩) ?_
        unfold afEnv
        walk_at "d"
        exact ⟨_, st_ix0 st, st, i, st.lock, none, rfl, hil, by omega, by simpa [zSt] using hk⟩
  | step i =>
    simp only [Ev.slot] at ho hp hil
    refine seq_set' (z := (Ev.step i).z) (e := [some (progsZ ps), some (factsZ f), some st.z, some (Ev.step i).z, some (.str "step"), some (.int i), some .non, none, none, none, none]) (by (intro k q; walk_at "d"; exact q)) rfl ?_
    refine seq_par' (y := zSlot o) (z := .lst (natsZ st.marks)) (e := afEnv ps f st (Ev.step i).z (.str "step") (.int i) .non o) (fun k q => by
      walk_at "d"
      exact ⟨_, st_ix1 st, _, slot_ix ho, marks_call w p3 q⟩) rfl ?_
    refine seq_ifF (fun k q => by unfold afEnv; walk_at "d"; exact ⟨_, l_ts, q⟩) ?_
    have t2 : ∀ k : Bool → Sm → Prop, k (o.isNone || (false && f.st)) S → (dOrT (dCmpT (fun _ => pIsN) (dVar 7) (dC .non)) (dAndT (dCmpT (fun _ => pEq) (dVar 4) (dC (.str "die"))) (dCmpT pIn (dC (.str "steady")) (dVar 1)))) (fun e _ S' => RE e S') (afEnv ps f st (Ev.step i).z (.str "step") (.int i) .non o) S k :=
      tor (fun k q => by unfold afEnv; walk_at "d"; rw [isNon_slot]; exact q) (tand (fun k q => by unfold afEnv; walk_at "d"; exact ⟨_, l_td, q⟩) (fun k q => by unfold afEnv; walk_at "d"; exact ⟨_, pIn_steady f, q⟩))
    cases o with
    | none =>
      simp only [beh, Ev.slot, ho] at hk
      refine seq_ifT (fun k q => t2 k (by simpa using q)) ?_
      walk_at "d"
      simpa [zSt] using hk
    | some q =>
      obtain ⟨r, hr⟩ := hrow q rfl
      simp only [beh, Ev.slot, ho, hp, hr] at hk
      refine seq_ifF (fun k q => t2 k (by simpa using q)) ?_
      refine seq_ifF (fun k q => by unfold afEnv; walk_at "d"; exact ⟨_, l_td, q⟩) ?_
      have t3 : ∀ k : Bool → Sm → Prop, k (false != decide (r.w = .old)) S → (dCmpT (fun _ => pNe) (dCmp (fun _ => pEq) (dVar 4) (dC (.str "judge"))) (dCmp (fun _ => pEq) (dIx (dCallF s_barerow (dCons (dIx (dIx (dVar 0) (dVar 5)) (dIx (dVar 7) (dC (.int 0)))) dNil)) (dC (.int 0))) (dC (.str "old")))) (fun e _ S' => RE e S') (afEnv ps f st (Ev.step i).z (.str "step") (.int i) .non (some q)) S k := fun k q' => by
        unfold afEnv
        simp only [zSlot]
        walk_at "d"
        refine ⟨_, l_tj, _, pIx_progs hp, _, q.row_ix, _, pIx_prog hr, r, rfl, _, r.head_w, ?_⟩
        walk_at "v"
        exact q'
      by_cases hold : r.w = .old
      · rw [if_pos hold] at hk
        refine seq_ifT (fun k q => t3 k (by simpa [hold] using q)) ?_
        walk_at "d"
        simpa [zSt] using hk
      · rw [if_neg hold] at hk
        refine seq_ifF (fun k q => t3 k (by simpa [hold] using q)) ?_
        refine seq_ifF (fun k q => by unfold afEnv; walk_at "d"; exact ⟨false, rfl, by simpa using q⟩) ?_
        refine seq_set' (z := .tup [zOpt (advF p st.marks false p.length st.lock q).lock, zSlot (endF p (advF p st.marks false p.length st.lock q).proc)]) (e := [some (progsZ ps), some (factsZ f), some st.z, some (Ev.step i).z, some (.str "step"), some (.int i), some .non, some q.z, some (.lst (natsZ st.marks)), some (zOpt (advF p st.marks false p.length st.lock q).lock), some (zSlot (endF p (advF p st.marks false p.length st.lock q).proc))]) (fun k q' => by
          unfold afEnv
          simp only [zSlot]
          walk_at "d"
          exact ⟨_, pIx_progs hp, _, st_ix0 st, p, st.lock, q, st.marks, .non, false, r, rfl, wp, hr, fun e => absurd e hold, q'⟩) rfl ?_
        walk_at "d"
        exact ⟨st, i, _, _, rfl, hil, by omega, hk⟩
  | judge i b =>
    simp only [Ev.slot] at ho hp hil
    refine seq_set' (z := (Ev.judge i b).z) (e := [some (progsZ ps), some (factsZ f), some st.z, some (Ev.judge i b).z, some (.str "judge"), some (.int i), some (.bl b), none, none, none, none]) (by (intro k q; walk_at "d"; exact q)) rfl ?_
    refine seq_par' (y := zSlot o) (z := .lst (natsZ st.marks)) (e := afEnv ps f st (Ev.judge i b).z (.str "judge") (.int i) (.bl b) o) (fun k q => by
      walk_at "d"
      exact ⟨_, st_ix1 st, _, slot_ix ho, marks_call w p3 q⟩) rfl ?_
    refine seq_ifF (fun k q => by unfold afEnv; walk_at "d"; exact ⟨_, l_js, q⟩) ?_
    have t2 : ∀ k : Bool → Sm → Prop, k (o.isNone || (false && f.st)) S → (dOrT (dCmpT (fun _ => pIsN) (dVar 7) (dC .non)) (dAndT (dCmpT (fun _ => pEq) (dVar 4) (dC (.str "die"))) (dCmpT pIn (dC (.str "steady")) (dVar 1)))) (fun e _ S' => RE e S') (afEnv ps f st (Ev.judge i b).z (.str "judge") (.int i) (.bl b) o) S k :=
      tor (fun k q => by unfold afEnv; walk_at "d"; rw [isNon_slot]; exact q) (tand (fun k q => by unfold afEnv; walk_at "d"; exact ⟨_, l_jd, q⟩) (fun k q => by unfold afEnv; walk_at "d"; exact ⟨_, pIn_steady f, q⟩))
    cases o with
    | none =>
      simp only [beh, Ev.slot, ho] at hk
      refine seq_ifT (fun k q => t2 k (by simpa using q)) ?_
      walk_at "d"
      simpa [zSt] using hk
    | some q =>
      obtain ⟨r, hr⟩ := hrow q rfl
      simp only [beh, Ev.slot, ho, hp, hr] at hk
      refine seq_ifF (fun k q => t2 k (by simpa using q)) ?_
      refine seq_ifF (fun k q => by unfold afEnv; walk_at "d"; exact ⟨_, l_jd, q⟩) ?_
      have t3 : ∀ k : Bool → Sm → Prop, k (true != decide (r.w = .old)) S → (dCmpT (fun _ => pNe) (dCmp (fun _ => pEq) (dVar 4) (dC (.str "judge"))) (dCmp (fun _ => pEq) (dIx (dCallF s_barerow (dCons (dIx (dIx (dVar 0) (dVar 5)) (dIx (dVar 7) (dC (.int 0)))) dNil)) (dC (.int 0))) (dC (.str "old")))) (fun e _ S' => RE e S') (afEnv ps f st (Ev.judge i b).z (.str "judge") (.int i) (.bl b) (some q)) S k := fun k q' => by
        unfold afEnv
        simp only [zSlot]
        walk_at "d"
        refine ⟨_, l_jj, _, pIx_progs hp, _, q.row_ix, _, pIx_prog hr, r, rfl, _, r.head_w, ?_⟩
        walk_at "v"
        exact q'
      by_cases hold : r.w = .old
      · rw [if_pos hold] at hk
        refine seq_ifF (fun k q => t3 k (by simpa [hold] using q)) ?_
        have t4 : ∀ k : Bool → Sm → Prop, k (b && (st.lock.isNone || (f.pr && inO st.lock st.marks))) S → (dAndT (dCmpT (fun _ => pIsT) (dVar 6) (dC (.bl true))) (dOrT (dCmpT (fun _ => pIsN) (dIx (dVar 2) (dC (.int 0))) (dC .non)) (dAndT (dCmpT pIn (dC (.str "prompt")) (dVar 1)) (dCmpT pIn (dIx (dVar 2) (dC (.int 0))) (dVar 8))))) (fun e _ S' => RE e S') (afEnv ps f st (Ev.judge i b).z (.str "judge") (.int i) (.bl b) (some q)) S k :=
          tand (fun k q => by unfold afEnv; walk_at "d"; exact ⟨b, by cases b <;> rfl, q⟩) (tor (fun k q => by unfold afEnv; walk_at "d"; refine ⟨_, st_ix0 st, ?_⟩; walk_at "v"; exact q) (tand (fun k q => by unfold afEnv; walk_at "d"; exact ⟨_, pIn_prompt f, q⟩) (fun k q => by unfold afEnv; walk_at "d"; exact ⟨_, st_ix0 st, _, pIn_opt st.lock st.marks, q⟩)))
        have hmj : mayJudge f st b = !(b && (st.lock.isNone || (f.pr && inO st.lock st.marks))) := by
          unfold mayJudge
          cases b <;> cases st.lock <;> cases f.pr <;> simp
        generalize (b && (st.lock.isNone || (f.pr && inO st.lock st.marks))) = t at t4 hmj
        rw [hmj] at hk
        cases t with
        | true =>
          refine seq_ifT t4 ?_
          walk_at "d"
          simpa [zSt] using hk
        | false =>
          refine seq_ifF t4 ?_
          refine seq_set' (z := .tup [zOpt (advF p st.marks b p.length st.lock q).lock, zSlot (endF p (advF p st.marks b p.length st.lock q).proc)]) (e := [some (progsZ ps), some (factsZ f), some st.z, some (Ev.judge i b).z, some (.str "judge"), some (.int i), some (.bl b), some q.z, some (.lst (natsZ st.marks)), some (zOpt (advF p st.marks b p.length st.lock q).lock), some (zSlot (endF p (advF p st.marks b p.length st.lock q).proc))]) (fun k q' => by
            unfold afEnv
            simp only [zSlot]
            walk_at "d"
            exact ⟨_, pIx_progs hp, _, st_ix0 st, p, st.lock, q, st.marks, .bl b, b, r, rfl, wp, hr, fun _ => rfl, q'⟩) rfl ?_
          walk_at "d"
          exact ⟨st, i, _, _, rfl, hil, by omega, by simpa [movedSt, zSt] using hk⟩
      · rw [if_neg hold] at hk
        refine seq_ifT (fun k q => t3 k (by simpa [hold] using q)) ?_
        walk_at "d"
        simpa [zSt] using hk
end L3
namespace L3
open PySem PySem.Spec PyProof.Rows L2

/-! ### an event keeps a stand well made -/
def Bd (o : ON) : Prop := ∀ m, o = some m → m ≤ 999
theorem bd_none : Bd none := fun _ h => nomatch h
theorem bd_some {n : Nat} (h : n ≤ 999) : Bd (some n) := fun m e => by cases e; exact h
theorem act_bd {w : Word} {lock : ON} {own : Nat} {note pocket : ON} {live : List Nat} {jb : Bool} (h1 : Bd lock) (h2 : own ≤ 999) (h3 : Bd note) (h4 : Bd pocket) :
    Bd (act w lock own note pocket live jb).lock ∧ Bd (act w lock own note pocket live jb).note ∧ Bd (act w lock own note pocket live jb).pocket := by
  cases w <;> simp only [act] <;> refine ⟨?_, ?_, ?_⟩ <;> (try split) <;> first | assumption | exact bd_none | exact bd_some h2
structure Qb (p : Prog) (μ : Nat) (q : Proc) : Prop where
  row : q.row ≤ p.length
  mark : q.mark = μ
  note : Bd q.note
  pocket : Bd q.pocket
theorem doneF_ok {p : Prog} (wf : PWf p) {μ : Nat} (hμ : μ ≤ 999) {r : Row} {lock : ON} {q : Proc} {live : List Nat} {jb : Bool} (hr : p[q.row]? = some r) (hl : Bd lock) (hq : Qb p μ q) : Bd (doneF r lock q live jb).lock ∧ Qb p μ (doneF r lock q live jb).proc := by
  have hlt := (List.getElem?_eq_some_iff.mp hr).1
  obtain ⟨a1, a2, a3⟩ := act_bd (w := r.w) (live := live) (jb := jb) hl (by rw [hq.mark]; exact hμ : q.mark ≤ 999) hq.note hq.pocket
  exact ⟨a1, doneF_row wf (List.mem_of_getElem? hr) (at_ := q.row) lock q hlt live jb, hq.mark, a2, a3⟩
theorem advF_ok {p : Prog} (wf : PWf p) {μ : Nat} (hμ : μ ≤ 999) {live : List Nat} {jb : Bool} : ∀ (n : Nat) (lock : ON) (q : Proc), Bd lock → Qb p μ q → Bd (advF p live jb n lock q).lock ∧ Qb p μ (advF p live jb n lock q).proc
  | 0, lock, q, hl, hq => ⟨hl, hq⟩
  | n + 1, lock, q, hl, hq => by
    unfold advF
    cases hr : p[q.row]? with
    | none => exact ⟨hl, hq⟩
    | some r =>
      simp only
      have d := doneF_ok wf hμ (live := live) (jb := jb) hr hl hq
      split
      · exact advF_ok wf hμ n _ _ d.1 d.2
      · exact d
theorem marks_same {L : List (Option Proc)} : ∀ {i : Nat} {q q' : Proc}, L[i]? = some (some q) → q'.mark = q.mark → (L.set i (some q')).filterMap (·.map Proc.mark) = L.filterMap (·.map Proc.mark) := by
  induction L with
  | nil => intro i q q' h; simp at h
  | cons a L ih =>
    intro i q q' h e
    cases i with
    | zero =>
      simp at h
      subst h
      simp [e]
    | succ i =>
      have h' : L[i]? = some (some q) := by simpa using h
      cases a <;> simp [ih h' e]
theorem marks_none {L : List (Option Proc)} : ∀ (i : Nat), ((L.set i none).filterMap (·.map Proc.mark)).Sublist (L.filterMap (·.map Proc.mark)) := by
  induction L with
  | nil => intro i; simp
  | cons a L ih =>
    intro i
    cases i with
    | zero => cases a <;> simp
    | succ i => cases a <;> simp [ih i]
theorem marks_new {L : List (Option Proc)} : ∀ {i : Nat} {q : Proc}, L[i]? = some none → ((L.set i (some q)).filterMap (·.map Proc.mark)).Perm (q.mark :: L.filterMap (·.map Proc.mark)) := by
  induction L with
  | nil => intro i q h; simp at h
  | cons a L ih =>
    intro i q h
    cases i with
    | zero =>
      simp at h
      subst h
      simp
    | succ i =>
      have h' : L[i]? = some none := by simpa using h
      have := ih (q := q) h'
      cases a with
      | none => simpa using this
      | some x =>
        simp only [List.set_cons_succ, List.filterMap_cons, Option.map_some]
        exact (this.cons x.mark).trans (List.Perm.swap _ _ _)
theorem swf_set {ps : List Prog} {st : Stand} (w : SWf ps st) {i : Nat} {p : Prog} (hp : ps[i]? = some p) {l : ON} (hl : Bd l) {o : Option Proc} (ho : ∀ q, o = some q → q.Wf p) (hn : ((st.slots.set i o).filterMap (·.map Proc.mark)).Nodup) : SWf ps (setSt st i l o) := by
  refine ⟨by simp [setSt, w.len], hl, fun j p' q' h1 h2 => ?_, hn⟩
  simp only [setSt] at h2
  by_cases e : i = j
  · subst e
    rw [hp] at h1
    cases h1
    have hi : i < st.slots.length := by rw [w.len]; exact (List.getElem?_eq_some_iff.mp hp).1
    rw [List.getElem?_set_self hi] at h2
    exact ho q' (by simpa using h2)
  · rw [List.getElem?_set_ne e] at h2
    exact w.proc j p' q' h1 h2
theorem moved_wf {ps : List Prog} {st : Stand} (w : SWf ps st) {i : Nat} {p : Prog} (hp : ps[i]? = some p) (wp : PWf p) {q : Proc} (ho : st.slots[i]? = some (some q)) (jb : Bool) : SWf ps (movedSt p st i q jb) := by
  have hq := w.proc i p q hp ho
  obtain ⟨b1, b2⟩ := advF_ok wp hq.mark (live := st.marks) (jb := jb) p.length st.lock q w.lock ⟨Nat.le_of_lt hq.row, rfl, hq.note, hq.pocket⟩
  unfold movedSt
  generalize advF p st.marks jb p.length st.lock q = A at b1 b2
  refine swf_set w hp b1 (fun q' hq' => ?_) ?_
  · unfold endF at hq'
    split at hq'
    · cases hq'
    · rename_i hne
      cases hq'
      have := b2.row
      exact ⟨by omega, by rw [b2.mark]; exact hq.mark, b2.note, b2.pocket⟩
  · unfold endF
    split
    · exact List.Sublist.nodup (marks_none i) w.nod
    · rw [marks_same ho b2.mark]; exact w.nod
theorem beh_wf {ps : List Prog} {f : Facts} {st st' : Stand} {e : Ev} (wf : PsWf ps) (w : SWf ps st) (we : e.Wf ps.length) (h : beh ps f st e = some st') : SWf ps st' := by
  obtain ⟨o, p, ho, hp, hrow⟩ := beh_common wf w we.slot
  have wp := wf.all p (List.mem_of_getElem? hp)
  cases e with
  | start i m =>
    simp only [Ev.slot] at ho hp
    simp only [beh, Ev.slot, ho] at h
    split at h
    · rename_i hm
      cases h
      unfold mayStart at hm
      simp only [Bool.and_eq_true, Bool.not_eq_true', decide_eq_false_iff_not] at hm
      have on : o = none := by cases o <;> first | rfl | simp at hm
      subst on
      have hpos := wp.pos
      refine swf_set w hp w.lock (fun q hq => by cases hq; exact ⟨hpos, we.mark i m rfl, (fun _ h => nomatch h), (fun _ h => nomatch h)⟩) ?_
      have pm := marks_new (q := ⟨0, m, none, none, false⟩) ho
      rw [pm.nodup_iff, List.nodup_cons]
      exact ⟨hm.2.1, w.nod⟩
    · cases h
  | die i =>
    simp only [Ev.slot] at ho hp
    cases o with
    | none => simp only [beh, Ev.slot, ho] at h; cases h
    | some q =>
      simp only [beh, Ev.slot, ho] at h
      split at h
      · cases h
      · cases h
        exact swf_set w hp w.lock (fun q hq => nomatch hq) (List.Sublist.nodup (marks_none i) w.nod)
  | step i =>
    simp only [Ev.slot] at ho hp
    cases o with
    | none => simp only [beh, Ev.slot, ho] at h; cases h
    | some q =>
      obtain ⟨r, hr⟩ := hrow q rfl
      simp only [beh, Ev.slot, ho, hp, hr] at h
      split at h
      · cases h
      · cases h
        exact moved_wf w hp wp ho false
  | judge i b =>
    simp only [Ev.slot] at ho hp
    cases o with
    | none => simp only [beh, Ev.slot, ho] at h; cases h
    | some q =>
      obtain ⟨r, hr⟩ := hrow q rfl
      simp only [beh, Ev.slot, ho, hp, hr] at h
      split at h
      · split at h
        · cases h
          exact moved_wf w hp wp ho b
        · cases h
      · cases h
end L3
namespace L3
open PySem PySem.Spec PyProof.Rows L2
local macro_rules | `(tactic| walk_at "d") => `(tactic| try simp only [szk_0, szk_1, szk_2, szk_3, szk_4, szk_5, szk_6, szk_7, szk_8, szk_9, szk_10, szk_11, szk_12, szk_13, szk_14, szk_15, szk_16, szk_17, szk_18, szk_19, szk_20, fromBody, dNil', dSeq, dSet, dRet, dRetN, dDrop, dIf, dVar, dC, dOp, dCmp, dCmpT, dChain, dChainT, dVal, dNotT, dAndT, dOrT, dAnd, dOr, dNot, dIfE, dNeg, dIx, dSl, dNoPart, dPart, dNil, dCons, dTup, dLst, dLstM, dCall, pure1, dCallF, dItSeq, dItRange, dItZip, dFor, dComp, dCompM, dYes, dAug, dPar, dSub, dRetF, dFrz, dAppend, dBrk, dCnt, wipeE, gN, dInTab, dIxTab, dCallL, dLenSet, dCount, dAddM, gL, dRaise, dTry, catchBy, dItEnum,
  pAdd_i, pNotIn_o, pEq_i, pNe_i, pIsN_of, pNotN_of, pEq_nn, pEq_ni, pEq_in, isNon_non', isNon_int, pNe_b, pEq_b, eq_make, eq_read, eq_drop, eq_dropsame, eq_swap, eq_move, eq_back, eq_old, eq_same, eq_dead, eq_mine, eq_caught, eq_enter, ne_leave, ne_enter, in_el, in_oel, cut14, notin_i, isNon_opt, pEq_oo, pEq_oi, eq_self, reduceCtorEq, decide_true, decide_false, Bool.not_true, Bool.not_false, Bool.or_false, Bool.or_true, Bool.false_or, Bool.true_or, pSub_i, pLt_i, pLe_i, pGt_i, pGe_i, pAddI_i, pIsN_non, pNotN_non, pIsN_bl, pNotN_bl, pIsN_int, pNotN_int, pIsN_str, pNotN_str, pIsN_tup, pNotN_tup, pIsN_lst, pNotN_lst, pIsN_ref, pNotN_ref, pIsN_ty, pNotN_ty, pIsN_scr, pNotN_scr, pIsI_non_bool, pIsI_non_int, pIsI_non_str, pIsI_non_tuple, pIsI_non_list, pIsI_bl_bool, pIsI_bl_int, pIsI_bl_str, pIsI_bl_tuple, pIsI_bl_list, pIsI_int_bool, pIsI_int_int, pIsI_int_str, pIsI_int_tuple, pIsI_int_list, pIsI_str_bool, pIsI_str_int, pIsI_str_str, pIsI_str_tuple, pIsI_str_list, pIsI_tup_bool, pIsI_tup_int, pIsI_tup_str, pIsI_tup_tuple, pIsI_tup_list, pIsI_lst_bool, pIsI_lst_int, pIsI_lst_str, pIsI_lst_tuple, pIsI_lst_list, pLen_tup, pIx_tup, pList_tup, pTuple_tup, seqOf_tup, pLen_lst, pIx_lst, pList_lst, pTuple_lst, seqOf_lst, pLen_scr, pIx_scr, pList_scr, pTuple_scr, seqOf_scr, pSl_tup, itemsOf_tup, pSl_lst, itemsOf_lst, pAbs_i, pInt_i, pInt_b, pMin2_i, gT_tup, gsCons_cons, gsNil_nil, getE_0, getE_s,
  Option.some.injEq, exists_eq_left', exists_eq_left, Z.int.injEq, Z.bl.injEq, Z.str.injEq, Z.tup.injEq, Z.lst.injEq, Z.ref.injEq, Option.map_some, Option.bind_some, List.set_cons_zero, List.set_cons_succ, List.map_cons, List.map_nil, List.cons_append, List.nil_append, List.length_cons, List.length_nil, List.replicate_succ, List.replicate_zero, true_and, and_true, if_true, Nat.reduceAdd, Nat.reduceSub, Bool.false_eq_true, if_false, ite_true, ite_false, List.cons.injEq, reduceIte, Bool.not_true, Bool.not_false])
local macro_rules | `(tactic| walk_at "v") => `(tactic| try simp only [szk_0, szk_1, szk_2, szk_3, szk_4, szk_5, szk_6, szk_7, szk_8, szk_9, szk_10, szk_11, szk_12, szk_13, szk_14, szk_15, szk_16, szk_17, szk_18, szk_19, szk_20, 
  pAdd_i, pNotIn_o, pEq_i, pNe_i, pIsN_of, pNotN_of, pEq_nn, pEq_ni, pEq_in, isNon_non', isNon_int, pNe_b, pEq_b, eq_make, eq_read, eq_drop, eq_dropsame, eq_swap, eq_move, eq_back, eq_old, eq_same, eq_dead, eq_mine, eq_caught, eq_enter, ne_leave, ne_enter, in_el, in_oel, cut14, notin_i, isNon_opt, pEq_oo, pEq_oi, eq_self, reduceCtorEq, decide_true, decide_false, Bool.not_true, Bool.not_false, Bool.or_false, Bool.or_true, Bool.false_or, Bool.true_or, pSub_i, pLt_i, pLe_i, pGt_i, pGe_i, pAddI_i, pIsN_non, pNotN_non, pIsN_bl, pNotN_bl, pIsN_int, pNotN_int, pIsN_str, pNotN_str, pIsN_tup, pNotN_tup, pIsN_lst, pNotN_lst, pIsN_ref, pNotN_ref, pIsN_ty, pNotN_ty, pIsN_scr, pNotN_scr, pIsI_non_bool, pIsI_non_int, pIsI_non_str, pIsI_non_tuple, pIsI_non_list, pIsI_bl_bool, pIsI_bl_int, pIsI_bl_str, pIsI_bl_tuple, pIsI_bl_list, pIsI_int_bool, pIsI_int_int, pIsI_int_str, pIsI_int_tuple, pIsI_int_list, pIsI_str_bool, pIsI_str_int, pIsI_str_str, pIsI_str_tuple, pIsI_str_list, pIsI_tup_bool, pIsI_tup_int, pIsI_tup_str, pIsI_tup_tuple, pIsI_tup_list, pIsI_lst_bool, pIsI_lst_int, pIsI_lst_str, pIsI_lst_tuple, pIsI_lst_list, pLen_tup, pIx_tup, pList_tup, pTuple_tup, seqOf_tup, pLen_lst, pIx_lst, pList_lst, pTuple_lst, seqOf_lst, pLen_scr, pIx_scr, pList_scr, pTuple_scr, seqOf_scr, pSl_tup, itemsOf_tup, pSl_lst, itemsOf_lst, pAbs_i, pInt_i, pInt_b, pMin2_i, gT_tup, gsCons_cons, gsNil_nil, getE_0, getE_s, atI_0, atI_1, atI_2, atI_3, atI_4, sUpd_same,
  Option.some.injEq, exists_eq_left', exists_eq_left, Z.int.injEq, Z.bl.injEq, Z.str.injEq, Z.tup.injEq, Z.lst.injEq, Z.ref.injEq, Option.map_some, Option.bind_some, List.set_cons_zero, List.set_cons_succ, List.map_cons, List.map_nil, List.cons_append, List.nil_append, List.length_cons, List.length_nil, List.replicate_succ, List.replicate_zero, true_and, and_true, if_true, Nat.reduceAdd, Nat.reduceSub, Bool.false_eq_true, if_false, ite_true, ite_false, List.cons.injEq, reduceIte, Bool.not_true, Bool.not_false])
set_option maxHeartbeats 2000000
theorem sub3 {a b c : Z} {ys : List Z} (h : ys.Sublist [a, b, c]) : ∃ x y z : Bool, ys = (if x then [a] else []) ++ ((if y then [b] else []) ++ (if z then [c] else [])) := by
  have s0 : ∀ {l : List Z}, l.Sublist [] → l = [] := fun h => List.sublist_nil.mp h
  have s1 : ∀ {l : List Z}, l.Sublist [c] → ∃ z : Bool, l = (if z then [c] else []) := fun {l} h => by
    rcases List.sublist_cons_iff.mp h with q | ⟨r, e, q⟩
    · exact ⟨false, s0 q⟩
    · exact ⟨true, by rw [e, s0 q]; rfl⟩
  have s2 : ∀ {l : List Z}, l.Sublist [b, c] → ∃ y z : Bool, l = (if y then [b] else []) ++ (if z then [c] else []) := fun {l} h => by
    rcases List.sublist_cons_iff.mp h with q | ⟨r, e, q⟩
    · obtain ⟨z, e2⟩ := s1 q
      exact ⟨false, z, e2⟩
    · obtain ⟨z, e2⟩ := s1 q
      exact ⟨true, z, by rw [e, e2]; rfl⟩
  rcases List.sublist_cons_iff.mp h with q | ⟨r, e, q⟩
  · obtain ⟨y, z, e2⟩ := s2 q
    exact ⟨false, y, z, e2⟩
  · obtain ⟨y, z, e2⟩ := s2 q
    exact ⟨true, y, z, by rw [e, e2]; rfl⟩
def s_facts : DF := fun zs RE S k => ∃ a : Addr, zs = [.ref a] ∧ S a = some .src ∧ ∀ f : Facts, k (factsZ f) S
theorem ok_facts (zs RE S R) (h : s_facts zs RE S R) : b__law_facts s_draw zs RE S R := by
  obtain ⟨a, rfl, hs, hk⟩ := h
  unfold b__law_facts m__law_facts
  walk_at "d"
  refine compZ_some _ _ (by simp) (fun z hz => ⟨_, rfl, fun k' hk' => ?_, fun k' hk' => ?_⟩) fun ys hys => ?_
  · walk_at "d"
    exact ⟨a, 3, rfl, hs, by omega, by omega, fun x _ _ => by walk_at "v"; exact hk' _⟩
  · walk_at "d"
    exact hk'
  · obtain ⟨x, y, z, rfl⟩ := sub3 hys
    rw [List.nil_append]
    exact hk ⟨x, y, z⟩
theorem allM_le {ps : List Prog} {st : Stand} (w : SWf ps st) : ∀ m ∈ allM st, m ≤ 999 := fun m hm => by
  unfold allM allO at hm
  rw [List.mem_filterMap] at hm
  obtain ⟨o, ho, e⟩ := hm
  simp only [id] at e
  subst e
  rcases List.mem_cons.mp ho with h | h
  · exact w.lock m h.symm
  · obtain ⟨l, hl, hm⟩ := List.mem_flatten.mp h
    obtain ⟨o, ho, rfl⟩ := List.mem_map.mp hl
    cases o with
    | none => simp [procMs] at hm
    | some q =>
      obtain ⟨i, hi⟩ := List.getElem?_of_mem ho
      have hli := (List.getElem?_eq_some_iff.mp hi).1
      have hp : ps[i]? = some (ps[i]'(by rw [← w.len]; exact hli)) := List.getElem?_eq_getElem _
      have hq := w.proc i _ q hp hi
      simp only [procMs, List.mem_cons, List.not_mem_nil, or_false, Option.some.injEq] at hm
      rcases hm with e | e | e
      · rw [e]; exact hq.mark
      · exact hq.note m e.symm
      · exact hq.pocket m e.symm
theorem allM_len {ps : List Prog} {st : Stand} (w : SWf ps st) (p3 : ps.length ≤ 3) : (allM st).length ≤ 10 := by
  have h1 := flat_len st.slots
  have h2 : (allM st).length ≤ (allO st).length := List.length_filterMap_le ..
  have h3 : (allO st).length = ((st.slots.map procMs).flatten).length + 1 := by simp [allO]
  have := w.len
  omega
theorem zSt_dat (o : Option Stand) : dat (zSt o) = true := by
  cases o with
  | none => rfl
  | some s => exact st_dat s
theorem zSt_dep (o : Option Stand) : dep (zSt o) ≤ 3 := by
  cases o with
  | none => exact Nat.zero_le _
  | some s => exact st_dep s
theorem ok_law5 (zs RE S R) (h : s_theLaw zs RE S R) : b_law_k05 s_source s_short s_program s_facts s_lawstand s_marksof s_draw s_choice s_after s_behind s_isstand zs RE S R := by
  obtain ⟨ns, rfl, hn, hk⟩ := h
  unfold b_law_k05 m_law_k05
  walk_at "d"
  refine ⟨by split <;> omega, by split <;> omega, ?_⟩
  have hcount : (1 + if (10 : Int) < ((List.map Z.int ns).length : Int) then 10 else ((List.map Z.int ns).length : Int)).toNat ≤ 11 := by split <;> omega
  generalize (1 + if (10 : Int) < ((List.map Z.int ns).length : Int) then 10 else ((List.map Z.int ns).length : Int)).toNat = cnt at hcount
  refine forZ_ind (fun _ env _ => ∃ o1 o2 o3 o4 o5 o6 o7 o8 o9 o10 o11 o12, env = [some (Z.scr (List.map Z.int ns)), o1, o2, o3, o4, o5, o6, o7, o8, o9, o10, o11, o12]) _ 0 _ _ ⟨_, _, _, _, _, _, _, _, _, _, _, _, rfl⟩ (fun j z hj env S' hI => ?_) (fun env S' hI => ?_)
  · obtain ⟨o1, o2, o3, o4, o5, o6, o7, o8, o9, o10, o11, o12, rfl⟩ := hI
    have hz : ∃ m : Nat, z = .int m ∧ m ≤ 10 := by
      rw [List.getElem?_map] at hj
      cases e : (List.range cnt)[j]? with
      | none => rw [e] at hj; cases hj
      | some m =>
        rw [e] at hj
        cases hj
        obtain ⟨h1, h2⟩ := List.getElem?_eq_some_iff.mp e
        rw [List.getElem_range] at h2
        rw [List.length_range] at h1
        exact ⟨m, rfl, by omega⟩
    obtain ⟨m, rfl, hm⟩ := hz
    refine ⟨_, rfl, fun K' hnx hct hrt hbk => ?_⟩
    walk_at "d"
    refine ⟨ns, m, rfl, by omega, fun a ha => ?_⟩
    refine ⟨a, 12, rfl, sUpd_same, by omega, by omega, fun p1 w1 l1 _ => ⟨a, 12, rfl, sUpd_same, by omega, by omega, fun p2 w2 l2 _ => ?_⟩⟩
    have wf : PsWf [p1, p2] := ⟨by simp, by simp, fun p hp => by
      rcases List.mem_cons.mp hp with e | hp
      · rw [e]; exact w1
      · rw [List.mem_singleton.mp hp]; exact w2⟩
    have ep : Z.tup [progZ p1, progZ p2] = progsZ [p1, p2] := rfl
    walk_at "v"
    rw [ep]
    have pl : [p1, p2].length = 2 := rfl
    generalize [p1, p2] = ps at wf pl
    have pd := progsZ_dep ps
    walk_at "v"
    refine ⟨by omega, by omega, ?_⟩
    refine forZ_ind (fun i env S'' => S'' a = some .src ∧ ∃ o4 o5 o6 o7 o8 o9 o10 o11 o12, env = [some (Z.scr (List.map Z.int ns)), some (Z.int m), some (Z.ref a), some (progsZ ps), o4, o5, o6, o7, o8, o9, o10, o11, o12]) _ 0 _ _ ⟨sUpd_same, _, _, _, _, _, _, _, _, _, rfl⟩ (fun i u hi env S'' hJ => ?_) (fun env S'' hJ => ?_)
    · obtain ⟨hs, o4, o5, o6, o7, o8, o9, o10, o11, o12, rfl⟩ := hJ
      refine ⟨_, rfl, fun K2 hnx2 hct2 hrt2 hbk2 => ?_⟩
      walk_at "d"
      refine ⟨a, ps, rfl, hs, wf, fun st sw => ⟨a, rfl, hs, fun f => ?_⟩⟩
      refine ⟨_, _, ⟨rfl, rfl⟩, ?_⟩
      refine ⟨by omega, by omega, ?_⟩
      refine forZ_ind (fun i env S3 => S3 a = some .src ∧ ∃ o7 o8 o9 o10 o11 o12, env = [some (Z.scr (List.map Z.int ns)), some (Z.int m), some (Z.ref a), some (progsZ ps), some u, some st.z, some (factsZ f), o7, o8, o9, o10, o11, o12]) _ 0 _ _ ⟨hs, _, _, _, _, _, _, rfl⟩ (fun i3 u3 hi3 env S3 hJ => ?_) (fun env S3 hJ => ?_)
      · obtain ⟨hs3, o7, o8, o9, o10, o11, o12, rfl⟩ := hJ
        have hsl : ∃ s : Nat, u3 = .int s ∧ s < ps.length := by
          rw [List.getElem?_map] at hi3
          cases e : (List.range (Int.toNat 2))[i3]? with
          | none => rw [e] at hi3; cases hi3
          | some s =>
            rw [e] at hi3
            cases hi3
            obtain ⟨h1, h2⟩ := List.getElem?_eq_some_iff.mp e
            rw [List.getElem_range] at h2
            rw [List.length_range] at h1
            exact ⟨s, rfl, by rw [pl, ← h2]; exact h1⟩
        obtain ⟨s, rfl, hsl⟩ := hsl
        refine ⟨_, rfl, fun K3 hnx3 hct3 hrt3 hbk3 => ?_⟩
        walk_at "d"
        have al := allM_len sw wf.most
        refine ⟨st, rfl, by rw [sw.len]; exact wf.most, a, 1000, rfl, hs3, by omega, by omega, fun d d0 d1 => ?_⟩
        have nl : (natsZ (allM st)).length = (allM st).length := by simp [natsZ]
        refine ⟨_, pAdd_l (by simp [nl]; omega), ?_⟩
        have hms : ∀ y ∈ natsZ (allM st) ++ [Z.int d, .int 0, .int 999], ∃ m : Nat, m ≤ 999 ∧ y = .int m := fun y hy => by
          rcases List.mem_append.mp hy with hy | hy
          · obtain ⟨m, hm, rfl⟩ := List.mem_map.mp hy
            exact ⟨m, allM_le sw m hm, rfl⟩
          · simp only [List.mem_cons, List.not_mem_nil, or_false] at hy
            rcases hy with e | e | e
            · exact ⟨d.toNat, by omega, by rw [e, Int.toNat_of_nonneg d0]⟩
            · exact ⟨0, by omega, e⟩
            · exact ⟨999, by omega, e⟩
        have hml : (natsZ (allM st) ++ [Z.int d, .int 0, .int 999]).length ≤ 20 := by simp [nl]; omega
        have hmn : (natsZ (allM st) ++ [Z.int d, .int 0, .int 999]) ≠ [] := by simp
        generalize (natsZ (allM st) ++ [Z.int d, .int 0, .int 999]) = ML at hms hml hmn
        walk_at "v"
        refine ⟨by omega, by omega, ?_⟩
        refine compZ_all (fun y => ∃ m : Nat, m ≤ 999 ∧ y = (Ev.start s m).z) _ _ (by simp) (fun z hz => ⟨_, rfl, fun k' hk' => ?_⟩) fun ys hyl hys => ?_
        · walk_at "d"
          refine ⟨a, _, ML, rfl, hs3, rfl, hmn, by omega, fun y hy => ?_⟩
          obtain ⟨m, hm, rfl⟩ := hms y hy
          exact hk' _ ⟨m, hm, rfl⟩
        · rw [List.nil_append]
          have yl : ys.length = 3 := by simpa using hyl
          refine ⟨_, pAdd_l (by simp; omega), ?_⟩
          walk_at "v"
          refine ⟨_, pAdd_l (by simp; omega), ?_⟩
          walk_at "v"
          have hev : ∀ z ∈ (ys ++ [(Ev.die s).z, (Ev.step s).z, (Ev.judge s false).z]) ++ [(Ev.judge s true).z], ∃ e : Ev, z = e.z ∧ e.Wf ps.length := fun z hz => by
            rcases List.mem_append.mp hz with hz | hz
            · rcases List.mem_append.mp hz with hz | hz
              · obtain ⟨m, hm, rfl⟩ := hys z hz
                exact ⟨_, rfl, hsl, fun i m' e => by cases e; exact hm⟩
              · simp only [List.mem_cons, List.not_mem_nil, or_false] at hz
                rcases hz with e | e | e <;> exact ⟨_, e, hsl, fun i m' e => nomatch e⟩
            · exact ⟨_, List.mem_singleton.mp hz, hsl, fun i m' e => nomatch e⟩
          have eq1 : ((ys ++ [Z.tup [.str "die", .int s, .non], .tup [.str "step", .int s, .non], .tup [.str "judge", .int s, .bl false]]) ++ [Z.tup [.str "judge", .int s, .bl true]]) = (ys ++ [(Ev.die s).z, (Ev.step s).z, (Ev.judge s false).z]) ++ [(Ev.judge s true).z] := rfl
          rw [eq1]
          generalize (ys ++ [(Ev.die s).z, (Ev.step s).z, (Ev.judge s false).z]) = Y1 at hev ⊢
          refine forZ_ind (fun i env S4 => S4 = S3 ∧ ∃ o9 o10 o11 o12, env = [some (Z.scr (List.map Z.int ns)), some (Z.int m), some (Z.ref a), some (progsZ ps), some u, some st.z, some (factsZ f), some (.int s), some (.lst ML), o9, o10, o11, o12]) _ 0 _ _ ⟨rfl, _, _, _, _, rfl⟩ (fun i4 z hz env S4 hJ => ?_) (fun env S4 hJ => ?_)
          · obtain ⟨rfl, o9, o10, o11, o12, rfl⟩ := hJ
            obtain ⟨e, rfl, we⟩ := hev z (List.mem_of_getElem? hz)
            refine ⟨_, rfl, fun K4 hnx4 hct4 hrt4 hbk4 => ?_⟩
            walk_at "d"
            refine ⟨ps, f, st, e, rfl, wf, sw, we, ps, f, st, e, rfl, wf, sw, we, ?_⟩
            have zd := zSt_dep (beh ps f st e)
            refine ⟨_, pNe_self (zSt_dat _) (by omega), ?_⟩
            walk_at "v"
            cases hb : beh ps f st e with
            | none =>
              simp only [zSt, isNon]
              walk_at "v"
              exact hnx4 _ _ ⟨rfl, _, _, _, _, rfl⟩
            | some st' =>
              have sw' := beh_wf wf sw we hb
              have : isNon st'.z = false := rfl
              simp only [zSt, this]
              walk_at "v"
              refine ⟨_, _, rfl, progsZ_dat ps, by omega, st_dat st', .inr ⟨ps, wf, rfl, ?_⟩⟩
              rw [standOk_of sw']
              walk_at "v"
              exact hnx4 _ _ ⟨rfl, _, _, _, _, rfl⟩
          · obtain ⟨rfl, o9, o10, o11, o12, rfl⟩ := hJ
            exact hnx3 _ _ ⟨hs3, _, _, _, _, _, _, rfl⟩
      · obtain ⟨hs3, o7, o8, o9, o10, o11, o12, rfl⟩ := hJ
        exact hnx2 _ _ ⟨hs3, _, _, _, _, _, _, _, _, _, rfl⟩
    · obtain ⟨hs, o4, o5, o6, o7, o8, o9, o10, o11, o12, rfl⟩ := hJ
      exact hnx _ _ ⟨_, _, _, _, _, _, _, _, _, _, _, _, rfl⟩
  · obtain ⟨o1, o2, o3, o4, o5, o6, o7, o8, o9, o10, o11, o12, rfl⟩ := hI
    walk_at "v"
    exact hk _
end L3
namespace L3
open PySem PySem.Spec PyProof.Rows L2
def m_start_marks (s_live_marks : DF) (s_marks_of : DF) : DS := (dSeq (dSet (gT (gsCons (gN 2) (gsCons (gN 3) gsNil))) (dTup (dCons (dCallF s_marks_of (dCons (dVar 1) dNil)) (dCons (dCallF s_live_marks (dCons (dVar 1) dNil)) dNil)))) (dSeq (dSet (gN 4) (dCall cMin1 (dCons (dComp (dItRange (dCons (dOp pAdd (dCall (pure1 pLen1) (dCons (dVar 2) dNil)) (dC (.int 1))) dNil)) [6] (gN 6) (dCmpT pNotIn (dVar 6) (dVar 2)) (dVar 6)) dNil))) (dSeq (dSet (gN 5) (dIfE (dCmpT pIn (dC g_FRESH) (dVar 0)) (dLst dNil) (dComp (dItSeq (dVar 2)) [6] (gN 6) (dCmpT pNotIn (dVar 6) (dVar 3)) (dVar 6)))) (dRet (dSortSet (dOp pAdd (dVar 5) (dLst (dCons (dVar 4) dNil))))))))
abbrev b_start_marks (s_live_marks : DF) (s_marks_of : DF) : DF := fromBody 2 7 (m_start_marks s_live_marks s_marks_of)
def m_slot_events (s_start_marks : DF) (s_word_at : DF) (s_may_judge : DF) : DS := (dSeq (dSet (gN 4) (dIx (dIx (dVar 2) (dC (.int 1))) (dVar 3))) (dSeq (dIf (dCmpT (fun _ => pIsN) (dVar 4) (dC .non)) (dRet (dComp (dItSeq (dCallF s_start_marks (dCons (dVar 1) (dCons (dVar 2) dNil)))) [6] (gN 6) dYes (dTup (dCons (dC g_START) (dCons (dVar 3) (dCons (dVar 6) dNil)))))) dNil') (dSeq (dSet (gN 5) (dIfE (dCmpT pIn (dC g_STEADY) (dVar 1)) (dLst dNil) (dLst (dCons (dTup (dCons (dC g_DIE) (dCons (dVar 3) (dCons (dC .non) dNil)))) dNil)))) (dSeq (dIf (dCmpT (fun _ => pNe) (dCallF s_word_at (dCons (dIx (dVar 0) (dVar 3)) (dCons (dIx (dVar 4) (dC (.int 0))) dNil))) (dC (.str "old"))) (dRet (dOp pAdd (dVar 5) (dLst (dCons (dTup (dCons (dC g_STEP) (dCons (dVar 3) (dCons (dC .non) dNil)))) dNil)))) dNil') (dRet (dOp pAdd (dVar 5) (dComp (dItSeq (dTup (dCons (dC (.bl false)) (dCons (dC (.bl true)) dNil)))) [7] (gN 7) (dVal (dCallF s_may_judge (dCons (dVar 1) (dCons (dVar 2) (dCons (dVar 7) dNil))))) (dTup (dCons (dC g_JUDGE) (dCons (dVar 3) (dCons (dVar 7) dNil)))))))))))
abbrev b_slot_events (s_start_marks : DF) (s_word_at : DF) (s_may_judge : DF) : DF := fromBody 4 8 (m_slot_events s_start_marks s_word_at s_may_judge)
def m_all_events_L1 (s_slot_events : DF) : DS := (dSet (gN 3) (dOp pAdd (dVar 3) (dCallF s_slot_events (dCons (dVar 0) (dCons (dVar 1) (dCons (dVar 2) (dCons (dVar 4) dNil)))))))
def m_all_events (s_slot_events : DF) : DS := (dSeq (dSet (gN 3) (dLst dNil)) (dSeq (dFor (dItRange (dCons (dCall (pure1 pLen1) (dCons (dVar 0) dNil)) dNil)) (gN 4) (m_all_events_L1 s_slot_events)) (dRet (dVar 3))))
abbrev b_all_events (s_slot_events : DF) : DF := fromBody 3 5 (m_all_events s_slot_events)
def m_events_at (s_need_programs : DF) (s_need_facts : DF) (s_need_stand : DF) (s_all_events : DF) : DS := (dSeq (dDrop (dCallF s_need_programs (dCons (dVar 0) dNil))) (dSeq (dDrop (dCallF s_need_facts (dCons (dVar 1) dNil))) (dSeq (dDrop (dCallF s_need_stand (dCons (dVar 0) (dCons (dVar 2) dNil)))) (dRet (dCallF s_all_events (dCons (dVar 0) (dCons (dVar 1) (dCons (dVar 2) dNil))))))))
abbrev b_events_at (s_need_programs : DF) (s_need_facts : DF) (s_need_stand : DF) (s_all_events : DF) : DF := fromBody 3 3 (m_events_at s_need_programs s_need_facts s_need_stand s_all_events)
def m__law_events_L1 (s__law_marks : DF) (s__law_after : DF) : DS := (dIf (dCmpT (fun _ => pNotN) (dCallF s__law_after (dCons (dVar 0) (dCons (dVar 1) (dCons (dVar 2) (dCons (dVar 9) dNil))))) (dC .non)) (dDrop (dAppend (dVar 4) (dVar 9))) dNil')
def m__law_events_L2 (s__law_marks : DF) (s__law_after : DF) : DS := (dSeq (dSet (gN 8) (dOp pAdd (dComp (dItSeq (dVar 6)) [10] (gN 10) dYes (dTup (dCons (dC (.str "start")) (dCons (dVar 7) (dCons (dVar 10) dNil))))) (dLst (dCons (dTup (dCons (dC (.str "die")) (dCons (dVar 7) (dCons (dC .non) dNil)))) (dCons (dTup (dCons (dC (.str "step")) (dCons (dVar 7) (dCons (dC .non) dNil)))) dNil))))) (dFor (dItSeq (dOp pAdd (dVar 8) (dLst (dCons (dTup (dCons (dC (.str "judge")) (dCons (dVar 7) (dCons (dC (.bl false)) dNil)))) (dCons (dTup (dCons (dC (.str "judge")) (dCons (dVar 7) (dCons (dC (.bl true)) dNil)))) dNil))))) (gN 9) (m__law_events_L1 s__law_marks s__law_after)))
def m__law_events (s__law_marks : DF) (s__law_after : DF) : DS := (dSeq (dSet (gT (gsCons (gN 3) (gsCons (gN 4) gsNil))) (dTup (dCons (dCallF s__law_marks (dCons (dVar 2) dNil)) (dCons (dLst dNil) dNil)))) (dSeq (dSet (gN 5) (dIx (dComp (dItRange (dCons (dC (.int 12)) dNil)) [10] (gN 10) (dCmpT pNotIn (dVar 10) (dVar 3)) (dVar 10)) (dC (.int 0)))) (dSeq (dSet (gN 6) (dCall (cSorted) (dCons (dOp pAdd (dLst (dCons (dVar 5) dNil)) (dComp (dItEnum (dCons (dVar 3) dNil)) [11, 10] (gT (gsCons (gN 11) (gsCons (gN 10) gsNil))) (dCmpT pNotIn (dVar 10) (dSl (dVar 3) dNoPart (dPart (dVar 11)))) (dVar 10))) dNil))) (dSeq (dFor (dItRange (dCons (dCall (pure1 pLen1) (dCons (dVar 0) dNil)) dNil)) (gN 7) (m__law_events_L2 s__law_marks s__law_after)) (dRetF (dVar 4))))))
abbrev b__law_events (s__law_marks : DF) (s__law_after : DF) : DF := fromBody 3 12 (m__law_events s__law_marks s__law_after)
def m_law_k07_L1 (s__law_source : DF) (s__law_programs : DF) (s__law_draw : DF) (s__law_facts : DF) (s__law_stand : DF) (s_events_at : DF) (s__law_events : DF) (s_after : DF) (s__law_marks : DF) : DS := (dIf (dAndT (dCmpT pNotIn (dVar 10) (dVar 7)) (dCmpT (fun _ => pNotN) (dCallF s_after (dCons (dVar 3) (dCons (dVar 6) (dCons (dVar 5) (dCons (dVar 10) dNil))))) (dC .non))) (dRet (dC (.bl false))) dNil')
def m_law_k07_L2 (s__law_source : DF) (s__law_programs : DF) (s__law_draw : DF) (s__law_facts : DF) (s__law_stand : DF) (s_events_at : DF) (s__law_events : DF) (s_after : DF) (s__law_marks : DF) : DS := (dSeq (dSet (gN 9) (dLst (dCons (dTup (dCons (dC (.str "die")) (dCons (dVar 8) (dCons (dC .non) dNil)))) (dCons (dTup (dCons (dC (.str "step")) (dCons (dVar 8) (dCons (dC .non) dNil)))) (dCons (dTup (dCons (dC (.str "judge")) (dCons (dVar 8) (dCons (dC (.bl false)) dNil)))) (dCons (dTup (dCons (dC (.str "judge")) (dCons (dVar 8) (dCons (dC (.bl true)) dNil)))) dNil)))))) (dSeq (dFor (dItSeq (dVar 9)) (gN 10) (m_law_k07_L1 s__law_source s__law_programs s__law_draw s__law_facts s__law_stand s_events_at s__law_events s_after s__law_marks)) (dSeq (dSet (gN 11) (dCallF s__law_draw (dCons (dVar 2) (dCons (dC (.int 1000)) dNil)))) (dSeq (dSet (gN 12) (dCallF s_after (dCons (dVar 3) (dCons (dVar 6) (dCons (dVar 5) (dCons (dTup (dCons (dC (.str "start")) (dCons (dVar 8) (dCons (dVar 11) dNil)))) dNil)))))) (dSeq (dIf (dAndT (dCmpT pNotIn (dVar 11) (dCallF s__law_marks (dCons (dVar 5) dNil))) (dCmpT (fun _ => pNe) (dCmp (fun _ => pIsN) (dVar 12) (dC .non)) (dCmp (fun _ => pNotN) (dIx (dIx (dVar 5) (dC (.int 1))) (dVar 8)) (dC .non)))) (dRet (dC (.bl false))) dNil') (dIf (dAndT (dCmpT pIn (dVar 11) (dCallF s__law_marks (dCons (dVar 5) dNil))) (dCmpT (fun _ => pNe) (dCmp (fun _ => pNotN) (dVar 12) (dC .non)) (dCmp pIn (dTup (dCons (dC (.str "start")) (dCons (dVar 8) (dCons (dVar 11) dNil)))) (dVar 7)))) (dRet (dC (.bl false))) dNil'))))))
def m_law_k07_L3 (s__law_source : DF) (s__law_programs : DF) (s__law_draw : DF) (s__law_facts : DF) (s__law_stand : DF) (s_events_at : DF) (s__law_events : DF) (s_after : DF) (s__law_marks : DF) : DS := (dSeq (dSet (gT (gsCons (gN 5) (gsCons (gN 6) gsNil))) (dTup (dCons (dCallF s__law_stand (dCons (dVar 2) (dCons (dVar 3) dNil))) (dCons (dCallF s__law_facts (dCons (dVar 2) dNil)) dNil)))) (dSeq (dSet (gN 7) (dCallF s_events_at (dCons (dVar 3) (dCons (dVar 6) (dCons (dVar 5) dNil))))) (dSeq (dIf (dOrT (dNotT (dVal (dCall (pure1 pIsI) (dCons (dVar 7) (dCons (dC (.ty "list")) dNil))))) (dCmpT (fun _ => pNe) (dVar 7) (dCallF s__law_events (dCons (dVar 3) (dCons (dVar 6) (dCons (dVar 5) dNil)))))) (dRet (dC (.bl false))) dNil') (dSeq (dIf (dCmpT (fun _ => pNe) (dComp (dItSeq (dFrz (dVar 7))) [10] (gN 10) (dCmpT (fun _ => pIsN) (dCallF s_after (dCons (dVar 3) (dCons (dVar 6) (dCons (dVar 5) (dCons (dVar 10) dNil))))) (dC .non)) (dVar 10)) (dLst dNil)) (dRet (dC (.bl false))) dNil') (dSeq (dFor (dItRange (dCons (dCall (pure1 pLen1) (dCons (dVar 3) dNil)) dNil)) (gN 8) (m_law_k07_L2 s__law_source s__law_programs s__law_draw s__law_facts s__law_stand s_events_at s__law_events s_after s__law_marks)) (dSeq (dDrop (dAppend (dVar 7) (dC .non))) (dIf (dCmpT (fun _ => pNe) (dCallF s_events_at (dCons (dVar 3) (dCons (dVar 6) (dCons (dVar 5) dNil)))) (dSl (dVar 7) dNoPart (dPart (dNeg (dC (.int 1)))))) (dRet (dC (.bl false))) dNil')))))))
def m_law_k07_L4 (s__law_source : DF) (s__law_programs : DF) (s__law_draw : DF) (s__law_facts : DF) (s__law_stand : DF) (s_events_at : DF) (s__law_events : DF) (s_after : DF) (s__law_marks : DF) : DS := (dSeq (dSet (gN 2) (dCallF s__law_source (dCons (dVar 0) (dCons (dVar 1) dNil)))) (dSeq (dSet (gN 3) (dCallF s__law_programs (dCons (dVar 2) (dCons (dOp pAdd (dC (.int 1)) (dCallF s__law_draw (dCons (dVar 2) (dCons (dC (.int 3)) dNil)))) (dCons (dC (.int 8)) dNil))))) (dFor (dItRange (dCons (dC (.int 4)) dNil)) (gN 4) (m_law_k07_L3 s__law_source s__law_programs s__law_draw s__law_facts s__law_stand s_events_at s__law_events s_after s__law_marks))))
def m_law_k07 (s__law_source : DF) (s__law_programs : DF) (s__law_draw : DF) (s__law_facts : DF) (s__law_stand : DF) (s_events_at : DF) (s__law_events : DF) (s_after : DF) (s__law_marks : DF) : DS := (dSeq (dFor (dItRange (dCons (dOp pAdd (dC (.int 1)) (dCall (pure1 pMin2) (dCons (dCall (pure1 pLen1) (dCons (dVar 0) dNil)) (dCons (dC (.int 8)) dNil)))) dNil)) (gN 1) (m_law_k07_L4 s__law_source s__law_programs s__law_draw s__law_facts s__law_stand s_events_at s__law_events s_after s__law_marks)) (dRet (dC (.bl true))))
abbrev b_law_k07 (s__law_source : DF) (s__law_programs : DF) (s__law_draw : DF) (s__law_facts : DF) (s__law_stand : DF) (s_events_at : DF) (s__law_events : DF) (s_after : DF) (s__law_marks : DF) : DF := fromBody 1 13 (m_law_k07 s__law_source s__law_programs s__law_draw s__law_facts s__law_stand s_events_at s__law_events s_after s__law_marks)
def g_MOST_EVENTS : Z := (.int 60)
def m_play_L1 (s_need_programs : DF) (s_need_facts : DF) (s_is_event : DF) (s_empty_stand : DF) (s_behind : DF) : DS := (dIf (dCmpT (fun _ => pNotN) (dVar 3) (dC .non)) (dSet (gN 3) (dCallF s_behind (dCons (dVar 0) (dCons (dVar 1) (dCons (dVar 3) (dCons (dVar 4) dNil)))))) dNil')
def m_play (s_need_programs : DF) (s_need_facts : DF) (s_is_event : DF) (s_empty_stand : DF) (s_behind : DF) : DS := (dSeq (dDrop (dCallF s_need_programs (dCons (dVar 0) dNil))) (dSeq (dDrop (dCallF s_need_facts (dCons (dVar 1) dNil))) (dSeq (dIf (dOrT (dNotT (dVal (dCall (pure1 pIsI) (dCons (dVar 2) (dCons (dC (.ty "tuple")) dNil))))) (dCmpT (fun _ => pGt) (dCall (pure1 pLen1) (dCons (dVar 2) dNil)) (dC g_MOST_EVENTS))) (dRaise "InvalidEvents") dNil') (dSeq (dIf (dNotT (dVal (dCall (pure1 pAll) (dCons (dComp (dItSeq (dVar 2)) [4] (gN 4) dYes (dCallF s_is_event (dCons (dVar 0) (dCons (dVar 4) dNil)))) dNil)))) (dRaise "InvalidEvents") dNil') (dSeq (dSet (gN 3) (dCallF s_empty_stand (dCons (dVar 0) dNil))) (dSeq (dFor (dItSeq (dVar 2)) (gN 4) (m_play_L1 s_need_programs s_need_facts s_is_event s_empty_stand s_behind)) (dRet (dVar 3))))))))
abbrev b_play (s_need_programs : DF) (s_need_facts : DF) (s_is_event : DF) (s_empty_stand : DF) (s_behind : DF) : DF := fromBody 3 5 (m_play s_need_programs s_need_facts s_is_event s_empty_stand s_behind)
def m__law_exchanged_L1 : DS := (dIf (dCmpT (fun _ => pIsN) (dVar 3) (dC .non)) (dSet (gN 2) (dOp pAdd (dVar 2) (dTup (dCons (dC .non) dNil)))) (dSeq (dSet (gN 4) (dCall (pure1 pTuple) (dCons (dComp (dItSeq (dSl (dVar 3) (dPart (dC (.int 1))) (dPart (dC (.int 4))))) [5] (gN 5) dYes (dIfE (dCmpT (fun _ => pIsN) (dVar 5) (dC .non)) (dC .non) (dIx (dVar 1) (dVar 5)))) dNil))) (dSet (gN 2) (dOp pAdd (dVar 2) (dTup (dCons (dOp pAdd (dOp pAdd (dTup (dCons (dIx (dVar 3) (dC (.int 0))) dNil)) (dVar 4)) (dTup (dCons (dIx (dVar 3) (dC (.int 4))) dNil))) dNil))))))
def m__law_exchanged : DS := (dSeq (dSet (gN 2) (dTup dNil)) (dSeq (dFor (dItSeq (dIx (dVar 0) (dC (.int 1)))) (gN 3) m__law_exchanged_L1) (dRet (dTup (dCons (dIfE (dCmpT (fun _ => pIsN) (dIx (dVar 0) (dC (.int 0))) (dC .non)) (dC .non) (dIx (dVar 1) (dIx (dVar 0) (dC (.int 0))))) (dCons (dVar 2) dNil))))))
abbrev b__law_exchanged : DF := fromBody 2 6 m__law_exchanged
def m__law_played_L1 (s__law_after : DF) : DS := (dSeq (dSet (gN 3) (dCallF s__law_after (dCons (dVar 0) (dCons (dVar 1) (dCons (dVar 3) (dCons (dVar 4) dNil)))))) (dIf (dCmpT (fun _ => pIsN) (dVar 3) (dC .non)) (dRet (dC .non)) dNil'))
def m__law_played (s__law_after : DF) : DS := (dSeq (dSet (gN 3) (dTup (dCons (dC .non) (dCons (dOp pMul (dTup (dCons (dC .non) dNil)) (dCall (pure1 pLen1) (dCons (dVar 0) dNil))) dNil)))) (dSeq (dFor (dItSeq (dVar 2)) (gN 4) (m__law_played_L1 s__law_after)) (dRet (dVar 3))))
abbrev b__law_played (s__law_after : DF) : DF := fromBody 3 5 (m__law_played s__law_after)
def m__law_run_L1 (s__law_events : DF) (s__law_draw : DF) (s__law_choice : DF) (s__law_after : DF) : DS := (dSeq (dSet (gN 7) (dCallF s__law_events (dCons (dVar 1) (dCons (dVar 2) (dCons (dIx (dVar 5) (dNeg (dC (.int 1)))) dNil))))) (dSeq (dSet (gN 7) (dIfE (dCmpT (fun _ => pGt) (dCallF s__law_draw (dCons (dVar 0) (dCons (dC (.int 6)) dNil))) (dC (.int 0))) (dComp (dItSeq (dVar 7)) [8] (gN 8) (dCmpT (fun _ => pNe) (dIx (dVar 8) (dC (.int 0))) (dC (.str "die"))) (dVar 8)) (dVar 7))) (dIf (dCmpT (fun _ => pNe) (dVar 7) (dLst dNil)) (dSeq (dSet (gN 4) (dOp pAdd (dVar 4) (dTup (dCons (dCallF s__law_choice (dCons (dVar 0) (dCons (dVar 7) dNil))) dNil)))) (dDrop (dAppend (dVar 5) (dCallF s__law_after (dCons (dVar 1) (dCons (dVar 2) (dCons (dIx (dVar 5) (dNeg (dC (.int 1)))) (dCons (dIx (dVar 4) (dNeg (dC (.int 1)))) dNil)))))))) dNil')))
def m__law_run (s__law_events : DF) (s__law_draw : DF) (s__law_choice : DF) (s__law_after : DF) : DS := (dSeq (dPar 4 5 (dCons (dTup dNil) (dCons (dLst (dCons (dTup (dCons (dC .non) (dCons (dOp pMul (dTup (dCons (dC .non) dNil)) (dCall (pure1 pLen1) (dCons (dVar 1) dNil))) dNil))) dNil)) dNil))) (dSeq (dFor (dItRange (dCons (dVar 3) dNil)) (gN 6) (m__law_run_L1 s__law_events s__law_draw s__law_choice s__law_after)) (dRet (dTup (dCons (dVar 4) (dCons (dVar 5) dNil))))))
abbrev b__law_run (s__law_events : DF) (s__law_draw : DF) (s__law_choice : DF) (s__law_after : DF) : DF := fromBody 4 9 (m__law_run s__law_events s__law_draw s__law_choice s__law_after)
def m_law_k09_L1 (s__law_source : DF) (s__law_short : DF) (s__law_bare : DF) (s__law_draw : DF) (s__law_stand : DF) (s_after : DF) : DS := (dSeq (dSet (gN 17) (dIx (dIx (dIx (dVar 14) (dC (.int 1))) (dC (.int 0))) (dC (.int 0)))) (dSeq (dSet (gN 16) (dAnd (dCmp pIn (dVar 15) (dVar 5)) (dAnd (dCmp (fun _ => pEq) (dVar 17) (dOp pAdd (dVar 15) (dC (.int 1)))) (dCmp (fun _ => pNe) (dIx (dIx (dVar 3) (dVar 15)) (dC (.int 0))) (dC (.str "enter")))))) (dSeq (dSet (gN 16) (dAnd (dVar 16) (dCmp pNotIn (dIx (dIx (dVar 3) (dVar 17)) (dC (.int 0))) (dLst (dCons (dC (.str "old")) (dCons (dC (.str "enter")) (dCons (dC (.str "leave")) dNil))))))) (dIf (dVal (dVar 16)) (dPar 14 15 (dCons (dCallF s_after (dCons (dTup (dCons (dVar 3) (dCons (dVar 7) dNil))) (dCons (dTup dNil) (dCons (dVar 14) (dCons (dTup (dCons (dC (.str "step")) (dCons (dC (.int 0)) (dCons (dC .non) dNil)))) dNil))))) (dCons (dVar 17) dNil))) dNil'))))
def m_law_k09_L2 (s__law_source : DF) (s__law_short : DF) (s__law_bare : DF) (s__law_draw : DF) (s__law_stand : DF) (s_after : DF) : DS := (dSeq (dPar3 14 15 16 (dCons (dCallF s_after (dCons (dTup (dCons (dVar 3) (dCons (dVar 7) dNil))) (dCons (dTup dNil) (dCons (dVar 9) (dCons (dVar 13) dNil))))) (dCons (dIx (dVar 10) (dC (.int 0))) (dCons (dC (.bl true)) dNil)))) (dSeq (dWhile (dAndT (dVal (dVar 16)) (dAndT (dCmpT (fun _ => pNotN) (dVar 14) (dC .non)) (dCmpT (fun _ => pNotN) (dIx (dIx (dVar 14) (dC (.int 1))) (dC (.int 0))) (dC .non)))) (m_law_k09_L1 s__law_source s__law_short s__law_bare s__law_draw s__law_stand s_after)) (dIf (dCmpT (fun _ => pNe) (dCallF s_after (dCons (dTup (dCons (dVar 6) (dCons (dVar 7) dNil))) (dCons (dTup dNil) (dCons (dVar 9) (dCons (dVar 13) dNil))))) (dVar 14)) (dRet (dC (.bl false))) dNil')))
def m_law_k09_L3 (s__law_source : DF) (s__law_short : DF) (s__law_bare : DF) (s__law_draw : DF) (s__law_stand : DF) (s_after : DF) : DS := (dSeq (dSet (gN 9) (dCallF s__law_stand (dCons (dVar 2) (dCons (dTup (dCons (dVar 6) (dCons (dVar 7) dNil))) dNil)))) (dSeq (dSet (gN 10) (dIx (dIx (dVar 9) (dC (.int 1))) (dC (.int 0)))) (dIf (dCmpT (fun _ => pNotN) (dVar 10) (dC .non)) (dSeq (dSet (gN 11) (dIx (dIx (dVar 3) (dIx (dVar 10) (dC (.int 0)))) (dC (.int 0)))) (dSeq (dSet (gN 12) (dIfE (dCmpT (fun _ => pEq) (dVar 11) (dC (.str "old"))) (dLst (dCons (dTup (dCons (dC (.str "judge")) (dCons (dC (.int 0)) (dCons (dC (.bl false)) dNil)))) (dCons (dTup (dCons (dC (.str "judge")) (dCons (dC (.int 0)) (dCons (dC (.bl true)) dNil)))) dNil))) (dLst (dCons (dTup (dCons (dC (.str "step")) (dCons (dC (.int 0)) (dCons (dC .non) dNil)))) dNil)))) (dFor (dItSeq (dVar 12)) (gN 13) (m_law_k09_L2 s__law_source s__law_short s__law_bare s__law_draw s__law_stand s_after)))) dNil')))
def m_law_k09_L4 (s__law_source : DF) (s__law_short : DF) (s__law_bare : DF) (s__law_draw : DF) (s__law_stand : DF) (s_after : DF) : DS := (dSeq (dSet (gN 5) (dComp (dItRange (dCons (dVar 4) dNil)) [18] (gN 18) (dCmpT (fun _ => pGt) (dCallF s__law_draw (dCons (dVar 2) (dCons (dC (.int 4)) dNil))) (dC (.int 0))) (dVar 18))) (dSeq (dSet (gN 6) (dCall (pure1 pTuple) (dCons (dComp (dItEnum (dCons (dVar 3) dNil)) [18, 19] (gT (gsCons (gN 18) (gsCons (gN 19) gsNil))) dYes (dIfE (dCmpT pIn (dVar 18) (dVar 5)) (dTup (dCons (dC (.str "join")) (dCons (dVar 19) dNil))) (dVar 19))) dNil))) (dSeq (dSet (gN 7) (dCallF s__law_short (dCons (dVar 2) (dCons (dC (.int 4)) dNil)))) (dFor (dItRange (dCons (dC (.int 6)) dNil)) (gN 8) (m_law_k09_L3 s__law_source s__law_short s__law_bare s__law_draw s__law_stand s_after)))))
def m_law_k09_L5 (s__law_source : DF) (s__law_short : DF) (s__law_bare : DF) (s__law_draw : DF) (s__law_stand : DF) (s_after : DF) : DS := (dSeq (dSet (gN 2) (dCallF s__law_source (dCons (dVar 0) (dCons (dVar 1) dNil)))) (dSeq (dSet (gN 3) (dCall (pure1 pTuple) (dCons (dComp (dItSeq (dCallF s__law_short (dCons (dVar 2) (dCons (dC (.int 12)) dNil)))) [19] (gN 19) dYes (dCallF s__law_bare (dCons (dVar 19) dNil))) dNil))) (dSeq (dSet (gN 4) (dCall (pure1 pLen1) (dCons (dVar 3) dNil))) (dSeq (dIf (dCmpT (fun _ => pEq) (dCallF s__law_draw (dCons (dVar 2) (dCons (dC (.int 3)) dNil))) (dC (.int 0))) (dSet (gN 3) (dCall (pure1 pTuple) (dCons (dComp (dItSeq (dVar 3)) [19] (gN 19) dYes (dIfE (dCmpT pIn (dIx (dVar 19) (dC (.int 0))) (dLst (dCons (dC (.str "old")) (dCons (dC (.str "enter")) (dCons (dC (.str "go")) dNil))))) (dVar 19) (dTup (dCons (dC (.str "drop")) dNil)))) dNil))) dNil') (m_law_k09_L4 s__law_source s__law_short s__law_bare s__law_draw s__law_stand s_after)))))
def m_law_k09 (s__law_source : DF) (s__law_short : DF) (s__law_bare : DF) (s__law_draw : DF) (s__law_stand : DF) (s_after : DF) : DS := (dSeq (dFor (dItRange (dCons (dOp pAdd (dC (.int 1)) (dCall (pure1 pMin2) (dCons (dCall (pure1 pLen1) (dCons (dVar 0) dNil)) (dCons (dC (.int 10)) dNil)))) dNil)) (gN 1) (m_law_k09_L5 s__law_source s__law_short s__law_bare s__law_draw s__law_stand s_after)) (dRet (dC (.bl true))))
abbrev b_law_k09 (s__law_source : DF) (s__law_short : DF) (s__law_bare : DF) (s__law_draw : DF) (s__law_stand : DF) (s_after : DF) : DF := fromBody 1 20 (m_law_k09 s__law_source s__law_short s__law_bare s__law_draw s__law_stand s_after)
end L3
namespace L3
open PySem PySem.Spec PyProof.Rows L2
local macro_rules | `(tactic| walk_at "d") => `(tactic| try simp only [szk_0, szk_1, szk_2, szk_3, szk_4, szk_5, szk_6, szk_7, szk_8, szk_9, szk_10, szk_11, szk_12, szk_13, szk_14, szk_15, szk_16, szk_17, szk_18, szk_19, szk_20, fromBody, dNil', dSeq, dSet, dRet, dRetN, dDrop, dIf, dVar, dC, dOp, dCmp, dCmpT, dChain, dChainT, dVal, dNotT, dAndT, dOrT, dAnd, dOr, dNot, dIfE, dNeg, dIx, dSl, dNoPart, dPart, dNil, dCons, dTup, dLst, dLstM, dCall, pure1, dCallF, dItSeq, dItRange, dItZip, dFor, dComp, dCompM, dYes, dAug, dPar, dSub, dRetF, dFrz, dAppend, dBrk, dCnt, wipeE, gN, dInTab, dIxTab, dCallL, dLenSet, dCount, dAddM, gL, dRaise, dTry, catchBy, dItEnum, dPar3, dSortSet, dRevL, cSum, cMin1, cMax1, cSorted, 
  pAdd_i, pNotIn_o, pEq_i, pNe_i, pIsN_of, pNotN_of, pEq_nn, pEq_ni, pEq_in, isNon_non', isNon_int, pNe_b, pEq_b, eq_old, in_oel, isNon_opt, pEq_oo, pEq_oi, eq_self, reduceCtorEq, decide_true, decide_false, Bool.not_true, Bool.not_false, Bool.or_false, Bool.or_true, Bool.false_or, Bool.true_or, pSub_i, pLt_i, pLe_i, pGt_i, pGe_i, pAddI_i, pIsN_non, pNotN_non, pIsN_bl, pNotN_bl, pIsN_int, pNotN_int, pIsN_str, pNotN_str, pIsN_tup, pNotN_tup, pIsN_lst, pNotN_lst, pIsN_ref, pNotN_ref, pIsN_ty, pNotN_ty, pIsN_scr, pNotN_scr, pIsI_non_bool, pIsI_non_int, pIsI_non_str, pIsI_non_tuple, pIsI_non_list, pIsI_bl_bool, pIsI_bl_int, pIsI_bl_str, pIsI_bl_tuple, pIsI_bl_list, pIsI_int_bool, pIsI_int_int, pIsI_int_str, pIsI_int_tuple, pIsI_int_list, pIsI_str_bool, pIsI_str_int, pIsI_str_str, pIsI_str_tuple, pIsI_str_list, pIsI_tup_bool, pIsI_tup_int, pIsI_tup_str, pIsI_tup_tuple, pIsI_tup_list, pIsI_lst_bool, pIsI_lst_int, pIsI_lst_str, pIsI_lst_tuple, pIsI_lst_list, pLen_tup, pIx_tup, pList_tup, pTuple_tup, seqOf_tup, pLen_lst, pIx_lst, pList_lst, pTuple_lst, seqOf_lst, pLen_scr, pIx_scr, pList_scr, pTuple_scr, seqOf_scr, pSl_tup, itemsOf_tup, pSl_lst, itemsOf_lst, pAbs_i, pInt_i, pInt_b, pMin2_i, gT_tup, gsCons_cons, gsNil_nil, getE_0, getE_s,
  Option.some.injEq, exists_eq_left', exists_eq_left, Z.int.injEq, Z.bl.injEq, Z.str.injEq, Z.tup.injEq, Z.lst.injEq, Z.ref.injEq, Option.map_some, Option.bind_some, List.set_cons_zero, List.set_cons_succ, List.map_cons, List.map_nil, List.cons_append, List.nil_append, List.length_cons, List.length_nil, List.replicate_succ, List.replicate_zero, true_and, and_true, if_true, Nat.reduceAdd, Nat.reduceSub, Bool.false_eq_true, if_false, ite_true, ite_false, List.cons.injEq, reduceIte, Bool.not_true, Bool.not_false])
local macro_rules | `(tactic| walk_at "v") => `(tactic| try simp only [szk_0, szk_1, szk_2, szk_3, szk_4, szk_5, szk_6, szk_7, szk_8, szk_9, szk_10, szk_11, szk_12, szk_13, szk_14, szk_15, szk_16, szk_17, szk_18, szk_19, szk_20, 
  pAdd_i, pNotIn_o, pEq_i, pNe_i, pIsN_of, pNotN_of, pEq_nn, pEq_ni, pEq_in, isNon_non', isNon_int, pNe_b, pEq_b, eq_old, in_oel, isNon_opt, pEq_oo, pEq_oi, eq_self, reduceCtorEq, decide_true, decide_false, Bool.not_true, Bool.not_false, Bool.or_false, Bool.or_true, Bool.false_or, Bool.true_or, pSub_i, pLt_i, pLe_i, pGt_i, pGe_i, pAddI_i, pIsN_non, pNotN_non, pIsN_bl, pNotN_bl, pIsN_int, pNotN_int, pIsN_str, pNotN_str, pIsN_tup, pNotN_tup, pIsN_lst, pNotN_lst, pIsN_ref, pNotN_ref, pIsN_ty, pNotN_ty, pIsN_scr, pNotN_scr, pIsI_non_bool, pIsI_non_int, pIsI_non_str, pIsI_non_tuple, pIsI_non_list, pIsI_bl_bool, pIsI_bl_int, pIsI_bl_str, pIsI_bl_tuple, pIsI_bl_list, pIsI_int_bool, pIsI_int_int, pIsI_int_str, pIsI_int_tuple, pIsI_int_list, pIsI_str_bool, pIsI_str_int, pIsI_str_str, pIsI_str_tuple, pIsI_str_list, pIsI_tup_bool, pIsI_tup_int, pIsI_tup_str, pIsI_tup_tuple, pIsI_tup_list, pIsI_lst_bool, pIsI_lst_int, pIsI_lst_str, pIsI_lst_tuple, pIsI_lst_list, pLen_tup, pIx_tup, pList_tup, pTuple_tup, seqOf_tup, pLen_lst, pIx_lst, pList_lst, pTuple_lst, seqOf_lst, pLen_scr, pIx_scr, pList_scr, pTuple_scr, seqOf_scr, pSl_tup, itemsOf_tup, pSl_lst, itemsOf_lst, pAbs_i, pInt_i, pInt_b, pMin2_i, gT_tup, gsCons_cons, gsNil_nil, getE_0, getE_s, atI_0, atI_1, atI_2, atI_3, atI_4, sUpd_same,
  Option.some.injEq, exists_eq_left', exists_eq_left, Z.int.injEq, Z.bl.injEq, Z.str.injEq, Z.tup.injEq, Z.lst.injEq, Z.ref.injEq, Option.map_some, Option.bind_some, List.set_cons_zero, List.set_cons_succ, List.map_cons, List.map_nil, List.cons_append, List.nil_append, List.length_cons, List.length_nil, List.replicate_succ, List.replicate_zero, true_and, and_true, if_true, Nat.reduceAdd, Nat.reduceSub, Bool.false_eq_true, if_false, ite_true, ite_false, List.cons.injEq, reduceIte, Bool.not_true, Bool.not_false])
set_option maxHeartbeats 2000000
/-! ### joined rows as single steps (k09) -/
theorem act_jb {w : Word} (h : w ≠ .old) (l : ON) (o : Nat) (n p : ON) (live : List Nat) (j j' : Bool) : act w l o n p live j = act w l o n p live j' := by cases w <;> first | rfl | exact absurd rfl h
theorem doneF_jb {r : Row} (h : r.w ≠ .old) (l : ON) (q : Proc) (live : List Nat) (j j' : Bool) : doneF r l q live j = doneF r l q live j' := by
  unfold doneF
  rw [act_jb h l q.mark q.note q.pocket live j j']
theorem doneF_w {r r' : Row} (h : r.w = r'.w) (ht : r.t = r'.t) (l : ON) (q : Proc) (live : List Nat) (j : Bool) : doneF r l q live j = doneF r' l q live j := by
  unfold doneF
  rw [h, ht]
theorem doneF_mark (r : Row) (l : ON) (q : Proc) (live : List Nat) (j : Bool) : (doneF r l q live j).proc.mark = q.mark := rfl
theorem advF_bare {p : Prog} {live : List Nat} {jb : Bool} {n : Nat} {l : ON} {q : Proc} {r : Row} (hr : p[q.row]? = some r) (hj : r.j = false) : advF p live jb (n + 1) l q = ⟨(doneF r l q live jb).lock, (doneF r l q live jb).proc⟩ := by
  show (match p[q.row]? with | none => _ | some r => _) = _
  rw [hr]
  simp only
  rw [if_neg (by simp [goOn, hj])]
theorem moved_bare {p : Prog} {st : Stand} {i : Nat} {jb : Bool} {q : Proc} {r : Row} (hr : p[q.row]? = some r) (hj : r.j = false) : movedSt p st i q jb = setSt st i (doneF r st.lock q st.marks jb).lock (endF p (doneF r st.lock q st.marks jb).proc) := by
  have h : 0 < p.length := by have := (List.getElem?_eq_some_iff.mp hr).1; omega
  unfold movedSt
  obtain ⟨n, hn⟩ : ∃ n, p.length = n + 1 := ⟨p.length - 1, by omega⟩
  rw [hn, advF_bare hr hj]
theorem setSt_marks {st : Stand} {i : Nat} {l : ON} {q q' : Proc} (h : st.slots[i]? = some (some q)) (hm : q'.mark = q.mark) : (setSt st i l (some q')).marks = st.marks := marks_same h hm
theorem setSt_set (st : Stand) (i : Nat) (l l' : ON) (o o' : Option Proc) : setSt (setSt st i l o) i l' o' = setSt st i l' o' := by
  unfold setSt
  simp
/-- rows without joins -/
def Bare (p : Prog) : Prop := ∀ r ∈ p, r.j = false
theorem noJ_z (p : Prog) : (p.map Row.bareZ) = (p.map (Row.joined false)).map Row.z := by
  rw [List.map_map]
  apply List.map_congr_left
  intro r _
  rfl
theorem noJ_wf {p : Prog} (w : PWf p) : PWf (p.map (Row.joined false)) ∧ Bare (p.map (Row.joined false)) := by
  refine ⟨⟨by rw [List.length_map]; exact w.pos, by rw [List.length_map]; exact w.most, fun r hr => ?_⟩, fun r hr => ?_⟩
  · obtain ⟨q, hq, rfl⟩ := List.mem_map.mp hr
    rw [List.length_map]
    exact ⟨(w.rows q hq).le, (w.rows q hq).z0⟩
  · obtain ⟨q, hq, rfl⟩ := List.mem_map.mp hr
    rfl
def swapDrop (r : Row) : Row := if r.w = .old ∨ r.w = .enter ∨ r.w = .go then r else ⟨false, .drop, 0⟩
theorem swapDrop_wf {p : Prog} (w : PWf p) (b : Bare p) : PWf (p.map swapDrop) ∧ Bare (p.map swapDrop) := by
  refine ⟨⟨by rw [List.length_map]; exact w.pos, by rw [List.length_map]; exact w.most, fun r hr => ?_⟩, fun r hr => ?_⟩
  · obtain ⟨q, hq, rfl⟩ := List.mem_map.mp hr
    rw [List.length_map]
    unfold swapDrop
    split
    · exact w.rows q hq
    · exact ⟨Nat.zero_le _, fun _ => rfl⟩
  · obtain ⟨q, hq, rfl⟩ := List.mem_map.mp hr
    unfold swapDrop
    split
    · exact b q hq
    · rfl
theorem bare_z {r : Row} (h : r.j = false) : r.z = r.bareZ := by unfold Row.z; rw [h]; rfl
def joinFn (rs : List Nat) (z : Z) : Z := match z with
  | .tup [i, x] => if inZ i (natsZ rs) then .tup [.str "join", x] else x
  | z => z
theorem withJ_z {b : Prog} (hb : Bare b) (rs : List Nat) : (enumZ 0 (b.map Row.z)).map (joinFn rs) = (withJ b rs).map Row.z := by
  apply List.ext_getElem?
  intro i
  rw [List.getElem?_map, List.getElem?_map]
  by_cases hi : i < b.length
  · have e : (enumZ 0 (b.map Row.z))[i]? = some ((enumZ 0 (b.map Row.z))[i]'(by rw [enumZ_len, List.length_map]; exact hi)) := List.getElem?_eq_getElem _
    obtain ⟨x, hx, hz⟩ := enumZ_get e
    rw [e, hz]
    have er : b[i]? = some b[i] := List.getElem?_eq_getElem hi
    rw [List.getElem?_map, er] at hx
    cases hx
    rw [withJ_get er]
    simp only [Option.map_some, Nat.zero_add, joinFn, inZ_nats]
    have hz := bare_z (hb _ (List.getElem_mem hi))
    rw [hz]
    unfold Row.z
    simp only [decide_eq_true_eq]
    rfl
  · rw [List.getElem?_eq_none (by rw [enumZ_len, List.length_map]; omega), List.getElem?_eq_none (by rw [withJ_len]; omega)]
    rfl
theorem goOn_with {b : Prog} {rs : List Nat} {at_ : Nat} {r : Row} (hr : b[at_]? = some r) (q' : Proc) : goOn (withJ b rs) ⟨decide (at_ ∈ rs), r.w, r.t⟩ at_ q' = (decide (at_ ∈ rs) && (!decide (r.w = .enter) && (decide (q'.row = at_ + 1) && (match b[q'.row]? with | some r' => !r'.w.alone | none => false)))) := by
  unfold goOn
  have : ∀ i : Nat, (withJ b rs)[i]? = (b[i]?).map fun r => (⟨decide (i ∈ rs), r.w, r.t⟩ : Row) := fun i => by simp [withJ, List.getElem?_mapIdx]
  rw [this]
  cases b[q'.row]? <;> rfl
theorem advF_step {p : Prog} {live : List Nat} {jb : Bool} {n : Nat} {l : ON} {q : Proc} {r : Row} (hr : p[q.row]? = some r) : advF p live jb (n + 1) l q = if goOn p r q.row (doneF r l q live jb).proc then advF p live jb n (doneF r l q live jb).lock (doneF r l q live jb).proc else ⟨(doneF r l q live jb).lock, (doneF r l q live jb).proc⟩ := by
  show (match p[q.row]? with | none => _ | some r => _) = _
  rw [hr]

/-- the stand behind an event of one program with its rows' joins, against single steps -/
theorem beh_step {b o : Prog} {st : Stand} {q : Proc} {r : Row} {f : Facts} (h0 : st.slots[0]? = some (some q)) (hr : b[q.row]? = some r) (hj : r.j = false) (hw : r.w ≠ .old) : beh [b, o] f st (.step 0) = some (setSt st 0 (doneF r st.lock q st.marks false).lock (endF b (doneF r st.lock q st.marks false).proc)) := by
  unfold beh
  simp only [Ev.slot, h0]
  rw [show ([b, o] : List Prog)[0]? = some b from rfl]
  simp only [hr]
  rw [if_neg hw, moved_bare hr hj]
theorem nat_sub_map {ys : List Z} {n : Nat} (h : ys.Sublist ((List.range n).map fun (i : Nat) => Z.int i)) : ∃ rs : List Nat, ys = natsZ rs ∧ rs.length ≤ n := by
  obtain ⟨rs, h1, h2⟩ := List.sublist_map_iff.mp h
  refine ⟨rs, h2, ?_⟩
  have := h1.length_le
  simpa using this
theorem barez_val (r : Row) : dat r.bareZ = true ∧ dep r.bareZ ≤ 1 := ⟨r.bareZ_dat, r.bareZ_dep⟩
/-- comprehensions over data of a type -/
theorem compZ_mapT {α : Type} {g : DG} {me : DE} {env : L3.Env} {S : Sm} {k : List Z → Sm → Prop} (zf f : α → Z) : ∀ (xs : List α) (acc : List Z), acc.length + xs.length ≤ 16777216 →
    (∀ x ∈ xs, ∃ e, g (zf x) env = some e ∧ ∀ k' : Z → Sm → Prop, k' (f x) S → me EK0 e S k') → k (acc ++ xs.map f) S → compZ g dYes me (xs.map zf) env S acc k
  | [], acc, _, _, hk => by simpa [compZ] using hk
  | x :: xs, acc, hl, h, hk => by
    obtain ⟨e, he, hm⟩ := h x List.mem_cons_self
    rw [List.length_cons] at hl
    refine ⟨e, he, ?_⟩
    simp only [dYes, reduceIte]
    refine hm _ ⟨by rw [sizeLine_eq]; exact decide_eq_true (by omega), ?_⟩
    exact compZ_mapT zf f xs (acc ++ [f x]) (by rw [List.length_append]; simp; omega) (fun w hw => h w (List.mem_cons_of_mem _ hw)) (by simpa using hk)
theorem compZ_filterT {α : Type} {g : DG} {t : DT} {me : DE} {env : L3.Env} {S : Sm} {k : List Z → Sm → Prop} (zf : α → Z) (c : α → Bool) (f : α → Z) : ∀ (xs : List α) (acc : List Z), acc.length + xs.length ≤ 16777216 →
    (∀ x ∈ xs, ∃ e, g (zf x) env = some e ∧ (∀ k' : Bool → Sm → Prop, k' (c x) S → t EK0 e S k') ∧ (c x = true → ∀ k' : Z → Sm → Prop, k' (f x) S → me EK0 e S k')) → k (acc ++ (xs.filter c).map f) S → compZ g t me (xs.map zf) env S acc k
  | [], acc, _, _, hk => by simpa [compZ] using hk
  | x :: xs, acc, hl, h, hk => by
    obtain ⟨e, he, ht, hm⟩ := h x List.mem_cons_self
    rw [List.length_cons] at hl
    refine ⟨e, he, ht _ ?_⟩
    cases hc : c x with
    | true =>
      refine ifT rfl (hm hc _ ⟨by rw [sizeLine_eq]; exact decide_eq_true (by omega), ?_⟩)
      refine compZ_filterT zf c f xs (acc ++ [f x]) (by rw [List.length_append]; simp; omega) (fun w hw => h w (List.mem_cons_of_mem _ hw)) ?_
      simpa [hc] using hk
    | false =>
      refine ifF (by simp) (compZ_filterT zf c f xs acc (by omega) (fun w hw => h w (List.mem_cons_of_mem _ hw)) ?_)
      simpa [hc] using hk
theorem map_barez {S : Sm} {env : L3.Env} {i : Nat} {k : List Z → Sm → Prop} (p : Prog) (hl : p.length ≤ 12) (hi : ∀ v, getE (env.set i (some v)) i = some v) (hk : k ((p.map (Row.joined false)).map Row.z) S) : compZ (gN i) dYes (dCallF s_barerow (dCons (dVar i) dNil)) (p.map Row.z) env S [] k := by
  refine compZ_mapT Row.z Row.bareZ p [] (by simp; omega) (fun r hr => ⟨_, rfl, fun k' hk' => ?_⟩) (by rw [List.nil_append, noJ_z]; exact hk)
  walk_at "d"
  rw [hi]
  exact ⟨_, rfl, r, rfl, hk'⟩
def swapZ (r : Row) : Z := (swapDrop r).z
theorem map_swap {S : Sm} {env : L3.Env} {i : Nat} {k : List Z → Sm → Prop} {b : Prog} (hb : Bare b) (hl : b.length ≤ 12) (hi : ∀ v, getE (env.set i (some v)) i = some v) (hk : k ((b.map swapDrop).map Row.z) S) :
    compZ (gN i) dYes (dIfE (dCmpT pIn (dIx (dVar i) (dC (.int 0))) (dLst (dCons (dC (.str "old")) (dCons (dC (.str "enter")) (dCons (dC (.str "go")) dNil))))) (dVar i) (dTup (dCons (dC (.str "drop")) dNil))) (b.map Row.z) env S [] k := by
  refine compZ_mapT Row.z swapZ b [] (by simp; omega) (fun r hr => ⟨_, rfl, fun k' hk' => ?_⟩) (by rw [List.nil_append]; rw [List.map_map] at hk; exact hk)
  walk_at "d"
  rw [hi, bare_z (hb r hr)]
  refine ⟨_, rfl, _, r.head_w, _, pIn_of (ys := [.str "old", .str "enter", .str "go"]) rfl r.w.dat (by decide +kernel) (Nat.zero_le _) (by decide), ?_⟩
  have e : inZ (.str r.w.s) [.str "old", .str "enter", .str "go"] = decide (r.w = .old ∨ r.w = .enter ∨ r.w = .go) := by cases r.w <;> decide +kernel
  rw [e]
  unfold swapZ swapDrop at hk'
  by_cases h : r.w = .old ∨ r.w = .enter ∨ r.w = .go
  · rw [if_pos h] at hk'
    refine ifT (decide_eq_true h) ?_
    rw [bare_z (hb r hr)] at hk'
    first | exact hk' | exact ⟨_, rfl, hk'⟩
  · rw [if_neg h] at hk'
    refine ifF (by simpa using h) ?_
    exact hk'
end L3
namespace L3
open PySem PySem.Spec PyProof.Rows L2
local macro_rules | `(tactic| walk_at "d") => `(tactic| try simp only [szk_0, szk_1, szk_2, szk_3, szk_4, szk_5, szk_6, szk_7, szk_8, szk_9, szk_10, szk_11, szk_12, szk_13, szk_14, szk_15, szk_16, szk_17, szk_18, szk_19, szk_20, fromBody, dNil', dSeq, dSet, dRet, dRetN, dDrop, dIf, dVar, dC, dOp, dCmp, dCmpT, dChain, dChainT, dVal, dNotT, dAndT, dOrT, dAnd, dOr, dNot, dIfE, dNeg, dIx, dSl, dNoPart, dPart, dNil, dCons, dTup, dLst, dLstM, dCall, pure1, dCallF, dItSeq, dItRange, dItZip, dFor, dComp, dCompM, dYes, dAug, dPar, dSub, dRetF, dFrz, dAppend, dBrk, dCnt, wipeE, gN, dInTab, dIxTab, dCallL, dLenSet, dCount, dAddM, gL, dRaise, dTry, catchBy, dItEnum, dPar3, dSortSet, dRevL, cSum, cMin1, cMax1, cSorted, 
  pAdd_i, pNotIn_o, pEq_i, pNe_i, pIsN_of, pNotN_of, pEq_nn, pEq_ni, pEq_in, isNon_non', isNon_int, pNe_b, pEq_b, eq_old, in_oel, isNon_opt, pEq_oo, pEq_oi, eq_self, reduceCtorEq, decide_true, decide_false, Bool.not_true, Bool.not_false, Bool.or_false, Bool.or_true, Bool.false_or, Bool.true_or, pSub_i, pLt_i, pLe_i, pGt_i, pGe_i, pAddI_i, pIsN_non, pNotN_non, pIsN_bl, pNotN_bl, pIsN_int, pNotN_int, pIsN_str, pNotN_str, pIsN_tup, pNotN_tup, pIsN_lst, pNotN_lst, pIsN_ref, pNotN_ref, pIsN_ty, pNotN_ty, pIsN_scr, pNotN_scr, pIsI_non_bool, pIsI_non_int, pIsI_non_str, pIsI_non_tuple, pIsI_non_list, pIsI_bl_bool, pIsI_bl_int, pIsI_bl_str, pIsI_bl_tuple, pIsI_bl_list, pIsI_int_bool, pIsI_int_int, pIsI_int_str, pIsI_int_tuple, pIsI_int_list, pIsI_str_bool, pIsI_str_int, pIsI_str_str, pIsI_str_tuple, pIsI_str_list, pIsI_tup_bool, pIsI_tup_int, pIsI_tup_str, pIsI_tup_tuple, pIsI_tup_list, pIsI_lst_bool, pIsI_lst_int, pIsI_lst_str, pIsI_lst_tuple, pIsI_lst_list, pLen_tup, pIx_tup, pList_tup, pTuple_tup, seqOf_tup, pLen_lst, pIx_lst, pList_lst, pTuple_lst, seqOf_lst, pLen_scr, pIx_scr, pList_scr, pTuple_scr, seqOf_scr, pSl_tup, itemsOf_tup, pSl_lst, itemsOf_lst, pAbs_i, pInt_i, pInt_b, pMin2_i, gT_tup, gsCons_cons, gsNil_nil, getE_0, getE_s,
  Option.some.injEq, exists_eq_left', exists_eq_left, Z.int.injEq, Z.bl.injEq, Z.str.injEq, Z.tup.injEq, Z.lst.injEq, Z.ref.injEq, Option.map_some, Option.bind_some, List.set_cons_zero, List.set_cons_succ, List.map_cons, List.map_nil, List.cons_append, List.nil_append, List.length_cons, List.length_nil, List.replicate_succ, List.replicate_zero, true_and, and_true, if_true, Nat.reduceAdd, Nat.reduceSub, Bool.false_eq_true, if_false, ite_true, ite_false, List.cons.injEq, reduceIte, Bool.not_true, Bool.not_false])
local macro_rules | `(tactic| walk_at "v") => `(tactic| try simp only [szk_0, szk_1, szk_2, szk_3, szk_4, szk_5, szk_6, szk_7, szk_8, szk_9, szk_10, szk_11, szk_12, szk_13, szk_14, szk_15, szk_16, szk_17, szk_18, szk_19, szk_20, 
  pAdd_i, pNotIn_o, pEq_i, pNe_i, pIsN_of, pNotN_of, pEq_nn, pEq_ni, pEq_in, isNon_non', isNon_int, pNe_b, pEq_b, eq_old, in_oel, isNon_opt, pEq_oo, pEq_oi, eq_self, reduceCtorEq, decide_true, decide_false, Bool.not_true, Bool.not_false, Bool.or_false, Bool.or_true, Bool.false_or, Bool.true_or, pSub_i, pLt_i, pLe_i, pGt_i, pGe_i, pAddI_i, pIsN_non, pNotN_non, pIsN_bl, pNotN_bl, pIsN_int, pNotN_int, pIsN_str, pNotN_str, pIsN_tup, pNotN_tup, pIsN_lst, pNotN_lst, pIsN_ref, pNotN_ref, pIsN_ty, pNotN_ty, pIsN_scr, pNotN_scr, pIsI_non_bool, pIsI_non_int, pIsI_non_str, pIsI_non_tuple, pIsI_non_list, pIsI_bl_bool, pIsI_bl_int, pIsI_bl_str, pIsI_bl_tuple, pIsI_bl_list, pIsI_int_bool, pIsI_int_int, pIsI_int_str, pIsI_int_tuple, pIsI_int_list, pIsI_str_bool, pIsI_str_int, pIsI_str_str, pIsI_str_tuple, pIsI_str_list, pIsI_tup_bool, pIsI_tup_int, pIsI_tup_str, pIsI_tup_tuple, pIsI_tup_list, pIsI_lst_bool, pIsI_lst_int, pIsI_lst_str, pIsI_lst_tuple, pIsI_lst_list, pLen_tup, pIx_tup, pList_tup, pTuple_tup, seqOf_tup, pLen_lst, pIx_lst, pList_lst, pTuple_lst, seqOf_lst, pLen_scr, pIx_scr, pList_scr, pTuple_scr, seqOf_scr, pSl_tup, itemsOf_tup, pSl_lst, itemsOf_lst, pAbs_i, pInt_i, pInt_b, pMin2_i, gT_tup, gsCons_cons, gsNil_nil, getE_0, getE_s, atI_0, atI_1, atI_2, atI_3, atI_4, sUpd_same,
  Option.some.injEq, exists_eq_left', exists_eq_left, Z.int.injEq, Z.bl.injEq, Z.str.injEq, Z.tup.injEq, Z.lst.injEq, Z.ref.injEq, Option.map_some, Option.bind_some, List.set_cons_zero, List.set_cons_succ, List.map_cons, List.map_nil, List.cons_append, List.nil_append, List.length_cons, List.length_nil, List.replicate_succ, List.replicate_zero, true_and, and_true, if_true, Nat.reduceAdd, Nat.reduceSub, Bool.false_eq_true, if_false, ite_true, ite_false, List.cons.injEq, reduceIte, Bool.not_true, Bool.not_false])
set_option maxHeartbeats 2000000
def k9env (sc : Z) (m : Nat) (a : Addr) (b pj ot : Prog) (rs : List Nat) (u stz prz wz evsz evz now at_ : Z) (going : Bool) (o17 o18 o19 : Option Z) : L3.Env :=
  [some sc, some (.int m), some (.ref a), some (progZ b), some (.int b.length), some (.lst (natsZ rs)), some (progZ pj), some (progZ ot), some u, some stz, some prz, some wz, some evsz, some evz, some now, some at_, some (.bl going), o17, o18, o19]
theorem setSt_get0 {st : Stand} {l : ON} {o o' : Option Proc} (h : st.slots[0]? = some o') : (setSt st 0 l o).slots[0]? = some o := by
  obtain ⟨h1, _⟩ := List.getElem?_eq_some_iff.mp h
  unfold setSt
  simp [h1]
theorem notin_oel {w : Word} {S : Sm} : pNotIn S (.str w.s) (.lst [.str "old", .str "enter", .str "leave"]) = some (!w.alone) := by
  unfold pNotIn
  rw [in_oel]; rfl
theorem isNon_st (st : Stand) : isNon st.z = false := rfl
/-- the while loop of one event -/
theorem k9_while {E : EK} {S : Sm} {K : Ks} {sc : Z} {m : Nat} {a : Addr} {b ot : Prog} {rs : List Nat} {u stz prz wz evsz evz : Z} {st : Stand} {q : Proc} {r : Row} {jb : Bool} {o17 o18 o19 : Option Z}
    (wb : PWf b) (bb : Bare b) (wo : PWf ot) (h0 : st.slots[0]? = some (some q)) (hr : b[q.row]? = some r)
    (sw0 : SWf [b, ot] (setSt st 0 (doneF r st.lock q st.marks jb).lock (endF b (doneF r st.lock q st.marks jb).proc)))
    (hk : ∀ at_ g o17, K.nx (k9env sc m a b (withJ b rs) ot rs u stz prz wz evsz evz (setSt st 0 (advF (withJ b rs) st.marks jb b.length st.lock q).lock (endF b (advF (withJ b rs) st.marks jb b.length st.lock q).proc)).z at_ g o17 o18 o19) S) :
    (dWhile (dAndT (dVal (dVar 16)) (dAndT (dCmpT (fun _ => pNotN) (dVar 14) (dC .non)) (dCmpT (fun _ => pNotN) (dIx (dIx (dVar 14) (dC (.int 1))) (dC (.int 0))) (dC .non)))) (m_law_k09_L1 s_source s_short s_barerow s_draw s_lawstand s_after)) E
      (k9env sc m a b (withJ b rs) ot rs u stz prz wz evsz evz (setSt st 0 (doneF r st.lock q st.marks jb).lock (endF b (doneF r st.lock q st.marks jb).proc)).z (.int q.row) true o17 o18 o19) S K := by
  have wf : PsWf [b, ot] := ⟨by simp, by simp, fun p hp => by
    rcases List.mem_cons.mp hp with e | hp
    · rw [e]; exact wb
    · rw [List.mem_singleton.mp hp]; exact wo⟩
  have hlen : (withJ b rs).length = b.length := withJ_len b rs
  have hjr : ∀ {i : Nat} {x : Row}, b[i]? = some x → (withJ b rs)[i]? = some ⟨decide (i ∈ rs), x.w, x.t⟩ := fun h => withJ_get h
  generalize hF : advF (withJ b rs) st.marks jb b.length st.lock q = F at hk
  let IR : Nat → L3.Env → Prop := fun n env => ∃ (fu : Nat) (l : ON) (q' : Proc) (at_ : Nat) (r' : Row) (o17 : Option Z), n = fu + 1 ∧ b[at_]? = some r' ∧ q'.mark = q.mark ∧ q'.row ≤ b.length ∧ SWf [b, ot] (setSt st 0 l (endF b q')) ∧ b.length ≤ fu + at_ + 1 ∧
    (if goOn (withJ b rs) ⟨decide (at_ ∈ rs), r'.w, r'.t⟩ at_ q' then advF (withJ b rs) st.marks jb fu l q' else ⟨l, q'⟩) = F ∧ env = k9env sc m a b (withJ b rs) ot rs u stz prz wz evsz evz (setSt st 0 l (endF b q')).z (.int at_) true o17 o18 o19
  let IT : Nat → L3.Env → Prop := fun n env => ∃ (at_ : Z) (o17 : Option Z), n = 0 ∧ env = k9env sc m a b (withJ b rs) ot rs u stz prz wz evsz evz (setSt st 0 F.lock (endF b F.proc)).z at_ false o17 o18 o19
  have hq0 : q.row < b.length := (List.getElem?_eq_some_iff.mp hr).1
  have hdrow : ∀ {x : Row} {y : Proc} {l : ON} {j : Bool}, b[y.row]? = some x → (doneF x l y st.marks j).proc.row ≤ b.length := fun {x y l j} h => doneF_row wb (List.mem_of_getElem? h) (at_ := y.row) l y (List.getElem?_eq_some_iff.mp h).1 _ _
  refine ⟨fun n env S' => S' = S ∧ (IR n env ∨ IT n env), ⟨b.length - 1 + 1, rfl, .inl ⟨b.length - 1, (doneF r st.lock q st.marks jb).lock, (doneF r st.lock q st.marks jb).proc, q.row, r, o17, rfl, hr, rfl, hdrow hr, sw0, by omega, ?_, rfl⟩⟩, fun n env S' hI => ?_⟩
  · rw [← hF]
    obtain ⟨N, hN⟩ : ∃ N, b.length = N + 1 := ⟨b.length - 1, by omega⟩
    rw [hN, advF_step (hjr hr), Nat.add_sub_cancel, doneF_w (r := ⟨decide (q.row ∈ rs), r.w, r.t⟩) (r' := r) rfl rfl]
  obtain ⟨rfl, hI⟩ := hI
  rcases hI with ⟨fu, l, q', at_, r', o17', rfl, hr', hm, hrow, sw, hfu, hfin, rfl⟩ | ⟨at_, o17', rfl, rfl⟩
  rotate_left
  · unfold k9env
    walk_at "d"
    exact hk _ _ _
  unfold k9env
  walk_at "d"
  simp only [isNon_st]
  walk_at "v"
  refine ⟨_, st_ix1 _, _, slot_ix (setSt_get0 h0), ?_⟩
  rw [isNon_slot]
  by_cases hend : q'.row = b.length
  · -- it has ended
    have e1 : endF b q' = none := by unfold endF; rw [if_pos hend]
    have e2 : goOn (withJ b rs) ⟨decide (at_ ∈ rs), r'.w, r'.t⟩ at_ q' = false := by
      rw [goOn_with hr', List.getElem?_eq_none (by omega)]
      simp
    rw [e2] at hfin
    rw [e1]
    refine ifF (by simp) ?_
    have e3 := hk (.int at_) true o17'
    have hf2 : (⟨l, q'⟩ : Adv) = F := by simpa using hfin
    rw [← hf2] at e3
    dsimp only at e3
    rw [e1] at e3
    exact e3
  have hlt : q'.row < b.length := by omega
  have e1 : endF b q' = some q' := by unfold endF; rw [if_neg hend]
  rw [e1] at sw ⊢
  refine ifT (by simp) ?_
  have hn : b[q'.row]? = some (b[q'.row]'hlt) := List.getElem?_eq_getElem hlt
  generalize (b[q'.row]'hlt) = rn at hn
  rw [goOn_with hr', hn] at hfin
  simp only at hfin
  unfold m_law_k09_L1
  walk_at "d"
  refine ⟨_, st_ix1 _, _, slot_ix (setSt_get0 h0), _, q'.row_ix, _, pIn_natsL at_ rs, ?_⟩
  -- where it goes on, and where it stops
  have stop : ∀ o, (⟨l, q'⟩ : Adv) = F → ∃ m_1, m_1 < fu + 1 ∧ (IR m_1 (k9env sc m a b (withJ b rs) ot rs u stz prz wz evsz evz (setSt st 0 l (some q')).z (.int at_) false o o18 o19) ∨ IT m_1 (k9env sc m a b (withJ b rs) ot rs u stz prz wz evsz evz (setSt st 0 l (some q')).z (.int at_) false o o18 o19)) := fun o e => by
    refine ⟨0, by omega, .inr ⟨.int at_, o, rfl, ?_⟩⟩
    rw [← e]
    dsimp only
    rw [e1]
  have bz : ∀ {i : Nat} {x : Row}, b[i]? = some x → ∀ {S : Sm}, pIx S (progZ b) (.int i) = some x.bareZ := fun {i x} h {S} => by rw [pIx_prog h, bare_z (bb _ (List.mem_of_getElem? h))]
  cases c1 : decide (at_ ∈ rs) with
  | false =>
    rw [c1] at hfin
    walk_at "v"
    exact stop _ (by simpa using hfin)
  | true =>
    rw [c1] at hfin
    walk_at "v"
    by_cases hrow2 : q'.row = at_ + 1
    rotate_left
    · have e : decide ((q'.row : Int) = at_ + 1) = false := by apply decide_eq_false; omega
      rw [e]
      walk_at "v"
      exact stop _ (by simpa [hrow2] using hfin)
    have e : decide ((q'.row : Int) = at_ + 1) = true := by apply decide_eq_true; omega
    rw [e]
    walk_at "v"
    refine ⟨_, bz hr', _, r'.head_w, _, neW r'.w .enter, ?_⟩
    cases c2 : decide (r'.w = .enter) with
    | true =>
      rw [c2] at hfin
      walk_at "v"
      exact stop _ (by simpa using hfin)
    | false =>
      rw [c2] at hfin
      walk_at "v"
      refine ⟨_, bz hn, _, rn.head_w, _, notin_oel, ?_⟩
      cases c3 : rn.w.alone with
      | true =>
        simp only [c3] at hfin
        walk_at "v"
        exact stop _ (by simpa using hfin)
      | false =>
        simp only [c3] at hfin
        walk_at "v"
        have hno : rn.w ≠ .old := fun e => by rw [e] at c3; cases c3
        have hfin' : advF (withJ b rs) st.marks jb fu l q' = F := by simpa [hrow2] using hfin
        have swm : (setSt st 0 l (some q')).marks = st.marks := setSt_marks h0 hm
        have hb := beh_step (o := ot) (f := ⟨false, false, false⟩) (setSt_get0 (l := l) (o := some q') h0) hn (bb _ (List.mem_of_getElem? hn)) hno
        rw [swm, setSt_set] at hb
        have we : (Ev.step 0).Wf [b, ot].length := ⟨Nat.zero_lt_succ _, fun _ _ h => nomatch h⟩
        have sw2 := beh_wf wf sw we hb
        refine ⟨[b, ot], ⟨false, false, false⟩, _, .step 0, rfl, wf, sw, we, ?_⟩
        rw [hb]
        refine ⟨_, _, ⟨rfl, rfl⟩, fu, by omega, rfl, .inl ⟨fu - 1, (doneF rn l q' st.marks false).lock, (doneF rn l q' st.marks false).proc, q'.row, rn, some (.int q'.row), by omega, hn, hm, hdrow hn, sw2, by omega, ?_, rfl⟩⟩
        rw [← hfin']
        obtain ⟨N, hN⟩ : ∃ N, fu = N + 1 := ⟨fu - 1, by omega⟩
        rw [hN, advF_step (hjr hn), Nat.add_sub_cancel, doneF_w (r := ⟨decide (q'.row ∈ rs), rn.w, rn.t⟩) (r' := rn) rfl rfl, doneF_jb hno _ _ _ jb false]
end L3
namespace L3
open PySem PySem.Spec PyProof.Rows L2
local macro_rules | `(tactic| walk_at "d") => `(tactic| try simp only [szk_0, szk_1, szk_2, szk_3, szk_4, szk_5, szk_6, szk_7, szk_8, szk_9, szk_10, szk_11, szk_12, szk_13, szk_14, szk_15, szk_16, szk_17, szk_18, szk_19, szk_20, fromBody, dNil', dSeq, dSet, dRet, dRetN, dDrop, dIf, dVar, dC, dOp, dCmp, dCmpT, dChain, dChainT, dVal, dNotT, dAndT, dOrT, dAnd, dOr, dNot, dIfE, dNeg, dIx, dSl, dNoPart, dPart, dNil, dCons, dTup, dLst, dLstM, dCall, pure1, dCallF, dItSeq, dItRange, dItZip, dFor, dComp, dCompM, dYes, dAug, dPar, dSub, dRetF, dFrz, dAppend, dBrk, dCnt, wipeE, gN, dInTab, dIxTab, dCallL, dLenSet, dCount, dAddM, gL, dRaise, dTry, catchBy, dItEnum, dPar3, dSortSet, dRevL, cSum, cMin1, cMax1, cSorted, 
  pAdd_i, pNotIn_o, pEq_i, pNe_i, pIsN_of, pNotN_of, pEq_nn, pEq_ni, pEq_in, isNon_non', isNon_int, pNe_b, pEq_b, eq_old, in_oel, isNon_opt, pEq_oo, pEq_oi, eq_self, reduceCtorEq, decide_true, decide_false, Bool.not_true, Bool.not_false, Bool.or_false, Bool.or_true, Bool.false_or, Bool.true_or, pSub_i, pLt_i, pLe_i, pGt_i, pGe_i, pAddI_i, pIsN_non, pNotN_non, pIsN_bl, pNotN_bl, pIsN_int, pNotN_int, pIsN_str, pNotN_str, pIsN_tup, pNotN_tup, pIsN_lst, pNotN_lst, pIsN_ref, pNotN_ref, pIsN_ty, pNotN_ty, pIsN_scr, pNotN_scr, pIsI_non_bool, pIsI_non_int, pIsI_non_str, pIsI_non_tuple, pIsI_non_list, pIsI_bl_bool, pIsI_bl_int, pIsI_bl_str, pIsI_bl_tuple, pIsI_bl_list, pIsI_int_bool, pIsI_int_int, pIsI_int_str, pIsI_int_tuple, pIsI_int_list, pIsI_str_bool, pIsI_str_int, pIsI_str_str, pIsI_str_tuple, pIsI_str_list, pIsI_tup_bool, pIsI_tup_int, pIsI_tup_str, pIsI_tup_tuple, pIsI_tup_list, pIsI_lst_bool, pIsI_lst_int, pIsI_lst_str, pIsI_lst_tuple, pIsI_lst_list, pLen_tup, pIx_tup, pList_tup, pTuple_tup, seqOf_tup, pLen_lst, pIx_lst, pList_lst, pTuple_lst, seqOf_lst, pLen_scr, pIx_scr, pList_scr, pTuple_scr, seqOf_scr, pSl_tup, itemsOf_tup, pSl_lst, itemsOf_lst, pAbs_i, pInt_i, pInt_b, pMin2_i, gT_tup, gsCons_cons, gsNil_nil, getE_0, getE_s,
  Option.some.injEq, exists_eq_left', exists_eq_left, Z.int.injEq, Z.bl.injEq, Z.str.injEq, Z.tup.injEq, Z.lst.injEq, Z.ref.injEq, Option.map_some, Option.bind_some, List.set_cons_zero, List.set_cons_succ, List.map_cons, List.map_nil, List.cons_append, List.nil_append, List.length_cons, List.length_nil, List.replicate_succ, List.replicate_zero, true_and, and_true, if_true, Nat.reduceAdd, Nat.reduceSub, Bool.false_eq_true, if_false, ite_true, ite_false, List.cons.injEq, reduceIte, Bool.not_true, Bool.not_false])
local macro_rules | `(tactic| walk_at "v") => `(tactic| try simp only [szk_0, szk_1, szk_2, szk_3, szk_4, szk_5, szk_6, szk_7, szk_8, szk_9, szk_10, szk_11, szk_12, szk_13, szk_14, szk_15, szk_16, szk_17, szk_18, szk_19, szk_20, 
  pAdd_i, pNotIn_o, pEq_i, pNe_i, pIsN_of, pNotN_of, pEq_nn, pEq_ni, pEq_in, isNon_non', isNon_int, pNe_b, pEq_b, eq_old, in_oel, isNon_opt, pEq_oo, pEq_oi, eq_self, reduceCtorEq, decide_true, decide_false, Bool.not_true, Bool.not_false, Bool.or_false, Bool.or_true, Bool.false_or, Bool.true_or, pSub_i, pLt_i, pLe_i, pGt_i, pGe_i, pAddI_i, pIsN_non, pNotN_non, pIsN_bl, pNotN_bl, pIsN_int, pNotN_int, pIsN_str, pNotN_str, pIsN_tup, pNotN_tup, pIsN_lst, pNotN_lst, pIsN_ref, pNotN_ref, pIsN_ty, pNotN_ty, pIsN_scr, pNotN_scr, pIsI_non_bool, pIsI_non_int, pIsI_non_str, pIsI_non_tuple, pIsI_non_list, pIsI_bl_bool, pIsI_bl_int, pIsI_bl_str, pIsI_bl_tuple, pIsI_bl_list, pIsI_int_bool, pIsI_int_int, pIsI_int_str, pIsI_int_tuple, pIsI_int_list, pIsI_str_bool, pIsI_str_int, pIsI_str_str, pIsI_str_tuple, pIsI_str_list, pIsI_tup_bool, pIsI_tup_int, pIsI_tup_str, pIsI_tup_tuple, pIsI_tup_list, pIsI_lst_bool, pIsI_lst_int, pIsI_lst_str, pIsI_lst_tuple, pIsI_lst_list, pLen_tup, pIx_tup, pList_tup, pTuple_tup, seqOf_tup, pLen_lst, pIx_lst, pList_lst, pTuple_lst, seqOf_lst, pLen_scr, pIx_scr, pList_scr, pTuple_scr, seqOf_scr, pSl_tup, itemsOf_tup, pSl_lst, itemsOf_lst, pAbs_i, pInt_i, pInt_b, pMin2_i, gT_tup, gsCons_cons, gsNil_nil, getE_0, getE_s, atI_0, atI_1, atI_2, atI_3, atI_4, sUpd_same,
  Option.some.injEq, exists_eq_left', exists_eq_left, Z.int.injEq, Z.bl.injEq, Z.str.injEq, Z.tup.injEq, Z.lst.injEq, Z.ref.injEq, Option.map_some, Option.bind_some, List.set_cons_zero, List.set_cons_succ, List.map_cons, List.map_nil, List.cons_append, List.nil_append, List.length_cons, List.length_nil, List.replicate_succ, List.replicate_zero, true_and, and_true, if_true, Nat.reduceAdd, Nat.reduceSub, Bool.false_eq_true, if_false, ite_true, ite_false, List.cons.injEq, reduceIte, Bool.not_true, Bool.not_false])
set_option maxHeartbeats 2000000
abbrev F0 : Facts := ⟨false, false, false⟩
theorem pswf2 {b ot : Prog} (wb : PWf b) (wo : PWf ot) : PsWf [b, ot] := ⟨by simp, by simp, fun p hp => by
    rcases List.mem_cons.mp hp with e | hp
    · rw [e]; exact wb
    · rw [List.mem_singleton.mp hp]; exact wo⟩
/-- the events of the first slot's row -/
def k9ev (r : Row) (jb : Bool) (e : Ev) : Prop := (r.w = .old ∧ e = .judge 0 jb) ∨ (r.w ≠ .old ∧ jb = false ∧ e = .step 0)
theorem beh_ev {st : Stand} {q : Proc} {r : Row} {jb : Bool} {e : Ev} {ot : Prog} (h0 : st.slots[0]? = some (some q)) (he : k9ev r jb e) : ∃ c : Bool, ∀ (p : Prog) (r' : Row), p[q.row]? = some r' → r'.w = r.w → beh [p, ot] F0 st e = if c then some (movedSt p st 0 q jb) else none := by
  rcases he with ⟨hw, rfl⟩ | ⟨hw, rfl, rfl⟩
  · refine ⟨mayJudge F0 st jb, fun p r' hr' hw' => ?_⟩
    unfold beh
    simp only [Ev.slot, h0]
    rw [show ([p, ot] : List Prog)[0]? = some p from rfl]
    simp only [hr']
    rw [if_pos (hw'.trans hw)]
  · refine ⟨true, fun p r' hr' hw' => ?_⟩
    unfold beh
    simp only [Ev.slot, h0]
    rw [show ([p, ot] : List Prog)[0]? = some p from rfl]
    simp only [hr']
    rw [if_neg (by rw [hw']; exact hw)]
    rfl
theorem swf_conv {p b ot : Prog} {st : Stand} (h : p.length = b.length) (w : SWf [p, ot] st) : SWf [b, ot] st := by
  refine ⟨w.len, w.lock, fun i x q hx hq => ?_, w.nod⟩
  match i, hx with
  | 0, hx =>
    cases hx
    have := w.proc 0 p q rfl hq
    exact ⟨by rw [← h]; exact this.row, this.mark, this.note, this.pocket⟩
  | 1, hx => exact w.proc 1 x q hx hq
  | i + 2, hx => cases hx
/-- one event -/
theorem k9_event {E : EK} {S : Sm} {K : Ks} {sc : Z} {m : Nat} {a : Addr} {b ot : Prog} {rs : List Nat} {u wz evsz : Z} {st : Stand} {q : Proc} {r : Row} {jb : Bool} {e : Ev} {o14 o15 o16 o17 o18 o19 : Option Z}
    (wb : PWf b) (bb : Bare b) (wo : PWf ot) (sw : SWf [b, ot] st) (h0 : st.slots[0]? = some (some q)) (hr : b[q.row]? = some r) (he : k9ev r jb e)
    (hk : ∀ o14 o15 o16 o17, K.nx [some sc, some (.int m), some (.ref a), some (progZ b), some (.int b.length), some (.lst (natsZ rs)), some (progZ (withJ b rs)), some (progZ ot), some u, some st.z, some q.z, some wz, some evsz, some e.z, o14, o15, o16, o17, o18, o19] S) :
    m_law_k09_L2 s_source s_short s_barerow s_draw s_lawstand s_after E [some sc, some (.int m), some (.ref a), some (progZ b), some (.int b.length), some (.lst (natsZ rs)), some (progZ (withJ b rs)), some (progZ ot), some u, some st.z, some q.z, some wz, some evsz, some e.z, o14, o15, o16, o17, o18, o19] S K := by
  have wf := pswf2 wb wo
  have wj := withJ_wf wb rs
  have wfj := pswf2 wj wo
  have swj : SWf [withJ b rs, ot] st := swf_conv (withJ_len b rs).symm sw
  have we : e.Wf 2 := by rcases he with ⟨_, rfl⟩ | ⟨_, _, rfl⟩ <;> exact ⟨Nat.zero_lt_succ _, fun _ _ h => nomatch h⟩
  obtain ⟨c, hc⟩ := beh_ev (ot := ot) h0 he
  have hb := hc b r hr rfl
  have hbj := hc (withJ b rs) ⟨decide (q.row ∈ rs), r.w, r.t⟩ (withJ_get hr) rfl
  have hj := bb _ (List.mem_of_getElem? hr)
  rw [moved_bare hr hj] at hb
  unfold m_law_k09_L2
  walk_at "d"
  refine ⟨[b, ot], F0, st, e, rfl, wf, sw, we, _, q.row_ix, ?_⟩
  rw [hb]
  cases c with
  | false =>
    rw [if_neg Bool.false_ne_true]
    refine ⟨_, _, _, ⟨rfl, rfl, rfl⟩, ?_⟩
    refine ⟨fun n env S' => S' = S ∧ env = [some sc, some (.int m), some (.ref a), some (progZ b), some (.int b.length), some (.lst (natsZ rs)), some (progZ (withJ b rs)), some (progZ ot), some u, some st.z, some q.z, some wz, some evsz, some e.z, some .non, some (.int q.row), some (.bl true), o17, o18, o19], ⟨0, rfl, rfl⟩, fun n env S' hI => ?_⟩
    obtain ⟨rfl, rfl⟩ := hI
    walk_at "d"
    refine ⟨[withJ b rs, ot], F0, st, e, rfl, wfj, swj, we, ?_⟩
    rw [hbj]
    exact ⟨_, pNe_self (zSt_dat _) (Nat.zero_le _), ifF (by simp) (hk _ _ _ _)⟩
  | true =>
    rw [if_pos rfl] at hb ⊢
    have sw1 := beh_wf wf sw we hb
    refine ⟨_, _, _, ⟨rfl, rfl, rfl⟩, ?_⟩
    refine k9_while (stz := st.z) (prz := q.z) (evz := e.z) wb bb wo h0 hr sw1 (fun at_ g o17 => ?_)
    · dsimp only
      unfold k9env
      walk_at "v"
      refine ⟨[withJ b rs, ot], F0, st, e, rfl, wfj, swj, we, ?_⟩
      rw [hbj]
      have e1 : movedSt (withJ b rs) st 0 q jb = setSt st 0 (advF (withJ b rs) st.marks jb b.length st.lock q).lock (endF b (advF (withJ b rs) st.marks jb b.length st.lock q).proc) := by
        unfold movedSt endF
        rw [withJ_len]
      rw [if_pos rfl, e1]
      have zd := st_dep (setSt st 0 (advF (withJ b rs) st.marks jb b.length st.lock q).lock (endF b (advF (withJ b rs) st.marks jb b.length st.lock q).proc))
      exact ⟨_, pNe_self (st_dat _) (by show dep (Stand.z _) ≤ 60; omega), ifF (by simp) (hk _ _ _ _)⟩
end L3
namespace L3
open PySem PySem.Spec PyProof.Rows L2
local macro_rules | `(tactic| walk_at "d") => `(tactic| try simp only [szk_0, szk_1, szk_2, szk_3, szk_4, szk_5, szk_6, szk_7, szk_8, szk_9, szk_10, szk_11, szk_12, szk_13, szk_14, szk_15, szk_16, szk_17, szk_18, szk_19, szk_20, fromBody, dNil', dSeq, dSet, dRet, dRetN, dDrop, dIf, dVar, dC, dOp, dCmp, dCmpT, dChain, dChainT, dVal, dNotT, dAndT, dOrT, dAnd, dOr, dNot, dIfE, dNeg, dIx, dSl, dNoPart, dPart, dNil, dCons, dTup, dLst, dLstM, dCall, pure1, dCallF, dItSeq, dItRange, dItZip, dFor, dComp, dCompM, dYes, dAug, dPar, dSub, dRetF, dFrz, dAppend, dBrk, dCnt, wipeE, gN, dInTab, dIxTab, dCallL, dLenSet, dCount, dAddM, gL, dRaise, dTry, catchBy, dItEnum, dPar3, dSortSet, dRevL, cSum, cMin1, cMax1, cSorted, 
  pAdd_i, pNotIn_o, pEq_i, pNe_i, pIsN_of, pNotN_of, pEq_nn, pEq_ni, pEq_in, isNon_non', isNon_int, pNe_b, pEq_b, eq_old, in_oel, isNon_opt, pEq_oo, pEq_oi, eq_self, reduceCtorEq, decide_true, decide_false, Bool.not_true, Bool.not_false, Bool.or_false, Bool.or_true, Bool.false_or, Bool.true_or, pSub_i, pLt_i, pLe_i, pGt_i, pGe_i, pAddI_i, pIsN_non, pNotN_non, pIsN_bl, pNotN_bl, pIsN_int, pNotN_int, pIsN_str, pNotN_str, pIsN_tup, pNotN_tup, pIsN_lst, pNotN_lst, pIsN_ref, pNotN_ref, pIsN_ty, pNotN_ty, pIsN_scr, pNotN_scr, pIsI_non_bool, pIsI_non_int, pIsI_non_str, pIsI_non_tuple, pIsI_non_list, pIsI_bl_bool, pIsI_bl_int, pIsI_bl_str, pIsI_bl_tuple, pIsI_bl_list, pIsI_int_bool, pIsI_int_int, pIsI_int_str, pIsI_int_tuple, pIsI_int_list, pIsI_str_bool, pIsI_str_int, pIsI_str_str, pIsI_str_tuple, pIsI_str_list, pIsI_tup_bool, pIsI_tup_int, pIsI_tup_str, pIsI_tup_tuple, pIsI_tup_list, pIsI_lst_bool, pIsI_lst_int, pIsI_lst_str, pIsI_lst_tuple, pIsI_lst_list, pLen_tup, pIx_tup, pList_tup, pTuple_tup, seqOf_tup, pLen_lst, pIx_lst, pList_lst, pTuple_lst, seqOf_lst, pLen_scr, pIx_scr, pList_scr, pTuple_scr, seqOf_scr, pSl_tup, itemsOf_tup, pSl_lst, itemsOf_lst, pAbs_i, pInt_i, pInt_b, pMin2_i, gT_tup, gsCons_cons, gsNil_nil, getE_0, getE_s,
  Option.some.injEq, exists_eq_left', exists_eq_left, Z.int.injEq, Z.bl.injEq, Z.str.injEq, Z.tup.injEq, Z.lst.injEq, Z.ref.injEq, Option.map_some, Option.bind_some, List.set_cons_zero, List.set_cons_succ, List.map_cons, List.map_nil, List.cons_append, List.nil_append, List.length_cons, List.length_nil, List.replicate_succ, List.replicate_zero, true_and, and_true, if_true, Nat.reduceAdd, Nat.reduceSub, Bool.false_eq_true, if_false, ite_true, ite_false, List.cons.injEq, reduceIte, Bool.not_true, Bool.not_false])
local macro_rules | `(tactic| walk_at "v") => `(tactic| try simp only [szk_0, szk_1, szk_2, szk_3, szk_4, szk_5, szk_6, szk_7, szk_8, szk_9, szk_10, szk_11, szk_12, szk_13, szk_14, szk_15, szk_16, szk_17, szk_18, szk_19, szk_20, 
  pAdd_i, pNotIn_o, pEq_i, pNe_i, pIsN_of, pNotN_of, pEq_nn, pEq_ni, pEq_in, isNon_non', isNon_int, pNe_b, pEq_b, eq_old, in_oel, isNon_opt, pEq_oo, pEq_oi, eq_self, reduceCtorEq, decide_true, decide_false, Bool.not_true, Bool.not_false, Bool.or_false, Bool.or_true, Bool.false_or, Bool.true_or, pSub_i, pLt_i, pLe_i, pGt_i, pGe_i, pAddI_i, pIsN_non, pNotN_non, pIsN_bl, pNotN_bl, pIsN_int, pNotN_int, pIsN_str, pNotN_str, pIsN_tup, pNotN_tup, pIsN_lst, pNotN_lst, pIsN_ref, pNotN_ref, pIsN_ty, pNotN_ty, pIsN_scr, pNotN_scr, pIsI_non_bool, pIsI_non_int, pIsI_non_str, pIsI_non_tuple, pIsI_non_list, pIsI_bl_bool, pIsI_bl_int, pIsI_bl_str, pIsI_bl_tuple, pIsI_bl_list, pIsI_int_bool, pIsI_int_int, pIsI_int_str, pIsI_int_tuple, pIsI_int_list, pIsI_str_bool, pIsI_str_int, pIsI_str_str, pIsI_str_tuple, pIsI_str_list, pIsI_tup_bool, pIsI_tup_int, pIsI_tup_str, pIsI_tup_tuple, pIsI_tup_list, pIsI_lst_bool, pIsI_lst_int, pIsI_lst_str, pIsI_lst_tuple, pIsI_lst_list, pLen_tup, pIx_tup, pList_tup, pTuple_tup, seqOf_tup, pLen_lst, pIx_lst, pList_lst, pTuple_lst, seqOf_lst, pLen_scr, pIx_scr, pList_scr, pTuple_scr, seqOf_scr, pSl_tup, itemsOf_tup, pSl_lst, itemsOf_lst, pAbs_i, pInt_i, pInt_b, pMin2_i, gT_tup, gsCons_cons, gsNil_nil, getE_0, getE_s, atI_0, atI_1, atI_2, atI_3, atI_4, sUpd_same,
  Option.some.injEq, exists_eq_left', exists_eq_left, Z.int.injEq, Z.bl.injEq, Z.str.injEq, Z.tup.injEq, Z.lst.injEq, Z.ref.injEq, Option.map_some, Option.bind_some, List.set_cons_zero, List.set_cons_succ, List.map_cons, List.map_nil, List.cons_append, List.nil_append, List.length_cons, List.length_nil, List.replicate_succ, List.replicate_zero, true_and, and_true, if_true, Nat.reduceAdd, Nat.reduceSub, Bool.false_eq_true, if_false, ite_true, ite_false, List.cons.injEq, reduceIte, Bool.not_true, Bool.not_false])
set_option maxHeartbeats 2000000
def k9pre (sc : Z) (m : Nat) (a : Addr) (b ot : Prog) (rs : List Nat) : L3.Env := [some sc, some (.int m), some (.ref a), some (progZ b), some (.int b.length), some (.lst (natsZ rs)), some (progZ (withJ b rs)), some (progZ ot)]
/-- one turn: a stand is drawn -/
theorem k9_turn {E : EK} {S : Sm} {K : Ks} {sc : Z} {m : Nat} {a : Addr} {b ot : Prog} {rs : List Nat} {u : Z} {o9 o10 o11 o12 o13 o14 o15 o16 o17 o18 o19 : Option Z}
    (wb : PWf b) (bb : Bare b) (wo : PWf ot) (hs : S a = some .src)
    (hk : ∀ o9 o10 o11 o12 o13 o14 o15 o16 o17, K.nx (k9pre sc m a b ot rs ++ [some u, o9, o10, o11, o12, o13, o14, o15, o16, o17, o18, o19]) S) :
    m_law_k09_L3 s_source s_short s_barerow s_draw s_lawstand s_after E (k9pre sc m a b ot rs ++ [some u, o9, o10, o11, o12, o13, o14, o15, o16, o17, o18, o19]) S K := by
  have wfj := pswf2 (withJ_wf wb rs) wo
  unfold m_law_k09_L3 k9pre
  walk_at "d"
  refine ⟨a, [withJ b rs, ot], rfl, hs, wfj, fun st swj => ?_⟩
  have sw : SWf [b, ot] st := swf_conv (withJ_len b rs) swj
  have hl : 0 < st.slots.length := by rw [sw.len]; exact Nat.zero_lt_succ _
  have h0 : st.slots[0]? = some (st.slots[0]'hl) := List.getElem?_eq_getElem hl
  generalize (st.slots[0]'hl) = o at h0
  refine ⟨_, st_ix1 st, _, slot_ix h0, ?_⟩
  rw [isNon_slot]
  cases o with
  | none =>
    refine ifF (by simp) ?_
    exact hk _ _ _ _ _ _ _ _ _
  | some q =>
    refine ifT (by simp) ?_
    have hq := sw.proc 0 b q rfl h0
    have hr : b[q.row]? = some (b[q.row]'hq.row) := List.getElem?_eq_getElem hq.row
    generalize (b[q.row]'hq.row) = r at hr
    simp only [zSlot]
    refine ⟨_, q.row_ix, _, pIx_prog hr, ?_⟩
    rw [bare_z (bb _ (List.mem_of_getElem? hr))]
    refine ⟨_, r.head_w, ?_⟩
    walk_at "v"
    have loop : ∀ (es : List Ev) (wz evsz : Z), (∀ e ∈ es, ∃ jb, k9ev r jb e) → forZ (gN 13) (m_law_k09_L2 s_source s_short s_barerow s_draw s_lawstand s_after) E K (es.map Ev.z)
        [some sc, some (.int m), some (.ref a), some (progZ b), some (.int b.length), some (.lst (natsZ rs)), some (progZ (withJ b rs)), some (progZ ot), some u, some st.z, some q.z, some wz, some evsz, o13, o14, o15, o16, o17, o18, o19] S := fun es wz evsz hes => by
      refine forZ_ind (fun i env S4 => S4 = S ∧ ∃ o13 o14 o15 o16 o17, env = [some sc, some (.int m), some (.ref a), some (progZ b), some (.int b.length), some (.lst (natsZ rs)), some (progZ (withJ b rs)), some (progZ ot), some u, some st.z, some q.z, some wz, some evsz, o13, o14, o15, o16, o17, o18, o19]) _ 0 _ _ ⟨rfl, _, _, _, _, _, rfl⟩ (fun i z hz env S4 hJ => ?_) (fun env S4 hJ => ?_)
      · obtain ⟨rfl, o13, o14, o15, o16, o17, rfl⟩ := hJ
        rw [List.getElem?_map] at hz
        cases he : es[i]? with
        | none => rw [he] at hz; cases hz
        | some e =>
          rw [he] at hz
          cases hz
          obtain ⟨jb, hj⟩ := hes e (List.mem_of_getElem? he)
          exact ⟨_, rfl, fun K' hnx hct hrt hbk => k9_event wb bb wo sw h0 hr hj fun o14 o15 o16 o17 => hnx _ _ ⟨rfl, _, _, _, _, _, rfl⟩⟩
      · obtain ⟨rfl, o13, o14, o15, o16, o17, rfl⟩ := hJ
        exact hk _ _ _ _ _ _ _ _ _
    by_cases hw : r.w = .old
    · refine ifT (by simp [hw]) ?_
      exact loop [.judge 0 false, .judge 0 true] _ _ fun e he => by
        rcases List.mem_cons.mp he with e1 | he
        · exact ⟨false, .inl ⟨hw, e1⟩⟩
        · exact ⟨true, .inl ⟨hw, List.mem_singleton.mp he⟩⟩
    · refine ifF (by simp [hw]) ?_
      exact loop [.step 0] _ _ fun e he => ⟨false, .inr ⟨hw, rfl, List.mem_singleton.mp he⟩⟩
theorem k9_tail {E : EK} {S : Sm} {K : Ks} {sc : Z} {m : Nat} {a : Addr} {b : Prog} {o5 o6 o7 o8 o9 o10 o11 o12 o13 o14 o15 o16 o17 o18 o19 : Option Z}
    (wb : PWf b) (bb : Bare b) (hs : S a = some .src) (hk : ∀ e : L3.Env, (∃ o2 o3 o4 o5 o6 o7 o8 o9 o10 o11 o12 o13 o14 o15 o16 o17 o18 o19, e = [some sc, some (.int m), o2, o3, o4, o5, o6, o7, o8, o9, o10, o11, o12, o13, o14, o15, o16, o17, o18, o19]) → ∀ S, K.nx e S) :
    m_law_k09_L4 s_source s_short s_barerow s_draw s_lawstand s_after E [some sc, some (.int m), some (.ref a), some (progZ b), some (.int b.length), o5, o6, o7, o8, o9, o10, o11, o12, o13, o14, o15, o16, o17, o18, o19] S K := by
  have b12 := wb.most
  unfold m_law_k09_L4
  walk_at "d"
  refine ⟨by omega, by omega, ?_⟩
  simp only [Int.toNat_natCast]
  refine compZ_some _ _ (by simp; omega) (fun z hz => ⟨_, rfl, fun k' hk' => ?_, fun k' hk' => ?_⟩) fun ys hys => ?_
  · walk_at "d"
    exact ⟨a, 4, rfl, hs, by omega, by omega, fun x _ _ => by walk_at "v"; exact hk' _⟩
  · walk_at "d"
    exact hk'
  · obtain ⟨rs, rfl, hrl⟩ := nat_sub_map hys
    rw [List.nil_append]
    refine ⟨b.map Row.z, .inl rfl, ?_⟩
    refine compZ_map (joinFn rs) _ _ (by rw [enumZ_len]; simp; omega) (fun z hz => ?_) ?_
    · obtain ⟨i, hi⟩ := List.getElem?_of_mem hz
      obtain ⟨x, hx, rfl⟩ := enumZ_get hi
      refine ⟨_, rfl, fun k' hk' => ?_⟩
      walk_at "d"
      refine ⟨_, pIn_natsL (0 + i) rs, ?_⟩
      simp only [joinFn, inZ_nats] at hk'
      by_cases hd : 0 + i ∈ rs
      · simp only [decide_eq_true hd, if_true] at hk' ⊢
        exact hk'
      · simp only [decide_eq_false hd, if_false, Bool.false_eq_true] at hk' ⊢
        exact hk'
    · rw [List.nil_append, withJ_z bb]
      refine ⟨a, 4, rfl, hs, by omega, by omega, fun ot wo _ _ => ?_⟩
      refine ⟨by omega, by omega, ?_⟩
      refine forZ_ind (fun i env S4 => S4 = S ∧ ∃ o8 o9 o10 o11 o12 o13 o14 o15 o16 o17 o18 o19, env = k9pre sc m a b ot rs ++ [o8, o9, o10, o11, o12, o13, o14, o15, o16, o17, o18, o19]) _ 0 _ _ ⟨rfl, _, _, _, _, _, _, _, _, _, _, _, _, rfl⟩ (fun i z hz env S4 hJ => ?_) (fun env S4 hJ => ?_)
      · obtain ⟨rfl, o8, o9, o10, o11, o12, o13, o14, o15, o16, o17, o18, o19, rfl⟩ := hJ
        exact ⟨_, rfl, fun K' hnx hct hrt hbk => k9_turn wb bb wo hs fun o9 o10 o11 o12 o13 o14 o15 o16 o17 => hnx _ _ ⟨rfl, _, _, _, _, _, _, _, _, _, _, _, _, rfl⟩⟩
      · obtain ⟨rfl, o8, o9, o10, o11, o12, o13, o14, o15, o16, o17, o18, o19, rfl⟩ := hJ
        exact hk _ ⟨_, _, _, _, _, _, _, _, _, _, _, _, _, _, _, _, _, _, rfl⟩ _
theorem ok_law9 (zs RE S R) (h : s_theLaw zs RE S R) : b_law_k09 s_source s_short s_barerow s_draw s_lawstand s_after zs RE S R := by
  obtain ⟨ns, rfl, hn, hk⟩ := h
  unfold b_law_k09 m_law_k09
  walk_at "d"
  refine ⟨by split <;> omega, by split <;> omega, ?_⟩
  have hcount : (1 + if (10 : Int) < ((List.map Z.int ns).length : Int) then 10 else ((List.map Z.int ns).length : Int)).toNat ≤ 11 := by split <;> omega
  generalize (1 + if (10 : Int) < ((List.map Z.int ns).length : Int) then 10 else ((List.map Z.int ns).length : Int)).toNat = cnt at hcount
  refine forZ_ind (fun _ env _ => ∃ o1 o2 o3 o4 o5 o6 o7 o8 o9 o10 o11 o12 o13 o14 o15 o16 o17 o18 o19, env = [some (Z.scr (List.map Z.int ns)), o1, o2, o3, o4, o5, o6, o7, o8, o9, o10, o11, o12, o13, o14, o15, o16, o17, o18, o19]) _ 0 _ _ ⟨_, _, _, _, _, _, _, _, _, _, _, _, _, _, _, _, _, _, _, rfl⟩ (fun j z hj env S' hI => ?_) (fun env S' hI => ?_)
  · obtain ⟨o1, o2, o3, o4, o5, o6, o7, o8, o9, o10, o11, o12, o13, o14, o15, o16, o17, o18, o19, rfl⟩ := hI
    have hz : ∃ m : Nat, z = .int m ∧ m ≤ 10 := by
      rw [List.getElem?_map] at hj
      cases e : (List.range cnt)[j]? with
      | none => rw [e] at hj; cases hj
      | some m =>
        rw [e] at hj
        cases hj
        obtain ⟨h1, h2⟩ := List.getElem?_eq_some_iff.mp e
        rw [List.getElem_range] at h2
        rw [List.length_range] at h1
        exact ⟨m, rfl, by omega⟩
    obtain ⟨m, rfl, hm⟩ := hz
    refine ⟨_, rfl, fun K' hnx hct hrt hbk => ?_⟩
    unfold m_law_k09_L5
    walk_at "d"
    refine ⟨ns, m, rfl, by omega, fun a ha => ?_⟩
    have hs : sUpd S' a .src a = some .src := sUpd_same
    generalize sUpd S' a .src = S1 at hs
    refine ⟨a, 12, rfl, hs, by omega, by omega, fun p1 w1 l1 _ => ?_⟩
    refine ⟨_, rfl, ?_⟩
    obtain ⟨wb, bb⟩ := noJ_wf w1
    have p12 := w1.most
    refine map_barez p1 w1.most (fun v => rfl) ?_
    generalize p1.map (Row.joined false) = b at wb bb
    rw [List.length_map]
    have b12 := wb.most
    have hend : ∀ e : L3.Env, (∃ o2 o3 o4 o5 o6 o7 o8 o9 o10 o11 o12 o13 o14 o15 o16 o17 o18 o19, e = [some (Z.scr (List.map Z.int ns)), some (.int m), o2, o3, o4, o5, o6, o7, o8, o9, o10, o11, o12, o13, o14, o15, o16, o17, o18, o19]) → ∀ S, K'.nx e S := fun e ⟨o2, o3, o4, o5, o6, o7, o8, o9, o10, o11, o12, o13, o14, o15, o16, o17, o18, o19, h⟩ S => by
      rw [h]
      exact hnx _ _ ⟨_, _, _, _, _, _, _, _, _, _, _, _, _, _, _, _, _, _, _, rfl⟩
    refine ⟨a, 3, rfl, hs, by omega, by omega, fun x _ _ => ?_⟩
    walk_at "v"
    refine ifB (fun hx => ?_) (fun hx => ?_)
    · refine map_swap bb b12 (fun v => rfl) ?_
      obtain ⟨wb2, bb2⟩ := swapDrop_wf wb bb
      have hl2 : b.length = (b.map swapDrop).length := by rw [List.length_map]
      rw [hl2]
      exact k9_tail wb2 bb2 hs hend
    · exact k9_tail wb bb hs hend
  · obtain ⟨o1, o2, o3, o4, o5, o6, o7, o8, o9, o10, o11, o12, o13, o14, o15, o16, o17, o18, o19, rfl⟩ := hI
    walk_at "v"
    exact hk _
end L3
set_option maxHeartbeats 4000000
namespace Wk
open PySem PySem.Spec PyProof.Rows L2 L3
def topS (i : Nat) : Stmt := PySem.Challenge.pw_stalelocks_k09_whole_joined_rows_are_don.main.body.getD i (.Pass ⟨0, 0, 0, 0⟩)
/-- what the top has left besides the defs -/
structure Glo (K : PySem.W.Frag) (mg : Str → Option Value) (w : World) : Prop where
  n_abs : mg "abs" = none
  n_all : mg "all" = none
  n_bool : mg "bool" = none
  n_enumerate : mg "enumerate" = none
  n_int : mg "int" = none
  n_isinstance : mg "isinstance" = none
  n_len : mg "len" = none
  n_min : mg "min" = none
  n_range : mg "range" = none
  n_set : mg "set" = none
  n_str : mg "str" = none
  n_tuple : mg "tuple" = none
  n_zip : mg "zip" = none
  c_MOST_ROWS : GlobZ K mg "MOST_ROWS" g_MOST_ROWS
  c_JUMPS : GlobZ K mg "JUMPS" g_JUMPS
  c_STEPS : GlobZ K mg "STEPS" g_STEPS
  c_JOIN : GlobZ K mg "JOIN" g_JOIN
  c_ALONE : GlobZ K mg "ALONE" g_ALONE
  c_MOST_SLOTS : GlobZ K mg "MOST_SLOTS" g_MOST_SLOTS
  c_MOST_MARK : GlobZ K mg "MOST_MARK" g_MOST_MARK
  c_FRESH : GlobZ K mg "FRESH" g_FRESH
  c_PROMPT : GlobZ K mg "PROMPT" g_PROMPT
  c_STEADY : GlobZ K mg "STEADY" g_STEADY
  c_FACTS : GlobZ K mg "FACTS" g_FACTS
  c_START : GlobZ K mg "START" g_START
  c_DIE : GlobZ K mg "DIE" g_DIE
  c_JUDGE : GlobZ K mg "JUDGE" g_JUDGE
  c_DEEDS : GlobZ K mg "DEEDS" g_DEEDS
  t_ACTIONS : TabOk K mg w "ACTIONS" tab_ACTIONS
  x_InvalidEvent : ExCls K mg "InvalidEvent"
  x_InvalidFacts : ExCls K mg "InvalidFacts"
  x_InvalidPrograms : ExCls K mg "InvalidPrograms"
  x_InvalidStand : ExCls K mg "InvalidStand"
section
variable {P : Program} {w : World} {K : PySem.W.Frag} {mg : Str → Option Value} {base : Heap}
theorem sc__law_source : FnScope ["script", "index", "cell"] ["script", "index"] (defScope (topS 61)) := ⟨rfl, rfl, rfl, by decide +kernel, rfl, by decide +kernel, by decide +kernel⟩
theorem fd__law_source (G : Glo K mg w)  {f : Addr} {fd : FuncData} (F : Fun K "_law_source" "_law_source" (topS 61) f fd) (hm : mg "_law_source" = some (.ref f)) (hb : Binds K fd ["script", "index"] []) : Fd P w K mg base 1 "_law_source" ["script", "index"] (fromBody 2 3 m__law_source) :=
  Fd.body F hm hb sc__law_source fun cdv A outer s H E hr => (fss_cons (fs_set 2 sc__law_source.nd fe_int) (fss_cons (fs_if (ft_cmp cm_lt (fe_var 1) (fe_callB cb_len G.n_len (by decide +kernel) (fa_cons (fe_var 0) fa_nil)) (by rfl)) (fss_one (fs_set 2 sc__law_source.nd (fe_callB cb_abs G.n_abs (by decide +kernel) (fa_cons (fe_ix (fe_var 0) (fe_var 1) (fun _ _ => rfl)) fa_nil)))) fss_nil) (fss_cons (fs_if (ft_cmp cm_lt (fe_var 2) (fe_pow fe_int fe_int) (by rfl)) (fss_one (fs_ret (fe_lstM (fa_cons fe_int (fa_cons (fe_add fe_int (fe_mod (fe_callT cb_int G.n_int (by decide +kernel) (fa_cons (fe_add (fe_mul (fe_var 2) fe_int) (fe_mul fe_int (fe_var 1))) fa_nil)) fe_int)) fa_nil))))) fss_nil) (fss_one (fs_ret (fe_lstM (fa_cons (fe_var 2) (fa_cons (fe_add fe_int (fe_mod (fe_callT cb_int G.n_int (by decide +kernel) (fa_cons (fe_add (fe_var 2) (fe_var 1)) fa_nil)) fe_int)) fa_nil))))))))
theorem sc__law_draw : FnScope ["source", "size", "drawn"] ["source", "size"] (defScope (topS 62)) := ⟨rfl, rfl, rfl, by decide +kernel, rfl, by decide +kernel, by decide +kernel⟩
theorem fd__law_draw (G : Glo K mg w)  {f : Addr} {fd : FuncData} (F : Fun K "_law_draw" "_law_draw" (topS 62) f fd) (hm : mg "_law_draw" = some (.ref f)) (hb : Binds K fd ["source", "size"] []) : Fd P w K mg base 1 "_law_draw" ["source", "size"] (fromBody 2 3 m__law_draw) :=
  Fd.body F hm hb sc__law_draw fun cdv A outer s H E hr => (fss_cons (fs_if (ft_cmp cm_gt (fe_ix (fe_var 0) fe_int (fun _ _ => rfl)) fe_int (by rfl)) (fss_cons (fs_set 2 sc__law_draw.nd (fe_mod (fe_callT cb_int G.n_int (by decide +kernel) (fa_cons (fe_ix (fe_var 0) fe_int (fun _ _ => rfl)) fa_nil)) (fe_var 1))) (fss_cons (fs_sub (fe_fdiv (fe_ix (fe_var 0) fe_int (fun _ _ => rfl)) (fe_var 1)) (fe_var 0) fe_int) (fss_one (fs_ret (fe_var 2))))) fss_nil) (fss_cons (fs_sub (fe_mod (fe_callT cb_int G.n_int (by decide +kernel) (fa_cons (fe_mul (fe_ix (fe_var 0) fe_int (fun _ _ => rfl)) fe_int) fa_nil)) fe_int) (fe_var 0) fe_int) (fss_cons (fs_set 2 sc__law_draw.nd (fe_callT cb_int G.n_int (by decide +kernel) (fa_cons (fe_fdiv (fe_mod (fe_callT cb_int G.n_int (by decide +kernel) (fa_cons (fe_mul (fe_ix (fe_var 0) fe_int (fun _ _ => rfl)) (fe_ix (fe_var 0) fe_int (fun _ _ => rfl))) fa_nil)) fe_int) fe_int) fa_nil))) (fss_cons (fs_if (ft_cmp cm_gt (fe_var 1) (fe_pow fe_int fe_int) (by rfl)) (fss_cons (fs_sub (fe_mod (fe_callT cb_int G.n_int (by decide +kernel) (fa_cons (fe_mul (fe_ix (fe_var 0) fe_int (fun _ _ => rfl)) fe_int) fa_nil)) fe_int) (fe_var 0) fe_int) (fss_one (fs_set 2 sc__law_draw.nd (fe_add (fe_mul (fe_var 2) fe_int) (fe_ix (fe_var 0) fe_int (fun _ _ => rfl)))))) fss_nil) (fss_one (fs_ret (fe_mod (fe_var 2) (fe_var 1))))))))
theorem sc__law_choice : FnScope ["source", "items"] ["source", "items"] (defScope (topS 63)) := ⟨rfl, rfl, rfl, by decide +kernel, rfl, by decide +kernel, by decide +kernel⟩
theorem fd__law_choice (G : Glo K mg w) {s__law_draw : DF} (h__law_draw : Fd P w K mg base 1 "_law_draw" ["source", "size"] s__law_draw) {f : Addr} {fd : FuncData} (F : Fun K "_law_choice" "_law_choice" (topS 63) f fd) (hm : mg "_law_choice" = some (.ref f)) (hb : Binds K fd ["source", "items"] []) : Fd P w K mg base 2 "_law_choice" ["source", "items"] (fromBody 2 2 (m__law_choice s__law_draw)) :=
  Fd.body F hm hb sc__law_choice fun cdv A outer s H E hr => (fss_one (fs_ret (fe_ix (fe_var 1) (fe_call h__law_draw hr (by decide) (takes_of rfl rfl rfl rfl) (fa_cons (fe_var 0) (fa_cons (fe_callB cb_len G.n_len (by decide +kernel) (fa_cons (fe_var 1) fa_nil)) fa_nil))) (fun _ _ => rfl))))
theorem sc__law_row : FnScope ["source", "size", "words", "word", "row"] ["source", "size", "words"] (defScope (topS 65)) := ⟨rfl, rfl, rfl, by decide +kernel, rfl, by decide +kernel, by decide +kernel⟩
theorem fd__law_row (G : Glo K mg w) {s__law_choice s__law_draw : DF} (h__law_choice : Fd P w K mg base 2 "_law_choice" ["source", "items"] s__law_choice) (h__law_draw : Fd P w K mg base 1 "_law_draw" ["source", "size"] s__law_draw) {f : Addr} {fd : FuncData} (F : Fun K "_law_row" "_law_row" (topS 65) f fd) (hm : mg "_law_row" = some (.ref f)) (hb : Binds K fd ["source", "size", "words"] []) : Fd P w K mg base 3 "_law_row" ["source", "size", "words"] (fromBody 3 5 (m__law_row s__law_choice s__law_draw)) :=
  Fd.body F hm hb sc__law_row fun cdv A outer s H E hr => (fss_cons (fs_set 3 sc__law_row.nd (fe_call h__law_choice hr (by decide) (takes_of rfl rfl rfl rfl) (fa_cons (fe_var 0) (fa_cons (fe_var 2) fa_nil)))) (fss_cons (fs_set 4 sc__law_row.nd (fe_tup (fa_cons (fe_var 3) fa_nil))) (fss_cons (fs_if (ft_cmp (cm_notin (u65 hr)) (fe_var 3) (fe_lst (fa_cons fe_str (fa_cons fe_str (fa_cons fe_str fa_nil)))) (by rfl)) (fss_one (fs_set 4 sc__law_row.nd (fe_tup (fa_cons (fe_var 3) (fa_cons (fe_call h__law_draw hr (by decide) (takes_of rfl rfl rfl rfl) (fa_cons (fe_var 0) (fa_cons (fe_add (fe_var 1) fe_int) fa_nil))) fa_nil))))) fss_nil) (fss_one (fs_ret (fe_ifE (ft_cmp (cm_eq (u64 hr)) (fe_call h__law_draw hr (by decide) (takes_of rfl rfl rfl rfl) (fa_cons (fe_var 0) (fa_cons fe_int fa_nil))) fe_int (by rfl)) (fe_tup (fa_cons fe_str (fa_cons (fe_var 4) fa_nil))) (fe_var 4)))))))
theorem sc__law_words : FnScope ["many", "words"] ["many"] (defScope (topS 66)) := ⟨rfl, rfl, rfl, by decide +kernel, rfl, by decide +kernel, by decide +kernel⟩
theorem fd__law_words (G : Glo K mg w)  {f : Addr} {fd : FuncData} (F : Fun K "_law_words" "_law_words" (topS 66) f fd) (hm : mg "_law_words" = some (.ref f)) (hb : Binds K fd ["many"] []) : Fd P w K mg base 1 "_law_words" ["many"] (fromBody 1 2 m__law_words) :=
  Fd.body F hm hb sc__law_words fun cdv A outer s H E hr => (fss_cons (fs_set 1 sc__law_words.nd (fe_lst (fa_cons fe_str (fa_cons fe_str (fa_cons fe_str (fa_cons fe_str (fa_cons fe_str (fa_cons fe_str (fa_cons fe_str (fa_cons fe_str (fa_cons fe_str (fa_cons fe_str (fa_cons fe_str (fa_cons fe_str (fa_cons fe_str fa_nil))))))))))))))) (fss_one (fs_ret (fe_slice (fe_add (fe_var 1) (fe_lst (fa_cons fe_str (fa_cons fe_str (fa_cons fe_str fa_nil))))) fo_none (fo_some (fe_var 0))))))
theorem sc__law_short : FnScope ["source", "most", "size", "rows", "place_so"] ["source", "most"] (defScope (topS 67)) := ⟨rfl, rfl, rfl, by decide +kernel, rfl, by decide +kernel, by decide +kernel⟩
theorem fd__law_short (G : Glo K mg w) {s__law_draw s__law_row s__law_words : DF} (h__law_draw : Fd P w K mg base 1 "_law_draw" ["source", "size"] s__law_draw) (h__law_row : Fd P w K mg base 3 "_law_row" ["source", "size", "words"] s__law_row) (h__law_words : Fd P w K mg base 1 "_law_words" ["many"] s__law_words) {f : Addr} {fd : FuncData} (F : Fun K "_law_short" "_law_short" (topS 67) f fd) (hm : mg "_law_short" = some (.ref f)) (hb : Binds K fd ["source", "most"] []) : Fd P w K mg base 4 "_law_short" ["source", "most"] (fromBody 2 5 (m__law_short s__law_draw s__law_row s__law_words)) :=
  Fd.body F hm hb sc__law_short fun cdv A outer s H E hr => (fss_cons (fs_set 2 sc__law_short.nd (fe_add fe_int (fe_call h__law_draw hr (by decide) (takes_of rfl rfl rfl rfl) (fa_cons (fe_var 0) (fa_cons (fe_sub (fe_var 1) fe_int) fa_nil))))) (fss_cons (fs_setLcM (own := [("place_so", 4)]) (is := [4]) 3 rfl sc__law_short.nd (sw_true rfl rfl rfl (by decide +kernel)) (fi_range G.n_range (fa_cons (fe_var 2) fa_nil)) ⟨blkOk_by (own := [("place_so", 4)]) (N := ["source", "most", "size", "rows", "place_so"]) (sc := defScope (topS 67)) (by decide +kernel), by decide, fun _ _ _ _ _ => (fg_name 4 sc__law_short.nd), fun _ _ _ _ _ => fts_nil, fun _ _ _ _ _ => (fe_call h__law_row hr (by decide) takes0 (fa_cons (fe_var 0) (fa_cons (fe_var 2) (fa_cons (fe_call h__law_words hr (by decide) takes0 (fa_cons fe_int fa_nil)) fa_nil))))⟩) (fss_cons (fs_sub (fe_tup (fa_cons fe_str fa_nil)) (fe_var 3) (fe_call h__law_draw hr (by decide) (takes_of rfl rfl rfl rfl) (fa_cons (fe_var 0) (fa_cons (fe_sub (fe_var 2) fe_int) fa_nil)))) (fss_one (fs_ret (fe_callT cb_tuple G.n_tuple (by decide +kernel) (fa_cons (fe_var 3) fa_nil)))))))
theorem sc__law_bare : FnScope ["row"] ["row"] (defScope (topS 64)) := ⟨rfl, rfl, rfl, by decide +kernel, rfl, by decide +kernel, by decide +kernel⟩
theorem fd__law_bare (G : Glo K mg w)  {f : Addr} {fd : FuncData} (F : Fun K "_law_bare" "_law_bare" (topS 64) f fd) (hm : mg "_law_bare" = some (.ref f)) (hb : Binds K fd ["row"] []) : Fd P w K mg base 1 "_law_bare" ["row"] (fromBody 1 1 m__law_bare) :=
  Fd.body F hm hb sc__law_bare fun cdv A outer s H E hr => (fss_one (fs_ret (fe_ifE (ft_cmp (cm_eq (u64 hr)) (fe_ix (fe_var 0) fe_int (fun _ _ => rfl)) fe_str (by rfl)) (fe_ix (fe_var 0) fe_int (fun _ _ => rfl)) (fe_var 0))))
theorem sc__law_process : FnScope ["source", "program", "marks", "note", "pocket", "part_so"] ["source", "program", "marks"] (defScope (topS 68)) := ⟨rfl, rfl, rfl, by decide +kernel, rfl, by decide +kernel, by decide +kernel⟩
theorem fd__law_process (G : Glo K mg w) {s__law_choice s__law_draw : DF} (h__law_choice : Fd P w K mg base 2 "_law_choice" ["source", "items"] s__law_choice) (h__law_draw : Fd P w K mg base 1 "_law_draw" ["source", "size"] s__law_draw) {f : Addr} {fd : FuncData} (F : Fun K "_law_process" "_law_process" (topS 68) f fd) (hm : mg "_law_process" = some (.ref f)) (hb : Binds K fd ["source", "program", "marks"] []) : Fd P w K mg base 3 "_law_process" ["source", "program", "marks"] (fromBody 3 6 (m__law_process s__law_choice s__law_draw)) :=
  Fd.body F hm hb sc__law_process fun cdv A outer s H E hr => (fss_cons (fs_asg (fe_lc (own := [("part_so", 5)]) (is := [5]) rfl sc__law_process.nd (fi_range G.n_range (fa_cons fe_int fa_nil)) ⟨blkOk_by (own := [("part_so", 5)]) (N := ["source", "program", "marks", "note", "pocket", "part_so"]) (sc := defScope (topS 68)) (by decide +kernel), by decide, fun _ _ _ _ _ => (fg_name 5 sc__law_process.nd), fun _ _ _ _ _ => fts_nil, fun _ _ _ _ _ => (fe_call h__law_choice hr (by decide) takes0 (fa_cons (fe_var 0) (fa_cons (fe_add (fe_var 2) (fe_lst (fa_cons fe_non (fa_cons fe_non fa_nil)))) fa_nil)))⟩) (fg_lst rfl (fgs_cons (fg_name 3 sc__law_process.nd) (fgs_cons (fg_name 4 sc__law_process.nd) fgs_nil)))) (fss_one (fs_ret (fe_tup (fa_cons (fe_call h__law_draw hr (by decide) (takes_of rfl rfl rfl rfl) (fa_cons (fe_var 0) (fa_cons (fe_callB cb_len G.n_len (by decide +kernel) (fa_cons (fe_var 1) fa_nil)) fa_nil))) (fa_cons fe_int (fa_cons (fe_var 3) (fa_cons (fe_var 4) (fa_cons (fe_cmp (cm_eq (u64 hr)) (fe_call h__law_draw hr (by decide) (takes_of rfl rfl rfl rfl) (fa_cons (fe_var 0) (fa_cons fe_int fa_nil))) fe_int (by rfl)) fa_nil)))))))))
theorem sc__law_stand : FnScope ["source", "programs", "wide", "marks", "slots", "own", "program", "mark", "process", "part_so"] ["source", "programs"] (defScope (topS 69)) := ⟨rfl, rfl, rfl, by decide +kernel, rfl, by decide +kernel, by decide +kernel⟩
theorem fd__law_stand (G : Glo K mg w) {s__law_choice s__law_draw s__law_process : DF} (h__law_choice : Fd P w K mg base 2 "_law_choice" ["source", "items"] s__law_choice) (h__law_draw : Fd P w K mg base 1 "_law_draw" ["source", "size"] s__law_draw) (h__law_process : Fd P w K mg base 3 "_law_process" ["source", "program", "marks"] s__law_process) {f : Addr} {fd : FuncData} (F : Fun K "_law_stand" "_law_stand" (topS 69) f fd) (hm : mg "_law_stand" = some (.ref f)) (hb : Binds K fd ["source", "programs"] []) : Fd P w K mg base 4 "_law_stand" ["source", "programs"] (fromBody 2 10 (m__law_stand s__law_choice s__law_draw s__law_process)) :=
  Fd.body F hm hb sc__law_stand fun cdv A outer s H E hr => (fss_cons (fs_set 2 sc__law_stand.nd (fe_call h__law_choice hr (by decide) (takes_of rfl rfl rfl rfl) (fa_cons (fe_var 0) (fa_cons (fe_lst (fa_cons fe_int (fa_cons fe_int (fa_cons fe_int fa_nil)))) fa_nil)))) (fss_cons (fs_setLc (own := [("part_so", 9)]) (is := [9]) 3 rfl sc__law_stand.nd (sw_true rfl rfl rfl (by decide +kernel)) (fi_range G.n_range (fa_cons fe_int fa_nil)) ⟨blkOk_by (own := [("part_so", 9)]) (N := ["source", "programs", "wide", "marks", "slots", "own", "program", "mark", "process", "part_so"]) (sc := defScope (topS 69)) (by decide +kernel), by decide, fun _ _ _ _ _ => (fg_name 9 sc__law_stand.nd), fun _ _ _ _ _ => fts_nil, fun _ _ _ _ _ => (fe_call h__law_draw hr (by decide) takes0 (fa_cons (fe_var 0) (fa_cons (fe_var 2) fa_nil)))⟩) (fss_cons (fs_par 4 5 sc__law_stand.nd (fa_cons (fe_tup fa_nil) (fa_cons (fe_lst fa_nil) fa_nil))) (fss_cons (fs_for (passes_of rfl) rfl (fi_seq (fe_var 1)) (fg_name 6 sc__law_stand.nd) (fss_cons (fs_set 7 sc__law_stand.nd (fe_call h__law_choice hr (by decide) (takes_of rfl rfl rfl rfl) (fa_cons (fe_var 0) (fa_cons (fe_var 3) fa_nil)))) (fss_one (fs_if (FW.ft (fw_or (ft_cmp (cm_in (u65 hr)) (fe_var 7) (fe_var 5) (by rfl)) (fw_or1 (ft_cmp (cm_eq (u64 hr)) (fe_call h__law_draw hr (by decide) (takes_of rfl rfl rfl rfl) (fa_cons (fe_var 0) (fa_cons fe_int fa_nil))) fe_int (by rfl))))) (fss_one (fs_set 4 sc__law_stand.nd (fe_add (fe_var 4) (fe_tup (fa_cons fe_non fa_nil))))) (fss_cons (fs_set 8 sc__law_stand.nd (fe_call h__law_process hr (by decide) (takes_of rfl rfl rfl rfl) (fa_cons (fe_var 0) (fa_cons (fe_var 6) (fa_cons (fe_var 3) fa_nil))))) (fss_one (fs_par 4 5 sc__law_stand.nd (fa_cons (fe_add (fe_var 4) (fe_tup (fa_cons (fe_add (fe_add (fe_slice (fe_var 8) fo_none (fo_some fe_int)) (fe_tup (fa_cons (fe_var 7) fa_nil))) (fe_slice (fe_var 8) (fo_some fe_int) fo_none)) fa_nil))) (fa_cons (fe_add (fe_var 5) (fe_lst (fa_cons (fe_var 7) fa_nil))) fa_nil))))))))) (fss_one (fs_ret (fe_tup (fa_cons (fe_call h__law_choice hr (by decide) (takes_of rfl rfl rfl rfl) (fa_cons (fe_var 0) (fa_cons (fe_add (fe_var 3) (fe_lst (fa_cons fe_non (fa_cons fe_non fa_nil)))) fa_nil))) (fa_cons (fe_var 4) fa_nil)))))))))
theorem sc_is_from : FnScope ["value", "low", "high"] ["value", "low", "high"] (defScope (topS 12)) := ⟨rfl, rfl, rfl, by decide +kernel, rfl, by decide +kernel, by decide +kernel⟩
theorem fd_is_from (G : Glo K mg w)  {f : Addr} {fd : FuncData} (F : Fun K "is_from" "is_from" (topS 12) f fd) (hm : mg "is_from" = some (.ref f)) (hb : Binds K fd ["value", "low", "high"] []) : Fd P w K mg base 1 "is_from" ["value", "low", "high"] (fromBody 3 3 m_is_from) :=
  Fd.body F hm hb sc_is_from fun cdv A outer s H E hr => (fss_one (fs_ret (fe_and (fe_callB cb_isI G.n_isinstance (by decide +kernel) (fa_cons (fe_var 0) (fa_cons (fe_type G.n_int rfl (by decide +kernel)) fa_nil))) (fe_and (fe_not (fe_callB cb_isI G.n_isinstance (by decide +kernel) (fa_cons (fe_var 0) (fa_cons (fe_type G.n_bool rfl (by decide +kernel)) fa_nil)))) (fe_one (fe_chain cm_le cm_le (fe_var 1) (fe_var 0) (fe_var 2)))))))
theorem sc_is_bare_row : FnScope ["value", "size"] ["value", "size"] (defScope (topS 13)) := ⟨rfl, rfl, rfl, by decide +kernel, rfl, by decide +kernel, by decide +kernel⟩
theorem fd_is_bare_row (G : Glo K mg w) {s_is_from : DF} (h_is_from : Fd P w K mg base 1 "is_from" ["value", "low", "high"] s_is_from) {f : Addr} {fd : FuncData} (F : Fun K "is_bare_row" "is_bare_row" (topS 13) f fd) (hm : mg "is_bare_row" = some (.ref f)) (hb : Binds K fd ["value", "size"] []) : Fd P w K mg base 2 "is_bare_row" ["value", "size"] (fromBody 2 2 (m_is_bare_row s_is_from)) :=
  Fd.body F hm hb sc_is_bare_row fun cdv A outer s H E hr => (fss_cons (fs_if (FW.ft (fw_or (ft_not (ft_val (fe_callB cb_isI G.n_isinstance (by decide +kernel) (fa_cons (fe_var 0) (fa_cons (fe_type G.n_tuple rfl (by decide +kernel)) fa_nil))))) (fw_or (ft_cmp (cm_eq (u64 hr)) (fe_callB cb_len G.n_len (by decide +kernel) (fa_cons (fe_var 0) fa_nil)) fe_int (by rfl)) (fw_or1 (ft_not (ft_val (fe_callB cb_isI G.n_isinstance (by decide +kernel) (fa_cons (fe_ix (fe_var 0) fe_int (fun _ _ => rfl)) (fa_cons (fe_type G.n_str rfl (by decide +kernel)) fa_nil))))))))) (fss_one (fs_ret fe_bl)) fss_nil) (fss_cons (fs_if (ft_cmp (cm_in (u65 hr)) (fe_ix (fe_var 0) fe_int (fun _ _ => rfl)) (fe_glob G.c_STEPS rfl) (by rfl)) (fss_one (fs_ret (fe_cmp (cm_eq (u64 hr)) (fe_callB cb_len G.n_len (by decide +kernel) (fa_cons (fe_var 0) fa_nil)) fe_int (by rfl)))) fss_nil) (fss_one (fs_ret (fe_and (fe_cmp (cm_in (u65 hr)) (fe_ix (fe_var 0) fe_int (fun _ _ => rfl)) (fe_glob G.c_JUMPS rfl) (by rfl)) (fe_and (fe_cmp (cm_eq (u64 hr)) (fe_callB cb_len G.n_len (by decide +kernel) (fa_cons (fe_var 0) fa_nil)) fe_int (by rfl)) (fe_one (fe_call h_is_from hr (by decide) (takes_of rfl rfl rfl rfl) (fa_cons (fe_ix (fe_var 0) fe_int (fun _ _ => rfl)) (fa_cons fe_int (fa_cons (fe_var 1) fa_nil)))))))))))
theorem sc_is_row : FnScope ["value", "size"] ["value", "size"] (defScope (topS 14)) := ⟨rfl, rfl, rfl, by decide +kernel, rfl, by decide +kernel, by decide +kernel⟩
theorem fd_is_row (G : Glo K mg w) {s_is_bare_row : DF} (h_is_bare_row : Fd P w K mg base 2 "is_bare_row" ["value", "size"] s_is_bare_row) {f : Addr} {fd : FuncData} (F : Fun K "is_row" "is_row" (topS 14) f fd) (hm : mg "is_row" = some (.ref f)) (hb : Binds K fd ["value", "size"] []) : Fd P w K mg base 3 "is_row" ["value", "size"] (fromBody 2 2 (m_is_row s_is_bare_row)) :=
  Fd.body F hm hb sc_is_row fun cdv A outer s H E hr => (fss_cons (fs_if (FW.ft (fw_and (ft_val (fe_callB cb_isI G.n_isinstance (by decide +kernel) (fa_cons (fe_var 0) (fa_cons (fe_type G.n_tuple rfl (by decide +kernel)) fa_nil)))) (fw_and (ft_cmp (cm_eq (u64 hr)) (fe_callB cb_len G.n_len (by decide +kernel) (fa_cons (fe_var 0) fa_nil)) fe_int (by rfl)) (fw_and1 (ft_cmp (cm_eq (u64 hr)) (fe_ix (fe_var 0) fe_int (fun _ _ => rfl)) (fe_glob G.c_JOIN rfl) (by rfl)))))) (fss_one (fs_ret (fe_call h_is_bare_row hr (by decide) (takes_of rfl rfl rfl rfl) (fa_cons (fe_ix (fe_var 0) fe_int (fun _ _ => rfl)) (fa_cons (fe_var 1) fa_nil))))) fss_nil) (fss_one (fs_ret (fe_call h_is_bare_row hr (by decide) (takes_of rfl rfl rfl rfl) (fa_cons (fe_var 0) (fa_cons (fe_var 1) fa_nil))))))
theorem sc_is_program : FnScope ["value", "row"] ["value"] (defScope (topS 15)) := ⟨rfl, rfl, rfl, by decide +kernel, rfl, by decide +kernel, by decide +kernel⟩
theorem fd_is_program (G : Glo K mg w) {s_is_row : DF} (h_is_row : Fd P w K mg base 3 "is_row" ["value", "size"] s_is_row) {f : Addr} {fd : FuncData} (F : Fun K "is_program" "is_program" (topS 15) f fd) (hm : mg "is_program" = some (.ref f)) (hb : Binds K fd ["value"] []) : Fd P w K mg base 4 "is_program" ["value"] (fromBody 1 2 (m_is_program s_is_row)) :=
  Fd.body F hm hb sc_is_program fun cdv A outer s H E hr => (fss_cons (fs_if (FW.ft (fw_or (ft_not (ft_val (fe_callB cb_isI G.n_isinstance (by decide +kernel) (fa_cons (fe_var 0) (fa_cons (fe_type G.n_tuple rfl (by decide +kernel)) fa_nil))))) (fw_or1 (ft_not (ft_chain cm_le cm_le fe_int (fe_callB cb_len G.n_len (by decide +kernel) (fa_cons (fe_var 0) fa_nil)) (fe_glob G.c_MOST_ROWS rfl)))))) (fss_one (fs_ret fe_bl)) fss_nil) (fss_one (fs_ret (fe_callB (cb_all rfl) G.n_all (by decide +kernel) (fa_cons (fe_lc (own := [("row", 1)]) (is := [1]) rfl sc_is_program.nd (fi_seq (fe_var 0)) ⟨blkOk_by (own := [("row", 1)]) (N := ["value", "row"]) (sc := defScope (topS 15)) (by decide +kernel), by decide, fun _ _ _ _ _ => (fg_name 1 sc_is_program.nd), fun _ _ _ _ _ => fts_nil, fun _ _ _ _ _ => (fe_call h_is_row hr (by decide) takes0 (fa_cons (fe_var 1) (fa_cons (fe_callB cb_len G.n_len (by decide +kernel) (fa_cons (fe_var 0) fa_nil)) fa_nil)))⟩) fa_nil)))))
theorem sc_are_programs : FnScope ["value", "program"] ["value"] (defScope (topS 25)) := ⟨rfl, rfl, rfl, by decide +kernel, rfl, by decide +kernel, by decide +kernel⟩
theorem fd_are_programs (G : Glo K mg w) {s_is_program : DF} (h_is_program : Fd P w K mg base 4 "is_program" ["value"] s_is_program) {f : Addr} {fd : FuncData} (F : Fun K "are_programs" "are_programs" (topS 25) f fd) (hm : mg "are_programs" = some (.ref f)) (hb : Binds K fd ["value"] []) : Fd P w K mg base 5 "are_programs" ["value"] (fromBody 1 2 (m_are_programs s_is_program)) :=
  Fd.body F hm hb sc_are_programs fun cdv A outer s H E hr => (fss_cons (fs_if (FW.ft (fw_or (ft_not (ft_val (fe_callB cb_isI G.n_isinstance (by decide +kernel) (fa_cons (fe_var 0) (fa_cons (fe_type G.n_tuple rfl (by decide +kernel)) fa_nil))))) (fw_or1 (ft_not (ft_chain cm_le cm_le fe_int (fe_callB cb_len G.n_len (by decide +kernel) (fa_cons (fe_var 0) fa_nil)) (fe_glob G.c_MOST_SLOTS rfl)))))) (fss_one (fs_ret fe_bl)) fss_nil) (fss_one (fs_ret (fe_callB (cb_all rfl) G.n_all (by decide +kernel) (fa_cons (fe_lc (own := [("program", 1)]) (is := [1]) rfl sc_are_programs.nd (fi_seq (fe_var 0)) ⟨blkOk_by (own := [("program", 1)]) (N := ["value", "program"]) (sc := defScope (topS 25)) (by decide +kernel), by decide, fun _ _ _ _ _ => (fg_name 1 sc_are_programs.nd), fun _ _ _ _ _ => fts_nil, fun _ _ _ _ _ => (fe_call h_is_program hr (by decide) takes0 (fa_cons (fe_var 1) fa_nil))⟩) fa_nil)))))
theorem sc_need_programs : FnScope ["value"] ["value"] (defScope (topS 26)) := ⟨rfl, rfl, rfl, by decide +kernel, rfl, by decide +kernel, by decide +kernel⟩
theorem fd_need_programs (G : Glo K mg w) {s_are_programs : DF} (h_are_programs : Fd P w K mg base 5 "are_programs" ["value"] s_are_programs) {f : Addr} {fd : FuncData} (F : Fun K "need_programs" "need_programs" (topS 26) f fd) (hm : mg "need_programs" = some (.ref f)) (hb : Binds K fd ["value"] []) : Fd P w K mg base 6 "need_programs" ["value"] (fromBody 1 1 (m_need_programs s_are_programs)) :=
  Fd.body F hm hb sc_need_programs fun cdv A outer s H E hr => (fss_one (fs_if (ft_not (ft_val (fe_call h_are_programs hr (by decide) (takes_of rfl rfl rfl rfl) (fa_cons (fe_var 0) fa_nil)))) (fss_one (fs_raise G.x_InvalidPrograms rfl (takes_of rfl rfl rfl rfl))) fss_nil))
theorem sc_need_facts : FnScope ["value", "one", "other", "word"] ["value"] (defScope (topS 27)) := ⟨rfl, rfl, rfl, by decide +kernel, rfl, by decide +kernel, by decide +kernel⟩
theorem fd_need_facts (G : Glo K mg w)  {f : Addr} {fd : FuncData} (F : Fun K "need_facts" "need_facts" (topS 27) f fd) (hm : mg "need_facts" = some (.ref f)) (hb : Binds K fd ["value"] []) : Fd P w K mg base 1 "need_facts" ["value"] (fromBody 1 4 m_need_facts) :=
  Fd.body F hm hb sc_need_facts fun cdv A outer s H E hr => (fss_cons (fs_if (FW.ft (fw_or (ft_not (ft_val (fe_callB cb_isI G.n_isinstance (by decide +kernel) (fa_cons (fe_var 0) (fa_cons (fe_type G.n_tuple rfl (by decide +kernel)) fa_nil))))) (fw_or1 (ft_not (ft_val (fe_callB (cb_all rfl) G.n_all (by decide +kernel) (fa_cons (fe_lc (own := [("word", 3)]) (is := [3]) rfl sc_need_facts.nd (fi_seq (fe_var 0)) ⟨blkOk_by (own := [("word", 3)]) (N := ["value", "one", "other", "word"]) (sc := defScope (topS 27)) (by decide +kernel), by decide, fun _ _ _ _ _ => (fg_name 3 sc_need_facts.nd), fun _ _ _ _ _ => fts_nil, fun _ _ _ _ _ => (fe_and (fe_callB cb_isI G.n_isinstance (by decide +kernel) (fa_cons (fe_var 3) (fa_cons (fe_type G.n_str rfl (by decide +kernel)) fa_nil))) (fe_one (fe_cmp (cm_in (u65 hr)) (fe_var 3) (fe_glob G.c_FACTS rfl) (by rfl))))⟩) fa_nil))))))) (fss_one (fs_raise G.x_InvalidFacts rfl (takes_of rfl rfl rfl rfl))) fss_nil) (fss_one (fs_if (ft_not (ft_val (fe_callB (cb_all rfl) G.n_all (by decide +kernel) (fa_cons (fe_lc (own := [("one", 1), ("other", 2)]) (is := [1, 2]) rfl sc_need_facts.nd (fi_zip G.n_zip (fa_cons (fe_var 0) (fa_cons (fe_slice (fe_var 0) (fo_some fe_int) fo_none) fa_nil))) ⟨blkOk_by (own := [("one", 1), ("other", 2)]) (N := ["value", "one", "other", "word"]) (sc := defScope (topS 27)) (by decide +kernel), by decide, fun _ _ _ _ _ => (fg_tup rfl (fgs_cons (fg_name 1 sc_need_facts.nd) (fgs_cons (fg_name 2 sc_need_facts.nd) fgs_nil))), fun _ _ _ _ _ => fts_nil, fun _ _ _ _ _ => (fe_cmp cm_lt (fe_var 1) (fe_var 2) (by rfl))⟩) fa_nil)))) (fss_one (fs_raise G.x_InvalidFacts rfl (takes_of rfl rfl rfl rfl))) fss_nil)))
theorem sc_is_mark : FnScope ["value"] ["value"] (defScope (topS 28)) := ⟨rfl, rfl, rfl, by decide +kernel, rfl, by decide +kernel, by decide +kernel⟩
theorem fd_is_mark (G : Glo K mg w) {s_is_from : DF} (h_is_from : Fd P w K mg base 1 "is_from" ["value", "low", "high"] s_is_from) {f : Addr} {fd : FuncData} (F : Fun K "is_mark" "is_mark" (topS 28) f fd) (hm : mg "is_mark" = some (.ref f)) (hb : Binds K fd ["value"] []) : Fd P w K mg base 2 "is_mark" ["value"] (fromBody 1 1 (m_is_mark s_is_from)) :=
  Fd.body F hm hb sc_is_mark fun cdv A outer s H E hr => (fss_one (fs_ret (fe_call h_is_from hr (by decide) (takes_of rfl rfl rfl rfl) (fa_cons (fe_var 0) (fa_cons fe_int (fa_cons (fe_glob G.c_MOST_MARK rfl) fa_nil))))))
theorem sc_is_process : FnScope ["program", "value", "mark"] ["program", "value"] (defScope (topS 29)) := ⟨rfl, rfl, rfl, by decide +kernel, rfl, by decide +kernel, by decide +kernel⟩
theorem fd_is_process (G : Glo K mg w) {s_is_from s_is_mark : DF} (h_is_from : Fd P w K mg base 1 "is_from" ["value", "low", "high"] s_is_from) (h_is_mark : Fd P w K mg base 2 "is_mark" ["value"] s_is_mark) {f : Addr} {fd : FuncData} (F : Fun K "is_process" "is_process" (topS 29) f fd) (hm : mg "is_process" = some (.ref f)) (hb : Binds K fd ["program", "value"] []) : Fd P w K mg base 3 "is_process" ["program", "value"] (fromBody 2 3 (m_is_process s_is_from s_is_mark)) :=
  Fd.body F hm hb sc_is_process fun cdv A outer s H E hr => (fss_cons (fs_if (FW.ft (fw_or (ft_not (ft_val (fe_callB cb_isI G.n_isinstance (by decide +kernel) (fa_cons (fe_var 1) (fa_cons (fe_type G.n_tuple rfl (by decide +kernel)) fa_nil))))) (fw_or (ft_cmp (cm_ne (u64 hr)) (fe_callB cb_len G.n_len (by decide +kernel) (fa_cons (fe_var 1) fa_nil)) fe_int (by rfl)) (fw_or1 (ft_not (ft_val (fe_call h_is_from hr (by decide) (takes_of rfl rfl rfl rfl) (fa_cons (fe_ix (fe_var 1) fe_int (fun _ _ => rfl)) (fa_cons fe_int (fa_cons (fe_sub (fe_callB cb_len G.n_len (by decide +kernel) (fa_cons (fe_var 0) fa_nil)) fe_int) fa_nil)))))))))) (fss_one (fs_ret fe_bl)) fss_nil) (fss_cons (fs_if (FW.ft (fw_or (ft_not (ft_val (fe_call h_is_mark hr (by decide) (takes_of rfl rfl rfl rfl) (fa_cons (fe_ix (fe_var 1) fe_int (fun _ _ => rfl)) fa_nil)))) (fw_or1 (ft_not (ft_val (fe_callB cb_isI G.n_isinstance (by decide +kernel) (fa_cons (fe_ix (fe_var 1) fe_int (fun _ _ => rfl)) (fa_cons (fe_type G.n_bool rfl (by decide +kernel)) fa_nil)))))))) (fss_one (fs_ret fe_bl)) fss_nil) (fss_one (fs_ret (fe_callB (cb_all rfl) G.n_all (by decide +kernel) (fa_cons (fe_lc (own := [("mark", 2)]) (is := [2]) rfl sc_is_process.nd (fi_seq (fe_slice (fe_var 1) (fo_some fe_int) (fo_some fe_int))) ⟨blkOk_by (own := [("mark", 2)]) (N := ["program", "value", "mark"]) (sc := defScope (topS 29)) (by decide +kernel), by decide, fun _ _ _ _ _ => (fg_name 2 sc_is_process.nd), fun _ _ _ _ _ => fts_nil, fun _ _ _ _ _ => (fe_or (fe_cmp cm_is (fe_var 2) fe_non (by rfl)) (fe_one (fe_call h_is_mark hr (by decide) takes0 (fa_cons (fe_var 2) fa_nil))))⟩) fa_nil))))))
theorem sc_live_marks : FnScope ["stand", "process"] ["stand"] (defScope (topS 30)) := ⟨rfl, rfl, rfl, by decide +kernel, rfl, by decide +kernel, by decide +kernel⟩
theorem fd_live_marks (G : Glo K mg w)  {f : Addr} {fd : FuncData} (F : Fun K "live_marks" "live_marks" (topS 30) f fd) (hm : mg "live_marks" = some (.ref f)) (hb : Binds K fd ["stand"] []) : Fd P w K mg base 1 "live_marks" ["stand"] (fromBody 1 2 m_live_marks) :=
  Fd.body F hm hb sc_live_marks fun cdv A outer s H E hr => (fss_one (fs_ret (fe_lc (own := [("process", 1)]) (is := [1]) rfl sc_live_marks.nd (fi_seq (fe_ix (fe_var 0) fe_int (fun _ _ => rfl))) ⟨blkOk_by (own := [("process", 1)]) (N := ["stand", "process"]) (sc := defScope (topS 30)) (by decide +kernel), by decide, fun _ _ _ _ _ => (fg_name 1 sc_live_marks.nd), fun _ _ _ _ _ => (fts_one (ft_cmp cm_isnot (fe_var 1) fe_non (by rfl))), fun _ _ _ _ _ => (fe_ix (fe_var 1) fe_int (fun _ _ => rfl))⟩)))
theorem sc_is_stand : FnScope ["programs", "value", "program", "process", "marks"] ["programs", "value"] (defScope (topS 31)) := ⟨rfl, rfl, rfl, by decide +kernel, rfl, by decide +kernel, by decide +kernel⟩
theorem fd_is_stand (G : Glo K mg w) {s_need_programs s_is_mark s_is_process s_live_marks : DF} (h_need_programs : Fd P w K mg base 6 "need_programs" ["value"] s_need_programs) (h_is_mark : Fd P w K mg base 2 "is_mark" ["value"] s_is_mark) (h_is_process : Fd P w K mg base 3 "is_process" ["program", "value"] s_is_process) (h_live_marks : Fd P w K mg base 1 "live_marks" ["stand"] s_live_marks) {f : Addr} {fd : FuncData} (F : Fun K "is_stand" "is_stand" (topS 31) f fd) (hm : mg "is_stand" = some (.ref f)) (hb : Binds K fd ["programs", "value"] []) : Fd P w K mg base 7 "is_stand" ["programs", "value"] (fromBody 2 5 (m_is_stand s_need_programs s_is_mark s_is_process s_live_marks)) :=
  Fd.body F hm hb sc_is_stand fun cdv A outer s H E hr => (fss_cons (fs_expr (fe_call h_need_programs hr (by decide) (takes_of rfl rfl rfl rfl) (fa_cons (fe_var 0) fa_nil))) (fss_cons (fs_if (FW.ft (fw_or (ft_not (ft_val (fe_callB cb_isI G.n_isinstance (by decide +kernel) (fa_cons (fe_var 1) (fa_cons (fe_type G.n_tuple rfl (by decide +kernel)) fa_nil))))) (fw_or (ft_cmp (cm_ne (u64 hr)) (fe_callB cb_len G.n_len (by decide +kernel) (fa_cons (fe_var 1) fa_nil)) fe_int (by rfl)) (fw_or1 (ft_not (FW.ft (fw_or (ft_cmp cm_is (fe_ix (fe_var 1) fe_int (fun _ _ => rfl)) fe_non (by rfl)) (fw_or1 (ft_val (fe_call h_is_mark hr (by decide) (takes_of rfl rfl rfl rfl) (fa_cons (fe_ix (fe_var 1) fe_int (fun _ _ => rfl)) fa_nil))))))))))) (fss_one (fs_ret fe_bl)) fss_nil) (fss_cons (fs_if (FW.ft (fw_or (ft_not (ft_val (fe_callB cb_isI G.n_isinstance (by decide +kernel) (fa_cons (fe_ix (fe_var 1) fe_int (fun _ _ => rfl)) (fa_cons (fe_type G.n_tuple rfl (by decide +kernel)) fa_nil))))) (fw_or1 (ft_cmp (cm_ne (u64 hr)) (fe_callB cb_len G.n_len (by decide +kernel) (fa_cons (fe_ix (fe_var 1) fe_int (fun _ _ => rfl)) fa_nil)) (fe_callB cb_len G.n_len (by decide +kernel) (fa_cons (fe_var 0) fa_nil)) (by rfl))))) (fss_one (fs_ret fe_bl)) fss_nil) (fss_cons (fs_for (passes_of rfl) rfl (fi_zip G.n_zip (fa_cons (fe_var 0) (fa_cons (fe_ix (fe_var 1) fe_int (fun _ _ => rfl)) fa_nil))) (fg_tup rfl (fgs_cons (fg_name 2 sc_is_stand.nd) (fgs_cons (fg_name 3 sc_is_stand.nd) fgs_nil))) (fss_one (fs_if (FW.ft (fw_and (ft_cmp cm_isnot (fe_var 3) fe_non (by rfl)) (fw_and1 (ft_not (ft_val (fe_call h_is_process hr (by decide) (takes_of rfl rfl rfl rfl) (fa_cons (fe_var 2) (fa_cons (fe_var 3) fa_nil)))))))) (fss_one (fs_ret fe_bl)) fss_nil))) (fss_cons (fs_set 4 sc_is_stand.nd (fe_call h_live_marks hr (by decide) (takes_of rfl rfl rfl rfl) (fa_cons (fe_var 1) fa_nil))) (fss_one (fs_ret (fe_cmp (cm_eq (u64 hr)) (fe_lenSet G.n_len G.n_set (fe_var 4)) (fe_callB cb_len G.n_len (by decide +kernel) (fa_cons (fe_var 4) fa_nil)) (by rfl)))))))))
theorem sc_need_stand : FnScope ["programs", "value"] ["programs", "value"] (defScope (topS 32)) := ⟨rfl, rfl, rfl, by decide +kernel, rfl, by decide +kernel, by decide +kernel⟩
theorem fd_need_stand (G : Glo K mg w) {s_is_stand : DF} (h_is_stand : Fd P w K mg base 7 "is_stand" ["programs", "value"] s_is_stand) {f : Addr} {fd : FuncData} (F : Fun K "need_stand" "need_stand" (topS 32) f fd) (hm : mg "need_stand" = some (.ref f)) (hb : Binds K fd ["programs", "value"] []) : Fd P w K mg base 8 "need_stand" ["programs", "value"] (fromBody 2 2 (m_need_stand s_is_stand)) :=
  Fd.body F hm hb sc_need_stand fun cdv A outer s H E hr => (fss_one (fs_if (ft_not (ft_val (fe_call h_is_stand hr (by decide) (takes_of rfl rfl rfl rfl) (fa_cons (fe_var 0) (fa_cons (fe_var 1) fa_nil))))) (fss_one (fs_raise G.x_InvalidStand rfl (takes_of rfl rfl rfl rfl))) fss_nil))
theorem sc_is_event : FnScope ["programs", "value"] ["programs", "value"] (defScope (topS 57)) := ⟨rfl, rfl, rfl, by decide +kernel, rfl, by decide +kernel, by decide +kernel⟩
theorem fd_is_event (G : Glo K mg w) {s_is_from s_is_mark : DF} (h_is_from : Fd P w K mg base 1 "is_from" ["value", "low", "high"] s_is_from) (h_is_mark : Fd P w K mg base 2 "is_mark" ["value"] s_is_mark) {f : Addr} {fd : FuncData} (F : Fun K "is_event" "is_event" (topS 57) f fd) (hm : mg "is_event" = some (.ref f)) (hb : Binds K fd ["programs", "value"] []) : Fd P w K mg base 3 "is_event" ["programs", "value"] (fromBody 2 2 (m_is_event s_is_from s_is_mark)) :=
  Fd.body F hm hb sc_is_event fun cdv A outer s H E hr => (fss_cons (fs_if (FW.ft (fw_or (ft_not (ft_val (fe_callB cb_isI G.n_isinstance (by decide +kernel) (fa_cons (fe_var 1) (fa_cons (fe_type G.n_tuple rfl (by decide +kernel)) fa_nil))))) (fw_or (ft_cmp (cm_ne (u64 hr)) (fe_callB cb_len G.n_len (by decide +kernel) (fa_cons (fe_var 1) fa_nil)) fe_int (by rfl)) (fw_or (ft_not (ft_val (fe_callB cb_isI G.n_isinstance (by decide +kernel) (fa_cons (fe_ix (fe_var 1) fe_int (fun _ _ => rfl)) (fa_cons (fe_type G.n_str rfl (by decide +kernel)) fa_nil))))) (fw_or1 (ft_cmp (cm_notin (u65 hr)) (fe_ix (fe_var 1) fe_int (fun _ _ => rfl)) (fe_glob G.c_DEEDS rfl) (by rfl))))))) (fss_one (fs_ret fe_bl)) fss_nil) (fss_cons (fs_if (ft_not (ft_val (fe_call h_is_from hr (by decide) (takes_of rfl rfl rfl rfl) (fa_cons (fe_ix (fe_var 1) fe_int (fun _ _ => rfl)) (fa_cons fe_int (fa_cons (fe_sub (fe_callB cb_len G.n_len (by decide +kernel) (fa_cons (fe_var 0) fa_nil)) fe_int) fa_nil)))))) (fss_one (fs_ret fe_bl)) fss_nil) (fss_cons (fs_if (ft_cmp (cm_eq (u64 hr)) (fe_ix (fe_var 1) fe_int (fun _ _ => rfl)) (fe_glob G.c_START rfl) (by rfl)) (fss_one (fs_ret (fe_call h_is_mark hr (by decide) (takes_of rfl rfl rfl rfl) (fa_cons (fe_ix (fe_var 1) fe_int (fun _ _ => rfl)) fa_nil)))) fss_nil) (fss_one (fs_ret (fe_ifE (ft_cmp (cm_eq (u64 hr)) (fe_ix (fe_var 1) fe_int (fun _ _ => rfl)) (fe_glob G.c_JUDGE rfl) (by rfl)) (fe_callB cb_isI G.n_isinstance (by decide +kernel) (fa_cons (fe_ix (fe_var 1) fe_int (fun _ _ => rfl)) (fa_cons (fe_type G.n_bool rfl (by decide +kernel)) fa_nil))) (fe_cmp cm_is (fe_ix (fe_var 1) fe_int (fun _ _ => rfl)) fe_non (by rfl))))))))
theorem sc_need_event : FnScope ["programs", "value"] ["programs", "value"] (defScope (topS 58)) := ⟨rfl, rfl, rfl, by decide +kernel, rfl, by decide +kernel, by decide +kernel⟩
theorem fd_need_event (G : Glo K mg w) {s_is_event : DF} (h_is_event : Fd P w K mg base 3 "is_event" ["programs", "value"] s_is_event) {f : Addr} {fd : FuncData} (F : Fun K "need_event" "need_event" (topS 58) f fd) (hm : mg "need_event" = some (.ref f)) (hb : Binds K fd ["programs", "value"] []) : Fd P w K mg base 4 "need_event" ["programs", "value"] (fromBody 2 2 (m_need_event s_is_event)) :=
  Fd.body F hm hb sc_need_event fun cdv A outer s H E hr => (fss_one (fs_if (ft_not (ft_val (fe_call h_is_event hr (by decide) (takes_of rfl rfl rfl rfl) (fa_cons (fe_var 0) (fa_cons (fe_var 1) fa_nil))))) (fss_one (fs_raise G.x_InvalidEvent rfl (takes_of rfl rfl rfl rfl))) fss_nil))
theorem sc_marks_of : FnScope ["stand", "found", "process", "mark"] ["stand"] (defScope (topS 33)) := ⟨rfl, rfl, rfl, by decide +kernel, rfl, by decide +kernel, by decide +kernel⟩
theorem fd_marks_of (G : Glo K mg w)  {f : Addr} {fd : FuncData} (F : Fun K "marks_of" "marks_of" (topS 33) f fd) (hm : mg "marks_of" = some (.ref f)) (hb : Binds K fd ["stand"] []) : Fd P w K mg base 1 "marks_of" ["stand"] (fromBody 1 4 m_marks_of) :=
  Fd.body F hm hb sc_marks_of fun cdv A outer s H E hr => (fss_cons (fs_set 1 sc_marks_of.nd (fe_lst (fa_cons (fe_ix (fe_var 0) fe_int (fun _ _ => rfl)) fa_nil))) (fss_cons (fs_for (passes_of rfl) rfl (fi_seq (fe_ix (fe_var 0) fe_int (fun _ _ => rfl))) (fg_name 2 sc_marks_of.nd) (fss_one (fs_if (ft_cmp cm_isnot (fe_var 2) fe_non (by rfl)) (fss_one (fs_set 1 sc_marks_of.nd (fe_add (fe_var 1) (fe_lst (fa_cons (fe_ix (fe_var 2) fe_int (fun _ _ => rfl)) (fa_cons (fe_ix (fe_var 2) fe_int (fun _ _ => rfl)) (fa_cons (fe_ix (fe_var 2) fe_int (fun _ _ => rfl)) fa_nil))))))) fss_nil))) (fss_one (fs_ret (fe_lc (own := [("mark", 3)]) (is := [3]) rfl sc_marks_of.nd (fi_seq (fe_var 1)) ⟨blkOk_by (own := [("mark", 3)]) (N := ["stand", "found", "process", "mark"]) (sc := defScope (topS 33)) (by decide +kernel), by decide, fun _ _ _ _ _ => (fg_name 3 sc_marks_of.nd), fun _ _ _ _ _ => (fts_one (ft_cmp cm_isnot (fe_var 3) fe_non (by rfl))), fun _ _ _ _ _ => (fe_var 3)⟩)))))
theorem sc_may_start : FnScope ["facts", "stand", "slot", "mark"] ["facts", "stand", "slot", "mark"] (defScope (topS 53)) := ⟨rfl, rfl, rfl, by decide +kernel, rfl, by decide +kernel, by decide +kernel⟩
theorem fd_may_start (G : Glo K mg w) {s_live_marks s_marks_of : DF} (h_live_marks : Fd P w K mg base 1 "live_marks" ["stand"] s_live_marks) (h_marks_of : Fd P w K mg base 1 "marks_of" ["stand"] s_marks_of) {f : Addr} {fd : FuncData} (F : Fun K "may_start" "may_start" (topS 53) f fd) (hm : mg "may_start" = some (.ref f)) (hb : Binds K fd ["facts", "stand", "slot", "mark"] []) : Fd P w K mg base 2 "may_start" ["facts", "stand", "slot", "mark"] (fromBody 4 4 (m_may_start s_live_marks s_marks_of)) :=
  Fd.body F hm hb sc_may_start fun cdv A outer s H E hr => (fss_cons (fs_if (FW.ft (fw_or (ft_cmp cm_isnot (fe_ix (fe_ix (fe_var 1) fe_int (fun _ _ => rfl)) (fe_var 2) (fun _ _ => rfl)) fe_non (by rfl)) (fw_or1 (ft_cmp (cm_in (u65 hr)) (fe_var 3) (fe_call h_live_marks hr (by decide) (takes_of rfl rfl rfl rfl) (fa_cons (fe_var 1) fa_nil)) (by rfl))))) (fss_one (fs_ret fe_bl)) fss_nil) (fss_one (fs_ret (fe_or (fe_cmp (cm_notin (u65 hr)) (fe_glob G.c_FRESH rfl) (fe_var 0) (by rfl)) (fe_one (fe_cmp (cm_notin (u65 hr)) (fe_var 3) (fe_call h_marks_of hr (by decide) (takes_of rfl rfl rfl rfl) (fa_cons (fe_var 1) fa_nil)) (by rfl)))))))
theorem sc_with_slot : FnScope ["stand", "slot", "lock", "process"] ["stand", "slot", "lock", "process"] (defScope (topS 55)) := ⟨rfl, rfl, rfl, by decide +kernel, rfl, by decide +kernel, by decide +kernel⟩
theorem fd_with_slot (G : Glo K mg w)  {f : Addr} {fd : FuncData} (F : Fun K "with_slot" "with_slot" (topS 55) f fd) (hm : mg "with_slot" = some (.ref f)) (hb : Binds K fd ["stand", "slot", "lock", "process"] []) : Fd P w K mg base 1 "with_slot" ["stand", "slot", "lock", "process"] (fromBody 4 4 m_with_slot) :=
  Fd.body F hm hb sc_with_slot fun cdv A outer s H E hr => (fss_one (fs_ret (fe_tup (fa_cons (fe_var 2) (fa_cons (fe_add (fe_add (fe_slice (fe_ix (fe_var 0) fe_int (fun _ _ => rfl)) fo_none (fo_some (fe_var 1))) (fe_tup (fa_cons (fe_var 3) fa_nil))) (fe_slice (fe_ix (fe_var 0) fe_int (fun _ _ => rfl)) (fo_some (fe_add (fe_var 1) fe_int)) fo_none)) fa_nil)))))
theorem sc_bare_row : FnScope ["row"] ["row"] (defScope (topS 16)) := ⟨rfl, rfl, rfl, by decide +kernel, rfl, by decide +kernel, by decide +kernel⟩
theorem fd_bare_row (G : Glo K mg w)  {f : Addr} {fd : FuncData} (F : Fun K "bare_row" "bare_row" (topS 16) f fd) (hm : mg "bare_row" = some (.ref f)) (hb : Binds K fd ["row"] []) : Fd P w K mg base 1 "bare_row" ["row"] (fromBody 1 1 m_bare_row) :=
  Fd.body F hm hb sc_bare_row fun cdv A outer s H E hr => (fss_one (fs_ret (fe_ifE (ft_cmp (cm_eq (u64 hr)) (fe_ix (fe_var 0) fe_int (fun _ _ => rfl)) (fe_glob G.c_JOIN rfl) (by rfl)) (fe_ix (fe_var 0) fe_int (fun _ _ => rfl)) (fe_var 0))))
theorem sc_word_at : FnScope ["program", "place"] ["program", "place"] (defScope (topS 17)) := ⟨rfl, rfl, rfl, by decide +kernel, rfl, by decide +kernel, by decide +kernel⟩
theorem fd_word_at (G : Glo K mg w) {s_bare_row : DF} (h_bare_row : Fd P w K mg base 1 "bare_row" ["row"] s_bare_row) {f : Addr} {fd : FuncData} (F : Fun K "word_at" "word_at" (topS 17) f fd) (hm : mg "word_at" = some (.ref f)) (hb : Binds K fd ["program", "place"] []) : Fd P w K mg base 2 "word_at" ["program", "place"] (fromBody 2 2 (m_word_at s_bare_row)) :=
  Fd.body F hm hb sc_word_at fun cdv A outer s H E hr => (fss_one (fs_ret (fe_ix (fe_call h_bare_row hr (by decide) (takes_of rfl rfl rfl rfl) (fa_cons (fe_ix (fe_var 0) (fe_var 1) (fun _ _ => rfl)) fa_nil)) fe_int (fun _ _ => rfl))))
theorem sc_may_judge : FnScope ["facts", "stand", "judged"] ["facts", "stand", "judged"] (defScope (topS 54)) := ⟨rfl, rfl, rfl, by decide +kernel, rfl, by decide +kernel, by decide +kernel⟩
theorem fd_may_judge (G : Glo K mg w) {s_live_marks : DF} (h_live_marks : Fd P w K mg base 1 "live_marks" ["stand"] s_live_marks) {f : Addr} {fd : FuncData} (F : Fun K "may_judge" "may_judge" (topS 54) f fd) (hm : mg "may_judge" = some (.ref f)) (hb : Binds K fd ["facts", "stand", "judged"] []) : Fd P w K mg base 2 "may_judge" ["facts", "stand", "judged"] (fromBody 3 3 (m_may_judge s_live_marks)) :=
  Fd.body F hm hb sc_may_judge fun cdv A outer s H E hr => (fss_one (fs_ret (fe_or (fe_not (fe_var 2)) (fe_one (fe_and (fe_cmp cm_isnot (fe_ix (fe_var 1) fe_int (fun _ _ => rfl)) fe_non (by rfl)) (fe_one (fe_or (fe_cmp (cm_notin (u65 hr)) (fe_glob G.c_PROMPT rfl) (fe_var 0) (by rfl)) (fe_one (fe_cmp (cm_notin (u65 hr)) (fe_ix (fe_var 1) fe_int (fun _ _ => rfl)) (fe_call h_live_marks hr (by decide) (takes_of rfl rfl rfl rfl) (fa_cons (fe_var 1) fa_nil)) (by rfl))))))))))
theorem sc_row_make : FnScope ["lock", "own", "note", "pocket"] ["lock", "own", "note", "pocket"] (defScope (topS 40)) := ⟨rfl, rfl, rfl, by decide +kernel, rfl, by decide +kernel, by decide +kernel⟩
theorem fd_row_make (G : Glo K mg w)  {f : Addr} {fd : FuncData} (F : Fun K "row_make" "row_make" (topS 40) f fd) (hm : mg "row_make" = some (.ref f)) (hb : Binds K fd ["lock", "own", "note", "pocket"] []) : Fd P w K mg base 1 "row_make" ["lock", "own", "note", "pocket"] (fromBody 4 4 m_row_make) :=
  Fd.body F hm hb sc_row_make fun cdv A outer s H E hr => (fss_one (fs_ret (fe_tup (fa_cons (fe_cmp cm_is (fe_var 0) fe_non (by rfl)) (fa_cons (fe_ifE (ft_cmp cm_is (fe_var 0) fe_non (by rfl)) (fe_var 1) (fe_var 0)) (fa_cons (fe_var 2) (fa_cons (fe_var 3) fa_nil)))))))
theorem sc_row_read : FnScope ["lock", "own", "note", "pocket"] ["lock", "own", "note", "pocket"] (defScope (topS 41)) := ⟨rfl, rfl, rfl, by decide +kernel, rfl, by decide +kernel, by decide +kernel⟩
theorem fd_row_read (G : Glo K mg w)  {f : Addr} {fd : FuncData} (F : Fun K "row_read" "row_read" (topS 41) f fd) (hm : mg "row_read" = some (.ref f)) (hb : Binds K fd ["lock", "own", "note", "pocket"] []) : Fd P w K mg base 1 "row_read" ["lock", "own", "note", "pocket"] (fromBody 4 4 m_row_read) :=
  Fd.body F hm hb sc_row_read fun cdv A outer s H E hr => (fss_one (fs_ret (fe_tup (fa_cons (fe_cmp cm_isnot (fe_var 0) fe_non (by rfl)) (fa_cons (fe_var 0) (fa_cons (fe_ifE (ft_cmp cm_is (fe_var 0) fe_non (by rfl)) (fe_var 2) (fe_var 0)) (fa_cons (fe_var 3) fa_nil)))))))
theorem sc_row_same : FnScope ["lock", "own", "note", "pocket"] ["lock", "own", "note", "pocket"] (defScope (topS 42)) := ⟨rfl, rfl, rfl, by decide +kernel, rfl, by decide +kernel, by decide +kernel⟩
theorem fd_row_same (G : Glo K mg w)  {f : Addr} {fd : FuncData} (F : Fun K "row_same" "row_same" (topS 42) f fd) (hm : mg "row_same" = some (.ref f)) (hb : Binds K fd ["lock", "own", "note", "pocket"] []) : Fd P w K mg base 1 "row_same" ["lock", "own", "note", "pocket"] (fromBody 4 4 m_row_same) :=
  Fd.body F hm hb sc_row_same fun cdv A outer s H E hr => (fss_one (fs_ret (fe_tup (fa_cons (fe_and (fe_cmp cm_isnot (fe_var 0) fe_non (by rfl)) (fe_one (fe_cmp (cm_eq (u64 hr)) (fe_var 0) (fe_var 2) (by rfl)))) (fa_cons (fe_var 0) (fa_cons (fe_var 2) (fa_cons (fe_var 3) fa_nil)))))))
theorem sc_row_mine : FnScope ["lock", "own", "note", "pocket"] ["lock", "own", "note", "pocket"] (defScope (topS 43)) := ⟨rfl, rfl, rfl, by decide +kernel, rfl, by decide +kernel, by decide +kernel⟩
theorem fd_row_mine (G : Glo K mg w)  {f : Addr} {fd : FuncData} (F : Fun K "row_mine" "row_mine" (topS 43) f fd) (hm : mg "row_mine" = some (.ref f)) (hb : Binds K fd ["lock", "own", "note", "pocket"] []) : Fd P w K mg base 1 "row_mine" ["lock", "own", "note", "pocket"] (fromBody 4 4 m_row_mine) :=
  Fd.body F hm hb sc_row_mine fun cdv A outer s H E hr => (fss_one (fs_ret (fe_tup (fa_cons (fe_cmp (cm_eq (u64 hr)) (fe_var 0) (fe_var 1) (by rfl)) (fa_cons (fe_var 0) (fa_cons (fe_var 2) (fa_cons (fe_var 3) fa_nil)))))))
theorem sc_row_drop : FnScope ["lock", "own", "note", "pocket"] ["lock", "own", "note", "pocket"] (defScope (topS 44)) := ⟨rfl, rfl, rfl, by decide +kernel, rfl, by decide +kernel, by decide +kernel⟩
theorem fd_row_drop (G : Glo K mg w)  {f : Addr} {fd : FuncData} (F : Fun K "row_drop" "row_drop" (topS 44) f fd) (hm : mg "row_drop" = some (.ref f)) (hb : Binds K fd ["lock", "own", "note", "pocket"] []) : Fd P w K mg base 1 "row_drop" ["lock", "own", "note", "pocket"] (fromBody 4 4 m_row_drop) :=
  Fd.body F hm hb sc_row_drop fun cdv A outer s H E hr => (fss_one (fs_ret (fe_tup (fa_cons fe_bl (fa_cons fe_non (fa_cons (fe_var 2) (fa_cons (fe_var 3) fa_nil)))))))
theorem sc_row_swap : FnScope ["lock", "own", "note", "pocket", "found"] ["lock", "own", "note", "pocket"] (defScope (topS 46)) := ⟨rfl, rfl, rfl, by decide +kernel, rfl, by decide +kernel, by decide +kernel⟩
theorem fd_row_swap (G : Glo K mg w)  {f : Addr} {fd : FuncData} (F : Fun K "row_swap" "row_swap" (topS 46) f fd) (hm : mg "row_swap" = some (.ref f)) (hb : Binds K fd ["lock", "own", "note", "pocket"] []) : Fd P w K mg base 1 "row_swap" ["lock", "own", "note", "pocket"] (fromBody 4 5 m_row_swap) :=
  Fd.body F hm hb sc_row_swap fun cdv A outer s H E hr => (fss_cons (fs_set 4 sc_row_swap.nd (fe_and (fe_cmp cm_isnot (fe_var 0) fe_non (by rfl)) (fe_one (fe_cmp (cm_eq (u64 hr)) (fe_var 0) (fe_var 2) (by rfl))))) (fss_one (fs_ret (fe_tup (fa_cons (fe_var 4) (fa_cons (fe_ifE (ft_val (fe_var 4)) (fe_var 1) (fe_var 0)) (fa_cons (fe_var 2) (fa_cons (fe_var 3) fa_nil))))))))
theorem sc_row_drop_same : FnScope ["lock", "own", "note", "pocket", "found"] ["lock", "own", "note", "pocket"] (defScope (topS 45)) := ⟨rfl, rfl, rfl, by decide +kernel, rfl, by decide +kernel, by decide +kernel⟩
theorem fd_row_drop_same (G : Glo K mg w)  {f : Addr} {fd : FuncData} (F : Fun K "row_drop_same" "row_drop_same" (topS 45) f fd) (hm : mg "row_drop_same" = some (.ref f)) (hb : Binds K fd ["lock", "own", "note", "pocket"] []) : Fd P w K mg base 1 "row_drop_same" ["lock", "own", "note", "pocket"] (fromBody 4 5 m_row_drop_same) :=
  Fd.body F hm hb sc_row_drop_same fun cdv A outer s H E hr => (fss_cons (fs_set 4 sc_row_drop_same.nd (fe_and (fe_cmp cm_isnot (fe_var 0) fe_non (by rfl)) (fe_one (fe_cmp (cm_eq (u64 hr)) (fe_var 0) (fe_var 2) (by rfl))))) (fss_one (fs_ret (fe_tup (fa_cons (fe_var 4) (fa_cons (fe_ifE (ft_val (fe_var 4)) fe_non (fe_var 0)) (fa_cons (fe_var 2) (fa_cons (fe_var 3) fa_nil))))))))
theorem sc_row_move : FnScope ["lock", "own", "note", "pocket"] ["lock", "own", "note", "pocket"] (defScope (topS 47)) := ⟨rfl, rfl, rfl, by decide +kernel, rfl, by decide +kernel, by decide +kernel⟩
theorem fd_row_move (G : Glo K mg w)  {f : Addr} {fd : FuncData} (F : Fun K "row_move" "row_move" (topS 47) f fd) (hm : mg "row_move" = some (.ref f)) (hb : Binds K fd ["lock", "own", "note", "pocket"] []) : Fd P w K mg base 1 "row_move" ["lock", "own", "note", "pocket"] (fromBody 4 4 m_row_move) :=
  Fd.body F hm hb sc_row_move fun cdv A outer s H E hr => (fss_one (fs_ret (fe_tup (fa_cons (fe_cmp cm_isnot (fe_var 0) fe_non (by rfl)) (fa_cons fe_non (fa_cons (fe_var 2) (fa_cons (fe_ifE (ft_cmp cm_is (fe_var 0) fe_non (by rfl)) (fe_var 3) (fe_var 0)) fa_nil)))))))
theorem sc_row_back : FnScope ["lock", "own", "note", "pocket", "found"] ["lock", "own", "note", "pocket"] (defScope (topS 48)) := ⟨rfl, rfl, rfl, by decide +kernel, rfl, by decide +kernel, by decide +kernel⟩
theorem fd_row_back (G : Glo K mg w)  {f : Addr} {fd : FuncData} (F : Fun K "row_back" "row_back" (topS 48) f fd) (hm : mg "row_back" = some (.ref f)) (hb : Binds K fd ["lock", "own", "note", "pocket"] []) : Fd P w K mg base 1 "row_back" ["lock", "own", "note", "pocket"] (fromBody 4 5 m_row_back) :=
  Fd.body F hm hb sc_row_back fun cdv A outer s H E hr => (fss_cons (fs_set 4 sc_row_back.nd (fe_and (fe_cmp cm_is (fe_var 0) fe_non (by rfl)) (fe_one (fe_cmp cm_isnot (fe_var 3) fe_non (by rfl))))) (fss_one (fs_ret (fe_tup (fa_cons (fe_var 4) (fa_cons (fe_ifE (ft_val (fe_var 4)) (fe_var 3) (fe_var 0)) (fa_cons (fe_var 2) (fa_cons (fe_ifE (ft_val (fe_var 4)) fe_non (fe_var 3)) fa_nil))))))))
theorem sc_row_caught : FnScope ["lock", "own", "note", "pocket"] ["lock", "own", "note", "pocket"] (defScope (topS 49)) := ⟨rfl, rfl, rfl, by decide +kernel, rfl, by decide +kernel, by decide +kernel⟩
theorem fd_row_caught (G : Glo K mg w)  {f : Addr} {fd : FuncData} (F : Fun K "row_caught" "row_caught" (topS 49) f fd) (hm : mg "row_caught" = some (.ref f)) (hb : Binds K fd ["lock", "own", "note", "pocket"] []) : Fd P w K mg base 1 "row_caught" ["lock", "own", "note", "pocket"] (fromBody 4 4 m_row_caught) :=
  Fd.body F hm hb sc_row_caught fun cdv A outer s H E hr => (fss_one (fs_ret (fe_tup (fa_cons (fe_and (fe_cmp cm_isnot (fe_var 3) fe_non (by rfl)) (fe_one (fe_cmp (cm_eq (u64 hr)) (fe_var 3) (fe_var 2) (by rfl)))) (fa_cons (fe_var 0) (fa_cons (fe_var 2) (fa_cons (fe_var 3) fa_nil)))))))
theorem sc_done : FnScope ["row", "lock", "process", "live", "judged", "at", "own", "note", "pocket", "within", "word", "went", "action"] ["row", "lock", "process", "live", "judged"] (defScope (topS 51)) := ⟨rfl, rfl, rfl, by decide +kernel, rfl, by decide +kernel, by decide +kernel⟩
theorem fd_done (G : Glo K mg w) {s_row_make s_row_read s_row_same s_row_mine s_row_drop s_row_swap s_row_drop_same s_row_move s_row_back s_row_caught : DF} (h_row_make : Fd P w K mg base 1 "row_make" ["lock", "own", "note", "pocket"] s_row_make) (h_row_read : Fd P w K mg base 1 "row_read" ["lock", "own", "note", "pocket"] s_row_read) (h_row_same : Fd P w K mg base 1 "row_same" ["lock", "own", "note", "pocket"] s_row_same) (h_row_mine : Fd P w K mg base 1 "row_mine" ["lock", "own", "note", "pocket"] s_row_mine) (h_row_drop : Fd P w K mg base 1 "row_drop" ["lock", "own", "note", "pocket"] s_row_drop) (h_row_swap : Fd P w K mg base 1 "row_swap" ["lock", "own", "note", "pocket"] s_row_swap) (h_row_drop_same : Fd P w K mg base 1 "row_drop_same" ["lock", "own", "note", "pocket"] s_row_drop_same) (h_row_move : Fd P w K mg base 1 "row_move" ["lock", "own", "note", "pocket"] s_row_move) (h_row_back : Fd P w K mg base 1 "row_back" ["lock", "own", "note", "pocket"] s_row_back) (h_row_caught : Fd P w K mg base 1 "row_caught" ["lock", "own", "note", "pocket"] s_row_caught) {f : Addr} {fd : FuncData} (F : Fun K "done" "done" (topS 51) f fd) (hm : mg "done" = some (.ref f)) (hb : Binds K fd ["row", "lock", "process", "live", "judged"] []) : Fd P w K mg base 2 "done" ["row", "lock", "process", "live", "judged"] (fromBody 5 13 (m_done (FAof mg) s_row_make s_row_read s_row_same s_row_mine s_row_drop s_row_swap s_row_drop_same s_row_move s_row_back s_row_caught)) :=
  Fd.body F hm hb sc_done fun cdv A outer s H E hr => (fss_cons (fs_asg (fe_var 2) (fg_tup rfl (fgs_cons (fg_name 5 sc_done.nd) (fgs_cons (fg_name 6 sc_done.nd) (fgs_cons (fg_name 7 sc_done.nd) (fgs_cons (fg_name 8 sc_done.nd) (fgs_cons (fg_name 9 sc_done.nd) fgs_nil))))))) (fss_cons (fs_set 10 sc_done.nd (fe_ix (fe_var 0) fe_int (fun _ _ => rfl))) (fss_cons (fs_set 11 sc_done.nd fe_bl) (fss_cons (fs_if (ft_inTab G.t_ACTIONS (fe_var 10)) (fss_cons (fs_set 12 sc_done.nd (fe_ixTab G.t_ACTIONS (fe_var 10) (fun _ _ => rfl))) (fss_one (fs_asg (fe_callL 12 (fl_cons h_row_make (fl_cons h_row_read (fl_cons h_row_same (fl_cons h_row_mine (fl_cons h_row_drop (fl_cons h_row_swap (fl_cons h_row_drop_same (fl_cons h_row_move (fl_cons h_row_back (fl_cons h_row_caught fl_nil)))))))))) hr (by decide) (fa_cons (fe_var 1) (fa_cons (fe_var 6) (fa_cons (fe_var 7) (fa_cons (fe_var 8) fa_nil))))) (fg_tup rfl (fgs_cons (fg_name 11 sc_done.nd) (fgs_cons (fg_name 1 sc_done.nd) (fgs_cons (fg_name 7 sc_done.nd) (fgs_cons (fg_name 8 sc_done.nd) fgs_nil)))))))) (fss_one (fs_if (ft_cmp (cm_eq (u64 hr)) (fe_var 10) fe_str (by rfl)) (fss_one (fs_set 11 sc_done.nd (fe_and (fe_cmp cm_isnot (fe_var 7) fe_non (by rfl)) (fe_one (fe_cmp (cm_notin (u65 hr)) (fe_var 7) (fe_var 3) (by rfl)))))) (fss_one (fs_if (ft_cmp (cm_eq (u64 hr)) (fe_var 10) fe_str (by rfl)) (fss_one (fs_set 11 sc_done.nd (fe_var 4))) (fss_one (fs_if (ft_cmp (cm_eq (u64 hr)) (fe_var 10) fe_str (by rfl)) (fss_one (fs_set 11 sc_done.nd fe_bl)) (fss_one (fs_set 9 sc_done.nd (fe_cmp (cm_eq (u64 hr)) (fe_var 10) fe_str (by rfl))))))))))) (fss_one (fs_ret (fe_tup (fa_cons (fe_var 1) (fa_cons (fe_tup (fa_cons (fe_ifE (ft_val (fe_var 11)) (fe_add (fe_var 5) fe_int) (fe_ix (fe_var 0) fe_int (fun _ _ => rfl))) (fa_cons (fe_var 6) (fa_cons (fe_var 7) (fa_cons (fe_var 8) (fa_cons (fe_var 9) fa_nil)))))) fa_nil)))))))))
theorem sc_advanced : FnScope ["program", "lock", "process", "live", "judged", "going", "at", "here"] ["program", "lock", "process", "live", "judged"] (defScope (topS 52)) := ⟨rfl, rfl, rfl, by decide +kernel, rfl, by decide +kernel, by decide +kernel⟩
theorem fd_advanced (G : Glo K mg w) {s_done s_bare_row s_word_at : DF} (h_done : Fd P w K mg base 2 "done" ["row", "lock", "process", "live", "judged"] s_done) (h_bare_row : Fd P w K mg base 1 "bare_row" ["row"] s_bare_row) (h_word_at : Fd P w K mg base 2 "word_at" ["program", "place"] s_word_at) {f : Addr} {fd : FuncData} (F : Fun K "advanced" "advanced" (topS 52) f fd) (hm : mg "advanced" = some (.ref f)) (hb : Binds K fd ["program", "lock", "process", "live", "judged"] []) : Fd P w K mg base 3 "advanced" ["program", "lock", "process", "live", "judged"] (fromBody 5 8 (m_advanced s_done s_bare_row s_word_at)) :=
  Fd.body F hm hb sc_advanced fun cdv A outer s H E hr => (fss_cons (fs_set 5 sc_advanced.nd fe_bl) (fss_cons (fs_while (passes_of rfl) (ft_val (fe_var 5)) (fss_cons (fs_set 6 sc_advanced.nd (fe_ix (fe_var 2) fe_int (fun _ _ => rfl))) (fss_cons (fs_asg (fe_call h_done hr (by decide) (takes_of rfl rfl rfl rfl) (fa_cons (fe_call h_bare_row hr (by decide) (takes_of rfl rfl rfl rfl) (fa_cons (fe_ix (fe_var 0) (fe_var 6) (fun _ _ => rfl)) fa_nil)) (fa_cons (fe_var 1) (fa_cons (fe_var 2) (fa_cons (fe_var 3) (fa_cons (fe_var 4) fa_nil)))))) (fg_tup rfl (fgs_cons (fg_name 1 sc_advanced.nd) (fgs_cons (fg_name 2 sc_advanced.nd) fgs_nil)))) (fss_cons (fs_set 7 sc_advanced.nd (fe_ix (fe_var 2) fe_int (fun _ _ => rfl))) (fss_cons (fs_set 5 sc_advanced.nd (fe_and (fe_cmp (cm_eq (u64 hr)) (fe_ix (fe_ix (fe_var 0) (fe_var 6) (fun _ _ => rfl)) fe_int (fun _ _ => rfl)) (fe_glob G.c_JOIN rfl) (by rfl)) (fe_and (fe_cmp (cm_ne (u64 hr)) (fe_call h_word_at hr (by decide) (takes_of rfl rfl rfl rfl) (fa_cons (fe_var 0) (fa_cons (fe_var 6) fa_nil))) fe_str (by rfl)) (fe_and (fe_cmp (cm_eq (u64 hr)) (fe_var 7) (fe_add (fe_var 6) fe_int) (by rfl)) (fe_one (fe_cmp cm_lt (fe_var 7) (fe_callB cb_len G.n_len (by decide +kernel) (fa_cons (fe_var 0) fa_nil)) (by rfl))))))) (fss_one (fs_set 5 sc_advanced.nd (fe_and (fe_var 5) (fe_one (fe_cmp (cm_notin (u65 hr)) (fe_call h_word_at hr (by decide) (takes_of rfl rfl rfl rfl) (fa_cons (fe_var 0) (fa_cons (fe_var 7) fa_nil))) (fe_glob G.c_ALONE rfl) (by rfl))))))))))) (fss_one (fs_ret (fe_tup (fa_cons (fe_var 1) (fa_cons (fe_ifE (ft_cmp (cm_eq (u64 hr)) (fe_ix (fe_var 2) fe_int (fun _ _ => rfl)) (fe_callB cb_len G.n_len (by decide +kernel) (fa_cons (fe_var 0) fa_nil)) (by rfl)) fe_non (fe_var 2)) fa_nil)))))))
theorem sc_behind : FnScope ["programs", "facts", "stand", "event", "deed", "slot", "value", "process", "lock"] ["programs", "facts", "stand", "event"] (defScope (topS 56)) := ⟨rfl, rfl, rfl, by decide +kernel, rfl, by decide +kernel, by decide +kernel⟩
theorem fd_behind (G : Glo K mg w) {s_may_start s_with_slot s_word_at s_may_judge s_advanced s_live_marks : DF} (h_may_start : Fd P w K mg base 2 "may_start" ["facts", "stand", "slot", "mark"] s_may_start) (h_with_slot : Fd P w K mg base 1 "with_slot" ["stand", "slot", "lock", "process"] s_with_slot) (h_word_at : Fd P w K mg base 2 "word_at" ["program", "place"] s_word_at) (h_may_judge : Fd P w K mg base 2 "may_judge" ["facts", "stand", "judged"] s_may_judge) (h_advanced : Fd P w K mg base 3 "advanced" ["program", "lock", "process", "live", "judged"] s_advanced) (h_live_marks : Fd P w K mg base 1 "live_marks" ["stand"] s_live_marks) {f : Addr} {fd : FuncData} (F : Fun K "behind" "behind" (topS 56) f fd) (hm : mg "behind" = some (.ref f)) (hb : Binds K fd ["programs", "facts", "stand", "event"] []) : Fd P w K mg base 4 "behind" ["programs", "facts", "stand", "event"] (fromBody 4 9 (m_behind s_may_start s_with_slot s_word_at s_may_judge s_advanced s_live_marks)) :=
  Fd.body F hm hb sc_behind fun cdv A outer s H E hr => (fss_cons (fs_asg (fe_var 3) (fg_tup rfl (fgs_cons (fg_name 4 sc_behind.nd) (fgs_cons (fg_name 5 sc_behind.nd) (fgs_cons (fg_name 6 sc_behind.nd) fgs_nil))))) (fss_cons (fs_set 7 sc_behind.nd (fe_ix (fe_ix (fe_var 2) fe_int (fun _ _ => rfl)) (fe_var 5) (fun _ _ => rfl))) (fss_cons (fs_if (ft_cmp (cm_eq (u64 hr)) (fe_var 4) (fe_glob G.c_START rfl) (by rfl)) (fss_cons (fs_if (ft_not (ft_val (fe_call h_may_start hr (by decide) (takes_of rfl rfl rfl rfl) (fa_cons (fe_var 1) (fa_cons (fe_var 2) (fa_cons (fe_var 5) (fa_cons (fe_var 6) fa_nil))))))) (fss_one (fs_ret fe_non)) fss_nil) (fss_one (fs_ret (fe_call h_with_slot hr (by decide) (takes_of rfl rfl rfl rfl) (fa_cons (fe_var 2) (fa_cons (fe_var 5) (fa_cons (fe_ix (fe_var 2) fe_int (fun _ _ => rfl)) (fa_cons (fe_tup (fa_cons fe_int (fa_cons (fe_var 6) (fa_cons fe_non (fa_cons fe_non (fa_cons fe_bl fa_nil)))))) fa_nil)))))))) fss_nil) (fss_cons (fs_if (ft_cmp cm_is (fe_var 7) fe_non (by rfl)) (fss_one (fs_ret fe_non)) fss_nil) (fss_cons (fs_if (ft_cmp (cm_eq (u64 hr)) (fe_var 4) (fe_glob G.c_DIE rfl) (by rfl)) (fss_one (fs_ret (fe_ifE (ft_cmp (cm_in (u65 hr)) (fe_glob G.c_STEADY rfl) (fe_var 1) (by rfl)) fe_non (fe_call h_with_slot hr (by decide) (takes_of rfl rfl rfl rfl) (fa_cons (fe_var 2) (fa_cons (fe_var 5) (fa_cons (fe_ix (fe_var 2) fe_int (fun _ _ => rfl)) (fa_cons fe_non fa_nil)))))))) fss_nil) (fss_cons (fs_if (ft_cmp (cm_ne (u64 hr)) (fe_cmp (cm_eq (u64 hr)) (fe_var 4) (fe_glob G.c_JUDGE rfl) (by rfl)) (fe_cmp (cm_eq (u64 hr)) (fe_call h_word_at hr (by decide) (takes_of rfl rfl rfl rfl) (fa_cons (fe_ix (fe_var 0) (fe_var 5) (fun _ _ => rfl)) (fa_cons (fe_ix (fe_var 7) fe_int (fun _ _ => rfl)) fa_nil))) fe_str (by rfl)) (by rfl)) (fss_one (fs_ret fe_non)) fss_nil) (fss_cons (fs_if (FW.ft (fw_and (ft_cmp (cm_eq (u64 hr)) (fe_var 4) (fe_glob G.c_JUDGE rfl) (by rfl)) (fw_and1 (ft_not (ft_val (fe_call h_may_judge hr (by decide) (takes_of rfl rfl rfl rfl) (fa_cons (fe_var 1) (fa_cons (fe_var 2) (fa_cons (fe_var 6) fa_nil))))))))) (fss_one (fs_ret fe_non)) fss_nil) (fss_cons (fs_asg (fe_call h_advanced hr (by decide) (takes_of rfl rfl rfl rfl) (fa_cons (fe_ix (fe_var 0) (fe_var 5) (fun _ _ => rfl)) (fa_cons (fe_ix (fe_var 2) fe_int (fun _ _ => rfl)) (fa_cons (fe_var 7) (fa_cons (fe_call h_live_marks hr (by decide) (takes_of rfl rfl rfl rfl) (fa_cons (fe_var 2) fa_nil)) (fa_cons (fe_var 6) fa_nil)))))) (fg_tup rfl (fgs_cons (fg_name 8 sc_behind.nd) (fgs_cons (fg_name 7 sc_behind.nd) fgs_nil)))) (fss_one (fs_ret (fe_call h_with_slot hr (by decide) (takes_of rfl rfl rfl rfl) (fa_cons (fe_var 2) (fa_cons (fe_var 5) (fa_cons (fe_var 8) (fa_cons (fe_var 7) fa_nil)))))))))))))))
theorem sc_after : FnScope ["programs", "facts", "stand", "event"] ["programs", "facts", "stand", "event"] (defScope (topS 59)) := ⟨rfl, rfl, rfl, by decide +kernel, rfl, by decide +kernel, by decide +kernel⟩
theorem fd_after (G : Glo K mg w) {s_need_programs s_need_facts s_need_stand s_need_event s_behind : DF} (h_need_programs : Fd P w K mg base 6 "need_programs" ["value"] s_need_programs) (h_need_facts : Fd P w K mg base 1 "need_facts" ["value"] s_need_facts) (h_need_stand : Fd P w K mg base 8 "need_stand" ["programs", "value"] s_need_stand) (h_need_event : Fd P w K mg base 4 "need_event" ["programs", "value"] s_need_event) (h_behind : Fd P w K mg base 4 "behind" ["programs", "facts", "stand", "event"] s_behind) {f : Addr} {fd : FuncData} (F : Fun K "after" "after" (topS 59) f fd) (hm : mg "after" = some (.ref f)) (hb : Binds K fd ["programs", "facts", "stand", "event"] []) : Fd P w K mg base 9 "after" ["programs", "facts", "stand", "event"] (fromBody 4 4 (m_after s_need_programs s_need_facts s_need_stand s_need_event s_behind)) :=
  Fd.body F hm hb sc_after fun cdv A outer s H E hr => (fss_cons (fs_expr (fe_call h_need_programs hr (by decide) (takes_of rfl rfl rfl rfl) (fa_cons (fe_var 0) fa_nil))) (fss_cons (fs_expr (fe_call h_need_facts hr (by decide) (takes_of rfl rfl rfl rfl) (fa_cons (fe_var 1) fa_nil))) (fss_cons (fs_expr (fe_call h_need_stand hr (by decide) (takes_of rfl rfl rfl rfl) (fa_cons (fe_var 0) (fa_cons (fe_var 2) fa_nil)))) (fss_cons (fs_expr (fe_call h_need_event hr (by decide) (takes_of rfl rfl rfl rfl) (fa_cons (fe_var 0) (fa_cons (fe_var 3) fa_nil)))) (fss_one (fs_ret (fe_call h_behind hr (by decide) (takes_of rfl rfl rfl rfl) (fa_cons (fe_var 0) (fa_cons (fe_var 1) (fa_cons (fe_var 2) (fa_cons (fe_var 3) fa_nil)))))))))))
theorem sc_law : FnScope ["script", "k", "source", "bare", "size", "rows", "program", "other", "turn", "stand", "process", "word", "events", "event", "now", "at", "going", "there", "place", "row"] ["script"] (defScope (topS 70)) := ⟨rfl, rfl, rfl, by decide +kernel, rfl, by decide +kernel, by decide +kernel⟩
theorem fd_law (G : Glo K mg w) {s__law_source s__law_short s__law_bare s__law_draw s__law_stand s_after : DF} (h__law_source : Fd P w K mg base 1 "_law_source" ["script", "index"] s__law_source) (h__law_short : Fd P w K mg base 4 "_law_short" ["source", "most"] s__law_short) (h__law_bare : Fd P w K mg base 1 "_law_bare" ["row"] s__law_bare) (h__law_draw : Fd P w K mg base 1 "_law_draw" ["source", "size"] s__law_draw) (h__law_stand : Fd P w K mg base 4 "_law_stand" ["source", "programs"] s__law_stand) (h_after : Fd P w K mg base 9 "after" ["programs", "facts", "stand", "event"] s_after) {f : Addr} {fd : FuncData} (F : Fun K "law" "law" (topS 70) f fd) : FnOk P w K mg base (L2.CX P w) 10 f fd ["script"] (spD K mg (fromBody 1 20 (m_law_k09 s__law_source s__law_short s__law_bare s__law_draw s__law_stand s_after))) :=
  Fd.fn F sc_law fun cdv A outer s H E hr => (fss_cons (fs_for (passes_of rfl) rfl (fi_range G.n_range (fa_cons (fe_add fe_int (fe_callB (cb_min2 rfl) G.n_min (by decide +kernel) (fa_cons (fe_callB cb_len G.n_len (by decide +kernel) (fa_cons (fe_var 0) fa_nil)) (fa_cons fe_int fa_nil)))) fa_nil)) (fg_name 1 sc_law.nd) (fss_cons (fs_set 2 sc_law.nd (fe_call h__law_source hr (by decide) (takes_of rfl rfl rfl rfl) (fa_cons (fe_var 0) (fa_cons (fe_var 1) fa_nil)))) (fss_cons (fs_set 3 sc_law.nd (fe_callT cb_tuple G.n_tuple (by decide +kernel) (fa_cons (fe_lc (own := [("row", 19)]) (is := [19]) rfl sc_law.nd (fi_seq (fe_call h__law_short hr (by decide) (takes_of rfl rfl rfl rfl) (fa_cons (fe_var 2) (fa_cons fe_int fa_nil)))) ⟨blkOk_by (own := [("row", 19)]) (N := ["script", "k", "source", "bare", "size", "rows", "program", "other", "turn", "stand", "process", "word", "events", "event", "now", "at", "going", "there", "place", "row"]) (sc := defScope (topS 70)) (by decide +kernel), by decide, fun _ _ _ _ _ => (fg_name 19 sc_law.nd), fun _ _ _ _ _ => fts_nil, fun _ _ _ _ _ => (fe_call h__law_bare hr (by decide) takes0 (fa_cons (fe_var 19) fa_nil))⟩) fa_nil))) (fss_cons (fs_set 4 sc_law.nd (fe_callB cb_len G.n_len (by decide +kernel) (fa_cons (fe_var 3) fa_nil))) (fss_cons (fs_if (ft_cmp (cm_eq (u64 hr)) (fe_call h__law_draw hr (by decide) (takes_of rfl rfl rfl rfl) (fa_cons (fe_var 2) (fa_cons fe_int fa_nil))) fe_int (by rfl)) (fss_one (fs_set 3 sc_law.nd (fe_callT cb_tuple G.n_tuple (by decide +kernel) (fa_cons (fe_lc (own := [("row", 19)]) (is := [19]) rfl sc_law.nd (fi_seq (fe_var 3)) ⟨blkOk_by (own := [("row", 19)]) (N := ["script", "k", "source", "bare", "size", "rows", "program", "other", "turn", "stand", "process", "word", "events", "event", "now", "at", "going", "there", "place", "row"]) (sc := defScope (topS 70)) (by decide +kernel), by decide, fun _ _ _ _ _ => (fg_name 19 sc_law.nd), fun _ _ _ _ _ => fts_nil, fun _ _ _ _ _ => (fe_ifE (ft_cmp (cm_in (u65 hr)) (fe_ix (fe_var 19) fe_int (fun _ _ => rfl)) (fe_lst (fa_cons fe_str (fa_cons fe_str (fa_cons fe_str fa_nil)))) (by rfl)) (fe_var 19) (fe_tup (fa_cons fe_str fa_nil)))⟩) fa_nil)))) fss_nil) (fss_cons (fs_set 5 sc_law.nd (fe_lc (own := [("place", 18)]) (is := [18]) rfl sc_law.nd (fi_range G.n_range (fa_cons (fe_var 4) fa_nil)) ⟨blkOk_by (own := [("place", 18)]) (N := ["script", "k", "source", "bare", "size", "rows", "program", "other", "turn", "stand", "process", "word", "events", "event", "now", "at", "going", "there", "place", "row"]) (sc := defScope (topS 70)) (by decide +kernel), by decide, fun _ _ _ _ _ => (fg_name 18 sc_law.nd), fun _ _ _ _ _ => (fts_one (ft_cmp cm_gt (fe_call h__law_draw hr (by decide) takes0 (fa_cons (fe_var 2) (fa_cons fe_int fa_nil))) fe_int (by rfl))), fun _ _ _ _ _ => (fe_var 18)⟩)) (fss_cons (fs_set 6 sc_law.nd (fe_callT cb_tuple G.n_tuple (by decide +kernel) (fa_cons (fe_lc (own := [("place", 18), ("row", 19)]) (is := [18, 19]) rfl sc_law.nd (fi_enum G.n_enumerate (fa_cons (fe_var 3) fa_nil)) ⟨blkOk_by (own := [("place", 18), ("row", 19)]) (N := ["script", "k", "source", "bare", "size", "rows", "program", "other", "turn", "stand", "process", "word", "events", "event", "now", "at", "going", "there", "place", "row"]) (sc := defScope (topS 70)) (by decide +kernel), by decide, fun _ _ _ _ _ => (fg_tup rfl (fgs_cons (fg_name 18 sc_law.nd) (fgs_cons (fg_name 19 sc_law.nd) fgs_nil))), fun _ _ _ _ _ => fts_nil, fun _ _ _ _ _ => (fe_ifE (ft_cmp (cm_in (u65 hr)) (fe_var 18) (fe_var 5) (by rfl)) (fe_tup (fa_cons fe_str (fa_cons (fe_var 19) fa_nil))) (fe_var 19))⟩) fa_nil))) (fss_cons (fs_set 7 sc_law.nd (fe_call h__law_short hr (by decide) (takes_of rfl rfl rfl rfl) (fa_cons (fe_var 2) (fa_cons fe_int fa_nil)))) (fss_one (fs_for (passes_of rfl) rfl (fi_range G.n_range (fa_cons fe_int fa_nil)) (fg_name 8 sc_law.nd) (fss_cons (fs_set 9 sc_law.nd (fe_call h__law_stand hr (by decide) (takes_of rfl rfl rfl rfl) (fa_cons (fe_var 2) (fa_cons (fe_tup (fa_cons (fe_var 6) (fa_cons (fe_var 7) fa_nil))) fa_nil)))) (fss_cons (fs_set 10 sc_law.nd (fe_ix (fe_ix (fe_var 9) fe_int (fun _ _ => rfl)) fe_int (fun _ _ => rfl))) (fss_one (fs_if (ft_cmp cm_isnot (fe_var 10) fe_non (by rfl)) (fss_cons (fs_set 11 sc_law.nd (fe_ix (fe_ix (fe_var 3) (fe_ix (fe_var 10) fe_int (fun _ _ => rfl)) (fun _ _ => rfl)) fe_int (fun _ _ => rfl))) (fss_cons (fs_set 12 sc_law.nd (fe_ifE (ft_cmp (cm_eq (u64 hr)) (fe_var 11) fe_str (by rfl)) (fe_lst (fa_cons (fe_tup (fa_cons fe_str (fa_cons fe_int (fa_cons fe_bl fa_nil)))) (fa_cons (fe_tup (fa_cons fe_str (fa_cons fe_int (fa_cons fe_bl fa_nil)))) fa_nil))) (fe_lst (fa_cons (fe_tup (fa_cons fe_str (fa_cons fe_int (fa_cons fe_non fa_nil)))) fa_nil)))) (fss_one (fs_for (passes_of rfl) rfl (fi_seq (fe_var 12)) (fg_name 13 sc_law.nd) (fss_cons (fs_par3 14 15 16 sc_law.nd (fa_cons (fe_call h_after hr (by decide) (takes_of rfl rfl rfl rfl) (fa_cons (fe_tup (fa_cons (fe_var 3) (fa_cons (fe_var 7) fa_nil))) (fa_cons (fe_tup fa_nil) (fa_cons (fe_var 9) (fa_cons (fe_var 13) fa_nil))))) (fa_cons (fe_ix (fe_var 10) fe_int (fun _ _ => rfl)) (fa_cons fe_bl fa_nil)))) (fss_cons (fs_while (passes_of rfl) (FW.ft (fw_and (ft_val (fe_var 16)) (fw_and (ft_cmp cm_isnot (fe_var 14) fe_non (by rfl)) (fw_and1 (ft_cmp cm_isnot (fe_ix (fe_ix (fe_var 14) fe_int (fun _ _ => rfl)) fe_int (fun _ _ => rfl)) fe_non (by rfl)))))) (fss_cons (fs_set 17 sc_law.nd (fe_ix (fe_ix (fe_ix (fe_var 14) fe_int (fun _ _ => rfl)) fe_int (fun _ _ => rfl)) fe_int (fun _ _ => rfl))) (fss_cons (fs_set 16 sc_law.nd (fe_and (fe_cmp (cm_in (u65 hr)) (fe_var 15) (fe_var 5) (by rfl)) (fe_and (fe_cmp (cm_eq (u64 hr)) (fe_var 17) (fe_add (fe_var 15) fe_int) (by rfl)) (fe_one (fe_cmp (cm_ne (u64 hr)) (fe_ix (fe_ix (fe_var 3) (fe_var 15) (fun _ _ => rfl)) fe_int (fun _ _ => rfl)) fe_str (by rfl)))))) (fss_cons (fs_set 16 sc_law.nd (fe_and (fe_var 16) (fe_one (fe_cmp (cm_notin (u65 hr)) (fe_ix (fe_ix (fe_var 3) (fe_var 17) (fun _ _ => rfl)) fe_int (fun _ _ => rfl)) (fe_lst (fa_cons fe_str (fa_cons fe_str (fa_cons fe_str fa_nil)))) (by rfl))))) (fss_one (fs_if (ft_val (fe_var 16)) (fss_one (fs_par 14 15 sc_law.nd (fa_cons (fe_call h_after hr (by decide) (takes_of rfl rfl rfl rfl) (fa_cons (fe_tup (fa_cons (fe_var 3) (fa_cons (fe_var 7) fa_nil))) (fa_cons (fe_tup fa_nil) (fa_cons (fe_var 14) (fa_cons (fe_tup (fa_cons fe_str (fa_cons fe_int (fa_cons fe_non fa_nil)))) fa_nil))))) (fa_cons (fe_var 17) fa_nil)))) fss_nil)))))) (fss_one (fs_if (ft_cmp (cm_ne (u64 hr)) (fe_call h_after hr (by decide) (takes_of rfl rfl rfl rfl) (fa_cons (fe_tup (fa_cons (fe_var 6) (fa_cons (fe_var 7) fa_nil))) (fa_cons (fe_tup fa_nil) (fa_cons (fe_var 9) (fa_cons (fe_var 13) fa_nil))))) (fe_var 14) (by rfl)) (fss_one (fs_ret fe_bl)) fss_nil)))))))) fss_nil)))))))))))))) (fss_one (fs_ret fe_bl)))
end
section
variable {P : Program} {w : World} {K : PySem.W.Frag} {mg : Str → Option Value} {base : Heap}
theorem all_ok (G : Glo K mg w) (D__law_source : Dfn K mg "_law_source" (topS 61)) (D__law_draw : Dfn K mg "_law_draw" (topS 62)) (D__law_choice : Dfn K mg "_law_choice" (topS 63)) (D__law_row : Dfn K mg "_law_row" (topS 65)) (D__law_words : Dfn K mg "_law_words" (topS 66)) (D__law_short : Dfn K mg "_law_short" (topS 67)) (D__law_bare : Dfn K mg "_law_bare" (topS 64)) (D__law_process : Dfn K mg "_law_process" (topS 68)) (D__law_stand : Dfn K mg "_law_stand" (topS 69)) (D_is_from : Dfn K mg "is_from" (topS 12)) (D_is_bare_row : Dfn K mg "is_bare_row" (topS 13)) (D_is_row : Dfn K mg "is_row" (topS 14)) (D_is_program : Dfn K mg "is_program" (topS 15)) (D_are_programs : Dfn K mg "are_programs" (topS 25)) (D_need_programs : Dfn K mg "need_programs" (topS 26)) (D_need_facts : Dfn K mg "need_facts" (topS 27)) (D_is_mark : Dfn K mg "is_mark" (topS 28)) (D_is_process : Dfn K mg "is_process" (topS 29)) (D_live_marks : Dfn K mg "live_marks" (topS 30)) (D_is_stand : Dfn K mg "is_stand" (topS 31)) (D_need_stand : Dfn K mg "need_stand" (topS 32)) (D_is_event : Dfn K mg "is_event" (topS 57)) (D_need_event : Dfn K mg "need_event" (topS 58)) (D_marks_of : Dfn K mg "marks_of" (topS 33)) (D_may_start : Dfn K mg "may_start" (topS 53)) (D_with_slot : Dfn K mg "with_slot" (topS 55)) (D_bare_row : Dfn K mg "bare_row" (topS 16)) (D_word_at : Dfn K mg "word_at" (topS 17)) (D_may_judge : Dfn K mg "may_judge" (topS 54)) (D_row_make : Dfn K mg "row_make" (topS 40)) (D_row_read : Dfn K mg "row_read" (topS 41)) (D_row_same : Dfn K mg "row_same" (topS 42)) (D_row_mine : Dfn K mg "row_mine" (topS 43)) (D_row_drop : Dfn K mg "row_drop" (topS 44)) (D_row_swap : Dfn K mg "row_swap" (topS 46)) (D_row_drop_same : Dfn K mg "row_drop_same" (topS 45)) (D_row_move : Dfn K mg "row_move" (topS 47)) (D_row_back : Dfn K mg "row_back" (topS 48)) (D_row_caught : Dfn K mg "row_caught" (topS 49)) (D_done : Dfn K mg "done" (topS 51)) (D_advanced : Dfn K mg "advanced" (topS 52)) (D_behind : Dfn K mg "behind" (topS 56)) (D_after : Dfn K mg "after" (topS 59)) {f : Addr} {fd : FuncData} (F_law : Fun K "law" "law" (topS 70) f fd) : FnOk P w K mg base (L2.CX P w) 10 f fd ["script"] (spD K mg s_theLaw) := by
  obtain ⟨f__law_source, d__law_source, F__law_source, m__law_source⟩ := D__law_source
  have b__law_source : Binds K d__law_source ["script", "index"] [] := F__law_source.binds (ps := ["script", "index"]) fun _ _ _ _ _ _ us hl => match us, hl with | [_, _], _ => rfl
  have h__law_source : Fd P w K mg base 1 "_law_source" ["script", "index"] s_source :=
    Fd.imp0 (Fd.close (fd__law_source G  F__law_source m__law_source b__law_source)) ok_source
  obtain ⟨f__law_draw, d__law_draw, F__law_draw, m__law_draw⟩ := D__law_draw
  have b__law_draw : Binds K d__law_draw ["source", "size"] [] := F__law_draw.binds (ps := ["source", "size"]) fun _ _ _ _ _ _ us hl => match us, hl with | [_, _], _ => rfl
  have h__law_draw : Fd P w K mg base 1 "_law_draw" ["source", "size"] s_draw :=
    Fd.imp0 (Fd.draw (fd__law_draw G  F__law_draw m__law_draw b__law_draw)) ok_draw
  obtain ⟨f__law_choice, d__law_choice, F__law_choice, m__law_choice⟩ := D__law_choice
  have b__law_choice : Binds K d__law_choice ["source", "items"] [] := F__law_choice.binds (ps := ["source", "items"]) fun _ _ _ _ _ _ us hl => match us, hl with | [_, _], _ => rfl
  have h__law_choice : Fd P w K mg base 2 "_law_choice" ["source", "items"] s_choice :=
    Fd.imp0 (fd__law_choice G h__law_draw F__law_choice m__law_choice b__law_choice) ok_choice
  obtain ⟨f__law_row, d__law_row, F__law_row, m__law_row⟩ := D__law_row
  have b__law_row : Binds K d__law_row ["source", "size", "words"] [] := F__law_row.binds (ps := ["source", "size", "words"]) fun _ _ _ _ _ _ us hl => match us, hl with | [_, _, _], _ => rfl
  have h__law_row : Fd P w K mg base 3 "_law_row" ["source", "size", "words"] s_row :=
    Fd.imp0 (fd__law_row G h__law_choice h__law_draw F__law_row m__law_row b__law_row) ok_row
  obtain ⟨f__law_words, d__law_words, F__law_words, m__law_words⟩ := D__law_words
  have b__law_words : Binds K d__law_words ["many"] [] := F__law_words.binds (ps := ["many"]) fun _ _ _ _ _ _ us hl => match us, hl with | [_], _ => rfl
  have h__law_words : Fd P w K mg base 1 "_law_words" ["many"] s_words :=
    Fd.imp0 (fd__law_words G  F__law_words m__law_words b__law_words) ok_words
  obtain ⟨f__law_short, d__law_short, F__law_short, m__law_short⟩ := D__law_short
  have b__law_short : Binds K d__law_short ["source", "most"] [] := F__law_short.binds (ps := ["source", "most"]) fun _ _ _ _ _ _ us hl => match us, hl with | [_, _], _ => rfl
  have h__law_short : Fd P w K mg base 4 "_law_short" ["source", "most"] s_short :=
    Fd.imp (fd__law_short G h__law_draw h__law_row h__law_words F__law_short m__law_short b__law_short) ok_short
  obtain ⟨f__law_bare, d__law_bare, F__law_bare, m__law_bare⟩ := D__law_bare
  have b__law_bare : Binds K d__law_bare ["row"] [] := F__law_bare.binds (ps := ["row"]) fun _ _ _ _ _ _ us hl => match us, hl with | [_], _ => rfl
  have h__law_bare : Fd P w K mg base 1 "_law_bare" ["row"] s_barerow :=
    Fd.imp0 (fd__law_bare G  F__law_bare m__law_bare b__law_bare) ok_lawbare
  obtain ⟨f__law_process, d__law_process, F__law_process, m__law_process⟩ := D__law_process
  have b__law_process : Binds K d__law_process ["source", "program", "marks"] [] := F__law_process.binds (ps := ["source", "program", "marks"]) fun _ _ _ _ _ _ us hl => match us, hl with | [_, _, _], _ => rfl
  have h__law_process : Fd P w K mg base 3 "_law_process" ["source", "program", "marks"] s_lawproc :=
    Fd.imp0 (fd__law_process G h__law_choice h__law_draw F__law_process m__law_process b__law_process) ok_lawproc
  obtain ⟨f__law_stand, d__law_stand, F__law_stand, m__law_stand⟩ := D__law_stand
  have b__law_stand : Binds K d__law_stand ["source", "programs"] [] := F__law_stand.binds (ps := ["source", "programs"]) fun _ _ _ _ _ _ us hl => match us, hl with | [_, _], _ => rfl
  have h__law_stand : Fd P w K mg base 4 "_law_stand" ["source", "programs"] s_lawstand :=
    Fd.imp0 (fd__law_stand G h__law_choice h__law_draw h__law_process F__law_stand m__law_stand b__law_stand) ok_lawstand
  obtain ⟨f_is_from, d_is_from, F_is_from, m_is_from⟩ := D_is_from
  have b_is_from : Binds K d_is_from ["value", "low", "high"] [] := F_is_from.binds (ps := ["value", "low", "high"]) fun _ _ _ _ _ _ us hl => match us, hl with | [_, _, _], _ => rfl
  have h_is_from : Fd P w K mg base 1 "is_from" ["value", "low", "high"] s_from :=
    Fd.imp0 (fd_is_from G  F_is_from m_is_from b_is_from) ok_from
  obtain ⟨f_is_bare_row, d_is_bare_row, F_is_bare_row, m_is_bare_row⟩ := D_is_bare_row
  have b_is_bare_row : Binds K d_is_bare_row ["value", "size"] [] := F_is_bare_row.binds (ps := ["value", "size"]) fun _ _ _ _ _ _ us hl => match us, hl with | [_, _], _ => rfl
  have h_is_bare_row : Fd P w K mg base 2 "is_bare_row" ["value", "size"] s_bare :=
    Fd.imp0 (fd_is_bare_row G h_is_from F_is_bare_row m_is_bare_row b_is_bare_row) ok_bare
  obtain ⟨f_is_row, d_is_row, F_is_row, m_is_row⟩ := D_is_row
  have b_is_row : Binds K d_is_row ["value", "size"] [] := F_is_row.binds (ps := ["value", "size"]) fun _ _ _ _ _ _ us hl => match us, hl with | [_, _], _ => rfl
  have h_is_row : Fd P w K mg base 3 "is_row" ["value", "size"] s_isrow :=
    Fd.imp0 (fd_is_row G h_is_bare_row F_is_row m_is_row b_is_row) ok_isrow
  obtain ⟨f_is_program, d_is_program, F_is_program, m_is_program⟩ := D_is_program
  have b_is_program : Binds K d_is_program ["value"] [] := F_is_program.binds (ps := ["value"]) fun _ _ _ _ _ _ us hl => match us, hl with | [_], _ => rfl
  have h_is_program : Fd P w K mg base 4 "is_program" ["value"] s_isprog :=
    Fd.imp0 (fd_is_program G h_is_row F_is_program m_is_program b_is_program) ok_isprog
  obtain ⟨f_are_programs, d_are_programs, F_are_programs, m_are_programs⟩ := D_are_programs
  have b_are_programs : Binds K d_are_programs ["value"] [] := F_are_programs.binds (ps := ["value"]) fun _ _ _ _ _ _ us hl => match us, hl with | [_], _ => rfl
  have h_are_programs : Fd P w K mg base 5 "are_programs" ["value"] s_areprogs :=
    Fd.imp0 (fd_are_programs G h_is_program F_are_programs m_are_programs b_are_programs) ok_areprogs
  obtain ⟨f_need_programs, d_need_programs, F_need_programs, m_need_programs⟩ := D_need_programs
  have b_need_programs : Binds K d_need_programs ["value"] [] := F_need_programs.binds (ps := ["value"]) fun _ _ _ _ _ _ us hl => match us, hl with | [_], _ => rfl
  have h_need_programs : Fd P w K mg base 6 "need_programs" ["value"] s_needprogs :=
    Fd.imp0 (fd_need_programs G h_are_programs F_need_programs m_need_programs b_need_programs) ok_needprogs
  obtain ⟨f_need_facts, d_need_facts, F_need_facts, m_need_facts⟩ := D_need_facts
  have b_need_facts : Binds K d_need_facts ["value"] [] := F_need_facts.binds (ps := ["value"]) fun _ _ _ _ _ _ us hl => match us, hl with | [_], _ => rfl
  have h_need_facts : Fd P w K mg base 1 "need_facts" ["value"] s_needfacts :=
    Fd.imp0 (fd_need_facts G  F_need_facts m_need_facts b_need_facts) ok_needfacts
  obtain ⟨f_is_mark, d_is_mark, F_is_mark, m_is_mark⟩ := D_is_mark
  have b_is_mark : Binds K d_is_mark ["value"] [] := F_is_mark.binds (ps := ["value"]) fun _ _ _ _ _ _ us hl => match us, hl with | [_], _ => rfl
  have h_is_mark : Fd P w K mg base 2 "is_mark" ["value"] s_mark :=
    Fd.imp0 (fd_is_mark G h_is_from F_is_mark m_is_mark b_is_mark) ok_mark
  obtain ⟨f_is_process, d_is_process, F_is_process, m_is_process⟩ := D_is_process
  have b_is_process : Binds K d_is_process ["program", "value"] [] := F_is_process.binds (ps := ["program", "value"]) fun _ _ _ _ _ _ us hl => match us, hl with | [_, _], _ => rfl
  have h_is_process : Fd P w K mg base 3 "is_process" ["program", "value"] s_process :=
    Fd.imp0 (fd_is_process G h_is_from h_is_mark F_is_process m_is_process b_is_process) ok_process
  obtain ⟨f_live_marks, d_live_marks, F_live_marks, m_live_marks⟩ := D_live_marks
  have b_live_marks : Binds K d_live_marks ["stand"] [] := F_live_marks.binds (ps := ["stand"]) fun _ _ _ _ _ _ us hl => match us, hl with | [_], _ => rfl
  have h_live_marks : Fd P w K mg base 1 "live_marks" ["stand"] s_live :=
    Fd.imp0 (fd_live_marks G  F_live_marks m_live_marks b_live_marks) ok_live
  obtain ⟨f_is_stand, d_is_stand, F_is_stand, m_is_stand⟩ := D_is_stand
  have b_is_stand : Binds K d_is_stand ["programs", "value"] [] := F_is_stand.binds (ps := ["programs", "value"]) fun _ _ _ _ _ _ us hl => match us, hl with | [_, _], _ => rfl
  have h_is_stand : Fd P w K mg base 7 "is_stand" ["programs", "value"] s_isstand :=
    Fd.imp0 (fd_is_stand G h_need_programs h_is_mark h_is_process h_live_marks F_is_stand m_is_stand b_is_stand) ok_isstand
  obtain ⟨f_need_stand, d_need_stand, F_need_stand, m_need_stand⟩ := D_need_stand
  have b_need_stand : Binds K d_need_stand ["programs", "value"] [] := F_need_stand.binds (ps := ["programs", "value"]) fun _ _ _ _ _ _ us hl => match us, hl with | [_, _], _ => rfl
  have h_need_stand : Fd P w K mg base 8 "need_stand" ["programs", "value"] s_needstand :=
    Fd.imp0 (fd_need_stand G h_is_stand F_need_stand m_need_stand b_need_stand) ok_needstand
  obtain ⟨f_is_event, d_is_event, F_is_event, m_is_event⟩ := D_is_event
  have b_is_event : Binds K d_is_event ["programs", "value"] [] := F_is_event.binds (ps := ["programs", "value"]) fun _ _ _ _ _ _ us hl => match us, hl with | [_, _], _ => rfl
  have h_is_event : Fd P w K mg base 3 "is_event" ["programs", "value"] s_isevent :=
    Fd.imp0 (fd_is_event G h_is_from h_is_mark F_is_event m_is_event b_is_event) ok_isevent
  obtain ⟨f_need_event, d_need_event, F_need_event, m_need_event⟩ := D_need_event
  have b_need_event : Binds K d_need_event ["programs", "value"] [] := F_need_event.binds (ps := ["programs", "value"]) fun _ _ _ _ _ _ us hl => match us, hl with | [_, _], _ => rfl
  have h_need_event : Fd P w K mg base 4 "need_event" ["programs", "value"] s_needevent :=
    Fd.imp0 (fd_need_event G h_is_event F_need_event m_need_event b_need_event) ok_needevent
  obtain ⟨f_marks_of, d_marks_of, F_marks_of, m_marks_of⟩ := D_marks_of
  have b_marks_of : Binds K d_marks_of ["stand"] [] := F_marks_of.binds (ps := ["stand"]) fun _ _ _ _ _ _ us hl => match us, hl with | [_], _ => rfl
  have h_marks_of : Fd P w K mg base 1 "marks_of" ["stand"] s_marksof :=
    Fd.imp0 (fd_marks_of G  F_marks_of m_marks_of b_marks_of) ok_marksof
  obtain ⟨f_may_start, d_may_start, F_may_start, m_may_start⟩ := D_may_start
  have b_may_start : Binds K d_may_start ["facts", "stand", "slot", "mark"] [] := F_may_start.binds (ps := ["facts", "stand", "slot", "mark"]) fun _ _ _ _ _ _ us hl => match us, hl with | [_, _, _, _], _ => rfl
  have h_may_start : Fd P w K mg base 2 "may_start" ["facts", "stand", "slot", "mark"] s_maystart :=
    Fd.imp0 (fd_may_start G h_live_marks h_marks_of F_may_start m_may_start b_may_start) ok_maystart
  obtain ⟨f_with_slot, d_with_slot, F_with_slot, m_with_slot⟩ := D_with_slot
  have b_with_slot : Binds K d_with_slot ["stand", "slot", "lock", "process"] [] := F_with_slot.binds (ps := ["stand", "slot", "lock", "process"]) fun _ _ _ _ _ _ us hl => match us, hl with | [_, _, _, _], _ => rfl
  have h_with_slot : Fd P w K mg base 1 "with_slot" ["stand", "slot", "lock", "process"] s_withslot :=
    Fd.imp0 (fd_with_slot G  F_with_slot m_with_slot b_with_slot) ok_withslot
  obtain ⟨f_bare_row, d_bare_row, F_bare_row, m_bare_row⟩ := D_bare_row
  have b_bare_row : Binds K d_bare_row ["row"] [] := F_bare_row.binds (ps := ["row"]) fun _ _ _ _ _ _ us hl => match us, hl with | [_], _ => rfl
  have h_bare_row : Fd P w K mg base 1 "bare_row" ["row"] s_barerow :=
    Fd.imp0 (fd_bare_row G  F_bare_row m_bare_row b_bare_row) ok_barerow
  obtain ⟨f_word_at, d_word_at, F_word_at, m_word_at⟩ := D_word_at
  have b_word_at : Binds K d_word_at ["program", "place"] [] := F_word_at.binds (ps := ["program", "place"]) fun _ _ _ _ _ _ us hl => match us, hl with | [_, _], _ => rfl
  have h_word_at : Fd P w K mg base 2 "word_at" ["program", "place"] s_wordat :=
    Fd.imp0 (fd_word_at G h_bare_row F_word_at m_word_at b_word_at) ok_wordat
  obtain ⟨f_may_judge, d_may_judge, F_may_judge, m_may_judge⟩ := D_may_judge
  have b_may_judge : Binds K d_may_judge ["facts", "stand", "judged"] [] := F_may_judge.binds (ps := ["facts", "stand", "judged"]) fun _ _ _ _ _ _ us hl => match us, hl with | [_, _, _], _ => rfl
  have h_may_judge : Fd P w K mg base 2 "may_judge" ["facts", "stand", "judged"] s_mayjudge :=
    Fd.imp0 (fd_may_judge G h_live_marks F_may_judge m_may_judge b_may_judge) ok_mayjudge
  obtain ⟨f_row_make, d_row_make, F_row_make, m_row_make⟩ := D_row_make
  have b_row_make : Binds K d_row_make ["lock", "own", "note", "pocket"] [] := F_row_make.binds (ps := ["lock", "own", "note", "pocket"]) fun _ _ _ _ _ _ us hl => match us, hl with | [_, _, _, _], _ => rfl
  have h_row_make : Fd P w K mg base 1 "row_make" ["lock", "own", "note", "pocket"] (s_rowF .make) :=
    Fd.imp0 (fd_row_make G  F_row_make m_row_make b_row_make) ok_row_make
  obtain ⟨f_row_read, d_row_read, F_row_read, m_row_read⟩ := D_row_read
  have b_row_read : Binds K d_row_read ["lock", "own", "note", "pocket"] [] := F_row_read.binds (ps := ["lock", "own", "note", "pocket"]) fun _ _ _ _ _ _ us hl => match us, hl with | [_, _, _, _], _ => rfl
  have h_row_read : Fd P w K mg base 1 "row_read" ["lock", "own", "note", "pocket"] (s_rowF .read) :=
    Fd.imp0 (fd_row_read G  F_row_read m_row_read b_row_read) ok_row_read
  obtain ⟨f_row_same, d_row_same, F_row_same, m_row_same⟩ := D_row_same
  have b_row_same : Binds K d_row_same ["lock", "own", "note", "pocket"] [] := F_row_same.binds (ps := ["lock", "own", "note", "pocket"]) fun _ _ _ _ _ _ us hl => match us, hl with | [_, _, _, _], _ => rfl
  have h_row_same : Fd P w K mg base 1 "row_same" ["lock", "own", "note", "pocket"] (s_rowF .same) :=
    Fd.imp0 (fd_row_same G  F_row_same m_row_same b_row_same) ok_row_same
  obtain ⟨f_row_mine, d_row_mine, F_row_mine, m_row_mine⟩ := D_row_mine
  have b_row_mine : Binds K d_row_mine ["lock", "own", "note", "pocket"] [] := F_row_mine.binds (ps := ["lock", "own", "note", "pocket"]) fun _ _ _ _ _ _ us hl => match us, hl with | [_, _, _, _], _ => rfl
  have h_row_mine : Fd P w K mg base 1 "row_mine" ["lock", "own", "note", "pocket"] (s_rowF .mine) :=
    Fd.imp0 (fd_row_mine G  F_row_mine m_row_mine b_row_mine) ok_row_mine
  obtain ⟨f_row_drop, d_row_drop, F_row_drop, m_row_drop⟩ := D_row_drop
  have b_row_drop : Binds K d_row_drop ["lock", "own", "note", "pocket"] [] := F_row_drop.binds (ps := ["lock", "own", "note", "pocket"]) fun _ _ _ _ _ _ us hl => match us, hl with | [_, _, _, _], _ => rfl
  have h_row_drop : Fd P w K mg base 1 "row_drop" ["lock", "own", "note", "pocket"] (s_rowF .drop) :=
    Fd.imp0 (fd_row_drop G  F_row_drop m_row_drop b_row_drop) ok_row_drop
  obtain ⟨f_row_swap, d_row_swap, F_row_swap, m_row_swap⟩ := D_row_swap
  have b_row_swap : Binds K d_row_swap ["lock", "own", "note", "pocket"] [] := F_row_swap.binds (ps := ["lock", "own", "note", "pocket"]) fun _ _ _ _ _ _ us hl => match us, hl with | [_, _, _, _], _ => rfl
  have h_row_swap : Fd P w K mg base 1 "row_swap" ["lock", "own", "note", "pocket"] (s_rowF .swap) :=
    Fd.imp0 (fd_row_swap G  F_row_swap m_row_swap b_row_swap) ok_row_swap
  obtain ⟨f_row_drop_same, d_row_drop_same, F_row_drop_same, m_row_drop_same⟩ := D_row_drop_same
  have b_row_drop_same : Binds K d_row_drop_same ["lock", "own", "note", "pocket"] [] := F_row_drop_same.binds (ps := ["lock", "own", "note", "pocket"]) fun _ _ _ _ _ _ us hl => match us, hl with | [_, _, _, _], _ => rfl
  have h_row_drop_same : Fd P w K mg base 1 "row_drop_same" ["lock", "own", "note", "pocket"] (s_rowF .dropsame) :=
    Fd.imp0 (fd_row_drop_same G  F_row_drop_same m_row_drop_same b_row_drop_same) ok_row_drop_same
  obtain ⟨f_row_move, d_row_move, F_row_move, m_row_move⟩ := D_row_move
  have b_row_move : Binds K d_row_move ["lock", "own", "note", "pocket"] [] := F_row_move.binds (ps := ["lock", "own", "note", "pocket"]) fun _ _ _ _ _ _ us hl => match us, hl with | [_, _, _, _], _ => rfl
  have h_row_move : Fd P w K mg base 1 "row_move" ["lock", "own", "note", "pocket"] (s_rowF .move) :=
    Fd.imp0 (fd_row_move G  F_row_move m_row_move b_row_move) ok_row_move
  obtain ⟨f_row_back, d_row_back, F_row_back, m_row_back⟩ := D_row_back
  have b_row_back : Binds K d_row_back ["lock", "own", "note", "pocket"] [] := F_row_back.binds (ps := ["lock", "own", "note", "pocket"]) fun _ _ _ _ _ _ us hl => match us, hl with | [_, _, _, _], _ => rfl
  have h_row_back : Fd P w K mg base 1 "row_back" ["lock", "own", "note", "pocket"] (s_rowF .back) :=
    Fd.imp0 (fd_row_back G  F_row_back m_row_back b_row_back) ok_row_back
  obtain ⟨f_row_caught, d_row_caught, F_row_caught, m_row_caught⟩ := D_row_caught
  have b_row_caught : Binds K d_row_caught ["lock", "own", "note", "pocket"] [] := F_row_caught.binds (ps := ["lock", "own", "note", "pocket"]) fun _ _ _ _ _ _ us hl => match us, hl with | [_, _, _, _], _ => rfl
  have h_row_caught : Fd P w K mg base 1 "row_caught" ["lock", "own", "note", "pocket"] (s_rowF .caught) :=
    Fd.imp0 (fd_row_caught G  F_row_caught m_row_caught b_row_caught) ok_row_caught
  obtain ⟨f_done, d_done, F_done, m_done⟩ := D_done
  have b_done : Binds K d_done ["row", "lock", "process", "live", "judged"] [] := F_done.binds (ps := ["row", "lock", "process", "live", "judged"]) fun _ _ _ _ _ _ us hl => match us, hl with | [_, _, _, _, _], _ => rfl
  have h_done : Fd P w K mg base 2 "done" ["row", "lock", "process", "live", "judged"] s_done :=
    Fd.imp0 (fd_done G h_row_make h_row_read h_row_same h_row_mine h_row_drop h_row_swap h_row_drop_same h_row_move h_row_back h_row_caught F_done m_done b_done) (ok_done (FAof mg))
  obtain ⟨f_advanced, d_advanced, F_advanced, m_advanced⟩ := D_advanced
  have b_advanced : Binds K d_advanced ["program", "lock", "process", "live", "judged"] [] := F_advanced.binds (ps := ["program", "lock", "process", "live", "judged"]) fun _ _ _ _ _ _ us hl => match us, hl with | [_, _, _, _, _], _ => rfl
  have h_advanced : Fd P w K mg base 3 "advanced" ["program", "lock", "process", "live", "judged"] s_advanced :=
    Fd.imp0 (fd_advanced G h_done h_bare_row h_word_at F_advanced m_advanced b_advanced) ok_advanced
  obtain ⟨f_behind, d_behind, F_behind, m_behind⟩ := D_behind
  have b_behind : Binds K d_behind ["programs", "facts", "stand", "event"] [] := F_behind.binds (ps := ["programs", "facts", "stand", "event"]) fun _ _ _ _ _ _ us hl => match us, hl with | [_, _, _, _], _ => rfl
  have h_behind : Fd P w K mg base 4 "behind" ["programs", "facts", "stand", "event"] s_behind :=
    Fd.imp0 (fd_behind G h_may_start h_with_slot h_word_at h_may_judge h_advanced h_live_marks F_behind m_behind b_behind) ok_behind
  obtain ⟨f_after, d_after, F_after, m_after⟩ := D_after
  have b_after : Binds K d_after ["programs", "facts", "stand", "event"] [] := F_after.binds (ps := ["programs", "facts", "stand", "event"]) fun _ _ _ _ _ _ us hl => match us, hl with | [_, _, _, _], _ => rfl
  have h_after : Fd P w K mg base 9 "after" ["programs", "facts", "stand", "event"] s_after :=
    Fd.imp0 (fd_after G h_need_programs h_need_facts h_need_stand h_need_event h_behind F_after m_after b_after) ok_after
  exact fn_imp0 (fd_law G h__law_source h__law_short h__law_bare h__law_draw h__law_stand h_after F_law) ok_law9
end
end Wk
open PySem PySem.W PyProof.Rows
set_option maxRecDepth 100000 in
set_option maxHeartbeats 0 in
theorem PySem.Challenge.cw_stalelocks_k09_whole_joined_rows_are_don_holds : PySem.Challenge.rw_stalelocks_k09_whole_joined_rows_are_don.Holds := by
  w_on; o_law; k_head; (case hw => w_witness2)
  k_fill
  refine L2.walk_ofB (l := PySem.Challenge.rw_stalelocks_k09_whole_joined_rows_are_don) (n := 63) (k := 10) (x := "script") (CX := fun w => L2.CX PySem.Challenge.rw_stalelocks_k09_whole_joined_rows_are_don.prog w) (sp := fun w => L3.spLaw _) rfl (by decide) rfl ⟨rfl, by decide, by decide⟩ (fun w h Y => PySem.W.kIn_of Y) ?F (fun _ _ a ns hl _ hO hS => ⟨a, ns, rfl, L3.sqF_of hO hS, hl, fun _ => rfl⟩) (fun _ _ _ _ _ h => L3.cx_false h)
  case F =>
    intro w mg fa h KX G hmg
    have D__law_source := L3.dfn (x := "_law_source") (st := Wk.topS 61) KX G (by k_is) (by k_is) (by k_is) (by k_is)
    have D__law_draw := L3.dfn (x := "_law_draw") (st := Wk.topS 62) KX G (by k_is) (by k_is) (by k_is) (by k_is)
    have D__law_choice := L3.dfn (x := "_law_choice") (st := Wk.topS 63) KX G (by k_is) (by k_is) (by k_is) (by k_is)
    have D__law_row := L3.dfn (x := "_law_row") (st := Wk.topS 65) KX G (by k_is) (by k_is) (by k_is) (by k_is)
    have D__law_words := L3.dfn (x := "_law_words") (st := Wk.topS 66) KX G (by k_is) (by k_is) (by k_is) (by k_is)
    have D__law_short := L3.dfn (x := "_law_short") (st := Wk.topS 67) KX G (by k_is) (by k_is) (by k_is) (by k_is)
    have D__law_bare := L3.dfn (x := "_law_bare") (st := Wk.topS 64) KX G (by k_is) (by k_is) (by k_is) (by k_is)
    have D__law_process := L3.dfn (x := "_law_process") (st := Wk.topS 68) KX G (by k_is) (by k_is) (by k_is) (by k_is)
    have D__law_stand := L3.dfn (x := "_law_stand") (st := Wk.topS 69) KX G (by k_is) (by k_is) (by k_is) (by k_is)
    have D_is_from := L3.dfn (x := "is_from") (st := Wk.topS 12) KX G (by k_is) (by k_is) (by k_is) (by k_is)
    have D_is_bare_row := L3.dfn (x := "is_bare_row") (st := Wk.topS 13) KX G (by k_is) (by k_is) (by k_is) (by k_is)
    have D_is_row := L3.dfn (x := "is_row") (st := Wk.topS 14) KX G (by k_is) (by k_is) (by k_is) (by k_is)
    have D_is_program := L3.dfn (x := "is_program") (st := Wk.topS 15) KX G (by k_is) (by k_is) (by k_is) (by k_is)
    have D_are_programs := L3.dfn (x := "are_programs") (st := Wk.topS 25) KX G (by k_is) (by k_is) (by k_is) (by k_is)
    have D_need_programs := L3.dfn (x := "need_programs") (st := Wk.topS 26) KX G (by k_is) (by k_is) (by k_is) (by k_is)
    have D_need_facts := L3.dfn (x := "need_facts") (st := Wk.topS 27) KX G (by k_is) (by k_is) (by k_is) (by k_is)
    have D_is_mark := L3.dfn (x := "is_mark") (st := Wk.topS 28) KX G (by k_is) (by k_is) (by k_is) (by k_is)
    have D_is_process := L3.dfn (x := "is_process") (st := Wk.topS 29) KX G (by k_is) (by k_is) (by k_is) (by k_is)
    have D_live_marks := L3.dfn (x := "live_marks") (st := Wk.topS 30) KX G (by k_is) (by k_is) (by k_is) (by k_is)
    have D_is_stand := L3.dfn (x := "is_stand") (st := Wk.topS 31) KX G (by k_is) (by k_is) (by k_is) (by k_is)
    have D_need_stand := L3.dfn (x := "need_stand") (st := Wk.topS 32) KX G (by k_is) (by k_is) (by k_is) (by k_is)
    have D_is_event := L3.dfn (x := "is_event") (st := Wk.topS 57) KX G (by k_is) (by k_is) (by k_is) (by k_is)
    have D_need_event := L3.dfn (x := "need_event") (st := Wk.topS 58) KX G (by k_is) (by k_is) (by k_is) (by k_is)
    have D_marks_of := L3.dfn (x := "marks_of") (st := Wk.topS 33) KX G (by k_is) (by k_is) (by k_is) (by k_is)
    have D_may_start := L3.dfn (x := "may_start") (st := Wk.topS 53) KX G (by k_is) (by k_is) (by k_is) (by k_is)
    have D_with_slot := L3.dfn (x := "with_slot") (st := Wk.topS 55) KX G (by k_is) (by k_is) (by k_is) (by k_is)
    have D_bare_row := L3.dfn (x := "bare_row") (st := Wk.topS 16) KX G (by k_is) (by k_is) (by k_is) (by k_is)
    have D_word_at := L3.dfn (x := "word_at") (st := Wk.topS 17) KX G (by k_is) (by k_is) (by k_is) (by k_is)
    have D_may_judge := L3.dfn (x := "may_judge") (st := Wk.topS 54) KX G (by k_is) (by k_is) (by k_is) (by k_is)
    have D_row_make := L3.dfn (x := "row_make") (st := Wk.topS 40) KX G (by k_is) (by k_is) (by k_is) (by k_is)
    have D_row_read := L3.dfn (x := "row_read") (st := Wk.topS 41) KX G (by k_is) (by k_is) (by k_is) (by k_is)
    have D_row_same := L3.dfn (x := "row_same") (st := Wk.topS 42) KX G (by k_is) (by k_is) (by k_is) (by k_is)
    have D_row_mine := L3.dfn (x := "row_mine") (st := Wk.topS 43) KX G (by k_is) (by k_is) (by k_is) (by k_is)
    have D_row_drop := L3.dfn (x := "row_drop") (st := Wk.topS 44) KX G (by k_is) (by k_is) (by k_is) (by k_is)
    have D_row_swap := L3.dfn (x := "row_swap") (st := Wk.topS 46) KX G (by k_is) (by k_is) (by k_is) (by k_is)
    have D_row_drop_same := L3.dfn (x := "row_drop_same") (st := Wk.topS 45) KX G (by k_is) (by k_is) (by k_is) (by k_is)
    have D_row_move := L3.dfn (x := "row_move") (st := Wk.topS 47) KX G (by k_is) (by k_is) (by k_is) (by k_is)
    have D_row_back := L3.dfn (x := "row_back") (st := Wk.topS 48) KX G (by k_is) (by k_is) (by k_is) (by k_is)
    have D_row_caught := L3.dfn (x := "row_caught") (st := Wk.topS 49) KX G (by k_is) (by k_is) (by k_is) (by k_is)
    have D_done := L3.dfn (x := "done") (st := Wk.topS 51) KX G (by k_is) (by k_is) (by k_is) (by k_is)
    have D_advanced := L3.dfn (x := "advanced") (st := Wk.topS 52) KX G (by k_is) (by k_is) (by k_is) (by k_is)
    have D_behind := L3.dfn (x := "behind") (st := Wk.topS 56) KX G (by k_is) (by k_is) (by k_is) (by k_is)
    have D_after := L3.dfn (x := "after") (st := Wk.topS 59) KX G (by k_is) (by k_is) (by k_is) (by k_is)
    have D_law := L3.dfn (x := "law") (st := Wk.topS 70) KX G (by k_is) (by k_is) (by k_is) (by k_is)
    have n_abs : mg "abs" = none := PySem.W.mg_none_of KX G (by k_is)
    have n_all : mg "all" = none := PySem.W.mg_none_of KX G (by k_is)
    have n_bool : mg "bool" = none := PySem.W.mg_none_of KX G (by k_is)
    have n_enumerate : mg "enumerate" = none := PySem.W.mg_none_of KX G (by k_is)
    have n_int : mg "int" = none := PySem.W.mg_none_of KX G (by k_is)
    have n_isinstance : mg "isinstance" = none := PySem.W.mg_none_of KX G (by k_is)
    have n_len : mg "len" = none := PySem.W.mg_none_of KX G (by k_is)
    have n_min : mg "min" = none := PySem.W.mg_none_of KX G (by k_is)
    have n_range : mg "range" = none := PySem.W.mg_none_of KX G (by k_is)
    have n_set : mg "set" = none := PySem.W.mg_none_of KX G (by k_is)
    have n_str : mg "str" = none := PySem.W.mg_none_of KX G (by k_is)
    have n_tuple : mg "tuple" = none := PySem.W.mg_none_of KX G (by k_is)
    have n_zip : mg "zip" = none := PySem.W.mg_none_of KX G (by k_is)
    have c_MOST_ROWS : L3.GlobZ _ mg "MOST_ROWS" L3.g_MOST_ROWS := L3.glob_int KX G (by k_is)
    have c_JUMPS : L3.GlobZ _ mg "JUMPS" L3.g_JUMPS := L3.glob_strs ["make", "read", "dead", "old", "same", "mine", "dropsame", "swap", "move", "back", "caught", "go"] KX G (by k_is) (by k_is) (by repeat (first | exact .nil | refine .cons ⟨_, rfl⟩ ?_)) (by decide)
    have c_STEPS : L3.GlobZ _ mg "STEPS" L3.g_STEPS := L3.glob_strs ["drop", "enter", "leave"] KX G (by k_is) (by k_is) (by repeat (first | exact .nil | refine .cons ⟨_, rfl⟩ ?_)) (by decide)
    have c_JOIN : L3.GlobZ _ mg "JOIN" L3.g_JOIN := L3.glob_str KX G (by k_is)
    have c_ALONE : L3.GlobZ _ mg "ALONE" L3.g_ALONE := L3.glob_strs ["old", "enter", "leave"] KX G (by k_is) (by k_is) (by repeat (first | exact .nil | refine .cons ⟨_, rfl⟩ ?_)) (by decide)
    have c_MOST_SLOTS : L3.GlobZ _ mg "MOST_SLOTS" L3.g_MOST_SLOTS := L3.glob_int KX G (by k_is)
    have c_MOST_MARK : L3.GlobZ _ mg "MOST_MARK" L3.g_MOST_MARK := L3.glob_int KX G (by k_is)
    have c_FRESH : L3.GlobZ _ mg "FRESH" L3.g_FRESH := L3.glob_str KX G (by k_is)
    have c_PROMPT : L3.GlobZ _ mg "PROMPT" L3.g_PROMPT := L3.glob_str KX G (by k_is)
    have c_STEADY : L3.GlobZ _ mg "STEADY" L3.g_STEADY := L3.glob_str KX G (by k_is)
    have c_FACTS : L3.GlobZ _ mg "FACTS" L3.g_FACTS := L3.glob_strs ["fresh", "prompt", "steady"] KX G (by k_is) (by k_is) (by repeat (first | exact .nil | refine .cons ⟨_, rfl⟩ ?_)) (by decide)
    have c_START : L3.GlobZ _ mg "START" L3.g_START := L3.glob_str KX G (by k_is)
    have c_DIE : L3.GlobZ _ mg "DIE" L3.g_DIE := L3.glob_str KX G (by k_is)
    have c_JUDGE : L3.GlobZ _ mg "JUDGE" L3.g_JUDGE := L3.glob_str KX G (by k_is)
    have c_DEEDS : L3.GlobZ _ mg "DEEDS" L3.g_DEEDS := L3.glob_strs ["die", "judge", "start", "step"] KX G (by k_is) (by k_is) (by repeat (first | exact .nil | refine .cons ⟨_, rfl⟩ ?_)) (by decide)
    have t_ACTIONS : L3.TabOk _ mg w "ACTIONS" L3.tab_ACTIONS := L3.tabOk (x := "ACTIONS") KX G (by k_is) (by k_is) (by k_keys) (by decide) (L3.rows_some (PySem.W.mg_of KX G (by k_is)) (by k_is) (L3.rows_some (PySem.W.mg_of KX G (by k_is)) (by k_is) (L3.rows_none (by k_is) (L3.rows_none (by k_is) (L3.rows_some (PySem.W.mg_of KX G (by k_is)) (by k_is) (L3.rows_some (PySem.W.mg_of KX G (by k_is)) (by k_is) (L3.rows_some (PySem.W.mg_of KX G (by k_is)) (by k_is) (L3.rows_some (PySem.W.mg_of KX G (by k_is)) (by k_is) (L3.rows_some (PySem.W.mg_of KX G (by k_is)) (by k_is) (L3.rows_some (PySem.W.mg_of KX G (by k_is)) (by k_is) (L3.rows_some (PySem.W.mg_of KX G (by k_is)) (by k_is) (L3.rows_none (by k_is) (L3.rows_some (PySem.W.mg_of KX G (by k_is)) (by k_is) (L3.rows_none (by k_is) (L3.rows_none (by k_is) L3.rows_nil)))))))))))))))
    have x_InvalidEvent := L3.exCls (x := "InvalidEvent") KX G (by k_is) (by k_exc) (by k_is) (by k_is) (by k_is) (by k_is)
    have x_InvalidFacts := L3.exCls (x := "InvalidFacts") KX G (by k_is) (by k_exc) (by k_is) (by k_is) (by k_is) (by k_is)
    have x_InvalidPrograms := L3.exCls (x := "InvalidPrograms") KX G (by k_is) (by k_exc) (by k_is) (by k_is) (by k_is) (by k_is)
    have x_InvalidStand := L3.exCls (x := "InvalidStand") KX G (by k_is) (by k_exc) (by k_is) (by k_is) (by k_is) (by k_is)
    have GG : Wk.Glo _ mg w := ⟨n_abs, n_all, n_bool, n_enumerate, n_int, n_isinstance, n_len, n_min, n_range, n_set, n_str, n_tuple, n_zip, c_MOST_ROWS, c_JUMPS, c_STEPS, c_JOIN, c_ALONE, c_MOST_SLOTS, c_MOST_MARK, c_FRESH, c_PROMPT, c_STEADY, c_FACTS, c_START, c_DIE, c_JUDGE, c_DEEDS, t_ACTIONS, x_InvalidEvent, x_InvalidFacts, x_InvalidPrograms, x_InvalidStand⟩
    obtain ⟨f, fd, F_law, hf⟩ := D_law
    cases hmg.symm.trans hf
    exact ⟨fd, fun s u => by obtain ⟨_, _, _, _, _, _, _, _, _, rfl, _, _⟩ := F_law.ex; exact .of_eq rfl, fun base _ _ => L3.law_end (Wk.all_ok GG D__law_source D__law_draw D__law_choice D__law_row D__law_words D__law_short D__law_bare D__law_process D__law_stand D_is_from D_is_bare_row D_is_row D_is_program D_are_programs D_need_programs D_need_facts D_is_mark D_is_process D_live_marks D_is_stand D_need_stand D_is_event D_need_event D_marks_of D_may_start D_with_slot D_bare_row D_word_at D_may_judge D_row_make D_row_read D_row_same D_row_mine D_row_drop D_row_swap D_row_drop_same D_row_move D_row_back D_row_caught D_done D_advanced D_behind D_after F_law)⟩
