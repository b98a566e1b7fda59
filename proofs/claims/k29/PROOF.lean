import PyProof.Rows.All
import Wide.All
import OpenK.AllK
import Wide.FinOn
import HandS.ForMost
import HandS.IsInst
import HandS.Wide
import HandS.Flow
import HandS.Deep
import HandS.More
import PySem.Challenge.RW_dustwalk_k29_areas
set_option Elab.async false
set_option linter.all false
set_option maxRecDepth 100000
set_option maxHeartbeats 4000000
namespace Dw
open PySem L2 PyProof.Rows
abbrev D := PyData
abbrev Sg := L2.St
abbrev Cl := Int → Option Addr

structure Ext (B H B' H' : Hp) : Prop where
  b : Same B B'
  h : Same H H'
  sub : Same B' H'
  new : ∀ a, B a = none → H a ≠ none → B' a = none
theorem Same.ne {H H' : Hp} (e : Same H H') {a : Addr} (h : H a ≠ none) : H' a = H a := by
  cases q : H a with
  | none => exact absurd q h
  | some o => exact e a o q
theorem Same.some {H H' : Hp} (e : Same H H') {a : Addr} (h : H a ≠ none) : H' a ≠ none := by
  rw [Same.ne e h]; exact h
theorem Ext.refl {B H : Hp} (s : Same B H) : Ext B H B H := ⟨Same.refl _, Same.refl _, s, fun _ h _ => h⟩
theorem Ext.trans {B H B1 H1 B2 H2 : Hp} (e : Ext B H B1 H1) (f : Ext B1 H1 B2 H2) : Ext B H B2 H2 :=
  ⟨e.b.trans f.b, e.h.trans f.h, f.sub, fun a h1 h2 => f.new a (e.new a h1 h2) (Same.some e.h h2)⟩
theorem same_upd {H : Hp} {p : Addr} {o : HO} (h : H p = none) : Same H (upd H p o) := fun b u q => by
  rw [upd_ne (ne_of_none q h)]; exact q
theorem Ext.lay {B H : Hp} (s : Same B H) {p : Addr} (o : HO) (h : H p = none) : Ext B H (upd B p o) (upd H p o) := by
  have hb : B p = none := s.free h
  refine ⟨same_upd hb, same_upd h, fun b u q => ?_, fun a h1 h2 => ?_⟩
  · by_cases e : b = p
    · subst e; rw [upd_same] at q ⊢; exact q
    · rw [upd_ne e] at q ⊢; exact s b u q
  · by_cases e : a = p
    · subst e; exact absurd h h2
    · rw [upd_ne e]; exact h1
theorem Ext.layH {B H : Hp} (s : Same B H) {p : Addr} (o : HO) (h : H p = none) : Ext B H B (upd H p o) :=
  ⟨Same.refl _, same_upd h, s.trans (same_upd h), fun _ h _ => h⟩
/-- what is new and one's own is laid down for good -/
theorem Ext.freeze {B H B' H' : Hp} (e : Ext B H B' H') {p : Addr} {o : HO} (h : H p = none) (hb : B' p = none) (hp : H' p = some o) : Ext B H (upd B' p o) H' :=
  ⟨e.b.trans (same_upd hb), e.h, fun b u q => by
    by_cases z : b = p
    · subst z; rw [upd_same] at q; cases q; exact hp
    · rw [upd_ne z] at q; exact e.sub b u q, fun a h1 h2 => by
    by_cases z : a = p
    · subst z; exact absurd h h2
    · rw [upd_ne z]; exact e.new a h1 h2⟩

mutual
inductive Tp (K : PySem.W.Frag) (c : Cl) (B : Hp) : V → PyData → Prop
  | non : Tp K c B .non .none
  | bl (b : Bool) : Tp K c B (.bl b) (.bool b)
  | int (i : Int) : Tp K c B (.int i) (.int i)
  | str (x : Str) : Tp K c B (.str x) (.str x)
  | lst {a : Addr} {xs : List V} {ds : List PyData} : Rd B a (.lst xs) → TpAll K c B xs ds → Tp K c B (.ref a) (.list ds)
  | tup {a : Addr} {xs : List V} {ds : List PyData} : SqT K B a xs → TpAll K c B xs ds → Tp K c B (.ref a) (.tuple ds)
  | ob {x dx C : Addr} {n : Int} {fs : List (Str × V)} {kvs : List (PyData × PyData)} : B x = some (.ins C dx fs) → c n = some C → TpF K c B fs kvs → Tp K c B (.ref x) (.dict ((.int n, .none) :: kvs))
inductive TpAll (K : PySem.W.Frag) (c : Cl) (B : Hp) : List V → List PyData → Prop
  | nil : TpAll K c B [] []
  | cons {v : V} {vs : List V} {d : PyData} {ds : List PyData} : Tp K c B v d → TpAll K c B vs ds → TpAll K c B (v :: vs) (d :: ds)
inductive TpF (K : PySem.W.Frag) (c : Cl) (B : Hp) : List (Str × V) → List (PyData × PyData) → Prop
  | nil : TpF K c B [] []
  | cons {f : Str} {v : V} {fs : List (Str × V)} {d : PyData} {kvs : List (PyData × PyData)} : Tp K c B v d → TpF K c B fs kvs → TpF K c B ((f, v) :: fs) ((.str f, d) :: kvs)
end
section
variable {K : PySem.W.Frag} {c : Cl} {H H' : Hp}
theorem Same.tup {a : Addr} {xs : List V} (e : Same H H') (h : SqT K H a xs) : SqT K H' a xs := by
  rcases h with (h | ⟨o, h⟩) | h
  · exact .inl (.inl (e _ _ h))
  · exact .inl (.inr ⟨o, e _ _ h⟩)
  · exact .inr h
theorem Same.rd {a : Addr} {o : HO} (e : Same H H') (h : Rd H a o) : Rd H' a o := h.elim (fun q => .inl (e _ _ q)) fun ⟨u, q⟩ => .inr ⟨u, e _ _ q⟩
mutual
theorem Tp.mono (e : Same H H') : ∀ (d : PyData) (v : V), Tp K c H v d → Tp K c H' v d
  | .none, _, h => by cases h; exact .non
  | .bool b, _, h => by cases h; exact .bl b
  | .int i, _, h => by cases h; exact .int i
  | .str i, _, h => by cases h; exact .str i
  | .list ds, _, h => by
    cases h with
    | lst hs ha => exact .lst (Same.rd e hs) (TpAll.mono e ds _ ha)
  | .tuple ds, _, h => by
    cases h with
    | tup hs ha => exact .tup (Same.tup e hs) (TpAll.mono e ds _ ha)
  | .dict kvs, _, h => by
    cases h with
    | ob hx hc hf => exact .ob (e _ _ hx) hc (TpF.mono e _ _ hf)
theorem TpAll.mono (e : Same H H') : ∀ (ds : List PyData) (vs : List V), TpAll K c H vs ds → TpAll K c H' vs ds
  | [], _, h => by cases h; exact .nil
  | d :: ds, _, h => by
    cases h with
    | cons h1 h2 => exact .cons (Tp.mono e d _ h1) (TpAll.mono e ds _ h2)
theorem TpF.mono (e : Same H H') : ∀ (ds : List (PyData × PyData)) (vs : List (Str × V)), TpF K c H vs ds → TpF K c H' vs ds
  | [], _, h => by cases h; exact .nil
  | (k, d) :: ds, _, h => by
    cases h with
    | cons h1 h2 => exact .cons (Tp.mono e d _ h1) (TpF.mono e ds _ h2)
end
theorem TpAll.length : ∀ {ds : List PyData} {vs : List V}, TpAll K c H vs ds → vs.length = ds.length
  | _, _, .nil => rfl
  | _, _, .cons _ h => by simp [TpAll.length h]
theorem TpAll.get : ∀ {ds : List PyData} {vs : List V} {i : Nat} {d : PyData}, TpAll K c H vs ds → ds[i]? = some d → ∃ v, vs[i]? = some v ∧ Tp K c H v d
  | _, _, _, _, .nil, h => by simp at h
  | _, _, 0, _, .cons h _, e => by simp at e; subst e; exact ⟨_, rfl, h⟩
  | _, _, i + 1, _, .cons _ h, e => by simpa using TpAll.get (i := i) h (by simpa using e)
theorem TpAll.getV : ∀ {ds : List PyData} {vs : List V} {i : Nat} {v : V}, TpAll K c H vs ds → vs[i]? = some v → ∃ d, ds[i]? = some d ∧ Tp K c H v d
  | _, _, _, _, .nil, h => by simp at h
  | _, _, 0, _, .cons h _, e => by simp at e; subst e; exact ⟨_, rfl, h⟩
  | _, _, i + 1, _, .cons _ h, e => by simpa using TpAll.getV (i := i) h (by simpa using e)
theorem TpAll.append : ∀ {ds es : List PyData} {vs us : List V}, TpAll K c H vs ds → TpAll K c H us es → TpAll K c H (vs ++ us) (ds ++ es)
  | _, _, _, _, .nil, h => h
  | _, _, _, _, .cons h t, u => .cons h (TpAll.append t u)
theorem TpAll.take : ∀ {ds : List PyData} {vs : List V} (n : Nat), TpAll K c H vs ds → TpAll K c H (vs.take n) (ds.take n)
  | _, _, 0, _ => .nil
  | _, _, _ + 1, .nil => .nil
  | _, _, n + 1, .cons h t => .cons h (TpAll.take n t)
theorem TpAll.drop : ∀ {ds : List PyData} {vs : List V} (n : Nat), TpAll K c H vs ds → TpAll K c H (vs.drop n) (ds.drop n)
  | _, _, 0, r => r
  | _, _, _ + 1, .nil => .nil
  | _, _, n + 1, .cons _ t => TpAll.drop n t
theorem TpAll.set : ∀ {ds : List PyData} {vs : List V} {d : PyData} {v : V} (n : Nat), TpAll K c H vs ds → Tp K c H v d → TpAll K c H (vs.set n v) (ds.set n d)
  | _, _, _, _, _, .nil, _ => .nil
  | _, _, _, _, 0, .cons _ t, h => .cons h t
  | _, _, _, _, n + 1, .cons h t, r => .cons h (TpAll.set n t r)
mutual
theorem Tp.dp : ∀ (d : PyData) (v : V), Tp K c H v d → d.canLay0 = true → Dp K H v d
  | .none, _, h, _ => by cases h; exact .non
  | .bool b, _, h, _ => by cases h; exact .bl b
  | .int i, _, h, _ => by cases h; exact .int i
  | .str i, _, h, _ => by cases h; exact .str i
  | .list ds, _, h, s => by
    cases h with
    | lst hs ha => exact .lst (.inl hs) (TpAll.dp ds _ ha (by simpa [PyData.canLay0] using s))
  | .tuple ds, _, h, s => by
    cases h with
    | tup hs ha => exact .tup hs (TpAll.dp ds _ ha (by simpa [PyData.canLay0] using s))
  | .dict kvs, _, h, s => by simp [PyData.canLay0] at s
theorem TpAll.dp : ∀ (ds : List PyData) (vs : List V), TpAll K c H vs ds → PyData.canLayAll0 ds = true → DpAll K H vs ds
  | [], _, h, _ => by cases h; exact .nil
  | d :: ds, _, h, s => by
    cases h with
    | cons h1 h2 =>
      have s' : d.canLay0 = true ∧ PyData.canLayAll0 ds = true := by simpa [PyData.canLayAll0] using s
      exact .cons (Tp.dp d _ h1 s'.1) (TpAll.dp ds _ h2 s'.2)
end
end
mutual
inductive Tm (K : PySem.W.Frag) (c : Cl) (Z B : Hp) : V → PyData → Prop
  | of {v : V} {d : PyData} : Tp K c B v d → Tm K c Z B v d
  | lst {a : Addr} {xs : List V} {ds : List PyData} : SqL K Z a xs → TmAll K c Z B xs ds → Tm K c Z B (.ref a) (.list ds)
inductive TmAll (K : PySem.W.Frag) (c : Cl) (Z B : Hp) : List V → List PyData → Prop
  | nil : TmAll K c Z B [] []
  | cons {v : V} {vs : List V} {d : PyData} {ds : List PyData} : Tm K c Z B v d → TmAll K c Z B vs ds → TmAll K c Z B (v :: vs) (d :: ds)
end
section
variable {K : PySem.W.Frag} {c : Cl} {Z Z' B B' : Hp}
mutual
theorem Tm.mono (z : Same Z Z') (e : Same B B') : ∀ (d : PyData) (v : V), Tm K c Z B v d → Tm K c Z' B' v d
  | .list ds, _, h => by
    cases h with
    | of h => exact .of (Tp.mono e _ _ h)
    | lst hs ha => exact .lst (z.seq hs) (TmAll.mono z e ds _ ha)
  | .none, _, h => by cases h with | of h => exact .of (Tp.mono e _ _ h)
  | .bool _, _, h => by cases h with | of h => exact .of (Tp.mono e _ _ h)
  | .int _, _, h => by cases h with | of h => exact .of (Tp.mono e _ _ h)
  | .str _, _, h => by cases h with | of h => exact .of (Tp.mono e _ _ h)
  | .tuple _, _, h => by cases h with | of h => exact .of (Tp.mono e _ _ h)
  | .dict _, _, h => by cases h with | of h => exact .of (Tp.mono e _ _ h)
theorem TmAll.mono (z : Same Z Z') (e : Same B B') : ∀ (ds : List PyData) (vs : List V), TmAll K c Z B vs ds → TmAll K c Z' B' vs ds
  | [], _, h => by cases h; exact .nil
  | d :: ds, _, h => by
    cases h with
    | cons h1 h2 => exact .cons (Tm.mono z e d _ h1) (TmAll.mono z e ds _ h2)
end
mutual
theorem Tm.dpn (s : Same B Z) : ∀ (d : PyData) (v : V), Tm K c Z B v d → d.canLay0 = true → Dp K Z v d
  | .list ds, _, h, l => by
    cases h with
    | of h => exact Tp.dp _ _ (Tp.mono s _ _ h) l
    | lst hs ha => exact .lst hs (TmAll.dpn s ds _ ha (by simpa [PyData.canLay0] using l))
  | .none, _, h, l => by cases h with | of h => exact Tp.dp _ _ (Tp.mono s _ _ h) l
  | .bool _, _, h, l => by cases h with | of h => exact Tp.dp _ _ (Tp.mono s _ _ h) l
  | .int _, _, h, l => by cases h with | of h => exact Tp.dp _ _ (Tp.mono s _ _ h) l
  | .str _, _, h, l => by cases h with | of h => exact Tp.dp _ _ (Tp.mono s _ _ h) l
  | .tuple _, _, h, l => by cases h with | of h => exact Tp.dp _ _ (Tp.mono s _ _ h) l
  | .dict _, _, h, l => by cases h with | of h => exact Tp.dp _ _ (Tp.mono s _ _ h) l
theorem TmAll.dpn (s : Same B Z) : ∀ (ds : List PyData) (vs : List V), TmAll K c Z B vs ds → PyData.canLayAll0 ds = true → DpAll K Z vs ds
  | [], _, h, _ => by cases h; exact .nil
  | d :: ds, _, h, l => by
    have l' : d.canLay0 = true ∧ PyData.canLayAll0 ds = true := by simpa [PyData.canLayAll0] using l
    cases h with
    | cons h1 h2 => exact .cons (Tm.dpn s d _ h1 l'.1) (TmAll.dpn s ds _ h2 l'.2)
end
theorem TmAll.of : ∀ {ds : List PyData} {vs : List V}, TpAll K c B vs ds → TmAll K c Z B vs ds
  | _, _, .nil => .nil
  | _, _, .cons h t => .cons (.of h) (TmAll.of t)
theorem TmAll.length : ∀ {ds : List PyData} {vs : List V}, TmAll K c Z B vs ds → vs.length = ds.length
  | _, _, .nil => rfl
  | _, _, .cons _ h => by simp [TmAll.length h]
theorem TmAll.get : ∀ {ds : List PyData} {vs : List V} {i : Nat} {d : PyData}, TmAll K c Z B vs ds → ds[i]? = some d → ∃ v, vs[i]? = some v ∧ Tm K c Z B v d
  | _, _, _, _, .nil, h => by simp at h
  | _, _, 0, _, .cons h _, e => by simp at e; subst e; exact ⟨_, rfl, h⟩
  | _, _, i + 1, _, .cons _ h, e => by simpa using TmAll.get (i := i) h (by simpa using e)
theorem TmAll.getV : ∀ {ds : List PyData} {vs : List V} {i : Nat} {v : V}, TmAll K c Z B vs ds → vs[i]? = some v → ∃ d, ds[i]? = some d ∧ Tm K c Z B v d
  | _, _, _, _, .nil, h => by simp at h
  | _, _, 0, _, .cons h _, e => by simp at e; subst e; exact ⟨_, rfl, h⟩
  | _, _, i + 1, _, .cons _ h, e => by simpa using TmAll.getV (i := i) h (by simpa using e)
/-- a list, however it lies -/
theorem Tm.seq (s : Same B Z) {v : V} {ds : List PyData} (h : Tm K c Z B v (.list ds)) : ∃ a xs, v = .ref a ∧ SqL K Z a xs ∧ TmAll K c Z B xs ds := by
  cases h with
  | of h =>
    cases h with
    | lst hs ha => exact ⟨_, _, rfl, .inl (Same.rd s hs), TmAll.of ha⟩
  | lst hs ha => exact ⟨_, _, rfl, hs, ha⟩
/-- no list at the top: it may be kept -/
def nolist : PyData → Bool
  | .list _ => false
  | _ => true
theorem Tm.kept {v : V} {d : PyData} (h : Tm K c Z B v d) (n : nolist d = true) : Tp K c B v d := by
  cases h with
  | of h => exact h
  | lst _ _ => cases n
end

structure Slot (K : PySem.W.Frag) (c : Cl) where
  /-- handed in, and to be changed here -/
  par : Bool
  P : Hp → Hp → Hp → V → List Addr → Prop
  stb : ∀ {Z B H B' H' : Hp} {v : V} {fp : List Addr}, P Z B H v fp → Same B B' → (∀ a ∈ fp, B' a = none) → (∀ a ∈ fp, H' a = H a) → P Z B' H' v fp
  dom : ∀ {Z B H : Hp} {v : V} {fp : List Addr}, P Z B H v fp → ∀ a ∈ fp, B a = none ∧ H a ≠ none
section
variable {K : PySem.W.Frag} {c : Cl}
/-- plain data that may be kept -/
def sd (d : D) : Slot K c where
  par := false
  P := fun _ B _ v fp => fp = [] ∧ Tp K c B v d
  stb := fun ⟨h1, h3⟩ e _ _ => ⟨h1, Tp.mono e _ _ h3⟩
  dom := fun ⟨h1, _⟩ a h => absurd (h1 ▸ h) (List.not_mem_nil)
/-- data that is only read here -/
def sb (d : D) : Slot K c where
  par := false
  P := fun Z B _ v fp => fp = [] ∧ Tm K c Z B v d
  stb := fun ⟨h1, h3⟩ e _ _ => ⟨h1, Tm.mono (Same.refl _) e _ _ h3⟩
  dom := fun ⟨h1, _⟩ a h => absurd (h1 ▸ h) (List.not_mem_nil)
/-- a list of one's own, its items plain data -/
def so (ds : List D) (par : Bool := false) : Slot K c where
  par := par
  P := fun _ B H v fp => ∃ p vs, v = .ref p ∧ fp = [p] ∧ B p = none ∧ H p = some (.lst vs) ∧ TpAll K c B vs ds
  stb := fun ⟨p, vs, h0, h1, h3, h4, h5⟩ e f g => ⟨p, vs, h0, h1, f p (by rw [h1]; exact List.mem_cons_self), by rw [g p (by rw [h1]; exact List.mem_cons_self)]; exact h4, TpAll.mono e _ _ h5⟩
  dom := fun ⟨p, vs, h0, h1, h3, h4, h5⟩ a h => by
    have e : a = p := List.mem_singleton.mp (h1 ▸ h)
    subst e
    exact ⟨h3, by rw [h4]; exact fun z => nomatch z⟩
end
abbrev Env (K : PySem.W.Frag) (c : Cl) := List (Option (Slot K c))
/-- what an expression may lean on -/
structure EnvE {K : PySem.W.Frag} {c : Cl} (G : Env K c) (Z B H : Hp) (σ : Sg) : Prop where
  sub : Same B H
  z : Same Z H
  sl : ∀ (i : Nat) (s : Slot K c), G[i]? = some (some s) → ∃ v fp, σ[i]? = some (some v) ∧ s.P Z B H v fp
theorem EnvE.ext {K : PySem.W.Frag} {c : Cl} {G : Env K c} {Z B H B' H' : Hp} {σ : Sg} (h : EnvE G Z B H σ) (e : Ext B H B' H') : EnvE G Z B' H' σ :=
  ⟨e.sub, h.z.trans e.h, fun i s q => by
    obtain ⟨v, fp, h1, h2⟩ := h.sl i s q
    have d1 := s.dom h2
    exact ⟨v, fp, h1, s.stb h2 e.b (fun a ha => e.new a (d1 a ha).1 (d1 a ha).2) fun a ha => Same.ne e.h (d1 a ha).2⟩⟩

/-- what is wanted of a value that is plain data -/
def Gv (K : PySem.W.Frag) (c : Cl) (B H : Hp) (d : D) (Q : VK) : Prop := ∀ v B' H', Ext B H B' H' → Tp K c B' v d → Q v H'
/-- .. of what is new and one's own -/
def Gs (K : PySem.W.Frag) (c : Cl) (B H : Hp) (s : Slot K c) (Q : VK) : Prop := ∀ v B' H' fp, Ext B H B' H' → (∀ Z, s.P Z B' H' v fp) → (∀ a ∈ fp, H a = none) → Q v H'
section
variable {c : Cl}
/-- it is data that may be kept -/
def DE (X : Cx) (G : Env X.K c) (e : Expr) (d : D) : Prop :=
  ∃ t, PE X e t ∧ ∀ Z B H σ Q, EnvE G Z B H σ → Gv X.K c B H d Q → t σ H Q
/-- it is data, to be read -/
def DR (X : Cx) (G : Env X.K c) (e : Expr) (d : D) : Prop :=
  ∃ t, PE X e t ∧ ∀ Z B H σ Q, EnvE G Z B H σ → (∀ v B' H', Ext B H B' H' → Tm X.K c H' B' v d → Q v H') → t σ H Q
/-- it is new -/
def DX (X : Cx) (G : Env X.K c) (e : Expr) (s : Slot X.K c) : Prop :=
  ∃ t, PE X e t ∧ ∀ Z B H σ Q, EnvE G Z B H σ → Gs X.K c B H s Q → t σ H Q
/-- as an argument: s is what the callee may lean on -/
def DA (X : Cx) (G : Env X.K c) (e : Expr) (s : Slot X.K c) : Prop :=
  ∃ t, PE X e t ∧ ∀ Z B H σ Q, EnvE G Z B H σ → (∀ v B' H', Ext B H B' H' → s.P H' B' H' v [] → (∀ B2 H2, Ext B' H' B2 H2 → s.P H2 B2 H2 v []) → Q v H') → t σ H Q
def DT (X : Cx) (G : Env X.K c) (e : Expr) (b : Bool) : Prop :=
  ∃ t, PT X e t ∧ ∀ Z B H σ Q, EnvE G Z B H σ → (∀ B' H', Ext B H B' H' → Q b H') → t σ H Q
def DW (X : Cx) (G : Env X.K c) (e : Expr) (b : Bool) : Prop :=
  ∃ t, PW X e t ∧ ∀ Z B H σ Q, EnvE G Z B H σ → (∀ B' H', Ext B H B' H' → Q b H') → t σ H Q
def DEs (X : Cx) (G : Env X.K c) (es : List Expr) (ds : List D) : Prop :=
  ∃ t, PA X es t ∧ ∀ Z B H σ Q, EnvE G Z B H σ → (∀ vs B' H', Ext B H B' H' → TpAll X.K c B' vs ds → Q vs H') → t σ H Q
def DRs (X : Cx) (G : Env X.K c) (es : List Expr) (ds : List D) : Prop :=
  ∃ t, PA X es t ∧ ∀ Z B H σ Q, EnvE G Z B H σ → (∀ vs B' H', Ext B H B' H' → TmAll X.K c H' B' vs ds → Q vs H') → t σ H Q
inductive SlAll {K : PySem.W.Frag} (Z B H : Hp) : List V → List (Slot K c) → Prop
  | nil : SlAll Z B H [] []
  | cons {v : V} {vs : List V} {s : Slot K c} {ss : List (Slot K c)} : s.P Z B H v [] → SlAll Z B H vs ss → SlAll Z B H (v :: vs) (s :: ss)
def DAs (X : Cx) (G : Env X.K c) (es : List Expr) (ss : List (Slot X.K c)) : Prop :=
  ∃ t, PA X es t ∧ ∀ Z B H σ Q, EnvE G Z B H σ → (∀ vs B' H', Ext B H B' H' → SlAll H' B' H' vs ss → Q vs H') → t σ H Q
/-- an operation of two data that are read; its value is kept -/
def OpD (c : Cl) (X : Cx) (f : Value → Value → Sem Value) (d1 d2 d : D) : Prop :=
  ∃ r, OpR X f r ∧ ∀ B H x y Q, Same B H → Tm X.K c H B x d1 → Tm X.K c H B y d2 → Gv X.K c B H d Q → r x y H Q
/-- .. of kept ones -/
def OpB (c : Cl) (X : Cx) (f : Value → Value → Sem Value) (d1 d2 d : D) : Prop :=
  ∃ r, OpR X f r ∧ ∀ B H x y Q, Same B H → Tp X.K c B x d1 → Tp X.K c B y d2 → Gv X.K c B H d Q → r x y H Q
def UnD (c : Cl) (X : Cx) (f : Value → Sem Value) (d1 d : D) : Prop :=
  ∃ r, UnR X f r ∧ ∀ B H x Q, Same B H → Tm X.K c H B x d1 → Gv X.K c B H d Q → r x H Q
def CallD (c : Cl) (X : Cx) (f : Value) (ds : List D) (d : D) : Prop :=
  ∃ r, CallR X f r ∧ ∀ B H xs Q, Same B H → TmAll X.K c H B xs ds → Gv X.K c B H d Q → r xs H Q
def CallB (c : Cl) (X : Cx) (f : Value) (ds : List D) (s : Slot X.K c) : Prop :=
  ∃ r, CallR X f r ∧ ∀ B H xs Q, Same B H → TpAll X.K c B xs ds → Gs X.K c B H s Q → r xs H Q
/-- an item: it lies as its whole does -/
def IxD (c : Cl) (X : Cx) (d1 d2 d : D) : Prop :=
  ∃ r, IxR X r ∧ ∀ Z B H x y Q, Same B H → Same Z H → Tm X.K c Z B x d1 → Tm X.K c Z B y d2 → (∀ v, Tm X.K c Z B v d → Q v H) → r x y H Q
/-- it is data that stands still -/
def DZ (X : Cx) (G : Env X.K c) (e : Expr) (d : D) : Prop :=
  ∃ t, PE X e t ∧ ∀ Z B H σ Q, EnvE G Z B H σ → (∀ v B' H', Ext B H B' H' → Tm X.K c Z B' v d → Q v H') → t σ H Q

variable {X : Cx} {G : Env X.K c} {a b e f : Expr} {es : List Expr} {ds : List D} {pos : Pos} {d d1 d2 d3 : D} {x : Str} {i : Nat}
theorem gv_of {K : PySem.W.Frag} {B H : Hp} {d : D} {Q : VK} (s : Same B H) (g : Gv K c B H d Q) {v : V} (h : Tp K c B v d) : Q v H := g v B H (Ext.refl s) h

theorem DE.dz (h : DE X G e d) : DZ X G e d := by
  obtain ⟨t, p, r⟩ := h
  exact ⟨t, p, fun Z B H σ Q E g => r Z B H σ Q E fun v B' H' e h => g v B' H' e (.of h)⟩
theorem DZ.dr (h : DZ X G e d) : DR X G e d := by
  obtain ⟨t, p, r⟩ := h
  exact ⟨t, p, fun Z B H σ Q E g => r Z B H σ Q E fun v B' H' e h => g v B' H' e (Tm.mono (E.z.trans e.h) (Same.refl _) _ _ h)⟩
theorem DE.dr (h : DE X G e d) : DR X G e d := by
  obtain ⟨t, p, r⟩ := h
  exact ⟨t, p, fun Z B H σ Q E g => r Z B H σ Q E fun v B' H' e h => g v B' H' e (.of h)⟩
theorem DR.de (h : DR X G e d) (n : nolist d = true := by rfl) : DE X G e d := by
  obtain ⟨t, p, r⟩ := h
  exact ⟨t, p, fun Z B H σ Q E g => r Z B H σ Q E fun v B' H' e h => g v B' H' e (h.kept n)⟩
theorem DE.dx (h : DE X G e d) : DX X G e (sd d) := by
  obtain ⟨t, p, r⟩ := h
  exact ⟨t, p, fun Z B H σ Q E g => r Z B H σ Q E fun v B' H' e h => g v B' H' [] e (fun _ => ⟨rfl, h⟩) fun a z => absurd z List.not_mem_nil⟩
theorem DX.de (h : DX X G e (sd d)) : DE X G e d := by
  obtain ⟨t, p, r⟩ := h
  exact ⟨t, p, fun Z B H σ Q E g => r Z B H σ Q E fun v B' H' fp e h _ => g v B' H' e (h B).2⟩
/-- a new list laid down for good -/
theorem DX.frozen (h : DX X G e (so ds)) : DE X G e (.list ds) := by
  obtain ⟨t, p, r⟩ := h
  refine ⟨t, p, fun Z B H σ Q E g => r Z B H σ Q E fun v B' H' fp e h hf => ?_⟩
  obtain ⟨q, vs, h0, h1, h3, h4, h5⟩ := h B
  subst h0
  have hq := hf q (by rw [h1]; exact List.mem_cons_self)
  have e2 := e.freeze hq h3 h4
  exact g _ (upd B' q (.lst vs)) H' e2 (.lst (Rd.of upd_same) (TpAll.mono (same_upd h3) _ _ h5))
theorem DE.da (h : DE X G e d) : DA X G e (sd d) := by
  obtain ⟨t, p, r⟩ := h
  exact ⟨t, p, fun Z B H σ Q E g => r Z B H σ Q E fun v B' H' e h => g v B' H' e ⟨rfl, h⟩ fun B2 H2 e2 => ⟨rfl, Tp.mono e2.b _ _ h⟩⟩
theorem DR.da (h : DR X G e d) : DA X G e (sb d) := by
  obtain ⟨t, p, r⟩ := h
  exact ⟨t, p, fun Z B H σ Q E g => r Z B H σ Q E fun v B' H' e h => g v B' H' e ⟨rfl, h⟩ fun B2 H2 e2 => ⟨rfl, Tm.mono e2.h e2.b _ _ h⟩⟩

theorem de_name (i : Nat) {d : D} (hG : G[i]? = some (some (sd d)) := by rfl) (hN : X.N[i]? = some x := by rfl)
    (hv : Vis X.env.scope x := by first | exact Or.inl rfl | exact Or.inr (Or.inl rfl) | exact Or.inr (Or.inr rfl)) (hd : (x == ("__debug__" : Str)) = false := by decide)
    (hcd : (x == ("__classdict__" : Str)) = false := by decide) : DE X G (.Name x pos) d :=
  ⟨_, pv i hN hv hd hcd, fun Z B H σ Q E g => by
    obtain ⟨v, fp, h1, _, h3⟩ := E.sl i _ hG
    exact ⟨v, h1, gv_of E.sub g h3⟩⟩
theorem dz_name (i : Nat) {d : D} (hG : G[i]? = some (some (sb d)) := by rfl) (hN : X.N[i]? = some x := by rfl)
    (hv : Vis X.env.scope x := by first | exact Or.inl rfl | exact Or.inr (Or.inl rfl) | exact Or.inr (Or.inr rfl)) (hd : (x == ("__debug__" : Str)) = false := by decide)
    (hcd : (x == ("__classdict__" : Str)) = false := by decide) : DZ X G (.Name x pos) d :=
  ⟨_, pv i hN hv hd hcd, fun Z B H σ Q E g => by
    obtain ⟨v, fp, h1, _, h3⟩ := E.sl i _ hG
    exact ⟨v, h1, g v B H (Ext.refl E.sub) h3⟩⟩
theorem dr_nameO (i : Nat) {ds : List D} {par : Bool} (hG : G[i]? = some (some (so ds par)) := by rfl) (hN : X.N[i]? = some x := by rfl)
    (hv : Vis X.env.scope x := by first | exact Or.inl rfl | exact Or.inr (Or.inl rfl) | exact Or.inr (Or.inr rfl)) (hd : (x == ("__debug__" : Str)) = false := by decide)
    (hcd : (x == ("__classdict__" : Str)) = false := by decide) : DR X G (.Name x pos) (.list ds) :=
  ⟨_, pv i hN hv hd hcd, fun Z B H σ Q E g => by
    obtain ⟨v, fp, h1, p, vs, h0, _, h3, h4, h5⟩ := E.sl i _ hG
    exact ⟨v, h1, g v B H (Ext.refl E.sub) (by rw [h0]; exact .lst (SqL.of h4) (TmAll.of h5))⟩⟩
theorem de_int {z : Int} {j} : DE X G (.Constant (.int z) j pos) (.int z) := ⟨_, pe_int, fun Z B H σ Q E g => gv_of E.sub g (.int z)⟩
theorem de_bl {z : Bool} {j} : DE X G (.Constant (.bool z) j pos) (.bool z) := ⟨_, pe_bl, fun Z B H σ Q E g => gv_of E.sub g (.bl z)⟩
theorem de_non {j} : DE X G (.Constant .none j pos) .none := ⟨_, pe_non, fun Z B H σ Q E g => gv_of E.sub g .non⟩
theorem de_str {z : Str} {j} : DE X G (.Constant (.str z) j pos) (.str z) := ⟨_, pe_str, fun Z B H σ Q E g => gv_of E.sub g (.str z)⟩
/-- a constant of the module -/
theorem de_glob {u : Value} {v : V} (hg : Gl X x) (hm : X.mg x = some u) (r : RelV v u) (h : ∀ B, Tp X.K c B v d) (hd : (x == ("__debug__" : Str)) = false := by decide) : DE X G (.Name x pos) d :=
  ⟨_, pe_glob hg hm r hd, fun Z B H σ Q E g => gv_of E.sub g (h B)⟩

theorem de_bin {op : Operator} (ha : DR X G a d1) (hb : DR X G b d2) (ho : OpD c X (binaryOp op) d1 d2 d) : DE X G (.BinOp a op b pos) d := by
  obtain ⟨ta, pa, ra⟩ := ha
  obtain ⟨tb, pb, rb⟩ := hb
  obtain ⟨r, hr, q⟩ := ho
  refine ⟨_, pe_op hr pa pb, fun Z B H σ Q E g => ?_⟩
  refine ra Z B H σ _ E fun v B1 H1 e1 h1 => rb Z B1 H1 σ _ (E.ext e1) fun u B2 H2 e2 h2 => ?_
  exact q B2 H2 v u Q e2.sub (Tm.mono e2.h e2.b _ _ h1) h2 fun w B3 H3 e3 h3 => g w B3 H3 ((e1.trans e2).trans e3) h3
theorem de_un {op : UnaryOp} (ha : DR X G a d1) (ho : UnD c X (unaryOp op) d1 d) : DE X G (.UnaryOp op a pos) d := by
  obtain ⟨ta, pa, ra⟩ := ha
  obtain ⟨r, hr, q⟩ := ho
  refine ⟨_, pe_un hr pa, fun Z B H σ Q E g => ?_⟩
  exact ra Z B H σ _ E fun v B1 H1 e1 h1 => q B1 H1 v Q e1.sub h1 fun w B3 H3 e3 h3 => g w B3 H3 (e1.trans e3) h3
theorem de_cmp {op : CmpOp} (ha : DR X G a d1) (hb : DR X G b d2) (ho : OpD c X (compareOp op) d1 d2 d) (hm : behindInMarks op b = false := by first | exact nomark _ (by decide) (by decide) | rfl) : DE X G (.Compare a [op] [b] pos) d := by
  obtain ⟨ta, pa, ra⟩ := ha
  obtain ⟨tb, pb, rb⟩ := hb
  obtain ⟨r, hr, q⟩ := ho
  refine ⟨_, pe_cmpR hr pa pb hm, fun Z B H σ Q E g => ?_⟩
  refine ra Z B H σ _ E fun v B1 H1 e1 h1 => rb Z B1 H1 σ _ (E.ext e1) fun u B2 H2 e2 h2 => ?_
  exact q B2 H2 v u Q e2.sub (Tm.mono e2.h e2.b _ _ h1) h2 fun w B3 H3 e3 h3 => g w B3 H3 ((e1.trans e2).trans e3) h3
theorem dt_cmp {op : CmpOp} {k : Bool} (ha : DR X G a d1) (hb : DR X G b d2) (ho : OpD c X (compareOp op) d1 d2 (.bool k)) (hm : behindInMarks op b = false := by first | exact nomark _ (by decide) (by decide) | rfl) : DT X G (.Compare a [op] [b] pos) k := by
  obtain ⟨ta, pa, ra⟩ := ha
  obtain ⟨tb, pb, rb⟩ := hb
  obtain ⟨r, hr, q⟩ := ho
  refine ⟨_, pt_cmpR hr pa pb hm, fun Z B H σ Q E g => ?_⟩
  refine ra Z B H σ _ E fun v B1 H1 e1 h1 => rb Z B1 H1 σ _ (E.ext e1) fun u B2 H2 e2 h2 => ?_
  refine q B2 H2 v u _ e2.sub (Tm.mono e2.h e2.b _ _ h1) h2 fun w B3 H3 e3 h3 => ?_
  cases h3
  exact ⟨k, rfl, g B3 H3 ((e1.trans e2).trans e3)⟩
theorem pe_never {X : Cx} {e : Expr} : PE X e (fun _ _ _ => False) := ⟨fun _ _ _ _ _ _ h => False.elim h⟩
theorem pw_never {X : Cx} {e : Expr} : PW X e (fun _ _ _ => False) := ⟨fun _ _ _ _ _ _ _ h => False.elim h⟩
theorem pt_never {X : Cx} {e : Expr} : PT X e (fun _ _ _ => False) := ⟨fun _ _ _ _ _ _ h => False.elim h⟩
theorem opr_never {X : Cx} {f : Value → Value → Sem Value} : OpR X f (fun _ _ _ _ => False) := fun _ _ _ _ _ _ _ _ _ _ _ _ h => False.elim h
/-- a reading that is only asked where p holds -/
theorem DE.ifp {p : Prop} (h : p → DE X G e d) : ∃ t, PE X e t ∧ (p → ∀ Z B H σ Q, EnvE G Z B H σ → Gv X.K c B H d Q → t σ H Q) := by
  by_cases hp : p
  · obtain ⟨t, a, b⟩ := h hp
    exact ⟨t, a, fun _ => b⟩
  · exact ⟨_, pe_never, fun q => absurd q hp⟩
theorem DR.ifp {p : Prop} (h : p → DR X G e d) : ∃ t, PE X e t ∧ (p → ∀ Z B H σ Q, EnvE G Z B H σ → (∀ v B' H', Ext B H B' H' → Tm X.K c H' B' v d → Q v H') → t σ H Q) := by
  by_cases hp : p
  · obtain ⟨t, a, b⟩ := h hp
    exact ⟨t, a, fun _ => b⟩
  · exact ⟨_, pe_never, fun q => absurd q hp⟩
theorem DW.ifp {p : Prop} {k : Bool} (h : p → DW X G e k) : ∃ t, PW X e t ∧ (p → ∀ Z B H σ Q, EnvE G Z B H σ → (∀ B' H', Ext B H B' H' → Q k H') → t σ H Q) := by
  by_cases hp : p
  · obtain ⟨t, a, b⟩ := h hp
    exact ⟨t, a, fun _ => b⟩
  · exact ⟨_, pw_never, fun q => absurd q hp⟩
theorem OpD.ifp {p : Prop} {f : Value → Value → Sem Value} (h : p → OpD c X f d1 d2 d) : ∃ r, OpR X f r ∧ (p → ∀ B H x y Q, Same B H → Tm X.K c H B x d1 → Tm X.K c H B y d2 → Gv X.K c B H d Q → r x y H Q) := by
  by_cases hp : p
  · obtain ⟨t, a, b⟩ := h hp
    exact ⟨t, a, fun _ => b⟩
  · exact ⟨_, opr_never, fun q => absurd q hp⟩
theorem de_chain {op op' : CmpOp} {k k' : Bool} (ha : DR X G a d1) (hb : DR X G b d2) (ho : OpD c X (compareOp op) d1 d2 (.bool k)) (hc : k = true → DR X G f d3) (ho' : k = true → OpD c X (compareOp op') d2 d3 (.bool k'))
    (hm : lastMarks [op, op'] [b, f] = false := by with_unfolding_all rfl) : DE X G (.Compare a [op, op'] [b, f] pos) (.bool (k && k')) := by
  obtain ⟨ta, pa, ra⟩ := ha
  obtain ⟨tb, pb, rb⟩ := hb
  obtain ⟨r, hr, q⟩ := ho
  obtain ⟨tc, pc, rc⟩ := DR.ifp hc
  obtain ⟨r', hr', q'⟩ := OpD.ifp ho'
  refine ⟨_, pe_chain hr hr' pa pb pc hm, fun Z B H σ Q E g => ?_⟩
  refine ra Z B H σ _ E fun v B1 H1 e1 h1 => rb Z B1 H1 σ _ (E.ext e1) fun u B2 H2 e2 h2 => ?_
  refine q B2 H2 v u _ e2.sub (Tm.mono e2.h e2.b _ _ h1) h2 fun w B3 H3 e3 h3 => ?_
  cases h3
  refine ⟨k, rfl, ?_⟩
  cases k with
  | true =>
    refine iteT ?_
    refine rc rfl Z B3 H3 σ _ (E.ext ((e1.trans e2).trans e3)) fun z B4 H4 e4 h4 => ?_
    exact q' rfl B4 H4 u z Q e4.sub (Tm.mono (e3.h.trans e4.h) (e3.b.trans e4.b) _ _ h2) h4 fun y B5 H5 e5 h5 => g y B5 H5 ((((e1.trans e2).trans e3).trans e4).trans e5) h5
  | false => exact iteF (g _ B3 H3 ((e1.trans e2).trans e3) (.bl _))
theorem dt_chain {op op' : CmpOp} {k k' : Bool} (ha : DR X G a d1) (hb : DR X G b d2) (ho : OpD c X (compareOp op) d1 d2 (.bool k)) (hc : k = true → DR X G f d3) (ho' : k = true → OpD c X (compareOp op') d2 d3 (.bool k'))
    (hm : lastMarks [op, op'] [b, f] = false := by with_unfolding_all rfl) : DT X G (.Compare a [op, op'] [b, f] pos) (k && k') := by
  obtain ⟨ta, pa, ra⟩ := ha
  obtain ⟨tb, pb, rb⟩ := hb
  obtain ⟨r, hr, q⟩ := ho
  obtain ⟨tc, pc, rc⟩ := DR.ifp hc
  obtain ⟨r', hr', q'⟩ := OpD.ifp ho'
  refine ⟨_, pt_chain hr hr' pa pb pc hm, fun Z B H σ Q E g => ?_⟩
  refine ra Z B H σ _ E fun v B1 H1 e1 h1 => rb Z B1 H1 σ _ (E.ext e1) fun u B2 H2 e2 h2 => ?_
  refine q B2 H2 v u _ e2.sub (Tm.mono e2.h e2.b _ _ h1) h2 fun w B3 H3 e3 h3 => ?_
  cases h3
  refine ⟨k, rfl, ?_⟩
  cases k with
  | true =>
    refine iteT ?_
    refine rc rfl Z B3 H3 σ _ (E.ext ((e1.trans e2).trans e3)) fun z B4 H4 e4 h4 => ?_
    refine q' rfl B4 H4 u z _ e4.sub (Tm.mono (e3.h.trans e4.h) (e3.b.trans e4.b) _ _ h2) h4 fun y B5 H5 e5 h5 => ?_
    cases h5
    exact ⟨k', rfl, g B5 H5 ((((e1.trans e2).trans e3).trans e4).trans e5)⟩
  | false => exact iteF ⟨_, rfl, g B3 H3 ((e1.trans e2).trans e3)⟩

theorem dt_val {k : Bool} (h : DE X G e (.bool k)) (he : ∀ whole, isTrue e X.env whole = (do let v ← whole; standAt e.pos; holding [v] (truthy v)) := by intro _; rfl) : DT X G e k := by
  obtain ⟨t, p, r⟩ := h
  refine ⟨_, pt_val p he, fun Z B H σ Q E g => r Z B H σ _ E fun v B' H' e h => ?_⟩
  cases h
  exact ⟨k, rfl, g B' H' e⟩
theorem DW.dt {k : Bool} (h : DW X G e k) : DT X G e k := by
  obtain ⟨t, p, r⟩ := h
  exact ⟨_, p.pt, r⟩
theorem dt_not {k : Bool} (h : DT X G e k) : DT X G (.UnaryOp .Not e pos) (!k) := by
  obtain ⟨t, p, r⟩ := h
  exact ⟨_, pt_not p, fun Z B H σ Q E g => r Z B H σ _ E fun B' H' e => g B' H' e⟩
theorem dw_and1 {k : Bool} (h : DT X G e k) : DW X G (.BoolOp .And [e] pos) k := by
  obtain ⟨t, p, r⟩ := h
  exact ⟨_, pw_and1 p, r⟩
theorem dw_or1 {k : Bool} (h : DT X G e k) : DW X G (.BoolOp .Or [e] pos) k := by
  obtain ⟨t, p, r⟩ := h
  exact ⟨_, pw_or1 p, r⟩
theorem dw_and {k k' : Bool} (h : DT X G a k) (h' : k = true → DW X G (.BoolOp .And (b :: es) pos) k') : DW X G (.BoolOp .And (a :: b :: es) pos) (k && k') := by
  obtain ⟨t, p, r⟩ := h
  obtain ⟨t', p', r'⟩ := DW.ifp h'
  refine ⟨_, pw_and p p', fun Z B H σ Q E g => r Z B H σ _ E fun B' H' e => ?_⟩
  cases k with
  | true => exact iteT (r' rfl Z B' H' σ _ (E.ext e) fun B2 H2 e2 => g B2 H2 (e.trans e2))
  | false => exact iteF (g B' H' e)
theorem dw_or {k k' : Bool} (h : DT X G a k) (h' : k = false → DW X G (.BoolOp .Or (b :: es) pos) k') : DW X G (.BoolOp .Or (a :: b :: es) pos) (k || k') := by
  obtain ⟨t, p, r⟩ := h
  obtain ⟨t', p', r'⟩ := DW.ifp h'
  refine ⟨_, pw_or p p', fun Z B H σ Q E g => r Z B H σ _ E fun B' H' e => ?_⟩
  cases k with
  | true => exact iteT (g B' H' e)
  | false => exact iteF (r' rfl Z B' H' σ _ (E.ext e) fun B2 H2 e2 => g B2 H2 (e.trans e2))
theorem de_one {op} (h : DE X G e d) : DE X G (.BoolOp op [e] pos) d := by
  obtain ⟨t, p, r⟩ := h
  exact ⟨_, pe_one p, r⟩
theorem de_and {k k' : Bool} (h : DE X G a (.bool k)) (h' : k = true → DE X G (.BoolOp .And (b :: es) pos) (.bool k')) : DE X G (.BoolOp .And (a :: b :: es) pos) (.bool (k && k')) := by
  obtain ⟨t, p, r⟩ := h
  obtain ⟨t', p', r'⟩ := DE.ifp h'
  refine ⟨_, pe_and p p', fun Z B H σ Q E g => r Z B H σ _ E fun v B' H' e h => ?_⟩
  cases h
  refine ⟨k, rfl, ?_⟩
  cases k with
  | true => exact iteT (r' rfl Z B' H' σ _ (E.ext e) fun v B2 H2 e2 h2 => g v B2 H2 (e.trans e2) h2)
  | false => exact iteF (g _ B' H' e (.bl _))
theorem de_or {k k' : Bool} (h : DE X G a (.bool k)) (h' : k = false → DE X G (.BoolOp .Or (b :: es) pos) (.bool k')) : DE X G (.BoolOp .Or (a :: b :: es) pos) (.bool (k || k')) := by
  obtain ⟨t, p, r⟩ := h
  obtain ⟨t', p', r'⟩ := DE.ifp h'
  refine ⟨_, pe_or p p', fun Z B H σ Q E g => r Z B H σ _ E fun v B' H' e h => ?_⟩
  cases h
  refine ⟨k, rfl, ?_⟩
  cases k with
  | true => exact iteT (g _ B' H' e (.bl _))
  | false => exact iteF (r' rfl Z B' H' σ _ (E.ext e) fun v B2 H2 e2 h2 => g v B2 H2 (e.trans e2) h2)
theorem de_not {k : Bool} (h : DE X G e (.bool k)) : DE X G (.UnaryOp .Not e pos) (.bool (!k)) := by
  obtain ⟨t, p, r⟩ := h
  refine ⟨_, pe_not p, fun Z B H σ Q E g => r Z B H σ _ E fun v B' H' e h => ?_⟩
  cases h
  exact ⟨k, rfl, g _ B' H' e (.bl _)⟩
theorem de_ifExp {k : Bool} (h : DT X G e k) (h1 : k = true → DE X G a d1) (h2 : k = false → DE X G b d2) : DE X G (.IfExp e a b pos) (if k = true then d1 else d2) := by
  obtain ⟨t, p, r⟩ := h
  obtain ⟨t1, p1, r1⟩ := DE.ifp h1
  obtain ⟨t2, p2, r2⟩ := DE.ifp h2
  refine ⟨_, pe_ifExp p p1 p2, fun Z B H σ Q E g => r Z B H σ _ E fun B' H' e => ?_⟩
  cases k with
  | true => exact iteT (r1 rfl Z B' H' σ _ (E.ext e) fun v B2 H2 e2 h2 => g v B2 H2 (e.trans e2) h2)
  | false => exact iteF (r2 rfl Z B' H' σ _ (E.ext e) fun v B2 H2 e2 h2 => g v B2 H2 (e.trans e2) h2)

theorem des_nil : DEs X G [] [] := ⟨_, pa_nil, fun Z B H σ Q E g => g [] B H (Ext.refl E.sub) .nil⟩
theorem des_cons (h : DE X G e d) (h' : DEs X G es ds) (hs : starEach (e :: es) X.env = (false, eval e X.env) :: starEach es X.env := by rfl) : DEs X G (e :: es) (d :: ds) := by
  obtain ⟨t, p, r⟩ := h
  obtain ⟨t', p', r'⟩ := h'
  refine ⟨_, pa_cons p p' hs, fun Z B H σ Q E g => r Z B H σ _ E fun v B' H' e h => r' Z B' H' σ _ (E.ext e) fun vs B2 H2 e2 h2 => ?_⟩
  exact g (v :: vs) B2 H2 (e.trans e2) (.cons (Tp.mono e2.b _ _ h) h2)
theorem drs_nil : DRs X G [] [] := ⟨_, pa_nil, fun Z B H σ Q E g => g [] B H (Ext.refl E.sub) .nil⟩
theorem drs_cons (h : DR X G e d) (h' : DRs X G es ds) (hs : starEach (e :: es) X.env = (false, eval e X.env) :: starEach es X.env := by rfl) : DRs X G (e :: es) (d :: ds) := by
  obtain ⟨t, p, r⟩ := h
  obtain ⟨t', p', r'⟩ := h'
  refine ⟨_, pa_cons p p' hs, fun Z B H σ Q E g => r Z B H σ _ E fun v B' H' e h => r' Z B' H' σ _ (E.ext e) fun vs B2 H2 e2 h2 => ?_⟩
  exact g (v :: vs) B2 H2 (e.trans e2) (.cons (Tm.mono e2.h e2.b _ _ h) h2)
theorem das_nil : DAs (c := c) X G [] [] := ⟨_, pa_nil, fun Z B H σ Q E g => g [] B H (Ext.refl E.sub) .nil⟩
theorem das_cons {s : Slot X.K c} {ss : List (Slot X.K c)} (h : DA X G e s) (h' : DAs X G es ss) (hs : starEach (e :: es) X.env = (false, eval e X.env) :: starEach es X.env := by rfl) : DAs X G (e :: es) (s :: ss) := by
  obtain ⟨t, p, r⟩ := h
  obtain ⟨t', p', r'⟩ := h'
  refine ⟨_, pa_cons p p' hs, fun Z B H σ Q E g => r Z B H σ _ E fun v B' H' e h hn => r' Z B' H' σ _ (E.ext e) fun vs B2 H2 e2 h2 => ?_⟩
  exact g (v :: vs) B2 H2 (e.trans e2) (.cons (hn B2 H2 e2) h2)
theorem small {n : Nat} (h : n ≤ 1000000) : n ≤ sizeLine := by rw [sizeLine_eq]; omega
theorem de_tup {k} (h : DEs X G es ds) (hl : ds.length ≤ sizeLine := by first | (show _ ≤ sizeLine; decide) | (apply small; simp; done) | (apply small; simp; omega)) : DE X G (.Tuple es k pos) (.tuple ds) := by
  obtain ⟨t, p, r⟩ := h
  refine ⟨_, pe_tup p, fun Z B H σ Q E g => r Z B H σ _ E fun vs B' H' e h => ⟨by rw [h.length]; exact hl, fun q hq => ?_⟩⟩
  exact g _ (upd B' q (.tup vs)) _ (e.trans (Ext.lay e.sub _ hq)) (.tup (SqT.of upd_same) (TpAll.mono (same_upd (e.sub.free hq)) _ _ h))
theorem dx_lst (h : DEs X G es ds) (hl : ds.length ≤ sizeLine := by first | (show _ ≤ sizeLine; decide) | (apply small; simp; done) | (apply small; simp; omega)) : DX X G (.List es pos) (so ds) := by
  obtain ⟨t, p, r⟩ := h
  refine ⟨_, pe_lst p, fun Z B H σ Q E g => r Z B H σ _ E fun vs B' H' e h => ⟨by rw [h.length]; exact hl, fun q hq => ?_⟩⟩
  refine g _ B' _ [q] (e.trans (Ext.layH e.sub _ hq)) (fun _ => ⟨q, vs, rfl, rfl, e.sub.free hq, upd_same, h⟩) fun a ha => ?_
  rw [List.mem_singleton.mp ha]
  exact e.h.free hq
theorem de_lst (h : DEs X G es ds) (hl : ds.length ≤ sizeLine := by first | (show _ ≤ sizeLine; decide) | (apply small; simp; done) | (apply small; simp; omega)) : DE X G (.List es pos) (.list ds) := (dx_lst h hl).frozen
theorem dr_ix (ha : DR X G a d1) (hb : DR X G b d2) (ho : IxD c X d1 d2 d) (hs : PlainIx b := by exact fun _ _ => rfl) : DR X G (.Subscript a b pos) d := by
  obtain ⟨ta, pa, ra⟩ := ha
  obtain ⟨tb, pb, rb⟩ := hb
  obtain ⟨r, hr, q⟩ := ho
  refine ⟨_, pe_ix hr pa pb hs, fun Z B H σ Q E g => ?_⟩
  refine ra Z B H σ _ E fun v B1 H1 e1 h1 => rb Z B1 H1 σ _ (E.ext e1) fun u B2 H2 e2 h2 => ?_
  exact q H2 B2 H2 v u Q e2.sub (Same.refl _) (Tm.mono e2.h e2.b _ _ h1) h2 fun w hw => g w B2 H2 (e1.trans e2) hw
theorem dz_ix (ha : DZ X G a d1) (hb : DZ X G b d2) (ho : IxD c X d1 d2 d) (hs : PlainIx b := by exact fun _ _ => rfl) : DZ X G (.Subscript a b pos) d := by
  obtain ⟨ta, pa, ra⟩ := ha
  obtain ⟨tb, pb, rb⟩ := hb
  obtain ⟨r, hr, q⟩ := ho
  refine ⟨_, pe_ix hr pa pb hs, fun Z B H σ Q E g => ?_⟩
  refine ra Z B H σ _ E fun v B1 H1 e1 h1 => rb Z B1 H1 σ _ (E.ext e1) fun u B2 H2 e2 h2 => ?_
  exact q Z B2 H2 v u Q e2.sub (E.z.trans (e1.trans e2).h) (Tm.mono (Same.refl _) e2.b _ _ h1) h2 fun w hw => g w B2 H2 (e1.trans e2) hw
theorem de_callB {id : String} {p : Pos} (hc : CallD c X (.builtin id) ds d) (hm : X.mg x = none) (ha : DRs X G (e :: es) ds) (hg : Gl X x := by rfl) (hv : bootBuiltins x = some (.builtin id) := by decide +kernel) (hn : x ≠ "__name__" := by decide) (hdb : (x == ("__debug__" : Str)) = false := by decide)
    (he : starEach (e :: es) X.env = (false, eval e X.env) :: starEach es X.env := by rfl) (hpl : (backTo pos (starEach es X.env)).any (·.1) = false := by rfl) : DE X G (.Call (.Name x p) (e :: es) [] pos) d := by
  obtain ⟨ta, pa, ra⟩ := ha
  obtain ⟨r, hr, q⟩ := hc
  refine ⟨_, pe_callB hr hg hm hv pa hn hdb he hpl, fun Z B H σ Q E g => ?_⟩
  exact ra Z B H σ _ E fun vs B1 H1 e1 h1 => q B1 H1 vs Q e1.sub h1 fun w B3 H3 e3 h3 => g w B3 H3 (e1.trans e3) h3
theorem de_callT {id : String} {p : Pos} (hc : CallD c X (.type id) ds d) (hm : X.mg x = none) (ha : DRs X G (e :: es) ds) (hg : Gl X x := by rfl) (hv : bootBuiltins x = some (.type id) := by decide +kernel) (hn : x ≠ "__name__" := by decide) (hdb : (x == ("__debug__" : Str)) = false := by decide)
    (he : starEach (e :: es) X.env = (false, eval e X.env) :: starEach es X.env := by rfl) (hpl : (backTo pos (starEach es X.env)).any (·.1) = false := by rfl) : DE X G (.Call (.Name x p) (e :: es) [] pos) d := by
  obtain ⟨ta, pa, ra⟩ := ha
  obtain ⟨r, hr, q⟩ := hc
  refine ⟨_, pe_callTy hr hg hm hv pa hn hdb he hpl, fun Z B H σ Q E g => ?_⟩
  exact ra Z B H σ _ E fun vs B1 H1 e1 h1 => q B1 H1 vs Q e1.sub h1 fun w B3 H3 e3 h3 => g w B3 H3 (e1.trans e3) h3
theorem gs_ext {K : PySem.W.Frag} {B H B1 H1 : Hp} {s : Slot K c} {Q : VK} (e : Ext B H B1 H1) (g : Gs K c B H s Q) : Gs K c B1 H1 s Q := fun v B' H' fp e' h hf =>
  g v B' H' fp (e.trans e') h fun a ha => e.h.free (hf a ha)
theorem dx_callB {id : String} {p : Pos} {s : Slot X.K c} (hc : CallB c X (.builtin id) ds s) (hm : X.mg x = none) (ha : DEs X G (e :: es) ds) (hg : Gl X x := by rfl) (hv : bootBuiltins x = some (.builtin id) := by decide +kernel) (hn : x ≠ "__name__" := by decide) (hdb : (x == ("__debug__" : Str)) = false := by decide)
    (he : starEach (e :: es) X.env = (false, eval e X.env) :: starEach es X.env := by rfl) (hpl : (backTo pos (starEach es X.env)).any (·.1) = false := by rfl) : DX X G (.Call (.Name x p) (e :: es) [] pos) s := by
  obtain ⟨ta, pa, ra⟩ := ha
  obtain ⟨r, hr, q⟩ := hc
  refine ⟨_, pe_callB hr hg hm hv pa hn hdb he hpl, fun Z B H σ Q E g => ?_⟩
  exact ra Z B H σ _ E fun vs B1 H1 e1 h1 => q B1 H1 vs Q e1.sub h1 (gs_ext e1 g)
theorem dx_callT {id : String} {p : Pos} {s : Slot X.K c} (hc : CallB c X (.type id) ds s) (hm : X.mg x = none) (ha : DEs X G (e :: es) ds) (hg : Gl X x := by rfl) (hv : bootBuiltins x = some (.type id) := by decide +kernel) (hn : x ≠ "__name__" := by decide) (hdb : (x == ("__debug__" : Str)) = false := by decide)
    (he : starEach (e :: es) X.env = (false, eval e X.env) :: starEach es X.env := by rfl) (hpl : (backTo pos (starEach es X.env)).any (·.1) = false := by rfl) : DX X G (.Call (.Name x p) (e :: es) [] pos) s := by
  obtain ⟨ta, pa, ra⟩ := ha
  obtain ⟨r, hr, q⟩ := hc
  refine ⟨_, pe_callTy hr hg hm hv pa hn hdb he hpl, fun Z B H σ Q E g => ?_⟩
  exact ra Z B H σ _ E fun vs B1 H1 e1 h1 => q B1 H1 vs Q e1.sub h1 (gs_ext e1 g)

/-- a def's promise: R: which slots may be handed in, and what comes of them -/
def spS (K : PySem.W.Frag) (R : List (Slot K c) → Slot K c → Prop) : Sp := fun vs H Q _ => ∃ B ss r, Same B H ∧ SlAll H B H vs ss ∧ R ss r ∧ Gs K c B H r Q
structure DefOk (P : Program) (w : World) (K : PySem.W.Frag) (mg : Str → Option Value) (base : Heap) (x : Str) (k : Nat) (R : List (Slot K c) → Slot K c → Prop) : Prop where
  ex : ∃ f fd ps, mg x = some (.ref f) ∧ PySem.W.keepIn K (.ref f) = true ∧ Binds K fd ps [] ∧ FnOk P w K mg base CX0 k f fd ps (spS K R)
theorem dx_call {k : Nat} {R : List (Slot X.K c) → Slot X.K c → Prop} {p : Pos} {ss : List (Slot X.K c)} {s : Slot X.K c} (F : DefOk X.prog X.w X.K X.mg X.base x k R) (hr : Room k X.A) (ha : DAs X G (e :: es) ss) (hR : R ss s) (hg : Gl X x := by rfl) (hdb : (x == ("__debug__" : Str)) = false := by decide)
    (he : starEach (e :: es) X.env = (false, eval e X.env) :: starEach es X.env := by rfl) (hpl : (backTo pos (starEach es X.env)).any (·.1) = false := by rfl) : DX X G (.Call (.Name x p) (e :: es) [] pos) s := by
  obtain ⟨ta, pa, ra⟩ := ha
  obtain ⟨f, fd, ps, hm, hk, hb, F⟩ := F.ex
  refine ⟨_, pe_call F hr hg hm hk hb .nil pass0 pa hdb he hpl, fun Z B H σ Q E g => ?_⟩
  refine ra Z B H σ _ E fun vs B1 H1 e1 h1 => ?_
  refine ⟨B1, ss, s, e1.sub, ?_, hR, gs_ext e1 g⟩
  rw [List.append_nil]
  exact h1
theorem de_call {k : Nat} {R : List (Slot X.K c) → Slot X.K c → Prop} {p : Pos} {ss : List (Slot X.K c)} (F : DefOk X.prog X.w X.K X.mg X.base x k R) (hr : Room k X.A) (ha : DAs X G (e :: es) ss) (hR : R ss (sd d)) (hg : Gl X x := by rfl) (hdb : (x == ("__debug__" : Str)) = false := by decide)
    (he : starEach (e :: es) X.env = (false, eval e X.env) :: starEach es X.env := by rfl) (hpl : (backTo pos (starEach es X.env)).any (·.1) = false := by rfl) : DE X G (.Call (.Name x p) (e :: es) [] pos) d := (dx_call F hr ha hR hg hdb he hpl).de
end
end Dw

namespace Dw
open PySem L2 PyProof.Rows

/-- the weakest reading -/
def wpS (X : Cx) (sts : List Stmt) : TS := fun D σ H => ∀ (pins : List (Addr × Obj)) (s : Shared), Inv X pins σ H s → wpAny (model X.prog X.w) X.A (execs sts X.env) (SP X pins D) X.xe s
theorem pss_wp {X : Cx} {sts : List Stmt} : PSs X sts (wpS X sts) := ⟨fun pins s _ _ _ I h => h pins s I⟩
theorem wp_of {X : Cx} {sts : List Stmt} {t : TS} (h : PSs X sts t) {D : Ends} {σ : Sg} {H : Hp} (q : t D σ H) : wpS X sts D σ H := fun pins s I => h.run pins s σ H D I q

/-- a def's entry: what it may write, what was kept and what there was then, what stands still -/
structure Ent where
  W : Addr → Prop
  B0 : Hp
  H0 : Hp
  Z : Hp
variable {K : PySem.W.Frag} {c : Cl}
structure StE (F : Ent) (G : Env K c) (B H : Hp) (σ : Sg) : Prop where
  sub : Same B H
  b0 : Same F.B0 B
  zf : ∀ a o, F.Z a = some o → F.H0 a = some o ∧ ¬ F.W a
  h0 : ∀ a o, F.H0 a = some o → ¬ F.W a → H a = some o
  hw : ∀ a, F.W a → H a ≠ none
  new : ∀ a, F.B0 a = none → F.H0 a ≠ none → B a = none
  len : σ.length = G.length
  sl : ∃ fps : Nat → List Addr, (∀ i s, G[i]? = some (some s) → ∃ v, σ[i]? = some (some v) ∧ s.P F.Z B H v (fps i) ∧ ∀ a ∈ fps i, if s.par = true then F.W a else F.H0 a = none) ∧
    ∀ i j s s', i ≠ j → G[i]? = some (some s) → G[j]? = some (some s') → ∀ a ∈ fps i, a ∉ fps j
theorem StE.z {F : Ent} {G : Env K c} {B H : Hp} {σ : Sg} (h : StE F G B H σ) : Same F.Z H := fun a o q => h.h0 a o (h.zf a o q).1 (h.zf a o q).2
theorem StE.env {F : Ent} {G : Env K c} {B H : Hp} {σ : Sg} (h : StE F G B H σ) : EnvE G F.Z B H σ :=
  ⟨h.sub, h.z, fun i s q => by
    obtain ⟨fps, h1, _⟩ := h.sl
    obtain ⟨v, h2, h3, _⟩ := h1 i s q
    exact ⟨v, fps i, h2, h3⟩⟩
theorem StE.there {F : Ent} {G : Env K c} {B H : Hp} {σ : Sg} (h : StE F G B H σ) {a : Addr} (e : F.H0 a ≠ none) : H a ≠ none := by
  by_cases w : F.W a
  · exact h.hw a w
  · cases q : F.H0 a with
    | none => exact absurd q e
    | some o => rw [h.h0 a o q w]; exact fun z => nomatch z
theorem StE.ext {F : Ent} {G : Env K c} {B H B' H' : Hp} {σ : Sg} (h : StE F G B H σ) (e : Ext B H B' H') : StE F G B' H' σ := by
  obtain ⟨fps, h1, h2⟩ := h.sl
  refine ⟨e.sub, h.b0.trans e.b, h.zf, fun a o q w => e.h a o (h.h0 a o q w), fun a w => Same.some e.h (h.hw a w), fun a q r => e.new a (h.new a q r) (h.there r), h.len, fps, fun i s q => ?_, h2⟩
  obtain ⟨v, h3, h4, h5⟩ := h1 i s q
  have d := s.dom h4
  exact ⟨v, h3, s.stb h4 e.b (fun a ha => e.new a (d a ha).1 (d a ha).2) fun a ha => Same.ne e.h (d a ha).2, h5⟩
theorem getset {α : Type} {l : List α} {i j : Nat} {x y : α} (h : (l.set i x)[j]? = some y) : (i = j ∧ x = y ∧ i < l.length) ∨ (i ≠ j ∧ l[j]? = some y) := by
  by_cases e : i = j
  · subst e
    by_cases hl : i < l.length
    · rw [List.getElem?_set_self hl] at h
      exact .inl ⟨rfl, Option.some.inj h, hl⟩
    · rw [List.getElem?_eq_none (by simpa using hl)] at h
      cases h
  · rw [List.getElem?_set_ne e] at h
    exact .inr ⟨e, h⟩
def fset (fps : Nat → List Addr) (i : Nat) (fp : List Addr) : Nat → List Addr := fun j => if j = i then fp else fps j
theorem fset_same {fps : Nat → List Addr} {i : Nat} {fp : List Addr} : fset fps i fp i = fp := by simp [fset]
theorem fset_ne {fps : Nat → List Addr} {i j : Nat} {fp : List Addr} (h : i ≠ j) : fset fps i fp j = fps j := by simp [fset, Ne.symm h]
/-- a name takes a value that is new (or plain data) -/
theorem StE.set {F : Ent} {G : Env K c} {B H B' H' : Hp} {σ : Sg} {s : Slot K c} {v : V} {fp : List Addr} (h : StE F G B H σ) (e : Ext B H B' H') (p : s.P F.Z B' H' v fp) (hf : ∀ a ∈ fp, H a = none) (hp : s.par = false) (i : Nat) :
    StE F (G.set i (some s)) B' H' (σ.set i (some v)) := by
  have h' := h.ext e
  obtain ⟨fps, h1, h2⟩ := h.sl
  refine ⟨h'.sub, h'.b0, h'.zf, h'.h0, h'.hw, h'.new, by simp [h.len], fset fps i fp, fun j s' q => ?_, fun j k s1 s2 ne q1 q2 a ha hb => ?_⟩
  · rcases getset q with ⟨rfl, e1, hl⟩ | ⟨ne, q⟩
    · cases e1
      refine ⟨v, by rw [List.getElem?_set_self (by rw [h.len]; exact hl)], by rw [fset_same]; exact p, fun a ha => ?_⟩
      have ha : a ∈ fp := by rw [fset_same] at ha; exact ha
      rw [hp]
      simp only [Bool.false_eq_true, if_false]
      cases q : F.H0 a with
      | none => rfl
      | some o => exact absurd (hf a ha) (h.there (by rw [q]; exact fun z => nomatch z))
    · obtain ⟨u, h3, h4, h5⟩ := h1 j s' q
      have d := s'.dom h4
      refine ⟨u, by rw [List.getElem?_set_ne ne]; exact h3, ?_, fun a ha => ?_⟩
      · rw [fset_ne ne]
        exact s'.stb h4 e.b (fun a ha => e.new a (d a ha).1 (d a ha).2) fun a ha => Same.ne e.h (d a ha).2
      · rw [fset_ne ne] at ha
        exact h5 a ha
  · have old : ∀ {k : Nat} {s' : Slot K c}, G[k]? = some (some s') → ∀ b ∈ fps k, H b ≠ none := fun {k s'} q b hb => by
      obtain ⟨u, _, h4, _⟩ := h1 k s' q
      exact (s'.dom h4 b hb).2
    rcases getset q1 with ⟨rfl, _, _⟩ | ⟨n1, r1⟩
    · rcases getset q2 with ⟨rfl, _, _⟩ | ⟨n2, r2⟩
      · exact ne rfl
      · have ha : a ∈ fp := by rw [fset_same] at ha; exact ha
        rw [fset_ne n2] at hb
        exact old r2 a hb (hf a ha)
    · rw [fset_ne n1] at ha
      rcases getset q2 with ⟨rfl, _, _⟩ | ⟨n2, r2⟩
      · have hb : a ∈ fp := by rw [fset_same] at hb; exact hb
        exact old r1 a ha (hf a hb)
      · rw [fset_ne n2] at hb
        exact h2 j k s1 s2 ne r1 r2 a ha hb
/-- a weaker environment -/
def Wk (G G' : Env K c) : Prop := G.length = G'.length ∧ ∀ (i : Nat) (s : Slot K c), G'[i]? = some (some s) → G[i]? = some (some s)
theorem Wk.refl (G : Env K c) : Wk G G := ⟨rfl, fun _ _ h => h⟩
theorem StE.weak {F : Ent} {G G' : Env K c} {B H : Hp} {σ : Sg} (h : StE F G B H σ) (w : Wk G G') : StE F G' B H σ := by
  obtain ⟨fps, h1, h2⟩ := h.sl
  exact ⟨h.sub, h.b0, h.zf, h.h0, h.hw, h.new, h.len.trans w.1, fps, fun i s q => h1 i s (w.2 i s q), fun i j s s' ne q r => h2 i j s s' ne (w.2 i s q) (w.2 j s' r)⟩
/-- what a slot's name holds is changed in place -/
theorem StE.change {F : Ent} {G : Env K c} {B H H' : Hp} {σ : Sg} {i : Nat} {s s' : Slot K c} (h : StE F G B H σ) (hi : G[i]? = some (some s)) (hp : s'.par = s.par)
    (step : ∀ v fp, σ[i]? = some (some v) → s.P F.Z B H v fp → ∃ fp', s'.P F.Z B H' v fp' ∧ (∀ a ∈ fp', a ∈ fp ∨ (H a = none)) ∧ (s.par = true → ∀ a ∈ fp', a ∈ fp) ∧ (∀ a, a ∉ fp → H a ≠ none → H' a = H a) ∧ (∀ a ∈ fp, H' a ≠ none)) : StE F (G.set i (some s')) B H' σ := by
  obtain ⟨fps, h1, h2⟩ := h.sl
  obtain ⟨v, hv, p, hw⟩ := h1 i s hi
  obtain ⟨fp', p', hsub, hpar, keep, there⟩ := step v (fps i) hv p
  have dm := s.dom p
  have il : i < G.length := (List.getElem?_eq_some_iff.mp hi).1
  have nb : ∀ a ∈ fps i, B a = none := fun a ha => (dm a ha).1
  have kp : ∀ a o, H a = some o → a ∉ fps i → H' a = some o := fun a o q n => by rw [keep a n (by rw [q]; exact fun z => nomatch z)]; exact q
  refine ⟨fun a o q => kp a o (h.sub a o q) fun z => ?_, h.b0, h.zf, fun a o q w => kp a o (h.h0 a o q w) fun z => ?_, fun a w => ?_, h.new, by rw [List.length_set]; exact h.len,
    fset fps i fp', fun j u q => ?_, fun j k s1 s2 ne q1 q2 a ha hb => ?_⟩
  · rw [nb a z] at q; cases q
  · have := hw a z
    cases hs : s.par with
    | true => rw [hs, if_pos rfl] at this; exact w this
    | false => rw [hs] at this; simp only [Bool.false_eq_true, if_false] at this; rw [this] at q; cases q
  · by_cases z : a ∈ fps i
    · exact there a z
    · have := h.hw a w
      rw [keep a z this]; exact this
  · rcases getset q with ⟨rfl, e1, hl⟩ | ⟨ne, q⟩
    · cases e1
      refine ⟨v, hv, by rw [fset_same]; exact p', fun a ha => ?_⟩
      have ha : a ∈ fp' := by rw [fset_same] at ha; exact ha
      rw [hp]
      rcases hsub a ha with z | z
      · exact hw a z
      · cases hs : s.par with
        | true => exact absurd (h.hw a (by have := hw a (hpar hs a ha); rw [hs, if_pos rfl] at this; exact this)) (fun n => n z)
        | false =>
          simp only [Bool.false_eq_true, if_false]
          cases q : F.H0 a with
          | none => rfl
          | some o => exact absurd z (h.there (by rw [q]; exact fun z => nomatch z))
    · obtain ⟨u', h3, h4, h5⟩ := h1 j u q
      refine ⟨u', h3, ?_, fun a ha => ?_⟩
      · rw [fset_ne ne]
        refine u.stb h4 (Same.refl _) (fun a ha => (u.dom h4 a ha).1) fun a ha => keep a (fun z => h2 i j s u ne hi q a z ha) (u.dom h4 a ha).2
      · rw [fset_ne ne] at ha
        exact h5 a ha
  · have old : ∀ {k : Nat} {s' : Slot K c}, G[k]? = some (some s') → ∀ b ∈ fps k, H b ≠ none := fun {k s'} q b hb => by
      obtain ⟨u, _, h4, _⟩ := h1 k s' q
      exact (s'.dom h4 b hb).2
    rcases getset q1 with ⟨rfl, _, _⟩ | ⟨n1, r1⟩
    · rcases getset q2 with ⟨rfl, _, _⟩ | ⟨n2, r2⟩
      · exact ne rfl
      · have ha : a ∈ fp' := by rw [fset_same] at ha; exact ha
        rw [fset_ne n2] at hb
        rcases hsub a ha with z | z
        · exact h2 i k s s2 n2 hi r2 a z hb
        · exact old r2 a hb z
    · rw [fset_ne n1] at ha
      rcases getset q2 with ⟨rfl, _, _⟩ | ⟨n2, r2⟩
      · have hb : a ∈ fp' := by rw [fset_same] at hb; exact hb
        rcases hsub a hb with z | z
        · exact h2 j i s1 s (Ne.symm n1) r1 hi a ha z
        · exact old r1 a ha z
      · rw [fset_ne n2] at hb
        exact h2 j k s1 s2 ne r1 r2 a ha hb

inductive Out (K : PySem.W.Frag) (c : Cl) where
  | nx (G : Env K c) | bk (G : Env K c) | ct (G : Env K c) | ret (s : Slot K c) (G : Env K c)
structure EndsOk (F : Ent) (Ph : Out K c → Prop) (D : Ends) : Prop where
  nx : ∀ G B H σ, StE F G B H σ → Ph (.nx G) → D.nx σ H
  bk : ∀ G B H σ, StE F G B H σ → Ph (.bk G) → D.bk σ H
  ct : ∀ G B H σ, StE F G B H σ → Ph (.ct G) → D.ct σ H
  rt : ∀ s G B H σ v fp, StE F G B H σ → (∀ Z, s.P Z B H v fp) → (∀ a ∈ fp, F.H0 a = none) → Ph (.ret s G) → D.rt v H
def DSs (X : Cx) (G : Env X.K c) (sts : List Stmt) (Ph : Out X.K c → Prop) : Prop :=
  ∀ F B H σ D, StE F G B H σ → EndsOk F Ph D → wpS X sts D σ H
/-- what a statement in the middle is to reach -/
def sq (X : Cx) (rest : List Stmt) (Ph : Out X.K c → Prop) : Out X.K c → Prop
  | .nx G => DSs X G rest Ph
  | o => Ph o
theorem EndsOk.sq {X : Cx} {F : Ent} {Ph : Out X.K c → Prop} {D : Ends} {rest : List Stmt} (h : EndsOk F Ph D) : EndsOk F (sq X rest Ph) { D with nx := wpS X rest D } :=
  ⟨fun G B H σ S p => p F B H σ D S h, h.bk, h.ct, h.rt⟩
section
variable {X : Cx} {G : Env X.K c} {a b e : Expr} {es : List Expr} {st : Stmt} {rest body orelse : List Stmt} {Ph Ps : Out X.K c → Prop} {ds : List D} {pos pos' : Pos} {d d1 d2 d3 : D} {x : Str} {k : Nat}
theorem DSs.imp (h : DSs X G rest Ps) (k : ∀ o, Ps o → Ph o) : DSs X G rest Ph := fun F B H σ D S E => h F B H σ D S
  ⟨fun G B H σ S p => E.nx G B H σ S (k _ p), fun G B H σ S p => E.bk G B H σ S (k _ p), fun G B H σ S p => E.ct G B H σ S (k _ p), fun s G B H σ v fp S q f p => E.rt s G B H σ v fp S q f (k _ p)⟩
theorem DSs.weak {G' : Env X.K c} (w : Wk G G') (h : DSs X G' rest Ph) : DSs X G rest Ph := fun F B H σ D S E => h F B H σ D (S.weak w) E
theorem dss_nil (h : Ph (.nx G)) : DSs X G [] Ph := fun F B H σ D S E => wp_of pss_nil (E.nx G B H σ S h)
theorem dss_pass (h : DSs X G rest Ph) : DSs X G (.Pass pos :: rest) Ph := fun F B H σ D S E => wp_of (pss_cons ps_pass pss_wp) (h F B H σ D S E)
theorem dss_doc {z j} (h : DSs X G rest Ph) : DSs X G (.Expr (.Constant (.str z) j pos) pos' :: rest) Ph := fun F B H σ D S E => wp_of (pss_cons ps_doc pss_wp) (h F B H σ D S E)
theorem dss_break (h : Ph (.bk G)) : DSs X G (.Break pos :: rest) Ph := fun F B H σ D S E => wp_of (pss_cons ps_break pss_wp) (E.bk G B H σ S h)
theorem dss_cont (h : Ph (.ct G)) : DSs X G (.Continue pos :: rest) Ph := fun F B H σ D S E => wp_of (pss_cons ps_continue pss_wp) (E.ct G B H σ S h)
theorem dss_retN (h : Ph (.ret (sd .none) G)) : DSs X G (.Return none pos :: rest) Ph := fun F B H σ D S E => wp_of (pss_cons ps_retN pss_wp) (E.rt (sd .none) G B H σ .non [] S (fun _ => ⟨rfl, .non⟩) (fun a h => absurd h List.not_mem_nil) h)
theorem dss_retX {s : Slot X.K c} (he : DX X G e s) (h : Ph (.ret s G)) : DSs X G (.Return (some e) pos :: rest) Ph := fun F B H σ D S E => by
  obtain ⟨t, p, r⟩ := he
  refine wp_of (pss_cons (ps_ret p) pss_wp) (r F.Z B H σ _ S.env fun v B' H' fp e q hf => ?_)
  refine E.rt s G B' H' σ v fp (S.ext e) q (fun a ha => ?_) h
  cases z : F.H0 a with
  | none => rfl
  | some o => exact absurd (hf a ha) (S.there (by rw [z]; exact fun z => nomatch z))
theorem dss_ret (he : DE X G e d) (h : Ph (.ret (sd d) G)) : DSs X G (.Return (some e) pos :: rest) Ph := fun F B H σ D S E => by
  obtain ⟨t, p, r⟩ := he
  refine wp_of (pss_cons (ps_ret p) pss_wp) (r F.Z B H σ _ S.env fun v B' H' e q => ?_)
  exact E.rt (sd d) G B' H' σ v [] (S.ext e) (fun _ => ⟨rfl, q⟩) (fun a h => absurd h List.not_mem_nil) h
/-- a name that holds a list of one's own is handed back -/
theorem dss_retO (i : Nat) {s : Slot X.K c} (h : Ph (.ret s G)) (hG : G[i]? = some (some s) := by rfl) (hp : s.par = false := by rfl) (hz : ∀ Z Z' B H v fp, s.P Z B H v fp → s.P Z' B H v fp := by exact fun _ _ _ _ _ _ h => h) (hN : X.N[i]? = some x := by rfl)
    (hv : Vis X.env.scope x := by first | exact Or.inl rfl | exact Or.inr (Or.inl rfl) | exact Or.inr (Or.inr rfl)) (hd : (x == ("__debug__" : Str)) = false := by decide)
    (hcd : (x == ("__classdict__" : Str)) = false := by decide) : DSs X G (.Return (some (.Name x pos')) pos :: rest) Ph := fun F B H σ D S E => by
  obtain ⟨fps, h1, _⟩ := S.sl
  obtain ⟨v, h2, h3, h4⟩ := h1 i s hG
  refine wp_of (pss_cons (ps_ret (pv i hN hv hd hcd)) pss_wp) ⟨v, h2, E.rt s G B H σ v (fps i) S (fun _ => hz _ _ _ _ _ _ h3) (fun a ha => ?_) h⟩
  have := h4 a ha
  rw [hp] at this
  simpa using this
/-- the body's own facts -/
structure Bd (X : Cx) (k : Nat) : Prop where
  nd : X.N.Nodup
  calm : X.calm = true
  room : Room k X.A
  po : PassesOwn (model X.prog X.w) X.A X.env X.xe
theorem dss_set (C : Bd X k) (i : Nat) (he : DE X G e d) (h : DSs X (G.set i (some (sd d))) rest Ph) (hi : X.N[i]? = some x := by rfl) (hx : Loc X.env.scope x := by first | exact Or.inl rfl | exact Or.inr rfl)
    (hs : swapsWith e (some (.Name x pos')) pos.line X.env = pure false := by rfl) (hf : X.fn x = true ∨ X.env.scope.names.lookup x = some .local := by first | exact .inl rfl | exact .inr rfl) : DSs X G (.Assign [.Name x pos'] e pos :: rest) Ph := fun F B H σ D S E => by
  obtain ⟨t, p, r⟩ := he
  refine wp_of (pss_cons (ps_set C.nd hi hx p hs hf) pss_wp) (r F.Z B H σ _ S.env fun v B' H' e q => ?_)
  exact h F B' H' _ D (S.set (s := sd d) (fp := []) e ⟨rfl, q⟩ (fun a z => absurd z List.not_mem_nil) rfl i) E
theorem dss_setX {s : Slot X.K c} (C : Bd X k) (i : Nat) (he : DX X G e s) (h : DSs X (G.set i (some s)) rest Ph) (hp : s.par = false := by rfl) (hi : X.N[i]? = some x := by rfl) (hx : Loc X.env.scope x := by first | exact Or.inl rfl | exact Or.inr rfl)
    (hs : swapsWith e (some (.Name x pos')) pos.line X.env = pure false := by rfl) (hf : X.fn x = true ∨ X.env.scope.names.lookup x = some .local := by first | exact .inl rfl | exact .inr rfl) : DSs X G (.Assign [.Name x pos'] e pos :: rest) Ph := fun F B H σ D S E => by
  obtain ⟨t, p, r⟩ := he
  refine wp_of (pss_cons (ps_set C.nd hi hx p hs hf) pss_wp) (r F.Z B H σ _ S.env fun v B' H' fp e q hf => ?_)
  exact h F B' H' _ D (S.set e (q _) hf hp i) E
theorem dss_if {b : Bool} (hc : DT X G e b) (h1 : b = true → DSs X G body (sq X rest Ph)) (h2 : b = false → DSs X G orelse (sq X rest Ph)) : DSs X G (.If e body orelse pos :: rest) Ph := fun F B H σ D S E => by
  obtain ⟨t, p, r⟩ := hc
  refine wp_of (pss_cons (ps_if p pss_wp pss_wp) pss_wp) (r F.Z B H σ _ S.env fun B' H' e => ?_)
  cases b with
  | true => exact iteT (h1 rfl F B' H' σ _ (S.ext e) E.sq)
  | false => exact iteF (h2 rfl F B' H' σ _ (S.ext e) E.sq)
/-- an expression for its own sake -/
theorem dss_expr (he : DE X G e d) (h : DSs X G rest Ph) (hs : swapsWith e none pos.line X.env = pure false := by rfl) : DSs X G (.Expr e pos :: rest) Ph := fun F B H σ D S E => by
  obtain ⟨t, p, r⟩ := he
  refine wp_of (pss_cons (ps_expr p hs) pss_wp) (r F.Z B H σ _ S.env fun v B' H' e q => ?_)
  exact h F B' H' σ D (S.ext e) E
/-- a list of one's own is changed by an expression: the slot's new content -/
def DM (X : Cx) (G : Env X.K c) (e : Expr) (i : Nat) (s s' : Slot X.K c) : Prop :=
  ∃ t, PE X e t ∧ ∀ F B H σ Q, StE F G B H σ → G[i]? = some (some s) → (∀ v B' H', StE F (G.set i (some s')) B' H' σ → Q v H') → t σ H Q
theorem dss_mut {s s' : Slot X.K c} (i : Nat) (he : DM X G e i s s') (h : DSs X (G.set i (some s')) rest Ph) (hG : G[i]? = some (some s) := by rfl) (hs : swapsWith e none pos.line X.env = pure false := by rfl) : DSs X G (.Expr e pos :: rest) Ph := fun F B H σ D S E => by
  obtain ⟨t, p, r⟩ := he
  refine wp_of (pss_cons (ps_expr p hs) pss_wp) (r F B H σ _ S hG fun v B' H' S' => ?_)
  exact h F B' H' σ D S' E
theorem wk_of {F : Ent} {B H : Hp} {σ : Sg} {i : Nat} {ds ds' : List D} {par : Bool} {vs' : List V} (S : StE F G B H σ) (hG : G[i]? = some (some (so ds par))) {p : Addr} {vs : List V} (hv : σ[i]? = some (some (.ref p))) (hp : H p = some (.lst vs)) (hd : TpAll X.K c B vs' ds') :
    StE F (G.set i (some (so ds' par))) B (upd H p (.lst vs')) σ := by
  refine S.change hG rfl fun v fp h1 ⟨q, us, h2, h3, h4, h5, h6⟩ => ?_
  rw [hv] at h1
  cases h1
  cases h2
  refine ⟨[p], ⟨p, vs', rfl, rfl, h4, upd_same, hd⟩, fun a ha => .inl (h3 ▸ ha), fun _ a ha => h3 ▸ ha, fun a ha _ => ?_, fun a ha => ?_⟩
  · rw [upd_ne]
    rw [h3] at ha
    exact fun z => ha (List.mem_singleton.mpr z)
  · rw [h3] at ha
    rw [List.mem_singleton.mp ha, upd_same]
    exact fun z => nomatch z
theorem so_at {F : Ent} {B H : Hp} {σ : Sg} {i : Nat} {ds : List D} {par : Bool} (S : StE F G B H σ) (hG : G[i]? = some (some (so ds par))) : ∃ p vs, σ[i]? = some (some (.ref p)) ∧ H p = some (.lst vs) ∧ TpAll X.K c B vs ds := by
  obtain ⟨fps, h1, _⟩ := S.sl
  obtain ⟨v, h2, ⟨p, vs, h3, h4, h5, h6, h7⟩, _⟩ := h1 i _ hG
  subst h3
  exact ⟨p, vs, h2, h6, h7⟩
/-- xs.append(e) -/
theorem dm_append (i : Nat) {par : Bool} {py pa pc : Pos} (he : DE X G e d) (hG : G[i]? = some (some (so ds par)) := by rfl) (hl : ds.length < sizeLine) (hN : X.N[i]? = some x := by rfl)
    (hv : Vis X.env.scope x := by first | exact Or.inl rfl | exact Or.inr (Or.inl rfl) | exact Or.inr (Or.inr rfl)) (hd : (x == ("__debug__" : Str)) = false := by decide)
    (hcd : (x == ("__classdict__" : Str)) = false := by decide) (hs : starEach [e] X.env = (false, eval e X.env) :: starEach [] X.env := by rfl)
    (hbase : attributeBase (.Name x py) "append" X.env (eval (.Name x py) X.env) = eval (.Name x py) X.env := by rfl)
    (hfew : ((backTo pc (starEach (e :: []) X.env)).all (fun x => !x.1) && (backToKw pc (keywordEach [] X.env)).all (fun x => x.1.isSome)
      && decide ((e :: []).length + ([] : List Keyword).length + (if ([] : List Keyword).isEmpty then 0 else 1) < 30)) = true := by rfl)
    (hline : (pa.endLine == pc.line) = true := by rfl) (hplain : (backTo pc (starEach [] X.env)).any (·.1) = false := by rfl) : DM X G (.Call (.Attribute (.Name x py) "append" pa) [e] [] pc) i (so ds par) (so (ds ++ [d]) par) := by
  obtain ⟨t, p, r⟩ := he
  refine ⟨_, pe_bm PySem.F.plainAttrs_list PySem.F.slot_list_append PySem.F.type_list_append mt_append (pv i hN hv hd hcd) (pa_cons p pa_nil hs) hbase hfew hline hs hplain, fun F B H σ Q S _ k => ?_⟩
  obtain ⟨q, vs, h1, h2, h3⟩ := so_at S hG
  refine ⟨_, h1, Or.inl ⟨rfl, _, Or.inl (Or.inl h2)⟩, r F.Z B H σ _ S.env fun v B' H' e hv' => ?_⟩
  have S' := S.ext e
  have h2' := e.h _ _ h2
  refine ⟨q, vs, v, rfl, rfl, h2', by rw [h3.length]; exact hl, ?_⟩
  exact k _ B' _ (wk_of S' hG h1 h2' ((TpAll.mono e.b _ _ h3).append (.cons hv' .nil)))
end
end Dw

namespace Dw
open PySem L2 PyProof.Rows
variable {c : Cl}
structure Bound {K : PySem.W.Frag} (is : List Nat) (G G' : Env K c) (Z B H : Hp) (σ σ' : Sg) : Prop where
  lg : G'.length = G.length
  ls : σ'.length = σ.length
  un : ∀ j, j ∉ is → G'[j]? = G[j]? ∧ σ'[j]? = σ[j]?
  at_ : ∀ j ∈ is, ∃ s' v', G'[j]? = some (some s') ∧ s'.par = false ∧ σ'[j]? = some (some v') ∧ s'.P Z B H v' []
def DG (X : Cx) (tg : Expr) (is : List Nat) (s : Slot X.K c) (G G' : Env X.K c) : Prop :=
  ∃ gt, PG X tg gt ∧ ∀ Z B H σ v Q, Same B H → Same Z H → σ.length = G.length → s.P Z B H v [] → (∀ σ', Bound is G G' Z B H σ σ' → Q σ' H) → gt v σ H Q
section
variable {X : Cx} {G G' G1 G2 : Env X.K c} {e : Expr} {es : List Expr} {pos : Pos} {d : D} {ds : List D} {x : Str} {k : Nat} {s : Slot X.K c}
theorem dg_name (C : Bd X k) (i : Nat) (hl : i < G.length := by exact Nat.le_of_ble_eq_true rfl) (hp : s.par = false := by rfl) (hi : X.N[i]? = some x := by rfl) (hx : Loc X.env.scope x := by first | exact Or.inl rfl | exact Or.inr rfl)
    (hf : X.fn x = true ∨ X.env.scope.names.lookup x = some .local := by first | exact .inl rfl | exact .inr rfl) : DG X (.Name x pos) [i] s G (G.set i (some s)) := by
  refine ⟨_, pg_name C.nd hi hx hf, fun Z B H σ v Q sb sz ln p h => h _ ⟨by simp, by simp, fun j hj => ?_, fun j hj => ?_⟩⟩
  · have ne : i ≠ j := fun z => hj (List.mem_singleton.mpr z.symm)
    rw [List.getElem?_set_ne ne, List.getElem?_set_ne ne]
    exact ⟨rfl, rfl⟩
  · rw [List.mem_singleton.mp hj]
    exact ⟨s, v, by rw [List.getElem?_set_self hl], hp, by rw [List.getElem?_set_self (by rw [ln]; exact hl)], p⟩
/-- a row of targets, for a row of plain data -/
def DGs (X : Cx) (tgs : List Expr) (is : List Nat) (ds : List D) (G G' : Env X.K c) : Prop :=
  ∃ gt, PGs X tgs gt ∧ ∀ Z B H σ vs Q, Same B H → Same Z H → σ.length = G.length → TpAll X.K c B vs ds → (∀ σ', Bound is G G' Z B H σ σ' → Q σ' H) → gt vs σ H Q
theorem dgs_nil : DGs X [] [] [] G G := by
  refine ⟨_, pgs_nil, fun Z B H σ vs Q sb sz ln p h => ?_⟩
  cases p
  exact ⟨rfl, h σ ⟨rfl, rfl, fun j _ => ⟨rfl, rfl⟩, fun j hj => absurd hj List.not_mem_nil⟩⟩
theorem Bound.trans {K : PySem.W.Frag} {G G1 G2 : Env K c} {is js : List Nat} {Z B H : Hp} {σ σ1 σ2 : Sg} (a : Bound is G G1 Z B H σ σ1) (b : Bound js G1 G2 Z B H σ1 σ2) : Bound (is ++ js) G G2 Z B H σ σ2 := by
  refine ⟨b.lg.trans a.lg, b.ls.trans a.ls, fun j hj => ?_, fun j hj => ?_⟩
  · have h1 := b.un j fun z => hj (List.mem_append_right _ z)
    have h2 := a.un j fun z => hj (List.mem_append_left _ z)
    exact ⟨h1.1.trans h2.1, h1.2.trans h2.2⟩
  · by_cases z : j ∈ js
    · exact b.at_ j z
    · have h1 := b.un j z
      obtain ⟨s', v', q1, q2, q3, q4⟩ := a.at_ j ((List.mem_append.mp hj).resolve_right z)
      exact ⟨s', v', h1.1.trans q1, q2, h1.2.trans q3, q4⟩
theorem dgs_cons {is js : List Nat} (h : DG X e is (sd d) G G1) (h' : DGs X es js ds G1 G2) (hs : (assignEach (e :: es) X.env).map (·.2) = assign e X.env :: (assignEach es X.env).map (·.2) := by rfl) : DGs X (e :: es) (is ++ js) (d :: ds) G G2 := by
  obtain ⟨g1, p1, r1⟩ := h
  obtain ⟨g2, p2, r2⟩ := h'
  refine ⟨_, pgs_cons p1 p2 hs, fun Z B H σ vs Q sb sz ln p h => ?_⟩
  cases p with
  | cons q1 q2 =>
    refine ⟨_, _, rfl, r1 Z B H σ _ _ sb sz ln ⟨rfl, q1⟩ fun σ1 b1 => r2 Z B H σ1 _ Q sb sz (by rw [b1.ls, b1.lg]; exact ln) q2 fun σ2 b2 => h σ2 (b1.trans b2)⟩
theorem dg_tup (C : Bd X k) {is : List Nat} {kk : Nat} (h : DGs X es is ds G G') (hn : (assignEach es X.env).length = ds.length := by rfl) (hst : (assignEach es X.env).findIdx? (·.1) = none := by rfl) : DG X (.Tuple es kk pos) is (sd (.tuple ds)) G G' := by
  obtain ⟨g, p, r⟩ := h
  refine ⟨_, pg_tup C.calm p hn hst, fun Z B H σ v Q sb sz ln p h => ?_⟩
  cases p.2 with
  | tup hs ha => exact ⟨_, _, rfl, Same.tup sb hs, by rw [ha.length], r Z B H σ _ Q sb sz ln ha h⟩
end
def fdrop (fps : Nat → List Addr) (is : List Nat) : Nat → List Addr := fun j => if j ∈ is then [] else fps j
theorem fdrop_in {fps : Nat → List Addr} {is : List Nat} {j : Nat} (h : j ∈ is) : fdrop fps is j = [] := by simp [fdrop, h]
theorem fdrop_out {fps : Nat → List Addr} {is : List Nat} {j : Nat} (h : j ∉ is) : fdrop fps is j = fps j := by simp [fdrop, h]
theorem StE.bound {K : PySem.W.Frag} {F : Ent} {is : List Nat} {G G' : Env K c} {B H : Hp} {σ σ' : Sg} (S : StE F G B H σ) (b : Bound is G G' F.Z B H σ σ') : StE F G' B H σ' := by
  obtain ⟨fps, h1, h2⟩ := S.sl
  refine ⟨S.sub, S.b0, S.zf, S.h0, S.hw, S.new, by rw [b.ls, b.lg]; exact S.len, fdrop fps is, fun j s q => ?_, fun i j s s' ne q1 q2 a ha hb => ?_⟩
  · by_cases z : j ∈ is
    · obtain ⟨s', v', q1, q2, q3, q4⟩ := b.at_ j z
      rw [q1] at q
      cases q
      refine ⟨v', q3, by rw [fdrop_in z]; exact q4, fun a ha => ?_⟩
      rw [fdrop_in z] at ha
      exact absurd ha List.not_mem_nil
    · obtain ⟨q1, q2⟩ := b.un j z
      rw [q1] at q
      obtain ⟨v, r1, r2, r3⟩ := h1 j s q
      refine ⟨v, q2.trans r1, by rw [fdrop_out z]; exact r2, fun a ha => ?_⟩
      rw [fdrop_out z] at ha
      exact r3 a ha
  · by_cases z : i ∈ is
    · rw [fdrop_in z] at ha
      exact List.not_mem_nil ha
    · by_cases z' : j ∈ is
      · rw [fdrop_in z'] at hb
        exact List.not_mem_nil hb
      · rw [fdrop_out z] at ha
        rw [fdrop_out z'] at hb
        rw [(b.un i z).1] at q1
        rw [(b.un j z').1] at q2
        exact h2 i j s s' ne q1 q2 a ha hb

/-- n items, the i-th fits the slot g i -/
def Walkd {K : PySem.W.Frag} (J : It) (n : Nat) (g : Nat → Slot K c) (Z B1 : Hp) : Prop :=
  ∀ i B H, Same B1 B → Same B H → Same Z H → (i < n → J.go i H ∧ ∀ x H', J.yld i H x H' → ∃ B', Ext B H B' H' ∧ (g i).P Z B' H' x []) ∧ (n ≤ i → J.stop i H)
def DI (X : Cx) (G : Env X.K c) (tg iter : Expr) (n : Nat) (g : Nat → Slot X.K c) : Prop :=
  ∃ wi, PI X tg iter wi ∧ ∀ Z B H σ R, EnvE G Z B H σ → (∀ J B' H', Ext B H B' H' → Walkd J n g Z B' → R J H') → wi σ H R
section
variable {X : Cx} {G : Env X.K c} {tg e e2 : Expr} {pos p : Pos} {ds es : List D}
/-- the items of plain data, to be kept or to be read -/
theorem walk_list {K : PySem.W.Frag} {Z B : Hp} {a : Addr} {xs : List V} (h0 : Rd B a (.lst xs)) (hd : TpAll K c B xs ds) : Walkd (Itl K a) ds.length (fun i => sd (K := K) (c := c) (ds[i]?.getD .none)) Z B := by
  intro i B2 H2 e1 e2 e3
  have h2 : SqL K H2 a xs := .inl (Same.rd e2 (Same.rd e1 h0))
  have hl := hd.length
  refine ⟨fun hi => ⟨⟨xs, xs[i]'(by omega), h2, by simp [List.getElem?_eq_getElem, hl, hi]⟩, fun x H' y => ?_⟩, fun hi => ⟨xs, h2, by omega⟩⟩
  obtain ⟨e, y⟩ := y
  subst e
  obtain ⟨d, q1, q2⟩ := hd.getV (y xs h2)
  exact ⟨B2, Ext.refl e2, rfl, by rw [q1]; exact Tp.mono e1 _ _ q2⟩
theorem walk_listB {K : PySem.W.Frag} {Z B : Hp} {a : Addr} {xs : List V} (h0 : SqL K Z a xs) (hd : TmAll K c Z B xs ds) : Walkd (Itl K a) ds.length (fun i => sb (K := K) (c := c) (ds[i]?.getD .none)) Z B := by
  intro i B2 H2 e1 e2 e3
  have h2 : SqL K H2 a xs := e3.seq h0
  have hl := hd.length
  refine ⟨fun hi => ⟨⟨xs, xs[i]'(by omega), h2, by simp [List.getElem?_eq_getElem, hl, hi]⟩, fun x H' y => ?_⟩, fun hi => ⟨xs, h2, by omega⟩⟩
  obtain ⟨e, y⟩ := y
  subst e
  obtain ⟨d, q1, q2⟩ := hd.getV (y xs h2)
  exact ⟨B2, Ext.refl e2, rfl, by rw [q1]; exact Tm.mono (Same.refl _) e1 _ _ q2⟩
theorem walk_tup {K : PySem.W.Frag} {Z B : Hp} {a : Addr} {xs : List V} (h : SqT K B a xs) (hd : TpAll K c B xs ds) : Walkd (Itt K a) ds.length (fun i => sd (K := K) (c := c) (ds[i]?.getD .none)) Z B := by
  intro i B2 H2 e1 e2 e3
  have h2 := Same.tup e2 (Same.tup e1 h)
  have hl := hd.length
  refine ⟨fun hi => ⟨⟨xs, xs[i]'(by omega), h2, by simp [List.getElem?_eq_getElem, hl, hi]⟩, fun x H' y => ?_⟩, fun hi => ⟨xs, h2, by omega⟩⟩
  obtain ⟨e, y⟩ := y
  subst e
  obtain ⟨d, q1, q2⟩ := hd.getV (y xs h2)
  exact ⟨B2, Ext.refl e2, rfl, by rw [q1]; exact Tp.mono e1 _ _ q2⟩
theorem di_list (h : DE X G e (.list ds)) : DI X G tg e ds.length (fun i => sd (K := X.K) (c := c) (ds[i]?.getD .none)) := by
  obtain ⟨t, p, r⟩ := h
  refine ⟨_, pi_list p, fun Z B H σ R E g => r Z B H σ _ E fun v B' H' e h => ?_⟩
  cases h with
  | lst hs ha => exact ⟨_, rfl, ⟨_, .inl (Same.rd e.sub hs)⟩, g _ B' H' e (walk_list hs ha)⟩
theorem di_listB (h : DZ X G e (.list ds)) : DI X G tg e ds.length (fun i => sb (K := X.K) (c := c) (ds[i]?.getD .none)) := by
  obtain ⟨t, p, r⟩ := h
  refine ⟨_, pi_list p, fun Z B H σ R E g => r Z B H σ _ E fun v B' H' e h => ?_⟩
  cases h with
  | of h =>
    cases h with
    | lst hs ha =>
      refine ⟨_, rfl, ⟨_, .inl (Same.rd e.sub hs)⟩, g _ B' H' e ?_⟩
      intro i B2 H2 e1 e2 e3
      have w := walk_list (Z := Z) hs ha i B2 H2 e1 e2 e3
      refine ⟨fun hi => ⟨(w.1 hi).1, fun x H' y => ?_⟩, w.2⟩
      obtain ⟨B', q1, q2, q3⟩ := (w.1 hi).2 x H' y
      exact ⟨B', q1, rfl, .of q3⟩
  | lst hs ha => exact ⟨_, rfl, ⟨_, (E.z.trans e.h).seq hs⟩, g _ B' H' e (walk_listB hs ha)⟩
/-- a list whose items are no lists: they may be kept -/
theorem di_listZ (h : DZ X G e (.list ds)) (hn : ∀ d ∈ ds, nolist d = true) : DI X G tg e ds.length (fun i => sd (K := X.K) (c := c) (ds[i]?.getD .none)) := by
  obtain ⟨wi, p, r⟩ := di_listB (tg := tg) h
  refine ⟨wi, p, fun Z B H σ R E g => r Z B H σ R E fun J B' H' e w => g J B' H' e ?_⟩
  intro i B2 H2 e1 e2 e3
  refine ⟨fun hi => ⟨((w i B2 H2 e1 e2 e3).1 hi).1, fun x H' y => ?_⟩, (w i B2 H2 e1 e2 e3).2⟩
  obtain ⟨B', q1, q2, q3⟩ := ((w i B2 H2 e1 e2 e3).1 hi).2 x H' y
  refine ⟨B', q1, rfl, q3.kept ?_⟩
  rw [List.getElem?_eq_getElem hi]
  exact hn _ (List.getElem_mem hi)
theorem di_tup (h : DE X G e (.tuple ds)) : DI X G tg e ds.length (fun i => sd (K := X.K) (c := c) (ds[i]?.getD .none)) := by
  obtain ⟨t, p, r⟩ := h
  refine ⟨_, pi_tup p, fun Z B H σ R E g => r Z B H σ _ E fun v B' H' e h => ?_⟩
  cases h with
  | tup hs ha => exact ⟨_, rfl, ⟨_, Same.tup e.sub hs⟩, g _ B' H' e (walk_tup hs ha)⟩
theorem di_range1 {m : Int} (h : DE X G e (.int m)) (h1 : -(2 ^ 62) ≤ m) (h2 : m < 2 ^ 62) (hm : X.mg "range" = none) (hg : Gl X "range" := by rfl) (hs : starEach [e] X.env = [(false, eval e X.env)] := by rfl) :
    DI X G tg (.Call (.Name "range" p) [e] [] pos) m.toNat fun i => sd (.int i) := by
  obtain ⟨t, q, r⟩ := h
  refine ⟨_, pi_range1 hg hm (pa_cons q pa_nil hs) hs, fun Z B H σ R E g => r Z B H σ _ E fun v B' H' e h => ?_⟩
  cases h
  refine ⟨_, rfl, h1, h2, g _ B' H' e fun i B2 H2 e1 e2 e3 => ⟨fun hi => ⟨hi, fun x H' y => ?_⟩, fun hi => hi⟩⟩
  obtain ⟨y1, y2⟩ := y
  subst y1 y2
  exact ⟨B2, Ext.refl e2, rfl, by rw [Int.zero_add]; exact .int _⟩
theorem di_range2 {lo m : Int} (h : DE X G e (.int lo)) (h' : DE X G e2 (.int m)) (h1 : -(2 ^ 62) ≤ lo ∧ lo < 2 ^ 62) (h2 : -(2 ^ 62) ≤ m ∧ m < 2 ^ 62) (hm : X.mg "range" = none) (hg : Gl X "range" := by rfl)
    (hs : starEach [e, e2] X.env = [(false, eval e X.env), (false, eval e2 X.env)] := by rfl) (hs2 : starEach [e2] X.env = [(false, eval e2 X.env)] := by rfl) :
    DI X G tg (.Call (.Name "range" p) [e, e2] [] pos) (m - lo).toNat fun i => sd (.int (lo + i)) := by
  obtain ⟨t, q, r⟩ := h
  obtain ⟨t', q', r'⟩ := h'
  refine ⟨_, pi_range2 hg hm (pa_cons q (pa_cons q' pa_nil (by rw [hs2]; rfl)) (by rw [hs, hs2])) hs hs2, fun Z B H σ R E g => r Z B H σ _ E fun v B' H' e h => r' Z B' H' σ _ (E.ext e) fun v2 B3 H3 e3 h3 => ?_⟩
  cases h
  cases h3
  refine ⟨_, _, rfl, ⟨h1.1, h1.2, h2.1, h2.2⟩, g _ B3 H3 (e.trans e3) fun i B2 H2 e1 e2 e3 => ⟨fun hi => ⟨hi, fun x H' y => ?_⟩, fun hi => hi⟩⟩
  obtain ⟨y1, y2⟩ := y
  subst y1 y2
  exact ⟨B2, Ext.refl e2, rfl, .int _⟩
end

theorem StE.rebase {K : PySem.W.Frag} {F : Ent} {G G2 : Env K c} {B1 H1 B H : Hp} {σ σ1 : Sg} (S : StE F G B1 H1 σ1) (T : StE { F with B0 := B1 } G2 B H σ) : StE F G2 B H σ :=
  ⟨T.sub, S.b0.trans T.b0, T.zf, T.h0, T.hw, fun a q r => T.new a (S.new a q r) r, T.len, T.sl⟩
theorem StE.based {K : PySem.W.Frag} {F : Ent} {G : Env K c} {B H : Hp} {σ : Sg} (S : StE F G B H σ) : StE { F with B0 := B } G B H σ :=
  ⟨S.sub, Same.refl _, S.zf, S.h0, S.hw, fun _ q _ => q, S.len, S.sl⟩
section
variable {X : Cx} {G : Env X.K c} {tg e iter : Expr} {body rest : List Stmt} {Ph : Out X.K c → Prop} {pos p : Pos} {k : Nat}
/-- what a turn is to reach -/
def turnP (X : Cx) (Gn : Env X.K c) (rest : List Stmt) (Ph : Out X.K c → Prop) : Out X.K c → Prop
  | .nx G' => Wk G' Gn
  | .ct G' => Wk G' Gn
  | .bk G' => DSs X G' rest Ph
  | .ret s G' => Ph (.ret s G')
theorem dss_for (C : Bd X k) {n : Nat} {g : Nat → Slot X.K c} (hi : DI X G tg iter n g) (I : Nat → Env X.K c) (h0 : Wk G (I 0)) {is : List Nat} {I' : Nat → Env X.K c} (hg : ∀ i, i < n → DG X tg is (g i) (I i) (I' i))
    (turn : ∀ i, i < n → DSs X (I' i) body (turnP X (I (i + 1)) rest Ph)) (hr : DSs X (I n) rest Ph) (hs : ∀ x, foldedSetIterable iter X.env x = pure x := by intro _; rfl) : DSs X G (.For tg iter body [] pos :: rest) Ph := fun F B H σ D S E => by
  obtain ⟨wi, pi, ri⟩ := hi
  by_cases hn : n = 0
  · subst hn
    refine wp_of (pss_cons (ps_for C.po C.calm pi (g := fun _ _ _ _ => False) ⟨fun _ _ _ _ _ _ _ _ _ h => False.elim h⟩ (pss_wp (X := X) (sts := body)) hs) pss_wp) (ri F.Z B H σ _ S.env fun J B1 H1 e1 w => ?_)
    have S1 := S.ext e1
    refine ⟨fun i m σ H => m = 0 ∧ ∃ B, StE { F with B0 := B1 } (I 0) B H σ, ⟨0, rfl, B1, S1.based.weak h0⟩, fun i m σ H ⟨_, B, T⟩ => .inl ⟨(w i B H T.b0 T.sub T.z).2 (Nat.zero_le _), ?_⟩⟩
    exact hr F B H σ D (S1.rebase T) E
  · obtain ⟨gt, pg, _⟩ := hg 0 (Nat.pos_of_ne_zero hn)
    have pgw : PG X tg (fun v σ H Q => ∃ i, ∃ h : i < n, (hg i h).choose v σ H Q) := ⟨fun pins s σ H v u Q I0 r h => by
      obtain ⟨i, hi, h⟩ := h
      exact (hg i hi).choose_spec.1.run pins s σ H v u Q I0 r h⟩
    refine wp_of (pss_cons (ps_for C.po C.calm pi pgw (pss_wp (X := X) (sts := body)) hs) pss_wp) (ri F.Z B H σ _ S.env fun J B1 H1 e1 w => ?_)
    have S1 := S.ext e1
    refine ⟨fun i m σ H => m = n - i ∧ i ≤ n ∧ ∃ B, StE { F with B0 := B1 } (I i) B H σ, ⟨n, by simp, Nat.zero_le _, B1, S1.based.weak h0⟩, ?_⟩
    rintro i m σ2 H2 ⟨rfl, hi, B2, T⟩
    by_cases hlt : i < n
    · have wk := (w i B2 H2 T.b0 T.sub T.z).1 hlt
      refine .inr ⟨wk.1, fun σ' H' => ∃ B', StE { F with B0 := B1 } (I (i + 1)) B' H' σ', fun σ' H' T' => ⟨n - (i + 1), by omega, rfl, hlt, T'⟩, fun x H' y => ?_⟩
      obtain ⟨B', e2, hx⟩ := wk.2 x H' y
      have T2 := T.ext e2
      refine ⟨i, hlt, (hg i hlt).choose_spec.2 F.Z B' H' σ2 x _ T2.sub T2.z T2.len hx fun σ3 b => ?_⟩
      have T3 := T2.bound b
      refine turn i hlt { F with B0 := B1 } B' H' σ3 _ T3 ⟨fun G' B4 H4 σ4 T4 w4 => ⟨B4, T4.weak w4⟩, fun G' B4 H4 σ4 T4 w4 => w4 F B4 H4 σ4 D (S1.rebase T4) E, fun G' B4 H4 σ4 T4 w4 => ⟨B4, T4.weak w4⟩, fun s G' B4 H4 σ4 v fp T4 q f w4 => E.rt s G' B4 H4 σ4 v fp (S1.rebase T4) q f w4⟩
    · have en : i = n := by omega
      subst en
      exact .inl ⟨(w i B2 H2 T.b0 T.sub T.z).2 (Nat.le_refl _), hr F B2 H2 σ2 D (S1.rebase T) E⟩
/-- while: by states of one's own and a measure -/
theorem dss_while (C : Bd X k) {al : Type} (I : al → Env X.K c) (mu : al → Nat) (b : al → Bool) (a0 : al) (h0 : Wk G (I a0)) (hc : ∀ a, DT X (I a) e (b a))
    (turn : ∀ a, b a = true → DSs X (I a) body fun o => match o with
      | .nx G' => ∃ a', mu a' < mu a ∧ Wk G' (I a')
      | .ct G' => ∃ a', mu a' < mu a ∧ Wk G' (I a')
      | .bk G' => DSs X G' rest Ph
      | .ret s G' => Ph (.ret s G'))
    (hr : ∀ a, b a = false → DSs X (I a) rest Ph) : DSs X G (.While e body [] pos :: rest) Ph := fun F B H σ D S E => by
  have ptw : PT X e (fun σ H Q => ∃ a, (hc a).choose σ H Q) := ⟨fun pins s σ H Q I0 h => by
    obtain ⟨a, h⟩ := h
    exact (hc a).choose_spec.1.run pins s σ H Q I0 h⟩
  refine wp_of (pss_cons (ps_while C.po ptw (pss_wp (X := X) (sts := body))) pss_wp) ?_
  refine ⟨fun m σ H => ∃ a B, m = mu a ∧ StE F (I a) B H σ, ⟨_, a0, B, rfl, S.weak h0⟩, ?_⟩
  rintro m σ1 H1 ⟨a, B1, rfl, T⟩
  refine ⟨a, (hc a).choose_spec.2 F.Z B1 H1 σ1 _ T.env fun B2 H2 e2 => ?_⟩
  have T2 := T.ext e2
  cases hb : b a with
  | true =>
    refine iteT ⟨fun σ' H' => ∃ a' B', mu a' < mu a ∧ StE F (I a') B' H' σ', fun σ' H' ⟨a', B', l, T'⟩ => ⟨mu a', l, a', B', rfl, T'⟩, ?_⟩
    exact turn a hb F B2 H2 σ1 _ T2 ⟨fun G' B4 H4 σ4 T4 ⟨a', l, w4⟩ => ⟨a', B4, l, T4.weak w4⟩, fun G' B4 H4 σ4 T4 w4 => w4 F B4 H4 σ4 D T4 E, fun G' B4 H4 σ4 T4 ⟨a', l, w4⟩ => ⟨a', B4, l, T4.weak w4⟩, fun s G' B4 H4 σ4 v fp T4 q f w4 => E.rt s G' B4 H4 σ4 v fp T4 q f w4⟩
  | false => exact iteF (hr a hb F B2 H2 σ1 D T2 E)
/-- a target that takes plain data: a, b = e -/
theorem dss_asg (C : Bd X k) {is : List Nat} {d : D} {G' : Env X.K c} (he : DE X G e d) (hg : DG X tg is (sd d) G G') (h : DSs X G' rest Ph) (hs : swapsWithSole [tg] e pos.line X.env = pure false := by rfl) (hw : swappedStores [tg] e X.env = pure none := by rfl)
    (h1 : (assignEach [tg] X.env).map (·.2) = [assign tg X.env] := by rfl) : DSs X G (.Assign [tg] e pos :: rest) Ph := fun F B H σ D S E => by
  obtain ⟨t, p, r⟩ := he
  obtain ⟨gt, pg, rg⟩ := hg
  refine wp_of (pss_cons (ps_asg p pg hs hw h1) pss_wp) (r F.Z B H σ _ S.env fun v B' H' e q => ?_)
  have S' := S.ext e
  exact rg F.Z B' H' σ v _ S'.sub S'.z S'.len ⟨rfl, q⟩ fun σ' b => h F B' H' σ' D (S'.bound b) E
/-- a list of one's own is laid down for good -/
theorem dss_freeze (i : Nat) {ds : List D} (h : DSs X (G.set i (some (sd (.list ds)))) rest Ph) (hG : G[i]? = some (some (so ds)) := by rfl) : DSs X G rest Ph := fun F B H σ D S E => by
  obtain ⟨fps, h1, h2⟩ := S.sl
  obtain ⟨v, hv, ⟨p, vs, e0, e1, e2, e3, e4⟩, hf⟩ := h1 i _ hG
  have hp : F.H0 p = none := by
    have := hf p (by rw [e1]; exact List.mem_cons_self)
    simpa [so] using this
  have il : i < G.length := (List.getElem?_eq_some_iff.mp hG).1
  have up : Same B (upd B p (.lst vs)) := same_upd e2
  refine h F (upd B p (.lst vs)) H σ D ⟨fun a o q => ?_, S.b0.trans up, S.zf, S.h0, S.hw, fun a q r => ?_, by rw [List.length_set]; exact S.len, fset fps i [], fun j s q => ?_, fun j l s1 s2 ne q1 q2 a ha hb => ?_⟩ E
  · by_cases z : a = p
    · subst z; rw [upd_same] at q; cases q; exact e3
    · rw [upd_ne z] at q; exact S.sub a o q
  · by_cases z : a = p
    · subst z; exact absurd hp r
    · rw [upd_ne z]; exact S.new a q r
  · rcases getset q with ⟨rfl, q1, _⟩ | ⟨ne, q⟩
    · cases q1
      refine ⟨v, hv, ⟨fset_same, ?_⟩, fun a ha => ?_⟩
      · subst e0
        exact .lst (Rd.of upd_same) (TpAll.mono up _ _ e4)
      · rw [fset_same] at ha
        exact absurd ha List.not_mem_nil
    · obtain ⟨u, r1, r2, r3⟩ := h1 j s q
      refine ⟨u, r1, ?_, fun a ha => ?_⟩
      · rw [fset_ne ne]
        refine s.stb r2 up (fun a ha => ?_) fun a ha => rfl
        have : a ≠ p := fun z => h2 i j _ s ne hG q p (by rw [e1]; exact List.mem_cons_self) (z ▸ ha)
        rw [upd_ne this]
        exact (s.dom r2 a ha).1
      · rw [fset_ne ne] at ha
        exact r3 a ha
  · rcases getset q1 with ⟨rfl, _, _⟩ | ⟨n1, r1⟩
    · rw [fset_same] at ha
      exact List.not_mem_nil ha
    · rw [fset_ne n1] at ha
      rcases getset q2 with ⟨rfl, _, _⟩ | ⟨n2, r2⟩
      · rw [fset_same] at hb
        exact List.not_mem_nil hb
      · rw [fset_ne n2] at hb
        exact h2 j l s1 s2 ne r1 r2 a ha hb
/-- x += e, a plain name -/
theorem dss_aug (C : Bd X k) (i : Nat) {x : Str} {d1 d2 d : D} {op : Operator} {pos' : Pos} {ti : TIp} (he : DE X G e d2) (ho : PIp X op ti) (hp : ∀ B H v w Q, Same B H → Tp X.K c B v d1 → Tp X.K c B w d2 → Gv X.K c B H d Q → ti v w H Q) (h : DSs X (G.set i (some (sd d))) rest Ph)
    (hG : G[i]? = some (some (sd d1)) := by rfl) (hi : X.N[i]? = some x := by rfl) (hx : Loc X.env.scope x := by first | exact Or.inl rfl | exact Or.inr rfl)
    (hf : X.fn x = true ∨ X.env.scope.names.lookup x = some .local := by first | exact .inl rfl | exact .inr rfl) : DSs X G (.AugAssign (.Name x pos') op e pos :: rest) Ph := fun F B H σ D S E => by
  obtain ⟨t, p, r⟩ := he
  obtain ⟨v, fp, h1, h2, h3⟩ := S.env.sl i _ hG
  refine wp_of (pss_cons (ps_aug C.nd hi hx p ho hf) pss_wp) ⟨v, h1, r F.Z B H σ _ S.env fun w B' H' e q => ?_⟩
  refine hp B' H' v w _ e.sub (Tp.mono e.b _ _ h3) q fun u B2 H2 e2 q2 => ?_
  exact h F B2 H2 _ D (S.set (s := sd d) (fp := []) (e.trans e2) ⟨rfl, q2⟩ (fun a z => absurd z List.not_mem_nil) rfl i) E
end

def defEnd {K : PySem.W.Frag} (r : Slot K c) : Out K c → Prop
  | .ret s _ => s = r
  | .nx _ => r = sd .none
  | _ => False
def G0 {K : PySem.W.Frag} (N : List Str) (ss : List (Slot K c)) : Env K c := ss.map some ++ List.replicate (N.length - ss.length) none
theorem SlAll.length {K : PySem.W.Frag} {Z B H : Hp} : ∀ {vs : List V} {ss : List (Slot K c)}, SlAll Z B H vs ss → vs.length = ss.length
  | _, _, .nil => rfl
  | _, _, .cons _ h => by simp [SlAll.length h]
theorem SlAll.get {K : PySem.W.Frag} {Z B H : Hp} : ∀ {vs : List V} {ss : List (Slot K c)} {i : Nat} {s : Slot K c}, SlAll Z B H vs ss → ss[i]? = some s → ∃ v, vs[i]? = some v ∧ s.P Z B H v []
  | _, _, _, _, .nil, h => by simp at h
  | _, _, 0, _, .cons h _, e => by simp at e; subst e; exact ⟨_, rfl, h⟩
  | _, _, i + 1, _, .cons _ h, e => by simpa using SlAll.get (i := i) h (by simpa using e)
theorem ste_start {K : PySem.W.Frag} {N : List Str} {B H : Hp} {vs : List V} {ss : List (Slot K c)} (sb : Same B H) (h : SlAll H B H vs ss) (hl : ss.length ≤ N.length) : StE ⟨fun _ => False, B, H, H⟩ (G0 N ss) B H (L2.start N vs) := by
  have el := h.length
  refine ⟨sb, Same.refl _, fun a o q => ⟨q, fun z => z⟩, fun a o q _ => q, fun a w => w.elim, fun a q _ => q, ?_, fun _ => [], fun i s q => ?_, fun i j s s' _ _ _ a ha => absurd ha List.not_mem_nil⟩
  · simp [L2.start, G0, el]
  · unfold G0 at q
    by_cases hi : i < ss.length
    · rw [List.getElem?_append_left (by simpa using hi), List.getElem?_map] at q
      cases e : ss[i]? with
      | none => rw [e] at q; cases q
      | some s' =>
        rw [e] at q
        cases q
        obtain ⟨v, h1, h2⟩ := h.get e
        refine ⟨v, ?_, h2, fun a ha => absurd ha List.not_mem_nil⟩
        unfold L2.start
        rw [List.getElem?_append_left (by simpa [el] using hi), List.getElem?_map, h1]
        rfl
    · rw [List.getElem?_append_right (by simpa using hi), List.getElem?_replicate] at q
      split at q <;> cases q
abbrev bx (P : Program) (w : World) (K : PySem.W.Frag) (mg : Str → Option Value) (base : Heap) (N : List Str) (qual : Str) (st : Stmt) (f : Addr) (cdv : Value) (A : Around) (outer : List PySem.Env) (s : Shared) (H : Hp) (E : XK) : Cx :=
  (cxOf CX0 P w K mg base N qual (defScope st) f cdv A outer s H E).nox
theorem def_fn {P : Program} {w : World} {K : PySem.W.Frag} {mg : Str → Option Value} {base : Heap} {x qual : Str} {st : Stmt} {f : Addr} {fd : FuncData} {N ps : List Str} {k : Nat} {R : List (Slot K c) → Slot K c → Prop}
    (F : Fun K x qual st f fd) (S : FnScope N ps (defScope st)) (hR : ∀ ss r, R ss r → ss.length = ps.length)
    (body : ∀ (cdv : Value) (A : Around) (outer : List PySem.Env) (s : Shared) (H : Hp) (E : XK) (ss : List (Slot K c)) (r : Slot K c), R ss r → Bd (bx P w K mg base N qual st f cdv A outer s H E) k →
      DSs (c := c) (bx P w K mg base N qual st f cdv A outer s H E) (G0 N ss) (defBody st) (defEnd r)) : FnOk P w K mg base CX0 (k + 1) f fd ps (spS K R) := by
  refine F.ok S (fun vs H Q E h => ?_) fun cdv A outer s H vs Q E hr h => ?_
  · obtain ⟨B, ss, r, _, h, hq, _⟩ := h
    rw [h.length]
    exact hR ss r hq
  · obtain ⟨B, ss, r, sb, h, hq, g⟩ := h
    have hl : ss.length ≤ N.length := by
      rw [hR ss r hq]
      have := congrArg List.length S.pre
      rw [List.length_take] at this
      omega
    have S0 := ste_start sb h hl
    refine ⟨_, pss_wp, body cdv A outer s H E ss r hq ⟨S.nd, rfl, hr, PassesOwn.never⟩ _ B H _ _ S0 ⟨fun G B' H' σ T e => ?_, fun G B' H' σ T e => e.elim, fun G B' H' σ T e => e.elim, fun u G B' H' σ v fp T p hf e => ?_⟩⟩
    · have e : r = sd .none := e
      subst e
      exact g .non B' H' [] ⟨T.b0, fun a o q => T.h0 a o q fun z => z, T.sub, fun a q q' => T.new a q q'⟩ (fun _ => ⟨rfl, .non⟩) fun a ha => absurd ha List.not_mem_nil
    · have e : u = r := e
      subst e
      exact g v B' H' fp ⟨T.b0, fun a o q => T.h0 a o q fun z => z, T.sub, fun a q q' => T.new a q q'⟩ p hf

theorem def_ok {P : Program} {w : World} {K : PySem.W.Frag} {mg : Str → Option Value} {base : Heap} {x qual : Str} {st : Stmt} {f : Addr} {fd : FuncData} {N ps : List Str} {k : Nat} {R : List (Slot K c) → Slot K c → Prop}
    (F : Fun K x qual st f fd) (S : FnScope N ps (defScope st)) (hm : mg x = some (.ref f)) (bn : Binds K fd ps []) (hR : ∀ ss r, R ss r → ss.length = ps.length)
    (body : ∀ (cdv : Value) (A : Around) (outer : List PySem.Env) (s : Shared) (H : Hp) (E : XK) (ss : List (Slot K c)) (r : Slot K c), R ss r → Bd (bx P w K mg base N qual st f cdv A outer s H E) k →
      DSs (c := c) (bx P w K mg base N qual st f cdv A outer s H E) (G0 N ss) (defBody st) (defEnd r)) : DefOk P w K mg base x (k + 1) R := ⟨⟨f, fd, ps, hm, F.kp, bn, def_fn F S hR body⟩⟩

theorem wk_nil {K : PySem.W.Frag} : Wk ([] : Env K c) [] := Wk.refl _
theorem wk_same {K : PySem.W.Frag} {G G' : Env K c} {s : Option (Slot K c)} (h : Wk G G') : Wk (s :: G) (s :: G') := ⟨by simp [h.1], fun i u q => by
  cases i with
  | zero => exact q
  | succ i => exact h.2 i u (by simpa using q)⟩
theorem wk_none {K : PySem.W.Frag} {G G' : Env K c} {s : Option (Slot K c)} (h : Wk G G') : Wk (s :: G) (none :: G') := ⟨by simp [h.1], fun i u q => by
  cases i with
  | zero => simp at q
  | succ i => exact h.2 i u (by simpa using q)⟩

def wipeG {K : PySem.W.Frag} (G : Env K c) : List Nat → Env K c
  | [] => G
  | v :: vs => (wipeG G vs).set v none
theorem wipe_at {σ : Sg} {i : Nat} : ∀ {vs : List Nat}, i ∉ vs → (wipe σ vs)[i]? = σ[i]? := fun h => wipe_out h
theorem wipe_in {σ : Sg} {i : Nat} : ∀ {vs : List Nat}, i ∈ vs → i < σ.length → (wipe σ vs)[i]? = some none
  | v :: vs, h, hl => by
    unfold wipe
    by_cases e : v = i
    · subst e
      rw [List.getElem?_set_self (by rw [wipe_length]; exact hl)]
    · rw [List.getElem?_set_ne e]
      exact wipe_in ((List.mem_cons.mp h).resolve_left fun z => e z.symm) hl
theorem wipeG_len {K : PySem.W.Frag} {G : Env K c} : ∀ {vs : List Nat}, (wipeG G vs).length = G.length
  | [] => rfl
  | v :: vs => by unfold wipeG; rw [List.length_set, wipeG_len]
theorem wipeG_get {K : PySem.W.Frag} {G : Env K c} {i : Nat} {s : Slot K c} : ∀ {vs : List Nat}, (wipeG G vs)[i]? = some (some s) → G[i]? = some (some s) ∧ i ∉ vs
  | [], h => ⟨h, List.not_mem_nil⟩
  | v :: vs, h => by
    unfold wipeG at h
    rcases getset h with ⟨_, e, _⟩ | ⟨ne, h⟩
    · cases e
    · obtain ⟨a, b⟩ := wipeG_get h
      exact ⟨a, fun z => (List.mem_cons.mp z).elim (fun z => ne z.symm) b⟩
theorem wipe_eq {σ σ2 : Sg} {vs is : List Nat} (hl : σ2.length = σ.length) (hs : ∀ i ∈ is, i ∈ vs) (h : ∀ j, j ∉ is → σ2[j]? = (wipe σ vs)[j]?) : wipe σ2 vs = wipe σ vs := by
  apply List.ext_getElem?
  intro j
  by_cases z : j ∈ vs
  · by_cases l : j < σ.length
    · rw [wipe_in z (by omega), wipe_in z l]
    · rw [List.getElem?_eq_none (by rw [wipe_length]; omega), List.getElem?_eq_none (by rw [wipe_length]; omega)]
  · rw [wipe_at z]
    exact h j fun q => z (hs j q)
section
variable {X : Cx} {G : Env X.K c} {tg e elt iter : Expr} {ifs : List Expr} {body rest : List Stmt} {Ph : Out X.K c → Prop} {pos p : Pos} {k : Nat} {scope : Scope} {own : List (Str × Nat)}
theorem Bd.blk (C : Bd X k) {s : Shared} {H : Hp} {scope : Scope} {a : Addr} {cl : List (Str × Addr)} {fp : List Addr} : Bd (X.blk s H scope (compEnvC scope cl a X.env) fp) k := ⟨C.nd, C.calm, C.room, PassesOwn.never⟩
/-- the block's contexts -/
abbrev BI := Shared × Hp × Addr × List (Str × Addr) × List Addr
abbrev bY (X : Cx) (scope : Scope) (j : BI) : Cx := X.blk j.1 j.2.1 scope (compEnvC scope j.2.2.2.1 j.2.2.1 X.env) j.2.2.2.2
def DTs (Y : Cx) (G : Env Y.K c) (ifs : List Expr) (b : Bool) : Prop :=
  ∃ tt, PTs Y ifs tt ∧ ∀ Z B H σ Q, EnvE G Z B H σ → (∀ B' H', Ext B H B' H' → Q b H') → tt σ H Q
theorem dts_nil : DTs X G [] true := ⟨_, pts_nil, fun Z B H σ Q E g => g B H (Ext.refl E.sub)⟩
theorem dts_one {b : Bool} (h : DT X G e b) : DTs X G [e] b := by
  obtain ⟨t, p, r⟩ := h
  exact ⟨_, pts_one p, r⟩
def fil (b : Nat → Bool) (f : Nat → D) (n : Nat) : List D := ((List.range n).filter b).map f
theorem fil_succ (b : Nat → Bool) (f : Nat → D) (n : Nat) : fil b f (n + 1) = fil b f n ++ (if b n = true then [f n] else []) := by
  unfold fil
  rw [List.range_succ, List.filter_append, List.map_append]
  cases e : b n <;> simp [List.filter, e]
theorem fil_len (b : Nat → Bool) (f : Nat → D) (n : Nat) : (fil b f n).length ≤ n := by
  unfold fil
  rw [List.length_map]
  have := List.length_filter_le b (List.range n)
  rw [List.length_range] at this
  exact this
theorem envE_bound {K : PySem.W.Frag} {is : List Nat} {G G' : Env K c} {Z B H : Hp} {σ σ' : Sg} (S : EnvE G Z B H σ) (b : Bound is G G' Z B H σ σ') : EnvE G' Z B H σ' := by
  refine ⟨S.sub, S.z, fun j s q => ?_⟩
  by_cases z : j ∈ is
  · obtain ⟨s', v', q1, q2, q3, q4⟩ := b.at_ j z
    rw [q1] at q
    cases q
    exact ⟨v', [], q3, q4⟩
  · obtain ⟨q1, q2⟩ := b.un j z
    rw [q1] at q
    obtain ⟨v, fp, r1, r2⟩ := S.sl j s q
    exact ⟨v, fp, q2.trans r1, r2⟩
theorem envE_wipe {K : PySem.W.Frag} {G : Env K c} {Z B H : Hp} {σ : Sg} (S : EnvE G Z B H σ) (vs : List Nat) : EnvE (wipeG G vs) Z B H (wipe σ vs) := by
  refine ⟨S.sub, S.z, fun j s q => ?_⟩
  obtain ⟨q1, q2⟩ := wipeG_get q
  obtain ⟨v, fp, r1, r2⟩ := S.sl j s q1
  exact ⟨v, fp, (wipe_at q2).trans r1, r2⟩
/-- [elt for tg in iter if ..] -/
theorem dx_lcT (C : Bd X k) {n : Nat} {g : Nat → Slot X.K c} (hi : DI X G tg iter n g) (ok : BlkOk X.N X.env.scope scope own) {is : List Nat} (his : ∀ i ∈ is, i ∈ own.map (·.2)) (I' : Nat → Env X.K c) (b : Nat → Bool) (f : Nat → D) (hz : n < sizeLine)
    (hl : G.length = X.N.length)
    (hg : ∀ j : BI, ∀ i, i < n → DG (c := c) (bY X scope j) tg is (g i) (wipeG G (own.map (·.2))) (I' i))
    (ht : ∀ j : BI, ∀ i, i < n → DTs (c := c) (bY X scope j) (I' i) ifs (b i))
    (he : ∀ j : BI, ∀ i, i < n → b i = true → DE (c := c) (bY X scope j) (I' i) elt (f i))
    (hs : ∀ x, foldedSetIterable iter X.env x = pure x := by intro _; rfl) : DX X G (.ListComp elt [⟨tg, iter, ifs, 0⟩] scope pos) (so (fil b f n)) := by
  obtain ⟨wi, pi, ri⟩ := hi
  have vs : List Nat := own.map (·.2)
  let gw : TG := fun v σ H1 Q => ∀ j : BI, ∀ pins s' u, Inv (bY X scope j) pins σ H1 s' → RelV v u → wpAny (model X.prog X.w) X.A (assign tg (bY X scope j).env u) (fun _ s2 => ∃ σ' H', Inv (bY X scope j) pins σ' H' s2 ∧ Q σ' H') (fun _ _ => False) s'
  let tw : TT := fun σ H1 Q => ∀ j : BI, ∀ pins s', Inv (bY X scope j) pins σ H1 s' → wpAny (model X.prog X.w) X.A (forIn ifs true fun c r => if r = true then do let ok ← isTrue c (bY X scope j).env (eval c (bY X scope j).env); pure (ForInStep.yield ok) else pure (ForInStep.yield r)) (TP (bY X scope j) pins σ Q) (fun _ _ => False) s'
  let ew : TE := fun σ H1 Q => ∀ j : BI, ∀ pins s', Inv (bY X scope j) pins σ H1 s' → wpAny (model X.prog X.w) X.A (eval elt (bY X scope j).env) (EP (bY X scope j) pins σ Q) (fun _ _ => False) s'
  have pg : ∀ (s : Shared) (H : Hp) (C : Addr) (cl : List (Str × Addr)) (fp : List Addr), PG (X.blk s H scope (compEnvC scope cl C X.env) fp) tg gw := fun s H C cl fp => ⟨fun pins s' σ H v u Q I r h => h (s, _, C, cl, fp) pins s' u I r⟩
  have pt : ∀ (s : Shared) (H : Hp) (C : Addr) (cl : List (Str × Addr)) (fp : List Addr), PTs (X.blk s H scope (compEnvC scope cl C X.env) fp) ifs tw := fun s H C cl fp => ⟨fun pins s' σ H Q I h => h (s, _, C, cl, fp) pins s' I⟩
  have pe : ∀ (s : Shared) (H : Hp) (C : Addr) (cl : List (Str × Addr)) (fp : List Addr), PE (X.blk s H scope (compEnvC scope cl C X.env) fp) elt ew := fun s H C cl fp => ⟨fun pins s' σ H Q I h => h (s, _, C, cl, fp) pins s' I⟩
  refine ⟨_, pe_lc (own := own) C.calm C.nd pi ok pg pt pe hs, fun Z B H σ Q E gs => ri Z B H σ _ E fun J B1 H1 e1 w D hD => ?_⟩
  have E1 := E.ext e1
  have hHD : H D = none := e1.h.free hD
  refine ⟨fun i m H2 => m = n - i ∧ i ≤ n ∧ ∃ B2 acc, Ext B1 H1 B2 H2 ∧ B2 D = none ∧ H2 D = some (.lst acc) ∧ TpAll X.K c B2 acc (fil b f i), ⟨n, by simp, Nat.zero_le _, B1, [], Ext.layH e1.sub _ hD, e1.sub.free hD, upd_same, .nil⟩, ?_⟩
  rintro i m H2 ⟨rfl, hi, B2, acc, e2, d1, d2, d3⟩
  by_cases hlt : i < n
  · have wk := (w i B2 H2 e2.b e2.sub ((E1.ext e2).z)).1 hlt
    refine .inr ⟨wk.1, fun H' => ∃ B2 acc, Ext B1 H1 B2 H' ∧ B2 D = none ∧ H' D = some (.lst acc) ∧ TpAll X.K c B2 acc (fil b f (i + 1)), fun H' q => ⟨n - (i + 1), by omega, rfl, hlt, q⟩, fun x H3 y => ?_⟩
    obtain ⟨B3, e3, hx⟩ := wk.2 x H3 y
    have E3 := envE_wipe (E1.ext (e2.trans e3)) (own.map (·.2))
    intro j pins s' u Iv rv
    obtain ⟨gt, pg', rg⟩ := hg j i hlt
    refine pg'.run pins s' _ _ x u _ Iv rv (rg Z B3 H3 _ x _ E3.sub E3.z ?_ hx fun σ2 bd => ⟨?_, ?_⟩)
    · rw [wipe_length, wipeG_len, hl]
      have := Iv.len
      rw [wipe_length] at this
      exact this
    · exact wipe_eq (by rw [bd.ls, wipe_length]) his fun j' hj => (bd.un j' hj).2
    · have E4 := envE_bound E3 bd
      intro j2 pins2 s2 Iv2
      obtain ⟨tt, pt', rt⟩ := ht j2 i hlt
      refine pt'.run pins2 s2 σ2 H3 _ Iv2 (rt Z B3 H3 σ2 _ E4 fun B5 H5 e5 => ?_)
      have e35 := (e2.trans e3).trans e5
      have dB : B5 D = none := by
        have := e3.new D d1 (by rw [d2]; exact fun z => nomatch z)
        exact e5.new D this (Same.some e3.h (by rw [d2]; exact fun z => nomatch z))
      cases hb : b i with
      | false =>
        refine iteF ⟨B5, acc, e35, dB, e5.h _ _ (e3.h _ _ d2), ?_⟩
        rw [fil_succ, hb]
        simpa using TpAll.mono (e3.trans e5).b _ _ d3
      | true =>
        refine iteT ?_
        intro j3 pins3 s3 Iv3
        obtain ⟨te, pe', re⟩ := he j3 i hlt hb
        refine pe'.run pins3 s3 σ2 H5 _ Iv3 (re Z B5 H5 σ2 _ (E4.ext e5) fun y B6 H6 e6 hy => ?_)
        have d2' := e6.h _ _ (e5.h _ _ (e3.h _ _ d2))
        have dB6 : B6 D = none := e6.new D dB (by rw [e5.h _ _ (e3.h _ _ d2)]; exact fun z => nomatch z)
        refine ⟨acc, d2', by rw [d3.length]; have := fil_len b f i; omega, B6, acc ++ [y], ⟨(e35.trans e6).b, fun a o q => ?_, fun a o q => ?_, (e35.trans e6).new⟩, dB6, upd_same, ?_⟩
        · have : a ≠ D := ne_of_none q hD
          rw [upd_ne this]
          exact (e35.trans e6).h a o q
        · have : a ≠ D := ne_of_none q dB6
          rw [upd_ne this]
          exact e6.sub a o q
        · rw [fil_succ, hb]
          exact (TpAll.mono ((e3.trans e5).trans e6).b _ _ d3).append (.cons hy .nil)
  · have en : i = n := by omega
    subst en
    refine .inl ⟨(w i B2 H2 e2.b e2.sub ((E1.ext e2).z)).2 (Nat.le_refl _), gs _ B2 H2 [D] (e1.trans e2) (fun _ => ⟨D, acc, rfl, rfl, d1, d2, d3⟩) fun a ha => ?_⟩
    rw [List.mem_singleton.mp ha]
    exact hHD
/-- .. the target one name -/
theorem dx_lc1 (C : Bd X k) {x : Str} {tp : Pos} (i0 : Nat) {n : Nat} {g : Nat → Slot X.K c} (hi : DI X G (.Name x tp) iter n g) (ok : BlkOk X.N X.env.scope scope [(x, i0)]) (b : Nat → Bool) (f : Nat → D) (hz : n < sizeLine)
    (ht : ∀ j : BI, ∀ i, i < n → DTs (c := c) (bY X scope j) ((wipeG G [i0]).set i0 (some (g i))) ifs (b i))
    (he : ∀ j : BI, ∀ i, i < n → b i = true → DE (c := c) (bY X scope j) ((wipeG G [i0]).set i0 (some (g i))) elt (f i))
    (hl : G.length = X.N.length := by rfl) (hl0 : i0 < G.length := by exact Nat.le_of_ble_eq_true rfl) (hp : ∀ i, (g i).par = false := by exact fun _ => rfl) (hN : X.N[i0]? = some x := by rfl)
    (hx : ∀ j : BI, Loc (bY X scope j).env.scope x := by first | exact fun _ => Or.inl rfl | exact fun _ => Or.inr rfl)
    (hf : ∀ j : BI, (bY X scope j).fn x = true ∨ (bY X scope j).env.scope.names.lookup x = some .local := by first | exact fun _ => .inl rfl | exact fun _ => .inr rfl)
    (hs : ∀ x, foldedSetIterable iter X.env x = pure x := by intro _; rfl) : DX X G (.ListComp elt [⟨.Name x tp, iter, ifs, 0⟩] scope pos) (so (fil b f n)) :=
  dx_lcT C (own := [(x, i0)]) hi ok (is := [i0]) (by simp) (fun i => (wipeG G [i0]).set i0 (some (g i))) b f hz hl
    (fun j i h => dg_name (c := c) C.blk i0 (by rw [wipeG_len]; exact hl0) (hp i) hN (hx j) (hf j)) ht he hs
end
end Dw

namespace Dw
open PySem L2 PyProof.Rows
variable {c : Cl}
def Shp (n : Nat) (d : D) : Prop := d.canLay0 = true ∧ d.depth ≤ n
def ShpA (n : Nat) (ds : List D) : Prop := PyData.canLayAll0 ds = true ∧ PyData.depthAll ds ≤ n
theorem ShpA.nil (n : Nat) : ShpA n [] := ⟨by simp [PyData.canLayAll0], by simp [PyData.depthAll]⟩
theorem ShpA.cons {n : Nat} {d : D} {ds : List D} (h : Shp n d) (t : ShpA n ds) : ShpA n (d :: ds) := ⟨by simp [PyData.canLayAll0, h.1, t.1], by simp only [PyData.depthAll]; exact Nat.max_le.mpr ⟨h.2, t.2⟩⟩
theorem ShpA.map {α : Type} {n : Nat} {f : α → D} : ∀ {l : List α}, (∀ a ∈ l, Shp n (f a)) → ShpA n (l.map f)
  | [], _ => ShpA.nil n
  | a :: l, h => (h a List.mem_cons_self).elim fun x y => ShpA.cons ⟨x, y⟩ (ShpA.map fun b hb => h b (List.mem_cons_of_mem _ hb))
theorem ShpA.of {n : Nat} : ∀ {l : List D}, (∀ a ∈ l, Shp n a) → ShpA n l
  | [], _ => ShpA.nil n
  | a :: l, h => ShpA.cons (h a List.mem_cons_self) (ShpA.of fun b hb => h b (List.mem_cons_of_mem _ hb))
theorem Shp.int (n : Nat) (i : Int) : Shp n (.int i) := ⟨by simp [PyData.canLay0], by simp [PyData.depth]⟩
theorem Shp.bool (n : Nat) (i : Bool) : Shp n (.bool i) := ⟨by simp [PyData.canLay0], by simp [PyData.depth]⟩
theorem Shp.none (n : Nat) : Shp n .none := ⟨by simp [PyData.canLay0], by simp [PyData.depth]⟩
theorem Shp.str (n : Nat) (x : Str) (h : PyData.strOk x = true) : Shp n (.str x) := ⟨by simp [PyData.canLay0, h], by simp [PyData.depth]⟩
theorem Shp.tuple {n : Nat} {ds : List D} (h : ShpA n ds) : Shp (n + 1) (.tuple ds) := ⟨by simp only [PyData.canLay0]; exact h.1, by simp only [PyData.depth]; have := h.2; omega⟩
theorem Shp.list {n : Nat} {ds : List D} (h : ShpA n ds) : Shp (n + 1) (.list ds) := ⟨by simp only [PyData.canLay0]; exact h.1, by simp only [PyData.depth]; have := h.2; omega⟩
theorem Shp.mono {n m : Nat} {d : D} (h : Shp n d) (l : n ≤ m) : Shp m d := ⟨h.1, Nat.le_trans h.2 l⟩
theorem Shp.shaped {n : Nat} {d : D} (h : Shp n d) (l : n ≤ 64 := by decide) : SeqAt.shaped d = true := by
  show (d.canLay0 && decide (d.depth ≤ 64)) = true
  rw [h.1, Bool.true_and]
  exact decide_eq_true (Nat.le_trans h.2 l)
/-- data of a Lean type -/
class En (α : Type) [DecidableEq α] where
  enc : α → D
  dep : Nat
  shp : ∀ a, Shp dep (enc a)
  eqv : ∀ a b, PyData.eqv (enc a) (enc b) = decide (a = b)

end Dw
namespace Dw
open PySem L2 PyProof.Rows
variable {c : Cl}
abbrev enc {α : Type} [DecidableEq α] [En α] (a : α) : D := En.enc a
instance : En Int where
  enc := .int
  dep := 0
  shp := Shp.int 0
  eqv := fun a b => by simp [PyData.eqv]; rw [Bool.beq_eq_decide_eq]
instance : En Bool where
  enc := .bool
  dep := 0
  shp := Shp.bool 0
  eqv := fun a b => by simp [PyData.eqv]; rw [Bool.beq_eq_decide_eq]
theorem eqvAll_cons (x y : D) (xs ys : List D) : PyData.eqvAll (x :: xs) (y :: ys) = (PyData.eqv x y && PyData.eqvAll xs ys) := by simp [PyData.eqvAll]
theorem eqvAll_nil : PyData.eqvAll [] [] = true := by simp [PyData.eqvAll]
instance {α β : Type} [DecidableEq α] [DecidableEq β] [En α] [En β] : En (α × β) where
  enc := fun p => .tuple [enc p.1, enc p.2]
  dep := max (En.dep α) (En.dep β) + 1
  shp := fun p => Shp.tuple (ShpA.cons ((En.shp p.1).mono (Nat.le_max_left _ _)) (ShpA.cons ((En.shp p.2).mono (Nat.le_max_right _ _)) (ShpA.nil _)))
  eqv := fun a b => by
    have e : PyData.eqv (.tuple [enc a.1, enc a.2]) (.tuple [enc b.1, enc b.2]) = (PyData.eqv (enc a.1) (enc b.1) && (PyData.eqv (enc a.2) (enc b.2) && true)) := by simp only [PyData.eqv, PyData.eqvAll]
    rw [e, En.eqv, En.eqv, Bool.and_true]
    by_cases h1 : a.1 = b.1 <;> by_cases h2 : a.2 = b.2 <;> simp [h1, h2, Prod.ext_iff]
theorem eqvAll_map {α : Type} [DecidableEq α] [En α] : ∀ l m : List α, PyData.eqvAll (l.map enc) (m.map enc) = decide (l = m)
  | [], [] => by simp [PyData.eqvAll]
  | [], b :: m => by simp [PyData.eqvAll]
  | a :: l, [] => by simp [PyData.eqvAll]
  | a :: l, b :: m => by
    rw [List.map_cons, List.map_cons, eqvAll_cons, En.eqv, eqvAll_map l m]
    by_cases h1 : a = b <;> by_cases h2 : l = m <;> simp [h1, h2]
instance {α : Type} [DecidableEq α] [En α] : En (List α) where
  enc := fun l => .list (l.map enc)
  dep := En.dep α + 1
  shp := fun l => Shp.list (ShpA.map fun a _ => En.shp a)
  eqv := fun a b => by
    have e : PyData.eqv (.list (a.map enc)) (.list (b.map enc)) = PyData.eqvAll (a.map enc) (b.map enc) := by simp only [PyData.eqv]
    rw [e, eqvAll_map]
/-- a ground: a wall, or a cost and a height -/
inductive Gd where
  | wall | gr (k h : Int)
  deriving DecidableEq
def Gd.e : Gd → D
  | .wall => .none
  | .gr k h => .tuple [.int k, .int h]
instance : En Gd where
  enc := Gd.e
  dep := 1
  shp := fun a => by
    cases a with
    | wall => exact Shp.none _
    | gr k h => exact Shp.tuple (ShpA.cons (Shp.int _ _) (ShpA.cons (Shp.int _ _) (ShpA.nil _)))
  eqv := fun a b => by
    cases a with
    | wall => cases b <;> simp [Gd.e, PyData.eqv]
    | gr k h =>
      cases b with
      | wall => simp [Gd.e, PyData.eqv]
      | gr k' h' =>
        simp only [Gd.e, PyData.eqv, PyData.eqvAll, Bool.and_true, Gd.gr.injEq]
        by_cases h1 : k = k' <;> by_cases h2 : h = h' <;> simp [h1, h2]

section
variable {X : Cx} {G : Env X.K c} {a b e : Expr} {pos : Pos} {d d1 d2 d3 : D} {ds es : List D} {k : Nat}
theorem Tm.int {K : PySem.W.Frag} {Z B : Hp} {v : V} {i : Int} (h : Tm K c Z B v (.int i)) : v = .int i := by
  cases h with | of h => cases h; rfl
theorem Tm.bool {K : PySem.W.Frag} {Z B : Hp} {v : V} {i : Bool} (h : Tm K c Z B v (.bool i)) : v = .bl i := by
  cases h with | of h => cases h; rfl
theorem Tm.str {K : PySem.W.Frag} {Z B : Hp} {v : V} {i : Str} (h : Tm K c Z B v (.str i)) : v = .str i := by
  cases h with | of h => cases h; rfl
theorem Tm.tuple {K : PySem.W.Frag} {Z B : Hp} {v : V} (h : Tm K c Z B v (.tuple ds)) : ∃ a xs, v = .ref a ∧ SqT K B a xs ∧ TpAll K c B xs ds := by
  cases h with
  | of h => cases h with | tup hs ha => exact ⟨_, _, rfl, hs, ha⟩
theorem Tm.dp {K : PySem.W.Frag} {B H : Hp} {v : V} {n : Nat} (s : Same B H) (h : Tm K c H B v d) (hs : Shp n d) : Dp K H v d := Tm.dpn s _ _ h hs.1
theorem opd_int {op : Operator} {C : Int → Int → Prop} {g : Int → Int → Int} (h : OpR X (binaryOp op) (rI C fun i j => .int (g i j))) {i j : Int} (hc : C i j) : OpD c X (binaryOp op) (.int i) (.int j) (.int (g i j)) :=
  ⟨_, h, fun B H x y Q s hx hy g => ⟨i, j, hx.int, hy.int, hc, gv_of s g (.int _)⟩⟩
theorem opd_int0 {op : Operator} {g : Int → Int → Int} (h : OpR X (binaryOp op) (rI0 fun i j => .int (g i j))) {i j : Int} : OpD c X (binaryOp op) (.int i) (.int j) (.int (g i j)) :=
  ⟨_, h, fun B H x y Q s hx hy g => ⟨i, j, hx.int, hy.int, gv_of s g (.int _)⟩⟩
theorem opd_cmp0 {op : CmpOp} {g : Int → Int → Bool} (h : OpR X (compareOp op) (rI0 fun i j => .bl (g i j))) {i j : Int} : OpD c X (compareOp op) (.int i) (.int j) (.bool (g i j)) :=
  ⟨_, h, fun B H x y Q s hx hy g => ⟨i, j, hx.int, hy.int, gv_of s g (.bl _)⟩⟩
theorem od_add {i j : Int} : OpD c X (binaryOp .Add) (.int i) (.int j) (.int (i + j)) := opd_int0 op_add
theorem od_sub {i j : Int} : OpD c X (binaryOp .Sub) (.int i) (.int j) (.int (i - j)) := opd_int0 op_sub
theorem od_mul {i j : Int} (h : CMulW i j) : OpD c X (binaryOp .Mult) (.int i) (.int j) (.int (i * j)) := opd_int op_mulW h
theorem od_mulS {i j : Int} (h : CMul i j) : OpD c X (binaryOp .Mult) (.int i) (.int j) (.int (i * j)) := opd_int op_mul h
theorem od_fdiv {i j : Int} (h : CDivW i j) : OpD c X (binaryOp .FloorDiv) (.int i) (.int j) (.int (i / j)) := opd_int op_fdivW h
theorem od_fdivS {i j : Int} (h : CDiv i j) : OpD c X (binaryOp .FloorDiv) (.int i) (.int j) (.int (i / j)) := opd_int op_fdiv h
theorem od_mod {i j : Int} (h : 0 < j) : OpD c X (binaryOp .Mod) (.int i) (.int j) (.int (i % j)) := opd_int op_mod h
theorem od_pow {i j : Int} (h : CPow i j) : OpD c X (binaryOp .Pow) (.int i) (.int j) (.int (i ^ j.toNat)) := opd_int op_pow h
theorem od_shr {i j : Int} (h : 0 ≤ j) : OpD c X (binaryOp .RShift) (.int i) (.int j) (.int (i / 2 ^ j.toNat)) := opd_int op_shr h
theorem od_lt {i j : Int} : OpD c X (compareOp .Lt) (.int i) (.int j) (.bool (decide (i < j))) := opd_cmp0 op_lt
theorem od_le {i j : Int} : OpD c X (compareOp .LtE) (.int i) (.int j) (.bool (decide (i ≤ j))) := opd_cmp0 op_le
theorem od_gt {i j : Int} : OpD c X (compareOp .Gt) (.int i) (.int j) (.bool (decide (j < i))) := opd_cmp0 op_gt
theorem od_ge {i j : Int} : OpD c X (compareOp .GtE) (.int i) (.int j) (.bool (decide (j ≤ i))) := opd_cmp0 op_ge
theorem od_neg {i : Int} : UnD c X (unaryOp .USub) (.int i) (.int (-i)) := ⟨_, un_neg, fun B H x Q s hx g => ⟨i, hx.int, gv_of s g (.int _)⟩⟩
/-- == and != of data -/
theorem od_eq {n m : Nat} (C : Bd X k) (h1 : Shp n d1) (h2 : Shp m d2) (l1 : n ≤ 64 := by decide) (l2 : m ≤ 64 := by decide) : OpD c X (compareOp .Eq) d1 d2 (.bool (PyData.eqv d1 d2)) :=
  ⟨_, op_eqD C.room.units, fun B H x y Q s hx hy g => ⟨d1, d2, hx.dp s h1, hy.dp s h2, h1.shaped l1, h2.shaped l2, gv_of s g (.bl _)⟩⟩
theorem od_ne {n m : Nat} (C : Bd X k) (h1 : Shp n d1) (h2 : Shp m d2) (l1 : n ≤ 64 := by decide) (l2 : m ≤ 64 := by decide) : OpD c X (compareOp .NotEq) d1 d2 (.bool (!PyData.eqv d1 d2)) :=
  ⟨_, op_neD C.room.units, fun B H x y Q s hx hy g => ⟨d1, d2, hx.dp s h1, hy.dp s h2, h1.shaped l1, h2.shaped l2, gv_of s g (.bl _)⟩⟩
theorem od_eqE {α : Type} [DecidableEq α] [En α] (C : Bd X k) (x y : α) (l : En.dep α ≤ 64 := by decide) : OpD c X (compareOp .Eq) (enc x) (enc y) (.bool (decide (x = y))) := by
  rw [← En.eqv]
  exact od_eq C (En.shp x) (En.shp y) l l
theorem od_neE {α : Type} [DecidableEq α] [En α] (C : Bd X k) (x y : α) (l : En.dep α ≤ 64 := by decide) : OpD c X (compareOp .NotEq) (enc x) (enc y) (.bool (!decide (x = y))) := by
  rw [← En.eqv]
  exact od_ne C (En.shp x) (En.shp y) l l
theorem od_eqI (C : Bd X k) {i j : Int} : OpD c X (compareOp .Eq) (.int i) (.int j) (.bool (decide (i = j))) := od_eqE C i j
theorem od_neI (C : Bd X k) {i j : Int} : OpD c X (compareOp .NotEq) (.int i) (.int j) (.bool (!decide (i = j))) := od_neE C i j
/-- is None, is not None -/
def isN : D → Bool
  | .none => true
  | _ => false
theorem isN_ok {K : PySem.W.Frag} {Z B : Hp} {v : V} (h : Tm K c Z B v d) : decide (v = .non) = isN d := by
  cases h with
  | of h => cases h <;> simp [isN]
  | lst => simp [isN]
theorem od_is : OpD c X (compareOp .Is) d1 .none (.bool (isN d1)) := ⟨_, op_isN, fun B H x y Q s hx hy g => ⟨by cases hy with | of h => cases h; rfl, by rw [isN_ok hx]; exact gv_of s g (.bl _)⟩⟩
theorem od_isnot : OpD c X (compareOp .IsNot) d1 .none (.bool (!isN d1)) := ⟨_, op_notN, fun B H x y Q s hx hy g => ⟨by cases hy with | of h => cases h; rfl, by rw [isN_ok hx]; exact gv_of s g (.bl _)⟩⟩
/-- in, not in, of a list or a tuple of data -/
def rInQ (K : PySem.W.Frag) (neg : Bool) : R2 := fun x y H Q => ∃ d ds, Dp K H x d ∧ (Dp K H y (.list ds) ∨ Dp K H y (.tuple ds)) ∧ d.canLay0 = true ∧ PyData.canLayAll0 ds = true ∧ d.depth ≤ 64 ∧ Q (.bl (if neg then !(ds.any fun z => PyData.eqv z d) else ds.any fun z => PyData.eqv z d)) H
theorem op_inQ (hu : X.A.units + 65 < cLine) : OpR X (compareOp .In) (rInQ X.K false) := by
  intro pins s σ H x y v u Q I rx ry h
  obtain ⟨d, ds, hd, he, sd, se, dl, q⟩ := h
  obtain ⟨as, r1⟩ := Dp.reads I d x v hd rx
  have hr : X.A.units + 1 + min (PyData.depthAll ds) d.depth < cLine := by have := Nat.min_le_right (PyData.depthAll ds) d.depth; omega
  rcases he with he | he
  · obtain ⟨bs, r2⟩ := Dp.reads I (.list ds) y u he ry
    exact SeqAt.in_list_reads r2 r1 se sd hr ⟨.bl _, H, I, rfl, q⟩
  · obtain ⟨bs, r2⟩ := Dp.reads I (.tuple ds) y u he ry
    exact SeqAt.in_tuple_reads r2 r1 se sd hr ⟨.bl _, H, I, rfl, q⟩
theorem op_notInQ (hu : X.A.units + 65 < cLine) : OpR X (compareOp .NotIn) (rInQ X.K true) := by
  intro pins s σ H x y v u Q I rx ry h
  obtain ⟨d, ds, hd, he, sd, se, dl, q⟩ := h
  obtain ⟨as, r1⟩ := Dp.reads I d x v hd rx
  have hr : X.A.units + 1 + min (PyData.depthAll ds) d.depth < cLine := by have := Nat.min_le_right (PyData.depthAll ds) d.depth; omega
  rcases he with he | he
  · obtain ⟨bs, r2⟩ := Dp.reads I (.list ds) y u he ry
    exact SeqAt.notIn_list_reads r2 r1 se sd hr ⟨.bl _, H, I, rfl, q⟩
  · obtain ⟨bs, r2⟩ := Dp.reads I (.tuple ds) y u he ry
    exact SeqAt.notIn_tuple_reads r2 r1 se sd hr ⟨.bl _, H, I, rfl, q⟩
theorem units65 (C : Bd X k) : X.A.units + 65 < cLine := by have := C.room.un; omega
theorem od_inL {n m : Nat} (C : Bd X k) (h1 : Shp n d1) (h2 : ShpA m ds) (l1 : n ≤ 64 := by decide) : OpD c X (compareOp .In) d1 (.list ds) (.bool (ds.any fun z => PyData.eqv z d1)) :=
  ⟨_, op_inQ (units65 C), fun B H x y Q s hx hy g => ⟨d1, ds, hx.dp s h1, .inl (hy.dp s (Shp.list h2)), h1.1, h2.1, Nat.le_trans h1.2 l1, gv_of s g (.bl _)⟩⟩
theorem od_inT {n m : Nat} (C : Bd X k) (h1 : Shp n d1) (h2 : ShpA m ds) (l1 : n ≤ 64 := by decide) : OpD c X (compareOp .In) d1 (.tuple ds) (.bool (ds.any fun z => PyData.eqv z d1)) :=
  ⟨_, op_inQ (units65 C), fun B H x y Q s hx hy g => ⟨d1, ds, hx.dp s h1, .inr (hy.dp s (Shp.tuple h2)), h1.1, h2.1, Nat.le_trans h1.2 l1, gv_of s g (.bl _)⟩⟩
theorem od_notInL {n m : Nat} (C : Bd X k) (h1 : Shp n d1) (h2 : ShpA m ds) (l1 : n ≤ 64 := by decide) : OpD c X (compareOp .NotIn) d1 (.list ds) (.bool (!ds.any fun z => PyData.eqv z d1)) :=
  ⟨_, op_notInQ (units65 C), fun B H x y Q s hx hy g => ⟨d1, ds, hx.dp s h1, .inl (hy.dp s (Shp.list h2)), h1.1, h2.1, Nat.le_trans h1.2 l1, gv_of s g (.bl _)⟩⟩
theorem od_notInT {n m : Nat} (C : Bd X k) (h1 : Shp n d1) (h2 : ShpA m ds) (l1 : n ≤ 64 := by decide) : OpD c X (compareOp .NotIn) d1 (.tuple ds) (.bool (!ds.any fun z => PyData.eqv z d1)) :=
  ⟨_, op_notInQ (units65 C), fun B H x y Q s hx hy g => ⟨d1, ds, hx.dp s h1, .inr (hy.dp s (Shp.tuple h2)), h1.1, h2.1, Nat.le_trans h1.2 l1, gv_of s g (.bl _)⟩⟩
theorem any_mem {α : Type} [DecidableEq α] [En α] (l : List α) (a : α) : ((l.map enc).any fun z => PyData.eqv z (enc a)) = decide (a ∈ l) := by
  induction l with
  | nil => simp
  | cons b l ih =>
    rw [List.map_cons, List.any_cons, ih, En.eqv]
    by_cases h : b = a
    · subst h; simp
    · have h' : ¬ a = b := fun e => h e.symm
      simp [h, h']
def DXbin (c : Cl) (X : Cx) (f : Value → Value → Sem Value) (d1 d2 : D) (s : Slot X.K c) : Prop :=
  ∃ r, OpR X f r ∧ ∀ B H x y Q, Same B H → Tp X.K c B x d1 → Tp X.K c B y d2 → Gs X.K c B H s Q → r x y H Q
theorem dx_bin {op : Operator} {s : Slot X.K c} (ha : DE X G a d1) (hb : DE X G b d2) (ho : DXbin c X (binaryOp op) d1 d2 s) : DX X G (.BinOp a op b pos) s := by
  obtain ⟨ta, pa, ra⟩ := ha
  obtain ⟨tb, pb, rb⟩ := hb
  obtain ⟨r, hr, q⟩ := ho
  refine ⟨_, pe_op hr pa pb, fun Z B H σ Q E g => ?_⟩
  refine ra Z B H σ _ E fun v B1 H1 e1 h1 => rb Z B1 H1 σ _ (E.ext e1) fun u B2 H2 e2 h2 => ?_
  exact q B2 H2 v u Q e2.sub (Tp.mono e2.b _ _ h1) h2 (gs_ext (e1.trans e2) g)
theorem gs_lst {K : PySem.W.Frag} {B H : Hp} {Q : VK} {vs : List V} (s : Same B H) (g : Gs K c B H (so ds) Q) (h : TpAll K c B vs ds) {p : Addr} (hp : H p = none) : Q (.ref p) (upd H p (.lst vs)) :=
  g _ B _ [p] (Ext.layH s _ hp) (fun _ => ⟨p, vs, rfl, rfl, s.free hp, upd_same, h⟩) fun a ha => by rw [List.mem_singleton.mp ha]; exact hp
end
end Dw

namespace Dw
open PySem L2 PyProof.Rows
variable {c : Cl}
section
variable {X : Cx} {G : Env X.K c} {a b e f : Expr} {es : List Expr} {pos : Pos} {d d1 d2 d3 : D} {ds zs : List D} {k : Nat} {x : Str}
theorem Inv.lstR {pins : List (Addr × Obj)} {σ : Sg} {H : Hp} {s : Shared} {l : Addr} {xs : List V} (I : Inv X pins σ H s) (h : Rd H l (.lst xs)) : xs.length ≤ sizeLine ∧ ∃ (its : List Value) (n : Nat), Vals xs its ∧ xs.length = its.length ∧ s.heap.get? l = some { cls := .type "list", data := .seq its.toArray n } := by
  obtain ⟨z, its, n, r, e⟩ := h.ok I.hok
  exact ⟨z, its, n, r, r.length, e⟩
def rCatR : R2 := fun x y H Q => ∃ l b xs zs, x = .ref l ∧ y = .ref b ∧ Rd H l (.lst xs) ∧ Rd H b (.lst zs) ∧ xs.length + zs.length ≤ sizeLine ∧ ∀ p, H p = none → Q (.ref p) (upd H p (.lst (xs ++ zs)))
theorem op_catR : OpR X (binaryOp .Add) rCatR := by
  intro pins s σ H x y v u Q I rx ry h
  obtain ⟨l, b, xs, zs, rfl, rfl, hH, hB, hz, q⟩ := h
  cases rx
  cases ry
  obtain ⟨z, its, n, r, hl, e⟩ := Inv.lstR I hH
  obtain ⟨z2, its2, n2, r2, hl2, e2⟩ := Inv.lstR I hB
  refine PySem.P.add_list e e2 ?_ (by rw [List.size_toArray, List.size_toArray]; omega)
  have ea : its.toArray ++ its2.toArray = (its ++ its2).toArray := by simp
  rw [ea]
  exact ⟨.ref _, _, I.lnew (t' := s.toks) (r.append r2) (by rw [List.length_append]; omega), rfl, q _ I.fresh⟩
theorem ob_cat (hl : ds.length + zs.length ≤ sizeLine) : DXbin c X (binaryOp .Add) (.list ds) (.list zs) (so (ds ++ zs)) :=
  ⟨_, op_catR, fun B H x y Q s hx hy g => by
    cases hx with
    | lst h1 h2 =>
      cases hy with
      | lst h3 h4 => exact ⟨_, _, _, _, rfl, rfl, Same.rd s h1, Same.rd s h3, by rw [h2.length, h4.length]; exact hl, fun p hp => gs_lst s g (h2.append h4) hp⟩⟩
theorem tpAll_rep {K : PySem.W.Frag} {B : Hp} {vs : List V} (h : TpAll K c B vs ds) : ∀ n : Nat, TpAll K c B (List.replicate n vs).flatten (List.replicate n ds).flatten
  | 0 => .nil
  | n + 1 => by
    rw [List.replicate_succ, List.replicate_succ, List.flatten_cons, List.flatten_cons]
    exact h.append (tpAll_rep h n)
/-- [..] * n, a written list -/
theorem dx_rep {n : Int} (ha : DX X G a (so ds)) (hb : DE X G b (.int n)) (h1 : -(2 ^ 63) ≤ n) (h2 : n < 2 ^ 63) (hl : ds.length * n.toNat ≤ sizeLine) : DX X G (.BinOp a .Mult b pos) (so (List.replicate n.toNat ds).flatten) := by
  obtain ⟨ta, pa, ra⟩ := ha
  obtain ⟨tb, pb, rb⟩ := hb
  refine ⟨_, pe_op op_rep pa pb, fun Z B H σ Q E g => ?_⟩
  refine ra Z B H σ _ E fun v B1 H1 fp e1 h hf => rb Z B1 H1 σ _ (E.ext e1) fun u B2 H2 e2 hu => ?_
  obtain ⟨p, vs, q0, q1, q2, q3, q4⟩ := h B
  cases hu
  refine ⟨p, n, vs, q0, rfl, e2.h _ _ q3, h1, h2, by rw [q4.length]; exact hl, fun r hr => ?_⟩
  exact gs_lst e2.sub (gs_ext (e1.trans e2) g) (tpAll_rep (TpAll.mono e2.b _ _ q4) _) hr

theorem ix_of {K : PySem.W.Frag} {Z B : Hp} {vs : List V} {i : Int} (h : TmAll K c Z B vs ds) (hd : atI ds i = some d) : ∃ v, atI vs i = some v ∧ Tm K c Z B v d := by
  have hl := h.length
  unfold atI at hd ⊢
  rw [hl]
  cases e : ixN ds.length i with
  | none => rw [e] at hd; cases hd
  | some j =>
    rw [e] at hd
    exact h.get (i := j) hd
theorem ixd_list {i : Int} (hd : atI ds i = some d) : IxD c X (.list ds) (.int i) d := ⟨_, ix_list, fun Z B H x y Q s z hx hy g => by
  cases hy.int
  cases hx with
  | of hx =>
    cases hx with
    | lst h1 h2 =>
      obtain ⟨v, q1, q2⟩ := ix_of (Z := Z) (TmAll.of h2) hd
      exact ⟨_, _, _, v, rfl, rfl, .inl (Same.rd s h1), q1, g v q2⟩
  | lst h1 h2 =>
    obtain ⟨v, q1, q2⟩ := ix_of h2 hd
    exact ⟨_, _, _, v, rfl, rfl, z.seq h1, q1, g v q2⟩⟩
theorem ixd_tup {i : Int} (hd : atI ds i = some d) : IxD c X (.tuple ds) (.int i) d := ⟨_, ix_tup, fun Z B H x y Q s z hx hy g => by
  cases hy.int
  obtain ⟨p, xs, rfl, h1, h2⟩ := hx.tuple
  obtain ⟨v, q1, q2⟩ := ix_of (Z := Z) (TmAll.of h2) hd
  exact ⟨_, _, _, v, rfl, rfl, Same.tup s h1, q1, g v q2⟩⟩
theorem atI_of {α : Type} {xs : List α} {i : Int} {v : α} (h0 : 0 ≤ i) (h : xs[i.toNat]? = some v) : atI xs i = some v := by
  have e : i = (i.toNat : Int) := by omega
  rw [e]
  exact atI_nat h
def cutD (ds : List D) (lo hi : Option Int) : List D := (ds.drop (HT.sIx ds.length 0 lo)).take (HT.sIx ds.length ds.length hi - HT.sIx ds.length 0 lo)
def DO (X : Cx) (G : Env X.K c) (e : Option Expr) (o : Option Int) : Prop :=
  ∃ t, PO X e t ∧ ∀ Z B H σ Q, EnvE G Z B H σ → (∀ B' H', Ext B H B' H' → Q o H') → t σ H Q
theorem do_none : DO (c := c) X G none none := ⟨_, po_none, fun Z B H σ Q E g => g B H (Ext.refl E.sub)⟩
theorem do_some {i : Int} (h : DE X G e (.int i)) : DO X G (some e) (some i) := by
  obtain ⟨t, p, r⟩ := h
  refine ⟨_, po_some p, fun Z B H σ Q E g => r Z B H σ _ E fun v B' H' e h => ?_⟩
  cases h
  exact ⟨i, rfl, g B' H' e⟩
/-- xs[lo:hi] of a list whose items may be kept -/
theorem dx_slice {lo hi : Option Expr} {l u : Option Int} {p2 : Pos} (ha : DZ X G a (.list ds)) (hn : ∀ d ∈ ds, nolist d = true) (hl : DO X G lo l) (hu : DO X G hi u) : DX X G (.Subscript a (.Slice lo hi none p2) pos) (so (cutD ds l u)) := by
  obtain ⟨ta, pa, ra⟩ := ha
  obtain ⟨tl, pl, rl⟩ := hl
  obtain ⟨tu, pu, ru⟩ := hu
  refine ⟨_, pe_slice sl_list pa pl pu, fun Z B H σ Q E g => ?_⟩
  refine ra Z B H σ _ E fun v B1 H1 e1 h1 => rl Z B1 H1 σ _ (E.ext e1) fun B2 H2 e2 => ru Z B2 H2 σ _ (E.ext (e1.trans e2)) fun B3 H3 e3 => ?_
  have e := (e1.trans e2).trans e3
  have kept : ∀ {vs : List V} {es : List D}, TmAll X.K c Z B1 vs es → (∀ d ∈ es, nolist d = true) → TpAll X.K c B1 vs es := by
    intro vs es h
    induction es generalizing vs with
    | nil => intro _; cases h; exact .nil
    | cons d es ih =>
      intro hn
      cases h with
      | cons q1 q2 => exact .cons (q1.kept (hn d List.mem_cons_self)) (ih q2 fun z hz => hn z (List.mem_cons_of_mem _ hz))
  have fin : ∀ {p : Addr} {vs : List V}, v = .ref p → SqL X.K H3 p vs → TpAll X.K c B1 vs ds → (rSlL X.K) v l u H3 Q := fun {p vs} q1 q2 q3 => by
    refine ⟨p, vs, q1, q2, fun r hr => ?_⟩
    refine gs_lst e3.sub (gs_ext e g) ?_ hr
    have := TpAll.mono (e2.trans e3).b _ _ q3
    unfold cutV cutD
    rw [q3.length]
    exact (this.drop _).take _
  cases h1 with
  | of h1 =>
    cases h1 with
    | lst q1 q2 => exact fin rfl (.inl (Same.rd (e1.sub.trans (e2.trans e3).h) q1)) q2
  | lst q1 q2 => exact fin rfl ((E.z.trans e.h).seq q1) (kept q2 hn)
/-- t[lo:hi] of a text -/
theorem de_sliceS {z : Str} {lo hi : Option Expr} {l u : Option Int} {p2 : Pos} (ha : DE X G a (.str z)) (hz : z.length ≤ sizeLine) (hl : DO X G lo l) (hu : DO X G hi u) : DE X G (.Subscript a (.Slice lo hi none p2) pos) (.str (cutS z l u)) := by
  obtain ⟨ta, pa, ra⟩ := ha
  obtain ⟨tl, pl, rl⟩ := hl
  obtain ⟨tu, pu, ru⟩ := hu
  refine ⟨_, pe_slice sl_str pa pl pu, fun Z B H σ Q E g => ?_⟩
  refine ra Z B H σ _ E fun v B1 H1 e1 h1 => rl Z B1 H1 σ _ (E.ext e1) fun B2 H2 e2 => ru Z B2 H2 σ _ (E.ext (e1.trans e2)) fun B3 H3 e3 => ?_
  cases h1
  exact ⟨z, rfl, hz, g _ B3 H3 ((e1.trans e2).trans e3) (.str _)⟩

theorem Tm.seqH {B H : Hp} {v : V} (s : Same B H) (h : Tm X.K c H B v (.list ds)) : ∃ p xs, v = .ref p ∧ SqL X.K H p xs ∧ xs.length = ds.length := by
  obtain ⟨p, xs, h1, h2, h3⟩ := Tm.seq s h
  exact ⟨p, xs, h1, h2, h3.length⟩
theorem tm1 {B H : Hp} {xs : List V} (h : TmAll X.K c H B xs [d]) : ∃ v, xs = [v] ∧ Tm X.K c H B v d := by
  cases h with | cons h t => cases t; exact ⟨_, rfl, h⟩
theorem tm2 {B H : Hp} {xs : List V} (h : TmAll X.K c H B xs [d1, d2]) : ∃ v u, xs = [v, u] ∧ Tm X.K c H B v d1 ∧ Tm X.K c H B u d2 := by
  cases h with | cons h t => cases t with | cons h' t => cases t; exact ⟨_, _, rfl, h, h'⟩
theorem tp1 {B : Hp} {xs : List V} (h : TpAll X.K c B xs [d]) : ∃ v, xs = [v] ∧ Tp X.K c B v d := by
  cases h with | cons h t => cases t; exact ⟨_, rfl, h⟩
theorem cd_lenL : CallD c X (.builtin "len") [.list ds] (.int ds.length) := ⟨_, call_len, fun B H xs Q s h g => by
  obtain ⟨v, rfl, hv⟩ := tm1 h
  obtain ⟨p, ys, rfl, h1, h2⟩ := Tm.seqH s hv
  exact ⟨_, ys.length, rfl, .inl ⟨ys, h1, rfl⟩, by rw [h2]; exact gv_of s g (.int _)⟩⟩
theorem cd_lenT : CallD c X (.builtin "len") [.tuple ds] (.int ds.length) := ⟨_, call_len, fun B H xs Q s h g => by
  obtain ⟨v, rfl, hv⟩ := tm1 h
  obtain ⟨p, ys, rfl, h1, h2⟩ := hv.tuple
  exact ⟨_, ys.length, rfl, .inr ⟨ys, Same.tup s h1, rfl⟩, by rw [h2.length]; exact gv_of s g (.int _)⟩⟩
theorem cd_lenS {z : Str} (hz : z.length ≤ sizeLine) : CallD c X (.builtin "len") [.str z] (.int z.length) := ⟨_, call_len, fun B H xs Q s h g => by
  obtain ⟨v, rfl, hv⟩ := tm1 h
  cases hv.str
  exact ⟨_, z.length, rfl, ⟨hz, rfl⟩, gv_of s g (.int _)⟩⟩
/-- tuple(t), a tuple is itself -/
theorem cd_tupleT : CallD c X (.type "tuple") [.tuple ds] (.tuple ds) := ⟨_, call_tupleT, fun B H xs Q s h g => by
  obtain ⟨v, rfl, hv⟩ := tm1 h
  obtain ⟨p, ys, rfl, h1, h2⟩ := hv.tuple
  exact ⟨p, ys, rfl, Same.tup s h1, gv_of s g (.tup h1 h2)⟩⟩
/-- list(xs), list(t): items that may be kept -/
theorem cb_listL : CallB c X (.type "list") [.list ds] (so ds) := ⟨_, call_list_of, fun B H xs Q s h g => by
  obtain ⟨v, rfl, hv⟩ := tp1 h
  cases hv with | lst h1 h2 => exact ⟨_, _, rfl, .inl (.inl (Same.rd s h1)), fun p hp => gs_lst s g h2 hp⟩⟩
theorem cb_listT : CallB c X (.type "list") [.tuple ds] (so ds) := ⟨_, call_list_of, fun B H xs Q s h g => by
  obtain ⟨v, rfl, hv⟩ := tp1 h
  cases hv with | tup h1 h2 => exact ⟨_, _, rfl, .inr (Same.tup s h1), fun p hp => gs_lst s g h2 hp⟩⟩
/-- isinstance: what a value is -/
inductive TyD : D → String → Prop
  | non : TyD .none "NoneType"
  | bl (b : Bool) : TyD (.bool b) "bool"
  | int (i : Int) : TyD (.int i) "int"
  | str (z : Str) : TyD (.str z) "str"
  | lst (ds : List D) : TyD (.list ds) "list"
  | tup (ds : List D) : TyD (.tuple ds) "tuple"
end
end Dw

namespace Dw
open PySem L2 PyProof.Rows
variable {c : Cl}
section
variable {X : Cx} {G : Env X.K c} {a b e f : Expr} {es : List Expr} {pos : Pos} {d d1 d2 d3 : D} {ds zs : List D} {k : Nat} {x : Str}
theorem TyD.ok {B H : Hp} {v : V} {t : String} (s : Same B H) (h : Tm X.K c H B v d) (ty : TyD d t) : TyX X.K H v (.type t) := by
  have seqT : ∀ {p : Addr} {xs : List V}, SqT X.K H p xs → TyX X.K H (.ref p) (.type "tuple") := fun {p xs} q => by
    rcases q with (q | ⟨o, q⟩) | ⟨o, its, n, q, q2, _⟩
    · exact .base (.tup q)
    · exact .fTuple q
    · exact .kTuple q q2
  cases ty with
  | lst ds =>
    obtain ⟨p, xs, rfl, q, _⟩ := Tm.seq s h
    rcases q with (q | ⟨o, q⟩) | ⟨o, its, n, q, q2, _⟩
    · exact .base (.lst q)
    · exact .base (.frz q)
    · exact .kList q q2
  | tup ds =>
    obtain ⟨p, xs, rfl, q, _⟩ := h.tuple
    exact seqT (Same.tup s q)
  | non => cases h with | of h => cases h; exact .base .non
  | bl b => cases h.bool; exact .base (.bl b)
  | int b => cases h.int; exact .base (.int b)
  | str b => cases h.str; exact .base (.str b)
theorem call1_run {id : String} {p : Pos} {T : String} {y : Str} {q : Pos} : True := trivial
/-- whether a value of the built-in class t is one of T -/
def isiB (t T : String) : Bool := t == T || (t == "bool" && T == "int")
/-- isinstance(e, T), T a built-in class -/
theorem de_isi {t : String} (T : String) {p q : Pos} {y : Str} (ha : DR X G a d) (ht : TyD d t) (hk : kitB t T = some (isiB t T)) (hm : X.mg "isinstance" = none) (hmT : X.mg y = none) (hvT : bootBuiltins y = some (.type T) := by decide +kernel) (hg : Gl X "isinstance" := by rfl) (hgT : Gl X y := by rfl)
    (hn : y ≠ "__name__" := by decide) (hdb : (y == ("__debug__" : Str)) = false := by decide) (he : starEach (a :: [.Name y q]) X.env = (false, eval a X.env) :: starEach [.Name y q] X.env := by rfl)
    (he2 : starEach [.Name y q] X.env = (false, eval (.Name y q) X.env) :: starEach [] X.env := by rfl) (hpl : (backTo pos (starEach [.Name y q] X.env)).any (·.1) = false := by rfl) : DE X G (.Call (.Name "isinstance" p) [a, .Name y q] [] pos) (.bool (isiB t T)) := by
  obtain ⟨ta, pa, ra⟩ := ha
  refine ⟨_, pe_callB call_isi hg hm (by decide +kernel) (pa_cons pa (pa_cons (pe_bltn (v := .ty T) hgT hmT hvT rfl hn hdb) pa_nil he2) he) (by decide) (by decide) he hpl, fun Z B H σ Q E g => ?_⟩
  refine ra Z B H σ _ E fun v B' H' e h => ?_
  exact ⟨v, _, _, _, _, rfl, .ty T, TyD.ok e.sub h ht, kit_ty hk, g _ B' H' e (.bl _)⟩
/-- D[k] of a written dict with texts as keys -/
theorem de_wix {z : Str} {x : Str} {p : Pos} {ad : Addr} {v : V} (hm : X.mg x = some (.ref ad)) (hb : DE X G b (.str z)) (hk : KDct X.K X.w ad z v) (hv : ∀ B, Tp X.K c B v d) (hg : Gl X x := by rfl) (hd : (x == ("__debug__" : Str)) = false := by decide) (hs : PlainIx b := by exact fun _ _ => rfl) :
    DE X G (.Subscript (.Name x p) b pos) d := by
  obtain ⟨tb, pb, rb⟩ := hb
  refine ⟨_, pe_ix ix_kdict (pe_glob (v := .ref ad) hg hm rfl hd) pb hs, fun Z B H σ Q E g => rb Z B H σ _ E fun u B' H' e h => ?_⟩
  cases h
  exact ⟨ad, z, v, rfl, rfl, hk, g v B' H' e (hv B')⟩
/-- a written tuple of the module -/
theorem tp_ktup {K : PySem.W.Frag} {B : Hp} {p : Addr} {dd : Option Addr} {its : Array Value} {n : Nat} {sl : Array (Option Value)} {vs : List V} (h : K.lookup p = some ⟨.type "tuple", dd, .seq its n, sl⟩) (hl : its.size ≤ sizeLine) (hv : Vals vs its.toList) (hd : TpAll K c B vs ds) : Tp K c B (.ref p) (.tuple ds) :=
  .tup (.inr ⟨_, its, n, h, rfl, rfl, hl, hv⟩) hd
end
end Dw
namespace Dw
open PySem L2 PyProof.Rows
variable {c : Cl}
/-- a def of the top: what the head knows of it -/
structure FunAt (K : PySem.W.Frag) (mg : Str → Option Value) (x : Str) (st : Stmt) (ps : List Str) : Prop where
  ex : ∃ f fd, mg x = some (.ref f) ∧ Fun K x x st f fd ∧ Binds K fd ps []
theorem def_okF {P : Program} {w : World} {K : PySem.W.Frag} {mg : Str → Option Value} {base : Heap} {x : Str} {st : Stmt} {N ps : List Str} {k : Nat} {R : List (Slot K c) → Slot K c → Prop}
    (F : FunAt K mg x st ps) (S : FnScope N ps (defScope st)) (hR : ∀ ss r, R ss r → ss.length = ps.length)
    (body : ∀ (f : Addr) (cdv : Value) (A : Around) (outer : List PySem.Env) (s : Shared) (H : Hp) (E : XK) (ss : List (Slot K c)) (r : Slot K c), R ss r → Bd (bx P w K mg base N x st f cdv A outer s H E) k →
      DSs (c := c) (bx P w K mg base N x st f cdv A outer s H E) (G0 N ss) (defBody st) (defEnd r)) : DefOk P w K mg base x (k + 1) R := by
  obtain ⟨f, fd, hm, F, bn⟩ := F.ex
  exact def_ok F S hm bn hR (body f)
theorem DefOk.mono {P : Program} {w : World} {K : PySem.W.Frag} {mg : Str → Option Value} {base : Heap} {x : Str} {j k : Nat} {R : List (Slot K c) → Slot K c → Prop} (h : DefOk P w K mg base x j R) (l : j ≤ k) : DefOk P w K mg base x k R := by
  obtain ⟨f, fd, ps, h1, h2, h3, h4⟩ := h.ex
  exact ⟨f, fd, ps, h1, h2, h3, h4.mono l⟩
/-- the law's own promise: the script's ints come in, True goes out -/
def RLaw (K : PySem.W.Frag) (c : Cl) : List (Slot K c) → Slot K c → Prop := fun ss r => ∃ ns : List Int, ns.length ≤ 63 ∧ ss = [sb (.list (ns.map .int))] ∧ r = sd (.bool true)
end Dw

namespace Dw
open PySem L2 PyProof.Rows
variable {c : Cl}
/-- a constant of the module -/
structure ConstAt (K : PySem.W.Frag) (c : Cl) (mg : Str → Option Value) (x : Str) (d : D) : Prop where
  ex : ∃ u v, mg x = some u ∧ RelV v u ∧ ∀ B, Tp K c B v d
section
variable {X : Cx} {G : Env X.K c} {a b e f : Expr} {es : List Expr} {pos : Pos} {d d1 d2 d3 : D} {ds zs : List D} {k : Nat} {x : Str}
theorem de_const (h : ConstAt X.K c X.mg x d) (hg : Gl X x := by rfl) (hd : (x == ("__debug__" : Str)) = false := by decide) : DE X G (.Name x pos) d := by
  obtain ⟨u, v, h1, h2, h3⟩ := h.ex
  exact de_glob hg h1 h2 h3 hd
/-- the table of moves -/
structure MovesAt (K : PySem.W.Frag) (c : Cl) (w : World) (mg : Str → Option Value) : Prop where
  ex : ∃ ad, mg "MOVES" = some (.ref ad) ∧ (∃ v, KDct K w ad "n" v ∧ ∀ B, Tp K c B v (.tuple [.int (-1), .int 0])) ∧ (∃ v, KDct K w ad "e" v ∧ ∀ B, Tp K c B v (.tuple [.int 0, .int 1])) ∧
    (∃ v, KDct K w ad "s" v ∧ ∀ B, Tp K c B v (.tuple [.int 1, .int 0])) ∧ (∃ v, KDct K w ad "w" v ∧ ∀ B, Tp K c B v (.tuple [.int 0, .int (-1)]))
/-- a side: 0 n, 1 e, 2 s, 3 w -/
def sideS (i : Fin 4) : Str := match i with | 0 => "n" | 1 => "e" | 2 => "s" | 3 => "w"
def mv (i : Fin 4) : Int × Int := match i with | 0 => (-1, 0) | 1 => (0, 1) | 2 => (1, 0) | 3 => (0, -1)
theorem de_moves {p : Pos} (M : MovesAt X.K c X.w X.mg) (i : Fin 4) (hb : DE X G b (.str (sideS i))) (hg : Gl X "MOVES" := by rfl) (hs : PlainIx b := by exact fun _ _ => rfl) :
    DE X G (.Subscript (.Name "MOVES" p) b pos) (enc (mv i)) := by
  obtain ⟨ad, hm, ⟨v0, k0, t0⟩, ⟨v1, k1, t1⟩, ⟨v2, k2, t2⟩, ⟨v3, k3, t3⟩⟩ := M.ex
  match i with
  | 0 => exact de_wix hm hb k0 t0 hg (by decide) hs
  | 1 => exact de_wix hm hb k1 t1 hg (by decide) hs
  | 2 => exact de_wix hm hb k2 t2 hg (by decide) hs
  | 3 => exact de_wix hm hb k3 t3 hg (by decide) hs
end
/-- the name of a value's class -/
def tyN : D → String
  | .none => "NoneType"
  | .bool _ => "bool"
  | .int _ => "int"
  | .str _ => "str"
  | .list _ => "list"
  | .tuple _ => "tuple"
  | .dict _ => "?"
def nodict : D → Bool
  | .dict _ => false
  | _ => true
theorem tyD_of : ∀ {d : D}, nodict d = true → TyD d (tyN d)
  | .none, _ => .non
  | .bool _, _ => .bl _
  | .int _, _ => .int _
  | .str _, _ => .str _
  | .list _, _ => .lst _
  | .tuple _, _ => .tup _
  | .dict _, h => by cases h
theorem kit_tyN {T : String} (h : (["NoneType", "bool", "int", "str", "list", "tuple"].all fun t => decide (kitB t T = some (isiB t T))) = true) {d : D} (hd : nodict d = true) : kitB (tyN d) T = some (isiB (tyN d) T) := by
  have all := fun t ht => of_decide_eq_true (List.all_eq_true.mp h t ht)
  cases d with
  | dict _ => cases hd
  | _ => exact all _ (by simp [tyN])
/-- isinstance(e, T) of data -/
theorem de_isd {X : Cx} {G : Env X.K c} {a : Expr} {d : D} {pos : Pos} (T : String) {p q : Pos} {y : Str} (ha : DR X G a d) (hm : X.mg "isinstance" = none) (hmT : X.mg y = none) (hd : nodict d = true := by rfl) (hk : (["NoneType", "bool", "int", "str", "list", "tuple"].all fun t => decide (kitB t T = some (isiB t T))) = true := by decide +kernel) (hvT : bootBuiltins y = some (.type T) := by decide +kernel) (hg : Gl X "isinstance" := by rfl) (hgT : Gl X y := by rfl)
    (hn : y ≠ "__name__" := by decide) (hdb : (y == ("__debug__" : Str)) = false := by decide) (he : starEach (a :: [.Name y q]) X.env = (false, eval a X.env) :: starEach [.Name y q] X.env := by rfl)
    (he2 : starEach [.Name y q] X.env = (false, eval (.Name y q) X.env) :: starEach [] X.env := by rfl) (hpl : (backTo pos (starEach [.Name y q] X.env)).any (·.1) = false := by rfl) : DE X G (.Call (.Name "isinstance" p) [a, .Name y q] [] pos) (.bool (isiB (tyN d) T)) :=
  de_isi T ha (tyD_of hd) (kit_tyN hk hd) hm hmT hvT hg hgT hn hdb he he2 hpl
/-- what a chart knows of a cell -/
inductive Kn where
  | unk | wall | gr (k h : Int)
  deriving DecidableEq
def Kn.e : Kn → D
  | .unk => .str "?"
  | .wall => .none
  | .gr k h => .tuple [.int k, .int h]
instance : En Kn where
  enc := Kn.e
  dep := 1
  shp := fun a => by
    cases a with
    | unk => exact Shp.str _ _ (by decide +kernel)
    | wall => exact Shp.none _
    | gr k h => exact Shp.tuple (ShpA.cons (Shp.int _ _) (ShpA.cons (Shp.int _ _) (ShpA.nil _)))
  eqv := fun a b => by
    cases a with
    | unk => cases b <;> simp [Kn.e, PyData.eqv]
    | wall => cases b <;> simp [Kn.e, PyData.eqv]
    | gr k h =>
      cases b with
      | unk => simp [Kn.e, PyData.eqv]
      | wall => simp [Kn.e, PyData.eqv]
      | gr k' h' =>
        simp only [Kn.e, PyData.eqv, PyData.eqvAll, Bool.and_true, Kn.gr.injEq]
        by_cases h1 : k = k' <;> by_cases h2 : h = h' <;> simp [h1, h2]
theorem kn_nodict (a : Kn) : nodict (enc a) = true := by cases a <;> rfl
theorem kn_nodictL (a : Kn) : nolist (enc a) = true := by cases a <;> rfl
theorem gd_nodictL (a : Gd) : nolist (enc a) = true := by cases a <;> rfl
theorem gd_nodict (a : Gd) : nodict (enc a) = true := by cases a <;> rfl
/-- one can step from the one to the other -/
def stepK : Kn → Kn → Bool
  | .gr _ h, .gr _ h' => decide (h' ≤ h)
  | _, _ => false
/-- an if whose ways meet -/
def joinP {X : Cx} (Gj : Dw.Env X.K c) (Ph : Out X.K c → Prop) : Out X.K c → Prop
  | .nx G' => Wk G' Gj
  | o => Ph o
theorem dss_ifJ {X : Cx} {G : Env X.K c} {e : Expr} {body orelse rest : List Stmt} {Ph : Out X.K c → Prop} {pos : Pos} {k : Bool} (Gj : Env X.K c) (hc : DT X G e k) (h1 : k = true → DSs X G body (joinP Gj Ph)) (h2 : k = false → DSs X G orelse (joinP Gj Ph)) (h : DSs X Gj rest Ph) :
    DSs X G (.If e body orelse pos :: rest) Ph := by
  have im : ∀ o, joinP Gj Ph o → sq X rest Ph o := fun o q => by
    cases o with
    | nx G' => exact DSs.weak q h
    | bk _ => exact q
    | ct _ => exact q
    | ret _ _ => exact q
  exact dss_if hc (fun q => (h1 q).imp im) fun q => (h2 q).imp im
section
variable {X : Cx} {G : Env X.K c} {e : Expr}
theorem de_lit {i : Int} (v : Int) (h : DE X G e (.int i)) (hv : i = v) : DE X G e (.int v) := hv ▸ h
theorem od_powC {i j : Int} (h : (decide (0 ≤ j) && decide (j ≤ 1000000) && decide (i.natAbs < 2 ^ 64)) = true := by decide +kernel) : OpD c X (binaryOp .Pow) (.int i) (.int j) (.int (i ^ j.toNat)) := by
  simp only [Bool.and_eq_true, decide_eq_true_eq] at h
  exact od_pow ⟨h.1.1, h.1.2, h.2⟩
theorem od_mulC {i j : Int} (h : decide (i.natAbs.log2 + j.natAbs.log2 < 1000000) = true := by decide +kernel) : OpD c X (binaryOp .Mult) (.int i) (.int j) (.int (i * j)) := od_mul (show i.natAbs.log2 + j.natAbs.log2 < 1000000 from of_decide_eq_true h)
theorem od_fdivC {i j : Int} (h : (decide (0 < j) && decide (j.natAbs.log2 < 9000)) = true := by decide +kernel) : OpD c X (binaryOp .FloorDiv) (.int i) (.int j) (.int (i / j)) := by
  simp only [Bool.and_eq_true, decide_eq_true_eq] at h
  exact od_fdiv ⟨h.1, h.2⟩
end
theorem tup2 {a b a' b' : Int} (h : a = a') (h2 : b = b') : PyData.tuple [.int a, .int b] = enc (a', b') := by
  rw [h, h2]
  rfl
theorem lt_line {n : Nat} (h : n ≤ 1000000) : n < sizeLine := by rw [sizeLine_eq]; omega
def intL (ns : List Int) : D := .list (ns.map .int)
theorem getD_of_le {α : Type} (l : List α) (i : Nat) (d : α) (h : l.length ≤ i) : l.getD i d = d := by
  rw [List.getD_eq_getElem?_getD, List.getElem?_eq_none h]
  rfl

def spL (K : PySem.W.Frag) : Sp := fun vs H Q _ => ∃ (a : Addr) (ns : List Int), vs = [.ref a] ∧ SqL K H a (ns.map V.int) ∧ ns.length ≤ 63 ∧ ∀ H', Q (.bl true) H'
theorem tmAll_ints {K : PySem.W.Frag} {Z B : Hp} : ∀ ns : List Int, TmAll K c Z B (ns.map V.int) (ns.map PyData.int)
  | [] => .nil
  | n :: ns => .cons (.of (.int n)) (tmAll_ints ns)
theorem law_imp {P : Program} {w : World} {K : PySem.W.Frag} {mg : Str → Option Value} {base : Heap} {k : Nat} {f : Addr} {fd : FuncData} {ps : List Str} (F : FnOk P w K mg base CX0 k f fd ps (spS K (RLaw K c))) : FnOk P w K mg base CX0 k f fd ps (spL K) :=
  F.imp fun vs H Q E h => by
    obtain ⟨a, ns, rfl, hS, hl, q⟩ := h
    refine ⟨H, [sb (.list (ns.map .int))], sd (.bool true), Same.refl _, .cons ⟨rfl, .lst hS (tmAll_ints ns)⟩ .nil, ⟨ns, hl, rfl, rfl⟩, fun v B' H' fp e p hf => ?_⟩
    obtain ⟨_, h⟩ := p H
    cases h
    exact q H'
theorem law_walk {l : PySem.W.OpenLaw} {k : Nat} {q : Program} {loose : List Str} {XP : (Str → Option Value) → Heap → Prop} {YP : World → Heap → Prop} {d : DefRec} {K : Params → PySem.W.Frag} {x : Str} (hn : l.most = some 63) (hdf : d.params.defaults = []) (hr : Room k callerA)
    (hY : ∀ (w : World) (h : Heap), YP w h → (K w.params).In h)
    (F : ∀ (w : World) (mg : Str → Option Value) (fa : Addr) (h : Heap), (K w.params).In h → h.Ns mainGlobals mg → mg d.name = some (.ref fa) →
      ∃ fd : FuncData, (∀ (s : Shared) (u : Value), BindsTo s fd ⟨[u], []⟩ [(x, u)]) ∧ ∀ base : Heap, (K w.params).In base → base.Ns mainGlobals mg → FnOk l.prog w (K w.params) mg base CX0 k fa fd [x] (spL (K w.params))) :
    PySem.W.WalkO q loose XP YP l.row.toRowW d [] (fun f vs => PySem.call f vs) :=
  L2.walk_of (n := 63) (k := k) (x := x) (CX := fun _ => CX0) (sp := fun w => spL (K w.params)) hn (by decide) hdf hr hY F (fun _ _ a ns hl _ hS => ⟨a, ns, rfl, hS, hl, fun _ => rfl⟩) fun _ _ _ _ _ z => z
/-- a def of the top, from the head's facts -/
theorem funAt {K : PySem.W.Frag} {mg : Str → Option Value} {h : Heap} (X : K.In h) (G : h.Ns mainGlobals mg) {x : Str} {st : Stmt} {ps : List Str} {f : Addr} {oc : Value} {od an : Option Addr} {osl : Array (Option Value)} {kV doc pm cdv ct : Value} (a : PySem.W.nsIn K mainGlobals x = some (some (.ref f)))
    (l : K.lookup f = some ⟨oc, od, .func (PySem.W.fnOf x x (defArgs st) (defBody st) (defScope st) .none kV doc pm an cdv ct), osl⟩) (c : PySem.W.codeIn K cdv x = true) (k : PySem.W.keepIn K (.ref f) = true)
    (b : ∀ (kV doc pm : Value) (an : Option Addr) (cdv ct : Value) (us : List Value), us.length = ps.length → bindArgs (PySem.W.fnOf x x (defArgs st) (defBody st) (defScope st) .none kV doc pm an cdv ct) ⟨us, []⟩ = pure (ps.zip us)) : FunAt K mg x st ps := by
  have F := fun_mk (st := st) l c k
  exact ⟨f, _, PySem.W.mg_of X G a, F, F.binds b⟩
theorem vals_ii {i j : Int} {t u : Tok} : Vals [V.int i, V.int j] [Value.int i t, Value.int j u] := .cons ⟨t, rfl⟩ (.cons ⟨u, rfl⟩ .nil)
theorem tpAll_ii {K : PySem.W.Frag} {B : Hp} {i j : Int} : TpAll K c B [V.int i, V.int j] [PyData.int i, PyData.int j] := .cons (.int i) (.cons (.int j) .nil)
theorem vals_s4 {a b c d : Str} {t u v z : Tok} : Vals [V.str a, V.str b, V.str c, V.str d] [Value.str a t, Value.str b u, Value.str c v, Value.str d z] := .cons ⟨t, rfl⟩ (.cons ⟨u, rfl⟩ (.cons ⟨v, rfl⟩ (.cons ⟨z, rfl⟩ .nil)))
theorem tpAll_s4 {K : PySem.W.Frag} {B : Hp} {x y z u : Str} : TpAll K c B [V.str x, V.str y, V.str z, V.str u] [PyData.str x, PyData.str y, PyData.str z, PyData.str u] := .cons (.str x) (.cons (.str y) (.cons (.str z) (.cons (.str u) .nil)))
theorem tw_le : (2 : Nat) ≤ sizeLine := by rw [sizeLine_eq]; decide
theorem fo_le : (4 : Nat) ≤ sizeLine := by rw [sizeLine_eq]; decide
theorem tp_ii {K : PySem.W.Frag} {p : Addr} {dd : Option Addr} {n : Nat} {sl : Array (Option Value)} {i j : Int} {t u : Tok} (l : K.lookup p = some ⟨.type "tuple", dd, .seq #[.int i t, .int j u] n, sl⟩) (B : Hp) : Tp K c B (.ref p) (.tuple [.int i, .int j]) := tp_ktup l tw_le vals_ii tpAll_ii
theorem const_ii {K : PySem.W.Frag} {mg : Str → Option Value} {x : Str} {p : Addr} {dd : Option Addr} {n : Nat} {sl : Array (Option Value)} {i j : Int} {t u : Tok} (h : mg x = some (.ref p)) (l : K.lookup p = some ⟨.type "tuple", dd, .seq #[.int i t, .int j u] n, sl⟩) : ConstAt K c mg x (.tuple [.int i, .int j]) :=
  ⟨_, .ref p, h, rfl, tp_ii l⟩
theorem const_s4 {K : PySem.W.Frag} {mg : Str → Option Value} {x : Str} {p : Addr} {dd : Option Addr} {n : Nat} {sl : Array (Option Value)} {a b c' d : Str} {t u v z : Tok} (h : mg x = some (.ref p)) (l : K.lookup p = some ⟨.type "tuple", dd, .seq #[.str a t, .str b u, .str c' v, .str d z] n, sl⟩) : ConstAt K c mg x (.tuple [.str a, .str b, .str c', .str d]) :=
  ⟨_, .ref p, h, rfl, fun B => tp_ktup l fo_le vals_s4 tpAll_s4⟩
theorem moves_at {K : PySem.W.Frag} {w : World} {mg : Str → Option Value} {ad p0 p1 p2 p3 : Addr} {es : Array DictEntry} {n n0 n1 n2 n3 : Nat} {d0 d1 d2 d3 : Option Addr} {s0 s1 s2 s3 : Array (Option Value)} {t0 u0 t1 u1 t2 u2 t3 u3 : Tok} (h : mg "MOVES" = some (.ref ad))
    (l : K.lookup ad = some ⟨.type "dict", none, .dict es n, #[]⟩) (kl : PySem.W.KeysLit w.params es.toList) (a0 : PySem.W.nsIn K ad "n" = some (some (.ref p0))) (a1 : PySem.W.nsIn K ad "e" = some (some (.ref p1))) (a2 : PySem.W.nsIn K ad "s" = some (some (.ref p2))) (a3 : PySem.W.nsIn K ad "w" = some (some (.ref p3)))
    (l0 : K.lookup p0 = some ⟨.type "tuple", d0, .seq #[.int (-1) t0, .int 0 u0] n0, s0⟩) (l1 : K.lookup p1 = some ⟨.type "tuple", d1, .seq #[.int 0 t1, .int 1 u1] n1, s1⟩) (l2 : K.lookup p2 = some ⟨.type "tuple", d2, .seq #[.int 1 t2, .int 0 u2] n2, s2⟩) (l3 : K.lookup p3 = some ⟨.type "tuple", d3, .seq #[.int 0 t3, .int (-1) u3] n3, s3⟩) : MovesAt K c w mg :=
  ⟨ad, h, ⟨.ref p0, ⟨es, n, _, l, kl, a0, rfl⟩, tp_ii l0⟩, ⟨.ref p1, ⟨es, n, _, l, kl, a1, rfl⟩, tp_ii l1⟩, ⟨.ref p2, ⟨es, n, _, l, kl, a2, rfl⟩, tp_ii l2⟩, ⟨.ref p3, ⟨es, n, _, l, kl, a3, rfl⟩, tp_ii l3⟩⟩
end Dw

namespace Dw
open PySem L2 PyProof.Rows
variable {c : Cl}
/-- a field -/
def fldD : List (D × D) → Str → Option D
  | [], _ => none
  | (.str g, d) :: r, f => if f = g then some d else fldD r f
  | _ :: r, f => fldD r f
theorem tpF_get {K : PySem.W.Frag} {B : Hp} {f : Str} {d : D} : ∀ {kvs : List (D × D)} {fs : List (Str × V)}, TpF K c B fs kvs → fldD kvs f = some d → ∃ v, fs.lookup f = some v ∧ Tp K c B v d
  | _, _, .nil, h => by cases h
  | _, _, .cons (f := g) (v := v) (fs := fs) h t, e => by
    unfold fldD at e
    by_cases q : f = g
    · rw [if_pos q] at e
      cases e
      have : (f == g) = true := beq_iff_eq.mpr q
      exact ⟨_, by simp [List.lookup, this], h⟩
    · rw [if_neg q] at e
      have : (f == g) = false := beq_eq_false_iff_ne.mpr q
      obtain ⟨v, h1, h2⟩ := tpF_get t e
      exact ⟨v, by simp [List.lookup, this, h1], h2⟩
theorem tpF_none {K : PySem.W.Frag} {B : Hp} {f : Str} : ∀ {kvs : List (D × D)} {fs : List (Str × V)}, TpF K c B fs kvs → fldD kvs f = none → fs.lookup f = none
  | _, _, .nil, h => rfl
  | _, _, .cons (f := g) (v := v) (fs := fs) h t, e => by
    unfold fldD at e
    by_cases q : f = g
    · rw [if_pos q] at e
      cases e
    · rw [if_neg q] at e
      have : (f == g) = false := beq_eq_false_iff_ne.mpr q
      simp [List.lookup, this, tpF_none t e]
abbrev obD (n : Int) (kvs : List (D × D)) : D := .dict ((.int n, .none) :: kvs)
/-- a class, and names that are fields alone -/
structure ClsAt (K : PySem.W.Frag) (c : Cl) (n : Int) (attrs : List Str) : Prop where
  ex : ∃ C, c n = some C ∧ Cls K C ∧ ∀ f ∈ attrs, NoAttr K C f
structure MthOk (P : Program) (w : World) (K : PySem.W.Frag) (c : Cl) (mg : Str → Option Value) (base : Heap) (n : Int) (m : Str) (k : Nat) (R : List (Slot K c) → Slot K c → Prop) : Prop where
  ex : ∃ C f fd ps, c n = some C ∧ Cls K C ∧ Meth K C m f ∧ Binds K fd ps [] ∧ FnOk P w K mg base CX0 k f fd ps (spS K R)
/-- what the head knows of a method -/
structure MethAt (K : PySem.W.Frag) (c : Cl) (n : Int) (m qual : Str) (st : Stmt) (ps : List Str) : Prop where
  ex : ∃ C f fd, c n = some C ∧ Cls K C ∧ Meth K C m f ∧ Fun K m qual st f fd ∧ Binds K fd ps []
theorem mth_ok {P : Program} {w : World} {K : PySem.W.Frag} {mg : Str → Option Value} {base : Heap} {n : Int} {m qual : Str} {st : Stmt} {N ps : List Str} {k : Nat} {R : List (Slot K c) → Slot K c → Prop}
    (F : MethAt K c n m qual st ps) (S : FnScope N ps (defScope st)) (hR : ∀ ss r, R ss r → ss.length = ps.length)
    (body : ∀ (f : Addr) (cdv : Value) (A : Around) (outer : List PySem.Env) (s : Shared) (H : Hp) (E : XK) (ss : List (Slot K c)) (r : Slot K c), R ss r → Bd (bx P w K mg base N qual st f cdv A outer s H E) k →
      DSs (c := c) (bx P w K mg base N qual st f cdv A outer s H E) (G0 N ss) (defBody st) (defEnd r)) : MthOk P w K c mg base n m (k + 1) R := by
  obtain ⟨C, f, fd, h1, h2, h3, h4, h5⟩ := F.ex
  exact ⟨C, f, fd, ps, h1, h2, h3, h5, def_fn h4 S hR (body f)⟩
section
variable {X : Cx} {G : Env X.K c} {a b e o : Expr} {es : List Expr} {pos p apos : Pos} {d d1 d2 : D} {ds : List D} {k : Nat} {x m f : Str} {n : Int} {kvs : List (D × D)}
theorem de_fld {attrs : List Str} (T : ClsAt X.K c n attrs) (ho : DE X G e (obD n kvs)) (hl : fldD kvs f = some d) (hf : f ∈ attrs := by decide) (hb : attributeBase e f X.env (eval e X.env) = eval e X.env := by rfl) : DE X G (.Attribute e f pos) d := by
  obtain ⟨t, q, r⟩ := ho
  obtain ⟨C, h1, h2, h3⟩ := T.ex
  refine ⟨_, pe_fld q hb, fun Z B H σ Q E g => r Z B H σ _ E fun v B' H' e h => ?_⟩
  cases h with
  | ob hx hc ht =>
    rw [h1] at hc
    cases hc
    obtain ⟨v, q1, q2⟩ := tpF_get ht hl
    exact ⟨_, C, _, _, v, rfl, e.sub _ _ hx, h2, h3 f hf, q1, g v B' H' e q2⟩
theorem dx_meth {R : List (Slot X.K c) → Slot X.K c → Prop} {ss : List (Slot X.K c)} {s : Slot X.K c} {pl : Sem Bool} (F : MthOk X.prog X.w X.K c X.mg X.base n m k R) (hr : Room k X.A) (ho : DE X G o (obD n kvs)) (ha : DAs X G (e :: es) ss) (hR : R (sd (obD n kvs) :: ss) s) (hm : fldD kvs m = none := by rfl)
    (hst : starEach (e :: es) X.env = (false, eval e X.env) :: starEach es X.env := by rfl) (hpl : (backTo pos (starEach es X.env)).any (·.1) = false := by rfl)
    (ht : eval (.Call (.Attribute o m apos) (e :: es) [] pos) X.env = (do
      let ov ← eval o X.env
      standAt apos.atName
      let (f, first) ← holding [ov] (getMethod ov m pl)
      callWith pos f first (backTo pos (starEach (e :: es) X.env)) (backToKw pos (keywordEach [] X.env))) := by rfl) : DX X G (.Call (.Attribute o m apos) (e :: es) [] pos) s := by
  obtain ⟨t, q, r⟩ := ho
  obtain ⟨ta, qa, ra⟩ := ha
  obtain ⟨C, f, fd, ps, h1, h2, h3, h4, h5⟩ := F.ex
  refine ⟨_, pe_meth q h2 h3 h5 hr h4 .nil pass0 qa hst hpl ht, fun Z B H σ Q E g => r Z B H σ _ E fun v B' H' e h => ?_⟩
  cases h with
  | ob hx hc hf =>
    rw [h1] at hc
    cases hc
    refine ⟨_, _, _, rfl, e.sub _ _ hx, tpF_none hf hm, ra Z B' H' σ _ (E.ext e) fun vs B2 H2 e2 hv => ?_⟩
    refine ⟨B2, _, s, e2.sub, ?_, hR, gs_ext (e.trans e2) g⟩
    rw [List.append_nil]
    exact .cons ⟨rfl, .ob (e2.b _ _ hx) h1 (TpF.mono e2.b _ _ hf)⟩ hv
theorem dx_meth0 {R : List (Slot X.K c) → Slot X.K c → Prop} {s : Slot X.K c} {pl : Sem Bool} (F : MthOk X.prog X.w X.K c X.mg X.base n m k R) (hr : Room k X.A) (ho : DE X G o (obD n kvs)) (hR : R [sd (obD n kvs)] s) (hm : fldD kvs m = none := by rfl)
    (ht : eval (.Call (.Attribute o m apos) [] [] pos) X.env = (do
      let ov ← eval o X.env
      standAt apos.atName
      let (f, first) ← holding [ov] (getMethod ov m pl)
      callWith pos f first (backTo pos (starEach [] X.env)) (backToKw pos (keywordEach [] X.env))) := by rfl) : DX X G (.Call (.Attribute o m apos) [] [] pos) s := by
  obtain ⟨t, q, r⟩ := ho
  obtain ⟨C, f, fd, ps, h1, h2, h3, h4, h5⟩ := F.ex
  refine ⟨_, pe_meth0 q h2 h3 h5 hr h4 .nil pass0 ht, fun Z B H σ Q E g => r Z B H σ _ E fun v B' H' e h => ?_⟩
  cases h with
  | ob hx hc hf =>
    rw [h1] at hc
    cases hc
    refine ⟨_, _, _, rfl, e.sub _ _ hx, tpF_none hf hm, ?_⟩
    refine ⟨B', _, s, e.sub, ?_, hR, gs_ext e g⟩
    exact .cons ⟨rfl, .ob hx h1 hf⟩ .nil
theorem de_meth {R : List (Slot X.K c) → Slot X.K c → Prop} {ss : List (Slot X.K c)} {pl : Sem Bool} (F : MthOk X.prog X.w X.K c X.mg X.base n m k R) (hr : Room k X.A) (ho : DE X G o (obD n kvs)) (ha : DAs X G (e :: es) ss) (hR : R (sd (obD n kvs) :: ss) (sd d)) (hm : fldD kvs m = none := by rfl)
    (hst : starEach (e :: es) X.env = (false, eval e X.env) :: starEach es X.env := by rfl) (hpl : (backTo pos (starEach es X.env)).any (·.1) = false := by rfl)
    (ht : eval (.Call (.Attribute o m apos) (e :: es) [] pos) X.env = (do
      let ov ← eval o X.env
      standAt apos.atName
      let (f, first) ← holding [ov] (getMethod ov m pl)
      callWith pos f first (backTo pos (starEach (e :: es) X.env)) (backToKw pos (keywordEach [] X.env))) := by rfl) : DE X G (.Call (.Attribute o m apos) (e :: es) [] pos) d := (dx_meth F hr ho ha hR hm hst hpl ht).de
/-- an __init__ that keeps its arguments -/
def spI (K : PySem.W.Frag) (c : Cl) (n : Int) (names : List Str) : Sp := fun vs H Q _ => ∃ (x dx C : Addr) (us : List V), vs = .ref x :: us ∧ us.length = names.length ∧ c n = some C ∧ H x = some (.ins C dx []) ∧ Q .non (upd H x (.ins C dx (names.zip us)))
structure MkOk (P : Program) (w : World) (K : PySem.W.Frag) (c : Cl) (mg : Str → Option Value) (base : Heap) (n : Int) (x : Str) (k : Nat) (names : List Str) : Prop where
  ex : ∃ C f fd ps, c n = some C ∧ mg x = some (.ref C) ∧ Mk K C f ∧ Binds K fd ps [] ∧ FnOk P w K mg base CX0 k f fd ps (spI K c n names)
def zipD : List Str → List D → List (D × D)
  | f :: fs, d :: ds => (.str f, d) :: zipD fs ds
  | _, _ => []
theorem tpF_zip {K : PySem.W.Frag} {B : Hp} : ∀ {names : List Str} {us : List V} {ds : List D}, TpAll K c B us ds → names.length = ds.length → TpF K c B (names.zip us) (zipD names ds)
  | [], _, _, .nil, _ => .nil
  | f :: fs, _, _, .nil, h => by simp at h
  | [], _, _, .cons _ _, h => by simp at h
  | f :: fs, _, _, .cons h t, e => .cons h (tpF_zip t (by simpa using e))
theorem ext_made {B1 H1 : Hp} {x dx C : Addr} {fs : List (Str × V)} (s : Same B1 H1) (nx : H1 x = none) (ndx : H1 dx = none) (ne : dx ≠ x) : Ext B1 H1 (upd B1 x (.ins C dx fs)) (upd (upd (upd H1 dx (.own x)) x (.ins C dx [])) x (.ins C dx fs)) := by
  rw [upd_upd]
  have nb := s.free nx
  refine ⟨same_upd nb, fun a o q => ?_, fun a o q => ?_, fun a h1 h2 => ?_⟩
  · rw [upd_ne (ne_of_none q nx), upd_ne (ne_of_none q ndx)]
    exact q
  · by_cases z : a = x
    · subst z; rw [upd_same] at q ⊢; exact q
    · rw [upd_ne z] at q
      have q' := s a o q
      rw [upd_ne z, upd_ne (ne_of_none q' ndx)]
      exact q'
  · by_cases z : a = x
    · subst z; exact absurd nx h2
    · rw [upd_ne z]; exact h1
theorem de_make {names : List Str} (F : MkOk X.prog X.w X.K c X.mg X.base n x k names) (hr : Room (k + 1) X.A) (ha : DEs X G (e :: es) ds) (hl : names.length = ds.length := by rfl) (hg : Gl X x := by rfl) (hdb : (x == ("__debug__" : Str)) = false := by decide)
    (he : starEach (e :: es) X.env = (false, eval e X.env) :: starEach es X.env := by rfl) (hpl : (backTo pos (starEach es X.env)).any (·.1) = false := by rfl) : DE X G (.Call (.Name x p) (e :: es) [] pos) (obD n (zipD names ds)) := by
  obtain ⟨t, q, r⟩ := ha
  obtain ⟨C, f, fd, ps, h1, h2, h3, h4, h5⟩ := F.ex
  refine ⟨_, pe_make h3 h5 hr hg h2 h4 .nil pass0 q hdb he hpl, fun Z B H σ Q E g => r Z B H σ _ E fun vs B' H' e h => ?_⟩
  intro y dy ny ndy ne
  rw [List.append_nil]
  refine ⟨y, dy, C, vs, rfl, by rw [h.length]; exact hl.symm, h1, upd_same, rfl, ?_⟩
  have ee := ext_made (fs := names.zip vs) (C := C) e.sub ny ndy ne
  exact g _ _ _ (e.trans ee) (.ob upd_same h1 (TpF.mono ee.b _ _ (tpF_zip h hl)))
end
structure MkE (K : PySem.W.Frag) (C : Addr) : Prop where
  makes : PySem.W.makesIn K C = true
  init : PySem.W.findIn K (.ref C) "__init__" = some (some (.builtin "object.__init__"))
  kp : PySem.W.keepIn K (.ref C) = true
structure MkEAt (K : PySem.W.Frag) (c : Cl) (mg : Str → Option Value) (n : Int) (x : Str) : Prop where
  ex : ∃ C, c n = some C ∧ mg x = some (.ref C) ∧ MkE K C
section
open PySem.W
theorem make_mapE {prog : Program} {w : World} {A : Around} {K : Frag} {C : Addr} {s : Shared} {R : Result → Shared → Prop} (X : K.In s.heap) (M : MkE K C)
    (h : R (.ok (.ret (.ref (s.heap.objs.size + 1)))) { s with heap := (s.heap.push PySem.W.emptyDict).push (PySem.W.instObj C s.heap.objs.size) }) : codeAny (model prog w) A (.call (.ref C) ⟨[], []⟩) R s := by
  obtain ⟨hh, g, d, t, os⟩ := s
  have Y := makes_of (M := model prog w) X M.makes
  refine make_core Y (looks_findIn X M.init) (fun self => Looks.of_pure (oi_bind self)) (.inr ⟨rfl, rfl⟩) ?_
  have hx : ((hh.push emptyDict).push (instObj C hh.objs.size)).get? (hh.objs.size + 1) = some (instObj C hh.objs.size) := by heap_get
  have t1 : Looks (model prog w) ((hh.push emptyDict).push (instObj C hh.objs.size)) (typeOf (.ref (hh.objs.size + 1))) (.ref C) := (Looks.ld hx).andThen .now
  have t2 : Looks (model prog w) ((hh.push emptyDict).push (instObj C hh.objs.size)) (isInstance (.ref (hh.objs.size + 1)) (.type "object")) true := t1.andThen (Y.top.keeps fun b o e => Heap.get?_push_of_some _ (Heap.get?_push_of_some _ e))
  refine codeAny_call_builtin oi_plain entry_oi (@check_slot (model prog w) _ _ _ "object.__init__" "object" "__init__" (.ref (hh.objs.size + 1)) [] [] _ oi_kind oi_split t2 (oi_args (.ref (hh.objs.size + 1))) ?_)
  rw [oi_run]
  exact wpAny_pure (And.intro rfl h)
end
def tMakeE (C : Addr) : TE := fun _ H Q => ∀ x dx, H x = none → H dx = none → dx ≠ x → Q (.ref x) (upd (upd H dx (.own x)) x (.ins C dx []))
theorem pe_makeE {X : Cx} {C : Addr} {x : Str} {p pos : Pos} (M : MkE X.K C) (hg : Gl X x) (hm : X.mg x = some (.ref C)) (hdb : (x == ("__debug__" : Str)) = false := by decide) : PE X (.Call (.Name x p) [] [] pos) (tMakeE C) := by
  refine ⟨fun pins s σ H Q I h => ?_⟩
  refine wpAny_Call_Name_kw (ld_glob I hg hm ?_ hdb)
  refine PySem.W.callWith_K0 I.kIn M.kp (wpAny_call (make_mapE I.kIn M ?_))
  exact ⟨V.ref (s.heap.objs.size + 1), _, Inv.made (C := C) I, rfl, h _ _ (I.hok.fresh (Nat.le_succ _)) (I.hok.fresh (Nat.le_refl _)) (Nat.ne_of_lt (Nat.lt_succ_self _))⟩
theorem de_makeE {X : Cx} {G : Env X.K c} {n : Int} {x : Str} {p pos : Pos} (F : MkEAt X.K c X.mg n x) (hg : Gl X x := by rfl) (hdb : (x == ("__debug__" : Str)) = false := by decide) : DE X G (.Call (.Name x p) [] [] pos) (obD n []) := by
  obtain ⟨C, h1, h2, h3⟩ := F.ex
  refine ⟨_, pe_makeE h3 hg h2 hdb, fun Z B H σ Q E g => ?_⟩
  intro y dy ny ndy ne
  have ee := ext_made (fs := []) (C := C) E.sub ny ndy ne
  rw [upd_upd] at ee
  exact g _ _ _ ee (.ob upd_same h1 .nil)
structure IsAt (K : PySem.W.Frag) (c : Cl) (mg : Str → Option Value) (n : Int) (y : Str) (b : Bool) : Prop where
  ex : ∃ C A, c n = some C ∧ mg y = some (.ref A) ∧ Cls K C ∧ PySem.W.findIn K (.ref C) "__class__" = some (some (.builtin "object.__class__")) ∧ PySem.W.specialIn K (.builtin "object.__class__") "__get__" = some (some (.builtin "getset_descriptor.__get__")) ∧
    PySem.W.takesIn K (.builtin "object.__class__") = some true ∧ PySem.W.mroIn K C (.type "object") = some true ∧ PySem.W.kitOne K (.ref C) (.ref A) = some b
theorem de_isC {X : Cx} {G : Env X.K c} {a : Expr} {n : Int} {kvs : List (D × D)} {b : Bool} {y : Str} {p q pos : Pos} (F : IsAt X.K c X.mg n y b) (ha : DE X G a (obD n kvs)) (hm : X.mg "isinstance" = none) (hg : Gl X "isinstance" := by rfl) (hgy : Gl X y := by rfl)
    (hdb : (y == ("__debug__" : Str)) = false := by decide) (he : starEach (a :: [.Name y q]) X.env = (false, eval a X.env) :: starEach [.Name y q] X.env := by rfl)
    (he2 : starEach [.Name y q] X.env = (false, eval (.Name y q) X.env) :: starEach [] X.env := by rfl) (hpl : (backTo pos (starEach [.Name y q] X.env)).any (·.1) = false := by rfl) : DE X G (.Call (.Name "isinstance" p) [a, .Name y q] [] pos) (.bool b) := by
  obtain ⟨t, pa, r⟩ := ha
  obtain ⟨C, A, h1, h2, h3, h4, h5, h6, h7, h8⟩ := F.ex
  refine ⟨_, pe_callB call_isi hg hm (by decide +kernel) (pa_cons pa (pa_cons (pe_glob (v := .ref A) hgy h2 rfl hdb) pa_nil he2) he) (by decide) (by decide) he hpl, fun Z B H σ Q E g => r Z B H σ _ E fun v B' H' e h => ?_⟩
  cases h with
  | ob hx hc hf =>
    rw [h1] at hc
    cases hc
    exact ⟨_, _, _, _, b, rfl, .own A, .base (.ins (e.sub _ _ hx) h3 h4 h5 h6 h7), h8, g _ B' H' e (.bl b)⟩
section
variable {X : Cx} {G : Env X.K c} {a b e : Expr} {es : List Expr} {pos : Pos} {d : D} {ds zs : List D} {k : Nat} {x : Str}
def DL (X : Cx) (G : Env X.K c) (e : Expr) (ds : List D) : Prop :=
  ∃ t, PE X e t ∧ ∀ Z B H σ Q, EnvE G Z B H σ → (∀ v B' H', Ext B H B' H' → (∃ p vs, v = .ref p ∧ Rd H' p (.lst vs) ∧ TpAll X.K c B' vs ds) → Q v H') → t σ H Q
theorem dl_of (h : DE X G e (.list ds)) : DL X G e ds := by
  obtain ⟨t, p, r⟩ := h
  refine ⟨t, p, fun Z B H σ Q E g => r Z B H σ Q E fun v B' H' e h => g v B' H' e ?_⟩
  cases h with
  | lst h1 h2 => exact ⟨_, _, rfl, Same.rd e.sub h1, h2⟩
theorem dl_own (i : Nat) {par : Bool} (hG : G[i]? = some (some (so ds par)) := by rfl) (hN : X.N[i]? = some x := by rfl)
    (hv : Vis X.env.scope x := by first | exact Or.inl rfl | exact Or.inr (Or.inl rfl) | exact Or.inr (Or.inr rfl)) (hd : (x == ("__debug__" : Str)) = false := by decide)
    (hcd : (x == ("__classdict__" : Str)) = false := by decide) : DL X G (.Name x pos) ds :=
  ⟨_, pv i hN hv hd hcd, fun Z B H σ Q E g => by
    obtain ⟨v, fp, h1, p, vs, h0, _, h3, h4, h5⟩ := E.sl i _ hG
    exact ⟨v, h1, g v B H (Ext.refl E.sub) ⟨p, vs, h0, Rd.of h4, h5⟩⟩⟩
theorem dx_cat (ha : DL X G a ds) (hb : DL X G b zs) (hl : ds.length + zs.length ≤ sizeLine) : DX X G (.BinOp a .Add b pos) (so (ds ++ zs)) := by
  obtain ⟨ta, pa, ra⟩ := ha
  obtain ⟨tb, pb, rb⟩ := hb
  refine ⟨_, pe_op op_catR pa pb, fun Z B H σ Q E g => ?_⟩
  refine ra Z B H σ _ E fun v B1 H1 e1 ⟨p, vs, h0, h1, h2⟩ => rb Z B1 H1 σ _ (E.ext e1) fun u B2 H2 e2 ⟨p', us, h3, h4, h5⟩ => ?_
  exact ⟨p, p', vs, us, h0, h3, Same.rd e2.h h1, h4, by rw [h2.length, h5.length]; exact hl, fun q hq => gs_lst e2.sub (gs_ext (e1.trans e2) g) ((TpAll.mono e2.b _ _ h2).append h5) hq⟩
/-- == and != of texts -/
theorem od_eqS {y z : Str} (C : Bd X k) (hy : PyData.strOk y = true := by decide +kernel) (hz : PyData.strOk z = true := by decide +kernel) : OpD c X (compareOp .Eq) (.str y) (.str z) (.bool (decide (y = z))) := by
  have := od_eq (c := c) (d1 := .str y) (d2 := .str z) C (Shp.str 0 y hy) (Shp.str 0 z hz)
  have e : PyData.eqv (.str y) (.str z) = decide (y = z) := by
    simp only [PyData.eqv]
    by_cases h : y = z
    · subst h; simp
    · rw [decide_eq_false h]; exact beq_eq_false_iff_ne.mpr h
  rw [e] at this
  exact this
theorem od_neS {y z : Str} (C : Bd X k) (hy : PyData.strOk y = true := by decide +kernel) (hz : PyData.strOk z = true := by decide +kernel) : OpD c X (compareOp .NotEq) (.str y) (.str z) (.bool (!decide (y = z))) := by
  have := od_ne (c := c) (d1 := .str y) (d2 := .str z) C (Shp.str 0 y hy) (Shp.str 0 z hz)
  have e : PyData.eqv (.str y) (.str z) = decide (y = z) := by
    simp only [PyData.eqv]
    by_cases h : y = z
    · subst h; simp
    · rw [decide_eq_false h]; exact beq_eq_false_iff_ne.mpr h
  rw [e] at this
  exact this
theorem dss_ifT {b : Bool} {body orelse rest : List Stmt} {Ph : Out X.K c → Prop} (hc : DT X G e b) (hb : b = true) (h : DSs X G body (sq X rest Ph)) : DSs X G (.If e body orelse pos :: rest) Ph := dss_if hc (fun _ => h) fun q => by rw [hb] at q; cases q
theorem dss_ifF {b : Bool} {body orelse rest : List Stmt} {Ph : Out X.K c → Prop} (hc : DT X G e b) (hb : b = false) (h : DSs X G orelse (sq X rest Ph)) : DSs X G (.If e body orelse pos :: rest) Ph := dss_if hc (fun q => by rw [hb] at q; cases q) fun _ => h
/-- .. with no else: on to the rest -/
theorem dss_skip {b : Bool} {body rest : List Stmt} {Ph : Out X.K c → Prop} (hc : DT X G e b) (hb : b = false) (h : DSs X G rest Ph) : DSs X G (.If e body [] pos :: rest) Ph := dss_ifF hc hb (dss_nil h)
end
def cutA {α : Type} (l : List α) (lo hi : Option Int) : List α := (l.drop (HT.sIx l.length 0 lo)).take (HT.sIx l.length l.length hi - HT.sIx l.length 0 lo)
theorem cutD_map {α : Type} (f : α → D) (l : List α) (lo hi : Option Int) : cutD (l.map f) lo hi = (cutA l lo hi).map f := by
  unfold cutD cutA
  rw [List.length_map, List.map_take, List.map_drop]
theorem cutA_le {α : Type} (l : List α) (lo hi : Nat) : (cutA l (some (lo : Int)) (some (hi : Int))).length ≤ hi - lo := by
  unfold cutA
  rw [List.length_take, List.length_drop, HT.sIx_nat, HT.sIx_nat]
  omega
theorem cutA_len {α : Type} (l : List α) (lo hi : Option Int) : (cutA l lo hi).length ≤ l.length := by
  unfold cutA
  rw [List.length_take, List.length_drop]
  omega
/-- the i-th item of a mapped list -/
theorem map_at {α : Type} (f : α → D) {l : List α} {i : Nat} {a : α} (h : l[i]? = some a) : (l.map f)[i]?.getD .none = f a := by
  rw [List.getElem?_map, h]
  rfl
theorem at_some {α : Type} {l : List α} {i : Nat} (h : i < l.length) : ∃ a, l[i]? = some a := ⟨l[i], List.getElem?_eq_getElem h⟩
theorem take_at {α : Type} {l : List α} {i : Nat} {a : α} (h : l[i]? = some a) : l.take (i + 1) = l.take i ++ [a] := by
  rw [List.take_succ, h]
  rfl
end Dw
namespace Dw
open PySem L2 PyProof.Rows
theorem allNo_nil {K : PySem.W.Frag} {C : Addr} : ∀ f ∈ ([] : List Str), NoAttr K C f := fun _ h => absurd h List.not_mem_nil
theorem allNo_cons {K : PySem.W.Frag} {C : Addr} {a : Str} {as : List Str} (h : PySem.W.findIn K (.ref C) a = some none) (t : ∀ f ∈ as, NoAttr K C f) : ∀ f ∈ a :: as, NoAttr K C f := fun f hf => by
  rcases List.mem_cons.mp hf with rfl | hf
  · exact h
  · exact t f hf
theorem map_atD {α : Type} (f : α → D) (d : α) {l : List α} {i : Nat} (h : i < l.length) : (l.map f)[i]?.getD .none = f (l.getD i d) := by
  obtain ⟨a, e⟩ := at_some h
  rw [map_at f e, List.getD_eq_getElem?_getD, e]
  rfl
theorem take_atD {α : Type} (d : α) {l : List α} {i : Nat} (h : i < l.length) : l.take (i + 1) = l.take i ++ [l.getD i d] := by
  obtain ⟨a, e⟩ := at_some h
  rw [take_at e, List.getD_eq_getElem?_getD, e]
  rfl
end Dw

namespace Lw
open PySem L2 PyProof.Rows Dw
def topS (i : Nat) : Stmt := PySem.Challenge.pw_dustwalk_k29_areas.main.body.getD i (.Pass ⟨0, 0, 0, 0⟩)
local macro_rules | `(tactic| walk_at "shp") => `(tactic| first | exact Shp.int _ _ | exact Shp.bool _ _ | exact Shp.none _ | exact Shp.str _ _ (by decide +kernel) | (refine Shp.tuple ?_; walk_at "shp") | (refine Shp.list ?_; walk_at "shp") | exact ShpA.nil _ | (refine ShpA.cons ?_ ?_ <;> walk_at "shp") | (refine Shp.mono (En.shp _) ?_; decide))
local macro_rules | `(tactic| walk_at "wk") => `(tactic| first | exact wk_nil | exact Wk.refl _ | (refine wk_same ?_; walk_at "wk") | (refine wk_none ?_; walk_at "wk"))
local macro_rules | `(tactic| walk_at "sz") => `(tactic| first | exact lt_line (Nat.le_of_ble_eq_true rfl) | exact small (Nat.le_of_ble_eq_true rfl) | (apply lt_line; simp; omega) | (apply small; simp; omega))
local macro_rules | `(tactic| walk_at "call") => `(tactic| first | exact ⟨_, rfl, rfl⟩ | exact ⟨_, _, rfl, rfl⟩ | exact ⟨_, rfl, rfl, by decide⟩ | exact ⟨_, _, rfl, rfl, by decide⟩ | exact ⟨_, _, _, rfl, rfl⟩ | exact ⟨_, _, rfl, rfl, by omega⟩)
section
variable {c : Cl} {P : Program} {w : World} {K : PySem.W.Frag} {mg : Str → Option Value} {base : Heap}
def cellAt (ns : List Int) (k : Int) : Int := ns.getD k.toNat 0
def R_cell_at : List (Slot K c) → Slot K c → Prop := fun ss r => ∃ (ns : List Int) (k : Int), ss = [sb (.list (ns.map .int)), sd (.int k)] ∧ r = sd (.int (cellAt ns k)) ∧ 0 ≤ k
theorem sc_cell_at : FnScope ["_law_script", "_law_k"] ["_law_script", "_law_k"] (defScope (topS 8)) := ⟨rfl, rfl, rfl, by decide +kernel, rfl, by decide +kernel, by decide +kernel⟩
theorem ok_cell_at (F : FunAt K mg "_law_cell_at" (topS 8) ["_law_script", "_law_k"]) (b_len : mg "len" = none) : DefOk (c := c) P w K mg base "_law_cell_at" 1 R_cell_at := by
  refine def_okF F sc_cell_at (fun ss r h => by obtain ⟨ns, k, rfl, rfl, _⟩ := h; rfl) ?_
  rintro f cdv A outer s H E ss r ⟨ns, k, rfl, rfl, hk⟩ C
  refine dss_if (dt_cmp (de_name 1).dr (de_callB cd_lenL b_len (drs_cons (dz_name 0).dr drs_nil)).dr od_lt) (fun h => ?_) (fun h => ?_)
  · have h' : k < (ns.length : Int) := by simpa using h
    refine dss_ret (dr_ix (dz_name 0).dr (de_name 1).dr (ixd_list (d := .int (cellAt ns k)) ?_)).de rfl
    refine atI_of hk ?_
    have hk : k.toNat < ns.length := by omega
    simp [cellAt, hk]
  · refine dss_nil ?_
    refine dss_ret de_int ?_
    have h' : ¬ k < (ns.length : Int) := by simpa using h
    have : cellAt ns k = 0 := getD_of_le _ _ _ (by omega)
    rw [this]
    rfl
end

inductive Ar where
  | ev | bx (t l b r : Int) | bo (p q : Ar) | ei (p q : Ar) | ou (p : Ar)
def Ar.num : Ar → Int
  | .ev => 0 | .bx _ _ _ _ => 1 | .bo _ _ => 2 | .ei _ _ => 3 | .ou _ => 4
def Ar.e : Ar → D
  | .ev => obD 0 []
  | .bx t l b r => obD 1 [(.str "top", .int t), (.str "left", .int l), (.str "bottom", .int b), (.str "right", .int r)]
  | .bo p q => obD 2 [(.str "one", p.e), (.str "other", q.e)]
  | .ei p q => obD 3 [(.str "one", p.e), (.str "other", q.e)]
  | .ou p => obD 4 [(.str "one", p.e)]
def Ar.flds : Ar → List (D × D)
  | .ev => []
  | .bx t l b r => [(.str "top", .int t), (.str "left", .int l), (.str "bottom", .int b), (.str "right", .int r)]
  | .bo p q => [(.str "one", p.e), (.str "other", q.e)]
  | .ei p q => [(.str "one", p.e), (.str "other", q.e)]
  | .ou p => [(.str "one", p.e)]
theorem Ar.ob : ∀ a : Ar, a.e = obD a.num a.flds
  | .ev => rfl | .bx _ _ _ _ => rfl | .bo _ _ => rfl | .ei _ _ => rfl | .ou _ => rfl
theorem Ar.noHas : ∀ a : Ar, fldD a.flds "has" = none
  | .ev => rfl | .bx _ _ _ _ => rfl | .bo _ _ => rfl | .ei _ _ => rfl | .ou _ => rfl
def Ar.dep : Ar → Nat
  | .ev => 0 | .bx _ _ _ _ => 0 | .bo p q => max p.dep q.dep + 1 | .ei p q => max p.dep q.dep + 1 | .ou p => p.dep + 1
def Ar.has : Ar → Int → Int → Bool
  | .ev, _, _ => true
  | .bx t l b r, y, x => (decide (t ≤ y) && decide (y ≤ b)) && (decide (l ≤ x) && decide (x ≤ r))
  | .bo p q, y, x => p.has y x && q.has y x
  | .ei p q, y, x => p.has y x || q.has y x
  | .ou p, y, x => !p.has y x
section
variable {c : Cl} {P : Program} {w : World} {K : PySem.W.Frag} {mg : Str → Option Value} {base : Heap}
def R_has (n : Int) (m : Nat) : List (Slot K c) → Slot K c → Prop := fun ss r => ∃ (a : Ar) (y x : Int), ss = [sd a.e, sd (.tuple [.int y, .int x])] ∧ r = sd (.bool (a.has y x)) ∧ a.num = n ∧ a.dep ≤ m
structure Meths (K : PySem.W.Frag) (c : Cl) : Prop where
  ev : MethAt K c 0 "has" "Everywhere.has" (inClass (topS 2) 0) ["self", "cell"]
  bx : MethAt K c 1 "has" "Box.has" (inClass (topS 3) 1) ["self", "cell"]
  bo : MethAt K c 2 "has" "Both.has" (inClass (topS 4) 1) ["self", "cell"]
  ei : MethAt K c 3 "has" "Either.has" (inClass (topS 5) 1) ["self", "cell"]
  ou : MethAt K c 4 "has" "Outside.has" (inClass (topS 6) 1) ["self", "cell"]
  tbx : ClsAt K c 1 ["top", "left", "bottom", "right"]
  tbo : ClsAt K c 2 ["one", "other"]
  tei : ClsAt K c 3 ["one", "other"]
  tou : ClsAt K c 4 ["one"]
theorem sc_h2 : FnScope ["self", "cell"] ["self", "cell"] (defScope (inClass (topS 2) 0)) := ⟨rfl, rfl, rfl, by decide +kernel, rfl, by decide +kernel, by decide +kernel⟩
theorem sc_h3 : FnScope ["self", "cell"] ["self", "cell"] (defScope (inClass (topS 3) 1)) := ⟨rfl, rfl, rfl, by decide +kernel, rfl, by decide +kernel, by decide +kernel⟩
theorem sc_h4 : FnScope ["self", "cell"] ["self", "cell"] (defScope (inClass (topS 4) 1)) := ⟨rfl, rfl, rfl, by decide +kernel, rfl, by decide +kernel, by decide +kernel⟩
theorem sc_h5 : FnScope ["self", "cell"] ["self", "cell"] (defScope (inClass (topS 5) 1)) := ⟨rfl, rfl, rfl, by decide +kernel, rfl, by decide +kernel, by decide +kernel⟩
theorem sc_h6 : FnScope ["self", "cell"] ["self", "cell"] (defScope (inClass (topS 6) 1)) := ⟨rfl, rfl, rfl, by decide +kernel, rfl, by decide +kernel, by decide +kernel⟩
theorem R_has_len {n : Int} {m : Nat} {ps : List Str} (h2 : ps.length = 2) : ∀ (ss : List (Slot K c)) (r : Slot K c), R_has n m ss r → ss.length = ps.length := fun ss r h => by
  obtain ⟨a, y, x, rfl, _⟩ := h
  rw [h2]
  rfl
theorem mth_ev (T : Meths K c) (m : Nat) : MthOk P w K c mg base 0 "has" (m + 1) (R_has 0 m) := by
  refine mth_ok T.ev sc_h2 (R_has_len rfl) ?_
  rintro f cdv A outer s H E ss r ⟨a, y, x, rfl, rfl, hn, hd⟩ C
  cases a <;> try (have h0 := hn; simp [Ar.num] at h0; done)
  exact dss_ret de_bl rfl
theorem mth_bx (T : Meths K c) (m : Nat) : MthOk P w K c mg base 1 "has" (m + 1) (R_has 1 m) := by
  refine mth_ok T.bx sc_h3 (R_has_len rfl) ?_
  rintro f cdv A outer s H E ss r ⟨a, y, x, rfl, rfl, hn, hd⟩ C
  cases a <;> try (have h0 := hn; simp [Ar.num] at h0; done)
  exact dss_ret (de_and (de_chain (DE.dr (de_fld T.tbx (de_name 0) rfl)) (dr_ix (DE.dr (de_name 1)) (DE.dr de_int) (ixd_tup rfl)) od_le (fun _ => (DE.dr (de_fld T.tbx (de_name 0) rfl))) (fun _ => od_le)) (fun h1 => (de_one (de_chain (DE.dr (de_fld T.tbx (de_name 0) rfl)) (dr_ix (DE.dr (de_name 1)) (DE.dr de_int) (ixd_tup rfl)) od_le (fun _ => (DE.dr (de_fld T.tbx (de_name 0) rfl))) (fun _ => od_le))))) rfl
def HasOk (P : Program) (w : World) (K : PySem.W.Frag) (c : Cl) (mg : Str → Option Value) (base : Heap) (m : Nat) : Prop := ∀ a : Ar, MthOk P w K c mg base a.num "has" (m + 1) (R_has a.num m)
theorem has_step (T : Meths K c) (m : Nat) (ih : ∀ p : Ar, p.dep + 1 ≤ m → MthOk P w K c mg base p.num "has" m (R_has p.num (m - 1))) : HasOk P w K c mg base m := fun a => by
  cases a with
  | ev => exact mth_ev T m
  | bx => exact mth_bx T m
  | bo =>
    refine mth_ok T.bo sc_h4 (R_has_len rfl) ?_
    rintro f cdv A outer s H E ss r ⟨a, y, x, rfl, rfl, hn, hd⟩ C
    cases a <;> try (have h0 := hn; simp [Ar.num] at h0; done)
    rename_i p q
    have hp : p.dep + 1 ≤ m := by simp only [Ar.dep] at hd; omega
    have hq : q.dep + 1 ≤ m := by simp only [Ar.dep] at hd; omega
    exact dss_ret (de_and (de_meth (ih p hp) C.room (de_fld T.tbo (de_name 0) (by exact congrArg some p.ob)) (das_cons (DE.da (de_name 1)) das_nil) ⟨p, y, x, by rw [p.ob]; rfl, rfl, rfl, Nat.le_sub_of_add_le hp⟩ p.noHas) (fun h1 => (de_one (de_meth (ih q hq) C.room (de_fld T.tbo (de_name 0) (by exact congrArg some q.ob)) (das_cons (DE.da (de_name 1)) das_nil) ⟨q, y, x, by rw [q.ob]; rfl, rfl, rfl, Nat.le_sub_of_add_le hq⟩ q.noHas)))) rfl
  | ei =>
    refine mth_ok T.ei sc_h5 (R_has_len rfl) ?_
    rintro f cdv A outer s H E ss r ⟨a, y, x, rfl, rfl, hn, hd⟩ C
    cases a <;> try (have h0 := hn; simp [Ar.num] at h0; done)
    rename_i p q
    have hp : p.dep + 1 ≤ m := by simp only [Ar.dep] at hd; omega
    have hq : q.dep + 1 ≤ m := by simp only [Ar.dep] at hd; omega
    exact dss_ret (de_or (de_meth (ih p hp) C.room (de_fld T.tei (de_name 0) (by exact congrArg some p.ob)) (das_cons (DE.da (de_name 1)) das_nil) ⟨p, y, x, by rw [p.ob]; rfl, rfl, rfl, Nat.le_sub_of_add_le hp⟩ p.noHas) (fun h1 => (de_one (de_meth (ih q hq) C.room (de_fld T.tei (de_name 0) (by exact congrArg some q.ob)) (das_cons (DE.da (de_name 1)) das_nil) ⟨q, y, x, by rw [q.ob]; rfl, rfl, rfl, Nat.le_sub_of_add_le hq⟩ q.noHas)))) rfl
  | ou =>
    refine mth_ok T.ou sc_h6 (R_has_len rfl) ?_
    rintro f cdv A outer s H E ss r ⟨a, y, x, rfl, rfl, hn, hd⟩ C
    cases a <;> try (have h0 := hn; simp [Ar.num] at h0; done)
    rename_i p
    have hp : p.dep + 1 ≤ m := by simp only [Ar.dep] at hd; omega
    exact dss_ret (de_not (de_meth (ih p hp) C.room (de_fld T.tou (de_name 0) (by exact congrArg some p.ob)) (das_cons (DE.da (de_name 1)) das_nil) ⟨p, y, x, by rw [p.ob]; rfl, rfl, rfl, Nat.le_sub_of_add_le hp⟩ p.noHas)) rfl
theorem has_ok (T : Meths K c) : ∀ m, HasOk P w K c mg base m
  | 0 => has_step T 0 fun p h => absurd h (by omega)
  | m + 1 => has_step T (m + 1) fun p _ => has_ok T m p
structure Inits (K : PySem.W.Frag) (c : Cl) (mg : Str → Option Value) : Prop where
  ev : MkEAt K c mg 0 "Everywhere"
  bx : ∃ C f fd, c 1 = some C ∧ mg "Box" = some (.ref C) ∧ Mk K C f ∧ Fun K "__init__" "Box.__init__" (inClass (topS 3) 0) f fd ∧ Binds K fd ["self", "top", "left", "bottom", "right"] []
  bo : ∃ C f fd, c 2 = some C ∧ mg "Both" = some (.ref C) ∧ Mk K C f ∧ Fun K "__init__" "Both.__init__" (inClass (topS 4) 0) f fd ∧ Binds K fd ["self", "one", "other"] []
  ei : ∃ C f fd, c 3 = some C ∧ mg "Either" = some (.ref C) ∧ Mk K C f ∧ Fun K "__init__" "Either.__init__" (inClass (topS 5) 0) f fd ∧ Binds K fd ["self", "one", "other"] []
  ou : ∃ C f fd, c 4 = some C ∧ mg "Outside" = some (.ref C) ∧ Mk K C f ∧ Fun K "__init__" "Outside.__init__" (inClass (topS 6) 0) f fd ∧ Binds K fd ["self", "one"] []
theorem sc_i3 : FnScope ["self", "top", "left", "bottom", "right"] ["self", "top", "left", "bottom", "right"] (defScope (inClass (topS 3) 0)) := ⟨rfl, rfl, rfl, by decide +kernel, rfl, by decide +kernel, by decide +kernel⟩
theorem sc_i4 : FnScope ["self", "one", "other"] ["self", "one", "other"] (defScope (inClass (topS 4) 0)) := ⟨rfl, rfl, rfl, by decide +kernel, rfl, by decide +kernel, by decide +kernel⟩
theorem sc_i5 : FnScope ["self", "one", "other"] ["self", "one", "other"] (defScope (inClass (topS 5) 0)) := ⟨rfl, rfl, rfl, by decide +kernel, rfl, by decide +kernel, by decide +kernel⟩
theorem sc_i6 : FnScope ["self", "one"] ["self", "one"] (defScope (inClass (topS 6) 0)) := ⟨rfl, rfl, rfl, by decide +kernel, rfl, by decide +kernel, by decide +kernel⟩
theorem mk_ou (T : Meths K c) (I : Inits K c mg) : MkOk P w K c mg base 4 "Outside" 1 ["one"] := by
  obtain ⟨C, f, fd, h1, h2, h3, h4, h5⟩ := I.ou
  obtain ⟨C', g1, g2, g3⟩ := T.tou.ex
  rw [h1] at g1
  cases g1
  refine ⟨C, f, fd, ["self", "one"], h1, h2, h3, h5, h4.ok sc_i6 (fun vs H Q E h => ?_) (fun cdv A outer s H vs Q E hr h => ?_)⟩
  · obtain ⟨x, dx, C', us, rfl, hl, _⟩ := h
    rw [List.length_cons, hl]
    rfl
  · obtain ⟨x, dx, C', us, rfl, hl, hc, hx, q⟩ := h
    rw [h1] at hc
    cases hc
    match us, hl with
    | [a], _ =>
      refine ⟨_, pss_one (ps_fld (pv 0) (pv 1) rfl), ?_⟩
      exact ⟨_, rfl, _, rfl, x, C, dx, [], rfl, hx, g2, g3 _ (by decide), (by show 0 < 1000; decide), q⟩
theorem mk_bo (T : Meths K c) (I : Inits K c mg) : MkOk P w K c mg base 2 "Both" 1 ["one", "other"] := by
  obtain ⟨C, f, fd, h1, h2, h3, h4, h5⟩ := I.bo
  obtain ⟨C', g1, g2, g3⟩ := T.tbo.ex
  rw [h1] at g1
  cases g1
  refine ⟨C, f, fd, ["self", "one", "other"], h1, h2, h3, h5, h4.ok sc_i4 (fun vs H Q E h => ?_) (fun cdv A outer s H vs Q E hr h => ?_)⟩
  · obtain ⟨x, dx, C', us, rfl, hl, _⟩ := h
    rw [List.length_cons, hl]
    rfl
  · obtain ⟨x, dx, C', us, rfl, hl, hc, hx, q⟩ := h
    rw [h1] at hc
    cases hc
    match us, hl with
    | [a, b], _ =>
      refine ⟨_, pss_cons (ps_fld (pv 0) (pv 1) rfl) (pss_one (ps_fld (pv 0) (pv 2) rfl)), ?_⟩
      refine ⟨_, rfl, _, rfl, x, C, dx, [], rfl, hx, g2, g3 _ (by decide), (by show 0 < 1000; decide), _, rfl, _, rfl, x, C, dx, _, rfl, upd_same, g2, g3 _ (by decide), (by show 1 < 1000; decide), ?_⟩
      rw [upd_upd]
      exact q
theorem mk_ei (T : Meths K c) (I : Inits K c mg) : MkOk P w K c mg base 3 "Either" 1 ["one", "other"] := by
  obtain ⟨C, f, fd, h1, h2, h3, h4, h5⟩ := I.ei
  obtain ⟨C', g1, g2, g3⟩ := T.tei.ex
  rw [h1] at g1
  cases g1
  refine ⟨C, f, fd, ["self", "one", "other"], h1, h2, h3, h5, h4.ok sc_i5 (fun vs H Q E h => ?_) (fun cdv A outer s H vs Q E hr h => ?_)⟩
  · obtain ⟨x, dx, C', us, rfl, hl, _⟩ := h
    rw [List.length_cons, hl]
    rfl
  · obtain ⟨x, dx, C', us, rfl, hl, hc, hx, q⟩ := h
    rw [h1] at hc
    cases hc
    match us, hl with
    | [a, b], _ =>
      refine ⟨_, pss_cons (ps_fld (pv 0) (pv 1) rfl) (pss_one (ps_fld (pv 0) (pv 2) rfl)), ?_⟩
      refine ⟨_, rfl, _, rfl, x, C, dx, [], rfl, hx, g2, g3 _ (by decide), (by show 0 < 1000; decide), _, rfl, _, rfl, x, C, dx, _, rfl, upd_same, g2, g3 _ (by decide), (by show 1 < 1000; decide), ?_⟩
      rw [upd_upd]
      exact q
theorem mk_bx (T : Meths K c) (I : Inits K c mg) : MkOk P w K c mg base 1 "Box" 1 ["top", "left", "bottom", "right"] := by
  obtain ⟨C, f, fd, h1, h2, h3, h4, h5⟩ := I.bx
  obtain ⟨C', g1, g2, g3⟩ := T.tbx.ex
  rw [h1] at g1
  cases g1
  refine ⟨C, f, fd, ["self", "top", "left", "bottom", "right"], h1, h2, h3, h5, h4.ok sc_i3 (fun vs H Q E h => ?_) (fun cdv A outer s H vs Q E hr h => ?_)⟩
  · obtain ⟨x, dx, C', us, rfl, hl, _⟩ := h
    rw [List.length_cons, hl]
    rfl
  · obtain ⟨x, dx, C', us, rfl, hl, hc, hx, q⟩ := h
    rw [h1] at hc
    cases hc
    match us, hl with
    | [a, b, d, e], _ =>
      refine ⟨_, pss_cons (ps_fld (pv 0) (pv 1) rfl) (pss_cons (ps_fld (pv 0) (pv 2) rfl) (pss_cons (ps_fld (pv 0) (pv 3) rfl) (pss_one (ps_fld (pv 0) (pv 4) rfl)))), ?_⟩
      refine ⟨_, rfl, _, rfl, x, C, dx, [], rfl, hx, g2, g3 _ (by decide), (by show 0 < 1000; decide), _, rfl, _, rfl, x, C, dx, _, rfl, upd_same, g2, g3 _ (by decide), (by show 1 < 1000; decide), _, rfl, _, rfl, x, C, dx, _, rfl, upd_same, g2, g3 _ (by decide), (by show 2 < 1000; decide), _, rfl, _, rfl, x, C, dx, _, rfl, upd_same, g2, g3 _ (by decide), (by show 3 < 1000; decide), ?_⟩
      rw [upd_upd, upd_upd, upd_upd]
      exact q
end

/-- the law's tuples -/
def Ar.t : Ar → D
  | .ev => .tuple [.str "everywhere"]
  | .bx t l b r => .tuple [.str "box", .int t, .int l, .int b, .int r]
  | .bo p q => .tuple [.str "both", p.t, q.t]
  | .ei p q => .tuple [.str "either", p.t, q.t]
  | .ou p => .tuple [.str "outside", p.t]
theorem Ar.tnl : ∀ a : Ar, nolist a.t = true
  | .ev => rfl | .bx _ _ _ _ => rfl | .bo _ _ => rfl | .ei _ _ => rfl | .ou _ => rfl
section
variable {c : Cl} {P : Program} {w : World} {K : PySem.W.Frag} {mg : Str → Option Value} {base : Heap}

def lnum (n : Int) : Int := if n % 5 = 1 then n / 5 % 1000000000000000000000000000000 - 500000000000000000000000000000 else n / 5 % 9 - 4
def R_num : List (Slot K c) → Slot K c → Prop := fun ss r => ∃ (n : Int), ss = [sd (.int n)] ∧ r = sd (.int (lnum n))
theorem sc_num : FnScope ["_law_cell"] ["_law_cell"] (defScope (topS 9)) := ⟨rfl, rfl, rfl, by decide +kernel, rfl, by decide +kernel, by decide +kernel⟩
theorem ok_num (F : FunAt K mg "_law_number" (topS 9) ["_law_cell"]) : DefOk (c := c) P w K mg base "_law_number" 1 R_num := by
  refine def_okF F sc_num (fun ss r h => by obtain ⟨n, rfl, rfl⟩ := h; rfl) ?_
  rintro f cdv A outer s H E ss r ⟨n, rfl, rfl⟩ C
  refine dss_if (dt_cmp (DE.dr (de_bin (DE.dr (de_name 0)) (DE.dr de_int) (od_mod (by decide)))) (DE.dr de_int) (od_eqI C)) (fun h1 => ?_) (fun h1 => ?_)
  · have h : n % 5 = 1 := of_decide_eq_true h1
    refine dss_ret (de_bin (DE.dr (de_bin (DE.dr (de_bin (DE.dr (de_name 0)) (DE.dr de_int) (od_fdivS ⟨by decide, by decide⟩))) (DE.dr (de_lit (1000000000000000000000000000000) (de_bin (DE.dr de_int) (DE.dr de_int) od_powC) (by decide +kernel))) (od_mod (by decide)))) (DE.dr (de_lit (500000000000000000000000000000) (de_bin (DE.dr de_int) (DE.dr (de_lit (100000000000000000000000000000) (de_bin (DE.dr de_int) (DE.dr de_int) od_powC) (by decide +kernel))) od_mulC) (by decide +kernel))) od_sub) ?_
    simp only [lnum, if_pos h]
    rfl
  refine dss_nil ?_
  show DSs _ _ _ _
  have h : ¬ n % 5 = 1 := of_decide_eq_false h1
  refine dss_ret (de_bin (DE.dr (de_bin (DE.dr (de_bin (DE.dr (de_name 0)) (DE.dr de_int) (od_fdivS ⟨by decide, by decide⟩))) (DE.dr de_int) (od_mod (by decide)))) (DE.dr de_int) od_sub) ?_
  simp only [lnum, if_neg h]
  rfl
def leaf (n : Int) : Ar := if n % 7 = 0 then .ev else .bx (lnum (n / 7)) (lnum (n / 315)) (lnum (n / 7) + n / 14 % 6 - 1) (lnum (n / 315) + n / 84 % 6 - 1)
def R_leaf : List (Slot K c) → Slot K c → Prop := fun ss r => ∃ (n : Int), ss = [sd (.int n)] ∧ r = sd (leaf n).t
theorem sc_leaf : FnScope ["_law_cell", "_law_top", "_law_left"] ["_law_cell"] (defScope (topS 10)) := ⟨rfl, rfl, rfl, by decide +kernel, rfl, by decide +kernel, by decide +kernel⟩
theorem ok_leaf (F : FunAt K mg "_law_leaf" (topS 10) ["_law_cell"]) (F__law_number : DefOk (c := c) P w K mg base "_law_number" 1 R_num) : DefOk (c := c) P w K mg base "_law_leaf" 2 R_leaf := by
  refine def_okF F sc_leaf (fun ss r h => by obtain ⟨n, rfl, rfl⟩ := h; rfl) ?_
  rintro f cdv A outer s H E ss r ⟨n, rfl, rfl⟩ C
  refine dss_if (dt_cmp (DE.dr (de_bin (DE.dr (de_name 0)) (DE.dr de_int) (od_mod (by decide)))) (DE.dr de_int) (od_eqI C)) (fun h1 => ?_) (fun h1 => ?_)
  · have h : n % 7 = 0 := of_decide_eq_true h1
    refine dss_ret (de_tup (des_cons de_str des_nil)) ?_
    simp only [leaf, if_pos h]
    rfl
  refine dss_nil ?_
  show DSs _ _ _ _
  have h : ¬ n % 7 = 0 := of_decide_eq_false h1
  refine dss_set C 1 (de_call F__law_number (C.room.mono (by decide)) (das_cons (DE.da (de_bin (DE.dr (de_name 0)) (DE.dr de_int) (od_fdivS ⟨by decide, by decide⟩))) das_nil) (by walk_at "call")) ?_
  refine dss_set C 2 (de_call F__law_number (C.room.mono (by decide)) (das_cons (DE.da (de_bin (DE.dr (de_name 0)) (DE.dr de_int) (od_fdivS ⟨by decide, by decide⟩))) das_nil) (by walk_at "call")) ?_
  refine dss_ret (de_tup (des_cons de_str (des_cons (de_name 1) (des_cons (de_name 2) (des_cons (de_bin (DE.dr (de_bin (DE.dr (de_name 1)) (DE.dr (de_bin (DE.dr (de_bin (DE.dr (de_name 0)) (DE.dr de_int) (od_fdivS ⟨by decide, by decide⟩))) (DE.dr de_int) (od_mod (by decide)))) od_add)) (DE.dr de_int) od_sub) (des_cons (de_bin (DE.dr (de_bin (DE.dr (de_name 2)) (DE.dr (de_bin (DE.dr (de_bin (DE.dr (de_name 0)) (DE.dr de_int) (od_fdivS ⟨by decide, by decide⟩))) (DE.dr de_int) (od_mod (by decide)))) od_add)) (DE.dr de_int) od_sub) des_nil)))))) ?_
  simp only [leaf, if_neg h]
  rfl

def R_area (m : Nat) : List (Slot K c) → Slot K c → Prop := fun ss r => ∃ (a : Ar), ss = [sd a.t] ∧ r = sd a.e ∧ a.dep ≤ m
theorem sc_area : FnScope ["_law_tree_here"] ["_law_tree_here"] (defScope (topS 12)) := ⟨rfl, rfl, rfl, by decide +kernel, rfl, by decide +kernel, by decide +kernel⟩
theorem area_step (F : FunAt K mg "_law_area" (topS 12) ["_law_tree_here"]) (T : Meths K c) (I : Inits K c mg) (m : Nat) (ih : 0 < m → DefOk (c := c) P w K mg base "_law_area" (m + 2) (R_area (m - 1))) : DefOk (c := c) P w K mg base "_law_area" (m + 3) (R_area m) := by
  refine def_okF F sc_area (fun ss r h => by obtain ⟨n, rfl, rfl, _⟩ := h; rfl) ?_
  rintro f cdv A outer s H E ss r ⟨a, rfl, rfl, hd⟩ C
  cases a with
  | ev => exact (dss_ifT (dt_cmp (dr_ix (DE.dr (de_name 0)) (DE.dr de_int) (ixd_tup rfl)) (DE.dr de_str) (od_eqS C)) (by decide +kernel) (dss_ret (de_makeE I.ev) rfl))
  | bx t l b r => exact (dss_skip (dt_cmp (dr_ix (DE.dr (de_name 0)) (DE.dr de_int) (ixd_tup rfl)) (DE.dr de_str) (od_eqS C)) (by decide +kernel) (dss_ifT (dt_cmp (dr_ix (DE.dr (de_name 0)) (DE.dr de_int) (ixd_tup rfl)) (DE.dr de_str) (od_eqS C)) (by decide +kernel) (dss_ret (de_make (mk_bx T I) (C.room.mono (by omega)) (des_cons (DR.de (dr_ix (DE.dr (de_name 0)) (DE.dr de_int) (ixd_tup rfl))) (des_cons (DR.de (dr_ix (DE.dr (de_name 0)) (DE.dr de_int) (ixd_tup rfl))) (des_cons (DR.de (dr_ix (DE.dr (de_name 0)) (DE.dr de_int) (ixd_tup rfl))) (des_cons (DR.de (dr_ix (DE.dr (de_name 0)) (DE.dr de_int) (ixd_tup rfl))) des_nil))))) rfl)))
  | ou p =>
    have hp : p.dep + 1 ≤ m := by simp only [Ar.dep] at hd; omega
    exact (dss_skip (dt_cmp (dr_ix (DE.dr (de_name 0)) (DE.dr de_int) (ixd_tup rfl)) (DE.dr de_str) (od_eqS C)) (by decide +kernel) (dss_skip (dt_cmp (dr_ix (DE.dr (de_name 0)) (DE.dr de_int) (ixd_tup rfl)) (DE.dr de_str) (od_eqS C)) (by decide +kernel) (dss_ifT (dt_cmp (dr_ix (DE.dr (de_name 0)) (DE.dr de_int) (ixd_tup rfl)) (DE.dr de_str) (od_eqS C)) (by decide +kernel) (dss_ret (de_make (mk_ou T I) (C.room.mono (by omega)) (des_cons (de_call (ih (by omega)) (C.room.mono (by omega)) (das_cons (DE.da (DR.de (dr_ix (DE.dr (de_name 0)) (DE.dr de_int) (ixd_tup rfl)) p.tnl)) das_nil) ⟨p, rfl, rfl, by omega⟩) des_nil)) rfl))))
  | bo p q =>
    have hp : p.dep + 1 ≤ m := by simp only [Ar.dep] at hd; omega
    have hq : q.dep + 1 ≤ m := by simp only [Ar.dep] at hd; omega
    exact (dss_skip (dt_cmp (dr_ix (DE.dr (de_name 0)) (DE.dr de_int) (ixd_tup rfl)) (DE.dr de_str) (od_eqS C)) (by decide +kernel) (dss_skip (dt_cmp (dr_ix (DE.dr (de_name 0)) (DE.dr de_int) (ixd_tup rfl)) (DE.dr de_str) (od_eqS C)) (by decide +kernel) (dss_skip (dt_cmp (dr_ix (DE.dr (de_name 0)) (DE.dr de_int) (ixd_tup rfl)) (DE.dr de_str) (od_eqS C)) (by decide +kernel) (dss_ifT (dt_cmp (dr_ix (DE.dr (de_name 0)) (DE.dr de_int) (ixd_tup rfl)) (DE.dr de_str) (od_eqS C)) (by decide +kernel) (dss_ret (de_make (mk_bo T I) (C.room.mono (by omega)) (des_cons (de_call (ih (by omega)) (C.room.mono (by omega)) (das_cons (DE.da (DR.de (dr_ix (DE.dr (de_name 0)) (DE.dr de_int) (ixd_tup rfl)) p.tnl)) das_nil) ⟨p, rfl, rfl, by omega⟩) (des_cons (de_call (ih (by omega)) (C.room.mono (by omega)) (das_cons (DE.da (DR.de (dr_ix (DE.dr (de_name 0)) (DE.dr de_int) (ixd_tup rfl)) q.tnl)) das_nil) ⟨q, rfl, rfl, by omega⟩) des_nil))) rfl)))))
  | ei p q =>
    have hp : p.dep + 1 ≤ m := by simp only [Ar.dep] at hd; omega
    have hq : q.dep + 1 ≤ m := by simp only [Ar.dep] at hd; omega
    exact (dss_skip (dt_cmp (dr_ix (DE.dr (de_name 0)) (DE.dr de_int) (ixd_tup rfl)) (DE.dr de_str) (od_eqS C)) (by decide +kernel) (dss_skip (dt_cmp (dr_ix (DE.dr (de_name 0)) (DE.dr de_int) (ixd_tup rfl)) (DE.dr de_str) (od_eqS C)) (by decide +kernel) (dss_skip (dt_cmp (dr_ix (DE.dr (de_name 0)) (DE.dr de_int) (ixd_tup rfl)) (DE.dr de_str) (od_eqS C)) (by decide +kernel) (dss_skip (dt_cmp (dr_ix (DE.dr (de_name 0)) (DE.dr de_int) (ixd_tup rfl)) (DE.dr de_str) (od_eqS C)) (by decide +kernel) (dss_ret (de_make (mk_ei T I) (C.room.mono (by omega)) (des_cons (de_call (ih (by omega)) (C.room.mono (by omega)) (das_cons (DE.da (DR.de (dr_ix (DE.dr (de_name 0)) (DE.dr de_int) (ixd_tup rfl)) p.tnl)) das_nil) ⟨p, rfl, rfl, by omega⟩) (des_cons (de_call (ih (by omega)) (C.room.mono (by omega)) (das_cons (DE.da (DR.de (dr_ix (DE.dr (de_name 0)) (DE.dr de_int) (ixd_tup rfl)) q.tnl)) das_nil) ⟨q, rfl, rfl, by omega⟩) des_nil))) rfl)))))
theorem ok_area (F : FunAt K mg "_law_area" (topS 12) ["_law_tree_here"]) (T : Meths K c) (I : Inits K c mg) : ∀ m, DefOk (c := c) P w K mg base "_law_area" (m + 3) (R_area m)
  | 0 => area_step F T I 0 fun h => absurd h (by decide)
  | m + 1 => area_step F T I (m + 1) fun _ => ok_area F T I m

def R_lhas (m : Nat) : List (Slot K c) → Slot K c → Prop := fun ss r => ∃ (a : Ar) (y x : Int), ss = [sd a.t, sd (.tuple [.int y, .int x])] ∧ r = sd (.bool (a.has y x)) ∧ a.dep ≤ m
theorem sc_lhas : FnScope ["_law_tree_here", "_law_cell"] ["_law_tree_here", "_law_cell"] (defScope (topS 13)) := ⟨rfl, rfl, rfl, by decide +kernel, rfl, by decide +kernel, by decide +kernel⟩
theorem lhas_step (F : FunAt K mg "_law_has" (topS 13) ["_law_tree_here", "_law_cell"]) (m : Nat) (ih : 0 < m → DefOk (c := c) P w K mg base "_law_has" m (R_lhas (m - 1))) : DefOk (c := c) P w K mg base "_law_has" (m + 1) (R_lhas m) := by
  refine def_okF F sc_lhas (fun ss r h => by obtain ⟨n, y, x, rfl, rfl, _⟩ := h; rfl) ?_
  rintro f cdv A outer s H E ss r ⟨a, y, x, rfl, rfl, hd⟩ C
  cases a with
  | ev => exact (dss_ifT (dt_cmp (dr_ix (DE.dr (de_name 0)) (DE.dr de_int) (ixd_tup rfl)) (DE.dr de_str) (od_eqS C)) (by decide +kernel) (dss_ret de_bl rfl))
  | bx t l b r => exact (dss_skip (dt_cmp (dr_ix (DE.dr (de_name 0)) (DE.dr de_int) (ixd_tup rfl)) (DE.dr de_str) (od_eqS C)) (by decide +kernel) (dss_ifT (dt_cmp (dr_ix (DE.dr (de_name 0)) (DE.dr de_int) (ixd_tup rfl)) (DE.dr de_str) (od_eqS C)) (by decide +kernel) (dss_ret (de_and (de_chain (dr_ix (DE.dr (de_name 0)) (DE.dr de_int) (ixd_tup rfl)) (dr_ix (DE.dr (de_name 1)) (DE.dr de_int) (ixd_tup rfl)) od_le (fun _ => (dr_ix (DE.dr (de_name 0)) (DE.dr de_int) (ixd_tup rfl))) (fun _ => od_le)) (fun _ => (de_one (de_chain (dr_ix (DE.dr (de_name 0)) (DE.dr de_int) (ixd_tup rfl)) (dr_ix (DE.dr (de_name 1)) (DE.dr de_int) (ixd_tup rfl)) od_le (fun _ => (dr_ix (DE.dr (de_name 0)) (DE.dr de_int) (ixd_tup rfl))) (fun _ => od_le))))) rfl)))
  | ou p =>
    have hp : p.dep + 1 ≤ m := by simp only [Ar.dep] at hd; omega
    exact (dss_skip (dt_cmp (dr_ix (DE.dr (de_name 0)) (DE.dr de_int) (ixd_tup rfl)) (DE.dr de_str) (od_eqS C)) (by decide +kernel) (dss_skip (dt_cmp (dr_ix (DE.dr (de_name 0)) (DE.dr de_int) (ixd_tup rfl)) (DE.dr de_str) (od_eqS C)) (by decide +kernel) (dss_ifT (dt_cmp (dr_ix (DE.dr (de_name 0)) (DE.dr de_int) (ixd_tup rfl)) (DE.dr de_str) (od_eqS C)) (by decide +kernel) (dss_ret (de_not (de_call (ih (by omega)) (C.room.mono (by omega)) (das_cons (DE.da (DR.de (dr_ix (DE.dr (de_name 0)) (DE.dr de_int) (ixd_tup rfl)) p.tnl)) (das_cons (DE.da (de_name 1)) das_nil)) ⟨p, y, x, rfl, rfl, by omega⟩)) rfl))))
  | bo p q =>
    have hp : p.dep + 1 ≤ m := by simp only [Ar.dep] at hd; omega
    have hq : q.dep + 1 ≤ m := by simp only [Ar.dep] at hd; omega
    exact (dss_skip (dt_cmp (dr_ix (DE.dr (de_name 0)) (DE.dr de_int) (ixd_tup rfl)) (DE.dr de_str) (od_eqS C)) (by decide +kernel) (dss_skip (dt_cmp (dr_ix (DE.dr (de_name 0)) (DE.dr de_int) (ixd_tup rfl)) (DE.dr de_str) (od_eqS C)) (by decide +kernel) (dss_skip (dt_cmp (dr_ix (DE.dr (de_name 0)) (DE.dr de_int) (ixd_tup rfl)) (DE.dr de_str) (od_eqS C)) (by decide +kernel) (dss_ifT (dt_cmp (dr_ix (DE.dr (de_name 0)) (DE.dr de_int) (ixd_tup rfl)) (DE.dr de_str) (od_eqS C)) (by decide +kernel) (dss_ret (de_and (de_call (ih (by omega)) (C.room.mono (by omega)) (das_cons (DE.da (DR.de (dr_ix (DE.dr (de_name 0)) (DE.dr de_int) (ixd_tup rfl)) p.tnl)) (das_cons (DE.da (de_name 1)) das_nil)) ⟨p, y, x, rfl, rfl, by omega⟩) (fun _ => (de_one (de_call (ih (by omega)) (C.room.mono (by omega)) (das_cons (DE.da (DR.de (dr_ix (DE.dr (de_name 0)) (DE.dr de_int) (ixd_tup rfl)) q.tnl)) (das_cons (DE.da (de_name 1)) das_nil)) ⟨q, y, x, rfl, rfl, by omega⟩)))) rfl)))))
  | ei p q =>
    have hp : p.dep + 1 ≤ m := by simp only [Ar.dep] at hd; omega
    have hq : q.dep + 1 ≤ m := by simp only [Ar.dep] at hd; omega
    exact (dss_skip (dt_cmp (dr_ix (DE.dr (de_name 0)) (DE.dr de_int) (ixd_tup rfl)) (DE.dr de_str) (od_eqS C)) (by decide +kernel) (dss_skip (dt_cmp (dr_ix (DE.dr (de_name 0)) (DE.dr de_int) (ixd_tup rfl)) (DE.dr de_str) (od_eqS C)) (by decide +kernel) (dss_skip (dt_cmp (dr_ix (DE.dr (de_name 0)) (DE.dr de_int) (ixd_tup rfl)) (DE.dr de_str) (od_eqS C)) (by decide +kernel) (dss_skip (dt_cmp (dr_ix (DE.dr (de_name 0)) (DE.dr de_int) (ixd_tup rfl)) (DE.dr de_str) (od_eqS C)) (by decide +kernel) (dss_ret (de_or (de_call (ih (by omega)) (C.room.mono (by omega)) (das_cons (DE.da (DR.de (dr_ix (DE.dr (de_name 0)) (DE.dr de_int) (ixd_tup rfl)) p.tnl)) (das_cons (DE.da (de_name 1)) das_nil)) ⟨p, y, x, rfl, rfl, by omega⟩) (fun _ => (de_one (de_call (ih (by omega)) (C.room.mono (by omega)) (das_cons (DE.da (DR.de (dr_ix (DE.dr (de_name 0)) (DE.dr de_int) (ixd_tup rfl)) q.tnl)) (das_cons (DE.da (de_name 1)) das_nil)) ⟨q, y, x, rfl, rfl, by omega⟩)))) rfl)))))
theorem ok_lhas (F : FunAt K mg "_law_has" (topS 13) ["_law_tree_here", "_law_cell"]) : ∀ m, DefOk (c := c) P w K mg base "_law_has" (m + 1) (R_lhas m)
  | 0 => lhas_step F 0 fun h => absurd h (by decide)
  | m + 1 => lhas_step F (m + 1) fun _ => ok_lhas F m

def Ar.cor : Ar → List (Int × Int)
  | .ev => [(0, 0)]
  | .bx t l b r => [(t, l), (b, r)]
  | .bo p q => p.cor ++ q.cor
  | .ei p q => p.cor ++ q.cor
  | .ou p => p.cor
theorem Ar.cor_le : ∀ a : Ar, a.cor.length ≤ 2 ^ (a.dep + 1)
  | .ev => by decide
  | .bx _ _ _ _ => by simp only [Ar.cor, Ar.dep, List.length]; decide
  | .bo p q => by
    have := p.cor_le
    have := q.cor_le
    have h1 : 2 ^ (p.dep + 1) ≤ 2 ^ (max p.dep q.dep + 1) := Nat.pow_le_pow_right (by decide) (by omega)
    have h2 : 2 ^ (q.dep + 1) ≤ 2 ^ (max p.dep q.dep + 1) := Nat.pow_le_pow_right (by decide) (by omega)
    simp only [Ar.cor, Ar.dep, List.length_append]
    have e : (2 : Nat) ^ (max p.dep q.dep + 1 + 1) = 2 ^ (max p.dep q.dep + 1) * 2 := Nat.pow_succ ..
    omega
  | .ei p q => by
    have := p.cor_le
    have := q.cor_le
    have h1 : 2 ^ (p.dep + 1) ≤ 2 ^ (max p.dep q.dep + 1) := Nat.pow_le_pow_right (by decide) (by omega)
    have h2 : 2 ^ (q.dep + 1) ≤ 2 ^ (max p.dep q.dep + 1) := Nat.pow_le_pow_right (by decide) (by omega)
    simp only [Ar.cor, Ar.dep, List.length_append]
    have e : (2 : Nat) ^ (max p.dep q.dep + 1 + 1) = 2 ^ (max p.dep q.dep + 1) * 2 := Nat.pow_succ ..
    omega
  | .ou p => by
    have := p.cor_le
    simp only [Ar.cor, Ar.dep]
    have e : (2 : Nat) ^ (p.dep + 1 + 1) = 2 ^ (p.dep + 1) * 2 := Nat.pow_succ ..
    omega
theorem Ar.cor_11 (a : Ar) (h : a.dep ≤ 11) : a.cor.length ≤ 4096 := Nat.le_trans a.cor_le (Nat.le_trans (Nat.pow_le_pow_right (by decide) (Nat.succ_le_succ h)) (by decide : 2 ^ 12 ≤ 4096))
abbrev celD (p : Int × Int) : D := .tuple [.int p.1, .int p.2]
def R_cor (m : Nat) : List (Slot K c) → Slot K c → Prop := fun ss r => ∃ (a : Ar), ss = [sd a.t] ∧ r = sd (.list (a.cor.map celD)) ∧ a.dep ≤ m
theorem sc_cor : FnScope ["_law_tree_here"] ["_law_tree_here"] (defScope (topS 14)) := ⟨rfl, rfl, rfl, by decide +kernel, rfl, by decide +kernel, by decide +kernel⟩
theorem cor_step (F : FunAt K mg "_law_corners" (topS 14) ["_law_tree_here"]) (b_len : mg "len" = none) (m : Nat) (hm : m ≤ 11) (ih : 0 < m → DefOk (c := c) P w K mg base "_law_corners" m (R_cor (m - 1))) : DefOk (c := c) P w K mg base "_law_corners" (m + 1) (R_cor m) := by
  refine def_okF F sc_cor (fun ss r h => by obtain ⟨n, rfl, rfl, _⟩ := h; rfl) ?_
  rintro f cdv A outer s H E ss r ⟨a, rfl, rfl, hd⟩ C
  cases a with
  | ev => exact (dss_skip (dt_cmp (dr_ix (DE.dr (de_name 0)) (DE.dr de_int) (ixd_tup rfl)) (DE.dr de_str) (od_eqS C)) (by decide +kernel) (dss_skip (dt_cmp (dr_ix (DE.dr (de_name 0)) (DE.dr de_int) (ixd_tup rfl)) (DE.dr de_str) (od_eqS C)) (by decide +kernel) (dss_skip (dt_cmp (DE.dr (de_callB cd_lenT b_len (drs_cons (DE.dr (de_name 0)) drs_nil))) (DE.dr de_int) (od_eqI C)) (by decide +kernel) (dss_ret (de_lst (des_cons (de_tup (des_cons de_int (des_cons de_int des_nil))) des_nil)) rfl))))
  | bx t l b r => exact (dss_ifT (dt_cmp (dr_ix (DE.dr (de_name 0)) (DE.dr de_int) (ixd_tup rfl)) (DE.dr de_str) (od_eqS C)) (by decide +kernel) (dss_ret (de_lst (des_cons (de_tup (des_cons (DR.de (dr_ix (DE.dr (de_name 0)) (DE.dr de_int) (ixd_tup rfl))) (des_cons (DR.de (dr_ix (DE.dr (de_name 0)) (DE.dr de_int) (ixd_tup rfl))) des_nil))) (des_cons (de_tup (des_cons (DR.de (dr_ix (DE.dr (de_name 0)) (DE.dr de_int) (ixd_tup rfl))) (des_cons (DR.de (dr_ix (DE.dr (de_name 0)) (DE.dr de_int) (ixd_tup rfl))) des_nil))) des_nil))) rfl))
  | ou p =>
    have hp : p.dep + 1 ≤ m := by simp only [Ar.dep] at hd; omega
    exact (dss_skip (dt_cmp (dr_ix (DE.dr (de_name 0)) (DE.dr de_int) (ixd_tup rfl)) (DE.dr de_str) (od_eqS C)) (by decide +kernel) (dss_ifT (dt_cmp (dr_ix (DE.dr (de_name 0)) (DE.dr de_int) (ixd_tup rfl)) (DE.dr de_str) (od_eqS C)) (by decide +kernel) (dss_ret (de_call (ih (by omega)) (C.room.mono (by omega)) (das_cons (DE.da (DR.de (dr_ix (DE.dr (de_name 0)) (DE.dr de_int) (ixd_tup rfl)) p.tnl)) das_nil) ⟨p, rfl, rfl, by omega⟩) rfl)))
  | bo p q =>
    have hp : p.dep + 1 ≤ m := by simp only [Ar.dep] at hd; omega
    have hq : q.dep + 1 ≤ m := by simp only [Ar.dep] at hd; omega
    have l1 := p.cor_11 (by omega)
    have l2 := q.cor_11 (by omega)
    refine (dss_skip (dt_cmp (dr_ix (DE.dr (de_name 0)) (DE.dr de_int) (ixd_tup rfl)) (DE.dr de_str) (od_eqS C)) (by decide +kernel) (dss_skip (dt_cmp (dr_ix (DE.dr (de_name 0)) (DE.dr de_int) (ixd_tup rfl)) (DE.dr de_str) (od_eqS C)) (by decide +kernel) (dss_ifT (dt_cmp (DE.dr (de_callB cd_lenT b_len (drs_cons (DE.dr (de_name 0)) drs_nil))) (DE.dr de_int) (od_eqI C)) (by rfl) (dss_ret (DX.frozen (dx_cat (dl_of (de_call (ih (by omega)) (C.room.mono (by omega)) (das_cons (DE.da (DR.de (dr_ix (DE.dr (de_name 0)) (DE.dr de_int) (ixd_tup rfl)) p.tnl)) das_nil) ⟨p, rfl, rfl, by omega⟩)) (dl_of (de_call (ih (by omega)) (C.room.mono (by omega)) (das_cons (DE.da (DR.de (dr_ix (DE.dr (de_name 0)) (DE.dr de_int) (ixd_tup rfl)) q.tnl)) das_nil) ⟨q, rfl, rfl, by omega⟩)) (small (by simp only [List.length_map]; omega)))) ?_))))
    rw [← List.map_append]
    rfl
  | ei p q =>
    have hp : p.dep + 1 ≤ m := by simp only [Ar.dep] at hd; omega
    have hq : q.dep + 1 ≤ m := by simp only [Ar.dep] at hd; omega
    have l1 := p.cor_11 (by omega)
    have l2 := q.cor_11 (by omega)
    refine (dss_skip (dt_cmp (dr_ix (DE.dr (de_name 0)) (DE.dr de_int) (ixd_tup rfl)) (DE.dr de_str) (od_eqS C)) (by decide +kernel) (dss_skip (dt_cmp (dr_ix (DE.dr (de_name 0)) (DE.dr de_int) (ixd_tup rfl)) (DE.dr de_str) (od_eqS C)) (by decide +kernel) (dss_ifT (dt_cmp (DE.dr (de_callB cd_lenT b_len (drs_cons (DE.dr (de_name 0)) drs_nil))) (DE.dr de_int) (od_eqI C)) (by rfl) (dss_ret (DX.frozen (dx_cat (dl_of (de_call (ih (by omega)) (C.room.mono (by omega)) (das_cons (DE.da (DR.de (dr_ix (DE.dr (de_name 0)) (DE.dr de_int) (ixd_tup rfl)) p.tnl)) das_nil) ⟨p, rfl, rfl, by omega⟩)) (dl_of (de_call (ih (by omega)) (C.room.mono (by omega)) (das_cons (DE.da (DR.de (dr_ix (DE.dr (de_name 0)) (DE.dr de_int) (ixd_tup rfl)) q.tnl)) das_nil) ⟨q, rfl, rfl, by omega⟩)) (small (by simp only [List.length_map]; omega)))) ?_))))
    rw [← List.map_append]
    rfl
theorem ok_cor (F : FunAt K mg "_law_corners" (topS 14) ["_law_tree_here"]) (b_len : mg "len" = none) : ∀ m, m ≤ 11 → DefOk (c := c) P w K mg base "_law_corners" (m + 1) (R_cor m)
  | 0, h => cor_step F b_len 0 h fun h => absurd h (by decide)
  | m + 1, h => cor_step F b_len (m + 1) h fun _ => ok_cor F b_len m (by omega)

def selA (k : Int) (a b : Ar) : Ar := if k % 2 = 0 then a else b
theorem sel_at (k : Int) (a b : Ar) : atI [a.t, b.t] (k % 2) = some (selA k a b).t := by
  rcases Int.emod_two_eq k with q | q
  · rw [q]; simp only [selA, q]; rfl
  · rw [q]; simp only [selA, q]; rfl
def stepT (a : Ar) (n : Int) : Ar := if n % 4 = 0 then .ou a else if n % 4 = 3 then .bo (selA (n / 4) a (leaf (n / 4))) (selA (n / 4) (leaf (n / 4)) a) else .ei (selA (n / 4) a (leaf (n / 4))) (selA (n / 4) (leaf (n / 4)) a)
theorem leaf_dep (n : Int) : (leaf n).dep = 0 := by
  unfold leaf
  split <;> rfl
theorem selA_dep (k : Int) (a b : Ar) : (selA k a b).dep ≤ max a.dep b.dep := by
  unfold selA
  split <;> omega
theorem stepT_dep (a : Ar) (n : Int) : (stepT a n).dep ≤ a.dep + 1 := by
  have h1 := selA_dep (n / 4) a (leaf (n / 4))
  have h2 := selA_dep (n / 4) (leaf (n / 4)) a
  have h3 := leaf_dep (n / 4)
  unfold stepT
  split
  · exact Nat.le_refl _
  · split <;> simp only [Ar.dep] <;> omega
theorem fold_dep : ∀ (l : List Int) (a : Ar), (l.foldl stepT a).dep ≤ a.dep + l.length
  | [], a => Nat.le_refl _
  | n :: l, a => by
    have h1 := fold_dep l (stepT a n)
    have h2 := stepT_dep a n
    simp only [List.foldl_cons, List.length_cons]
    omega
def treeOf (ns : List Int) : Ar := (cutA ns (some 1) (some 12)).foldl stepT (leaf (cellAt ns 0))
theorem treeOf_dep (ns : List Int) : (treeOf ns).dep ≤ 11 := by
  have h1 := fold_dep (cutA ns (some 1) (some 12)) (leaf (cellAt ns 0))
  have h2 := leaf_dep (cellAt ns 0)
  have h3 := cutA_le ns 1 12
  have h4 : (cutA ns (some 1) (some 12)).length ≤ 12 - 1 := h3
  show (List.foldl stepT (leaf (cellAt ns 0)) (cutA ns (some 1) (some 12))).dep ≤ 11
  omega
theorem int_flat (ns : List Int) : ∀ d ∈ ns.map PyData.int, nolist d = true := fun d h => by
  obtain ⟨n, _, rfl⟩ := List.mem_map.mp h
  rfl
def R_tree : List (Slot K c) → Slot K c → Prop := fun ss r => ∃ (ns : List Int), ss = [sd (.list (ns.map .int))] ∧ r = sd (treeOf ns).t
theorem sc_tree : FnScope ["_law_cells", "_law_tree_here", "_law_cell", "_law_other"] ["_law_cells"] (defScope (topS 11)) := ⟨rfl, rfl, rfl, by decide +kernel, rfl, by decide +kernel, by decide +kernel⟩
theorem ok_tree (F : FunAt K mg "_law_tree" (topS 11) ["_law_cells"]) (F__law_cell_at : DefOk (c := c) P w K mg base "_law_cell_at" 1 R_cell_at) (F__law_leaf : DefOk (c := c) P w K mg base "_law_leaf" 2 R_leaf) : DefOk (c := c) P w K mg base "_law_tree" 3 R_tree := by
  refine def_okF F sc_tree (fun ss r h => by obtain ⟨n, rfl, rfl⟩ := h; rfl) ?_
  rintro f cdv A outer s H E ss r ⟨ns, rfl, rfl⟩ C
  refine dss_set C 1 (de_call F__law_leaf (C.room.mono (by decide)) (das_cons (DE.da (de_call F__law_cell_at (C.room.mono (by decide)) (das_cons (DR.da (DE.dr (de_name 0))) (das_cons (DE.da de_int) das_nil)) (by walk_at "call"))) das_nil) (by walk_at "call")) ?_
  have hds := cutD_map PyData.int ns (some 1) (some 12)
  refine dss_for C (di_list (DX.frozen (dx_slice (DE.dz (de_name 0)) (int_flat ns) (do_some de_int) (do_some de_int)))) (fun i => [some (sd (.list (ns.map .int))), some (sd (((cutA ns (some 1) (some 12)).take i).foldl stepT (leaf (cellAt ns 0))).t), none, none]) ?wk (is := [2]) (fun i hi => dg_name C 2) (fun i hi => ?turn) ?rest
  case wk => show Wk _ _; walk_at "wk"
  case turn =>
    have hi' : i < (cutA ns (some 1) (some 12)).length := by rw [hds, List.length_map] at hi; exact hi
    obtain ⟨n, hn⟩ := at_some hi'
    rw [hds, map_at PyData.int hn, take_at hn, List.foldl_append]
    generalize ((cutA ns (some 1) (some 12)).take i).foldl stepT (leaf (cellAt ns 0)) = a
    show DSs _ [_, some (sd a.t), some (sd (.int n)), none] _ (turnP _ [_, some (sd (stepT a n).t), none, none] _ _)
    refine dss_set C 3 (de_call F__law_leaf (C.room.mono (by decide)) (das_cons (DE.da (de_bin (DE.dr (de_name 2)) (DE.dr de_int) (od_fdivS ⟨by decide, by decide⟩))) das_nil) (by walk_at "call")) ?_
    have s13 := sel_at (n / 4) a (leaf (n / 4))
    have s31 := sel_at (n / 4) (leaf (n / 4)) a
    refine dss_if (dt_cmp (DE.dr (de_bin (DE.dr (de_name 2)) (DE.dr de_int) (od_mod (by decide)))) (DE.dr de_int) (od_eqI C)) (fun h1 => ?_) (fun h1 => ?_)
    · have h : n % 4 = 0 := of_decide_eq_true h1
      refine dss_set C 1 (de_tup (des_cons de_str (des_cons (de_name 1) des_nil))) ?_
      refine dss_nil ?_
      show DSs _ _ _ _
      refine dss_nil ?_
      rw [show stepT a n = .ou a by simp only [stepT, if_pos h]]
      show Wk _ _
      walk_at "wk"
    have h : ¬ n % 4 = 0 := of_decide_eq_false h1
    refine dss_if (dt_cmp (DE.dr (de_bin (DE.dr (de_name 2)) (DE.dr de_int) (od_mod (by decide)))) (DE.dr de_int) (od_eqI C)) (fun h2 => ?_) (fun h2 => ?_)
    · have h' : n % 4 = 3 := of_decide_eq_true h2
      refine dss_set C 1 (de_tup (des_cons de_str (des_cons (DR.de (dr_ix (DE.dr (de_lst (des_cons (de_name 1) (des_cons (de_name 3) des_nil)))) (DE.dr (de_bin (DE.dr (de_bin (DE.dr (de_name 2)) (DE.dr de_int) (od_fdivS ⟨by decide, by decide⟩))) (DE.dr de_int) (od_mod (by decide)))) (ixd_list (by exact s13))) (by exact (selA _ _ _).tnl)) (des_cons (DR.de (dr_ix (DE.dr (de_lst (des_cons (de_name 3) (des_cons (de_name 1) des_nil)))) (DE.dr (de_bin (DE.dr (de_bin (DE.dr (de_name 2)) (DE.dr de_int) (od_fdivS ⟨by decide, by decide⟩))) (DE.dr de_int) (od_mod (by decide)))) (ixd_list (by exact s31))) (by exact (selA _ _ _).tnl)) des_nil)))) ?_
      refine dss_nil ?_
      show DSs _ _ _ _
      refine dss_nil ?_
      show DSs _ _ _ _
      refine dss_nil ?_
      rw [show stepT a n = .bo (selA (n / 4) a (leaf (n / 4))) (selA (n / 4) (leaf (n / 4)) a) by simp only [stepT, if_neg h, if_pos h']]
      show Wk _ _
      walk_at "wk"
    have h' : ¬ n % 4 = 3 := of_decide_eq_false h2
    refine dss_set C 1 (de_tup (des_cons de_str (des_cons (DR.de (dr_ix (DE.dr (de_lst (des_cons (de_name 1) (des_cons (de_name 3) des_nil)))) (DE.dr (de_bin (DE.dr (de_bin (DE.dr (de_name 2)) (DE.dr de_int) (od_fdivS ⟨by decide, by decide⟩))) (DE.dr de_int) (od_mod (by decide)))) (ixd_list (by exact s13))) (by exact (selA _ _ _).tnl)) (des_cons (DR.de (dr_ix (DE.dr (de_lst (des_cons (de_name 3) (des_cons (de_name 1) des_nil)))) (DE.dr (de_bin (DE.dr (de_bin (DE.dr (de_name 2)) (DE.dr de_int) (od_fdivS ⟨by decide, by decide⟩))) (DE.dr de_int) (od_mod (by decide)))) (ixd_list (by exact s31))) (by exact (selA _ _ _).tnl)) des_nil)))) ?_
    refine dss_nil ?_
    show DSs _ _ _ _
    refine dss_nil ?_
    show DSs _ _ _ _
    refine dss_nil ?_
    rw [show stepT a n = .ei (selA (n / 4) a (leaf (n / 4))) (selA (n / 4) (leaf (n / 4)) a) by simp only [stepT, if_neg h, if_neg h']]
    show Wk _ _
    walk_at "wk"
  case rest =>
  rw [hds, List.length_map, List.take_length]
  exact dss_ret (de_name 1) rfl

abbrev n_law : List Str := ["_law_script", "_law_tree_here", "_law_area_here", "_law_some", "_law_row", "_law_column", "_law_k", "_law_cell"]
theorem sc_law : FnScope n_law ["_law_script"] (defScope (topS 15)) := ⟨rfl, rfl, rfl, by decide +kernel, rfl, by decide +kernel, by decide +kernel⟩
def five (p : Int × Int) : List (Int × Int) := [(p.1, p.2), (p.1 - 1, p.2), (p.1 + 1, p.2), (p.1, p.2 - 1), (p.1, p.2 + 1)]
def someOf (l : List (Int × Int)) : List (Int × Int) := l.foldl (fun r p => r ++ five p) [(0, 0), (1, -1)]
def exOf (ns : List Int) (i : Nat) : Int × Int := (lnum (cellAt ns (13 + i)), lnum (cellAt ns (13 + i + 6)))
theorem some_len : ∀ (l r : List (Int × Int)), (l.foldl (fun r p => r ++ five p) r).length = r.length + 5 * l.length
  | [], r => rfl
  | p :: l, r => by
    rw [List.foldl_cons, some_len l]
    simp only [List.length_append, List.length_cons, five, List.length_nil]
    omega
structure IsAll (K : PySem.W.Frag) (c : Cl) (mg : Str → Option Value) : Prop where
  all : ∀ a : Ar, IsAt K c mg a.num "Area" true
theorem fn_law {f : Addr} {fd : FuncData} (F : Fun K "law" "law" (topS 15) f fd) (F__law_cell_at : DefOk (c := c) P w K mg base "_law_cell_at" 1 R_cell_at) (F__law_number : DefOk (c := c) P w K mg base "_law_number" 1 R_num) (F__law_tree : DefOk (c := c) P w K mg base "_law_tree" 3 R_tree)
    (F__law_area : DefOk (c := c) P w K mg base "_law_area" 14 (R_area 11)) (F__law_has : DefOk (c := c) P w K mg base "_law_has" 12 (R_lhas 11)) (F__law_corners : DefOk (c := c) P w K mg base "_law_corners" 12 (R_cor 11)) (M_has : HasOk P w K c mg base 11) (IA : IsAll K c mg)
    (b_isinstance : mg "isinstance" = none) (b_bool : mg "bool" = none) (b_range : mg "range" = none) : FnOk P w K mg base CX0 15 f fd ["_law_script"] (spS K (RLaw K c)) := by
  refine def_fn F sc_law (fun ss r h => by obtain ⟨ns, _, rfl, rfl⟩ := h; rfl) ?_
  rintro cdv A outer s H E ss r ⟨ns, hns, rfl, rfl⟩ C
  refine dss_set C 1 (d := (treeOf (cutA ns (some 1) (some (2 + cellAt ns 0 % 12)))).t) (de_call F__law_tree (C.room.mono (by decide)) (das_cons (DE.da (DX.frozen (dx_slice (dz_name 0) (int_flat ns) (do_some de_int) (do_some (de_bin (DE.dr de_int) (DE.dr (de_bin (DE.dr (de_call F__law_cell_at (C.room.mono (by decide)) (das_cons (DR.da (DZ.dr (dz_name 0))) (das_cons (DE.da de_int) das_nil)) (by walk_at "call"))) (DE.dr de_int) (od_mod (by decide)))) od_add))))) das_nil) ⟨_, by rw [cutD_map]; rfl, rfl⟩) ?_
  have hd := treeOf_dep (cutA ns (some 1) (some (2 + cellAt ns 0 % 12)))
  generalize treeOf (cutA ns (some 1) (some (2 + cellAt ns 0 % 12))) = a at hd
  refine dss_set C 2 (de_call F__law_area (C.room.mono (by decide)) (das_cons (DE.da (de_name 1)) das_nil) ⟨a, rfl, rfl, hd⟩) ?_
  have ho : ∀ {X : Cx} {G : Env X.K c} {e : Expr}, DE X G e a.e → DE X G e (obD a.num a.flds) := fun h => by rw [← a.ob]; exact h
  refine dss_skip (dt_not (dt_val (de_isC (IA.all a) (ho (de_name 2)) b_isinstance))) (by rfl) ?_
  refine dss_setX C 3 (dx_lst (des_cons (de_tup (des_cons de_int (des_cons de_int des_nil))) (des_cons (de_tup (des_cons de_int (des_cons (de_lit (-1) (de_bin (DE.dr de_int) (DE.dr de_int) od_sub) (by decide +kernel)) des_nil))) des_nil))) ?_
  have hc := a.cor_11 hd
  refine dss_for C (di_list (de_call F__law_corners (C.room.mono (by decide)) (das_cons (DE.da (de_name 1)) das_nil) ⟨a, rfl, rfl, hd⟩)) (fun i => [some (sb (.list (ns.map .int))), some (sd a.t), some (sd a.e), some (so ((someOf (a.cor.take i)).map celD)), none, none, none, none]) ?wk (is := [4, 5])
    (I' := fun i => [some (sb (.list (ns.map .int))), some (sd a.t), some (sd a.e), some (so ((someOf (a.cor.take i)).map celD)), some (sd (.int (a.cor.getD i (0, 0)).1)), some (sd (.int (a.cor.getD i (0, 0)).2)), none, none]) (fun i hi => ?dg) (fun i hi => ?turn) ?rest
  case wk => show Wk _ _; walk_at "wk"
  case dg =>
    rw [List.length_map] at hi
    rw [map_atD celD (0, 0) hi]
    exact dg_tup C (dgs_cons (dg_name C 4) (dgs_cons (dg_name C 5) dgs_nil))
  case turn =>
    rw [List.length_map] at hi
    have e : (someOf (a.cor.take (i + 1))).map celD = (someOf (a.cor.take i)).map celD ++ (five (a.cor.getD i (0, 0))).map celD := by
      rw [take_atD (0, 0) hi, someOf, List.foldl_append, ← List.map_append]
      rfl
    rw [e]
    have hl : (someOf (a.cor.take i)).length ≤ 20482 := by
      rw [someOf, some_len, List.length_take]
      simp only [List.length_cons, List.length_nil]
      omega
    generalize a.cor.getD i (0, 0) = p
    generalize someOf (a.cor.take i) = l at hl
    refine dss_setX C 3 (dx_cat (dl_own 3) (dl_of (de_lst (des_cons (de_tup (des_cons (de_name 4) (des_cons (de_name 5) des_nil))) (des_cons (de_tup (des_cons (de_bin (DE.dr (de_name 4)) (DE.dr de_int) od_sub) (des_cons (de_name 5) des_nil))) (des_cons (de_tup (des_cons (de_bin (DE.dr (de_name 4)) (DE.dr de_int) od_add) (des_cons (de_name 5) des_nil))) (des_cons (de_tup (des_cons (de_name 4) (des_cons (de_bin (DE.dr (de_name 5)) (DE.dr de_int) od_sub) des_nil))) (des_cons (de_tup (des_cons (de_name 4) (des_cons (de_bin (DE.dr (de_name 5)) (DE.dr de_int) od_add) des_nil))) des_nil))))))) (small (by simp only [List.length_map, List.length_cons, List.length_nil]; omega))) ?_
    refine dss_nil ?_
    show Wk _ _
    walk_at "wk"
  case rest =>
  rw [List.length_map, List.take_length]
  have hl : (someOf a.cor).length ≤ 20482 := by
    rw [someOf, some_len]
    simp only [List.length_cons, List.length_nil]
    omega
  generalize someOf a.cor = l at hl
  refine dss_for C (di_range2 de_int de_int (by decide) (by decide) b_range) (fun i => [some (sb (.list (ns.map .int))), some (sd a.t), some (sd a.e), some (so ((l ++ (List.range i).map (exOf ns)).map celD)), none, none, none, none]) ?wk (is := [6]) (fun i hi => dg_name C 6) (fun i hi => ?turn) ?rest
  case wk =>
    rw [show (l ++ (List.range 0).map (exOf ns)) = l from List.append_nil l]
    show Wk _ _
    walk_at "wk"
  case turn =>
    have hi : i < 6 := hi
    have e : (l ++ (List.range (i + 1)).map (exOf ns)).map celD = (l ++ (List.range i).map (exOf ns)).map celD ++ [celD (exOf ns i)] := by
      simp only [List.range_succ, List.map_append, List.append_assoc, List.map_cons, List.map_nil]
    rw [e]
    have hl' : (l ++ (List.range i).map (exOf ns)).length ≤ 30000 := by
      simp only [List.length_append, List.length_map, List.length_range]
      omega
    generalize (l ++ (List.range i).map (exOf ns)) = q at hl'
    refine dss_mut 3 (dm_append 3 (de_tup (des_cons (de_call F__law_number (C.room.mono (by decide)) (das_cons (DE.da (de_call F__law_cell_at (C.room.mono (by decide)) (das_cons (DR.da (DZ.dr (dz_name 0))) (das_cons (DE.da (de_name 6)) das_nil)) (by walk_at "call"))) das_nil) (by walk_at "call")) (des_cons (de_call F__law_number (C.room.mono (by decide)) (das_cons (DE.da (de_call F__law_cell_at (C.room.mono (by decide)) (das_cons (DR.da (DZ.dr (dz_name 0))) (das_cons (DE.da (de_bin (DE.dr (de_name 6)) (DE.dr de_int) od_add)) das_nil)) (by walk_at "call"))) das_nil) (by walk_at "call")) des_nil))) (hl := lt_line (by simp only [List.length_map]; omega))) ?_
    refine dss_nil ?_
    show Wk _ _
    walk_at "wk"
  case rest =>
  generalize (l ++ (List.range _).map (exOf ns)) = q
  refine dss_freeze 3 ?_
  refine dss_for C (di_list (de_name 3)) (fun i => [none, some (sd a.t), some (sd a.e), none, none, none, none, none]) ?wk (is := [7]) (fun i hi => dg_name C 7) (fun i hi => ?turn) ?rest
  case wk => show Wk _ _; walk_at "wk"
  case turn =>
    rw [List.length_map] at hi
    rw [map_atD celD (0, 0) hi]
    generalize q.getD i (0, 0) = p
    obtain ⟨y, x⟩ := p
    refine dss_skip (DW.dt (dw_or (dt_not (dt_val (de_isd "bool" (DE.dr (de_meth (M_has a) (C.room.mono (by decide)) (ho (de_name 2)) (das_cons (DE.da (de_name 7)) das_nil) ⟨a, y, x, by rw [a.ob]; rfl, rfl, rfl, hd⟩ a.noHas)) b_isinstance b_bool))) (fun h2 => (dw_or1 (dt_cmp (DE.dr (de_meth (M_has a) (C.room.mono (by decide)) (ho (de_name 2)) (das_cons (DE.da (de_name 7)) das_nil) ⟨a, y, x, by rw [a.ob]; rfl, rfl, rfl, hd⟩ a.noHas)) (DE.dr (de_call F__law_has (C.room.mono (by decide)) (das_cons (DE.da (de_name 1)) (das_cons (DE.da (de_name 7)) das_nil)) ⟨a, y, x, rfl, rfl, hd⟩)) (od_neE C (a.has y x) (a.has y x))))))) (by rw [show isiB (tyN (.bool (a.has y x))) "bool" = true from rfl]; simp) ?_
    refine dss_nil ?_
    show Wk _ _
    walk_at "wk"
  case rest =>
  exact dss_ret de_bl rfl
end

theorem all_mk {l : PySem.W.OpenLaw} {w : World} {K : PySem.W.Frag} {h : Heap} {mg : Str → Option Value} {fa : Addr} (X : K.In h) (G : h.Ns mainGlobals mg) (hfa : mg "law" = some (.ref fa))
    {f0 : Addr} {oc0 kV0 dc0 pm0 cd0 ct0 : Value} {od0 an0 : Option Addr} {sl0 : Array (Option Value)}
    {f1 : Addr} {oc1 kV1 dc1 pm1 cd1 ct1 : Value} {od1 an1 : Option Addr} {sl1 : Array (Option Value)}
    {f2 : Addr} {oc2 kV2 dc2 pm2 cd2 ct2 : Value} {od2 an2 : Option Addr} {sl2 : Array (Option Value)}
    {f3 : Addr} {oc3 kV3 dc3 pm3 cd3 ct3 : Value} {od3 an3 : Option Addr} {sl3 : Array (Option Value)}
    {f4 : Addr} {oc4 kV4 dc4 pm4 cd4 ct4 : Value} {od4 an4 : Option Addr} {sl4 : Array (Option Value)}
    {f5 : Addr} {oc5 kV5 dc5 pm5 cd5 ct5 : Value} {od5 an5 : Option Addr} {sl5 : Array (Option Value)}
    {f6 : Addr} {oc6 kV6 dc6 pm6 cd6 ct6 : Value} {od6 an6 : Option Addr} {sl6 : Array (Option Value)}
    {f7 : Addr} {oc7 kV7 dc7 pm7 cd7 ct7 : Value} {od7 an7 : Option Addr} {sl7 : Array (Option Value)}
    {C_Everywhere : Addr}
    {f_Everywhere_has : Addr} {oc_Everywhere_has kV_Everywhere_has dc_Everywhere_has pm_Everywhere_has cd_Everywhere_has ct_Everywhere_has : Value} {od_Everywhere_has an_Everywhere_has : Option Addr} {sl_Everywhere_has : Array (Option Value)}
    {C_Box : Addr}
    {f_Box_init : Addr} {oc_Box_init kV_Box_init dc_Box_init pm_Box_init cd_Box_init ct_Box_init : Value} {od_Box_init an_Box_init : Option Addr} {sl_Box_init : Array (Option Value)}
    {f_Box_has : Addr} {oc_Box_has kV_Box_has dc_Box_has pm_Box_has cd_Box_has ct_Box_has : Value} {od_Box_has an_Box_has : Option Addr} {sl_Box_has : Array (Option Value)}
    {C_Both : Addr}
    {f_Both_init : Addr} {oc_Both_init kV_Both_init dc_Both_init pm_Both_init cd_Both_init ct_Both_init : Value} {od_Both_init an_Both_init : Option Addr} {sl_Both_init : Array (Option Value)}
    {f_Both_has : Addr} {oc_Both_has kV_Both_has dc_Both_has pm_Both_has cd_Both_has ct_Both_has : Value} {od_Both_has an_Both_has : Option Addr} {sl_Both_has : Array (Option Value)}
    {C_Either : Addr}
    {f_Either_init : Addr} {oc_Either_init kV_Either_init dc_Either_init pm_Either_init cd_Either_init ct_Either_init : Value} {od_Either_init an_Either_init : Option Addr} {sl_Either_init : Array (Option Value)}
    {f_Either_has : Addr} {oc_Either_has kV_Either_has dc_Either_has pm_Either_has cd_Either_has ct_Either_has : Value} {od_Either_has an_Either_has : Option Addr} {sl_Either_has : Array (Option Value)}
    {C_Outside : Addr}
    {f_Outside_init : Addr} {oc_Outside_init kV_Outside_init dc_Outside_init pm_Outside_init cd_Outside_init ct_Outside_init : Value} {od_Outside_init an_Outside_init : Option Addr} {sl_Outside_init : Array (Option Value)}
    {f_Outside_has : Addr} {oc_Outside_has kV_Outside_has dc_Outside_has pm_Outside_has cd_Outside_has ct_Outside_has : Value} {od_Outside_has an_Outside_has : Option Addr} {sl_Outside_has : Array (Option Value)}
    {C_Area : Addr}
    (a0 : PySem.W.nsIn K mainGlobals "_law_cell_at" = some (some (.ref f0)))
    (l0 : K.lookup f0 = some ⟨oc0, od0, .func (PySem.W.fnOf "_law_cell_at" "_law_cell_at" (defArgs (topS 8)) (defBody (topS 8)) (defScope (topS 8)) .none kV0 dc0 pm0 an0 cd0 ct0), sl0⟩)
    (c0 : PySem.W.codeIn K cd0 "_law_cell_at" = true)
    (k0 : PySem.W.keepIn K (.ref f0) = true)
    (a1 : PySem.W.nsIn K mainGlobals "_law_number" = some (some (.ref f1)))
    (l1 : K.lookup f1 = some ⟨oc1, od1, .func (PySem.W.fnOf "_law_number" "_law_number" (defArgs (topS 9)) (defBody (topS 9)) (defScope (topS 9)) .none kV1 dc1 pm1 an1 cd1 ct1), sl1⟩)
    (c1 : PySem.W.codeIn K cd1 "_law_number" = true)
    (k1 : PySem.W.keepIn K (.ref f1) = true)
    (a2 : PySem.W.nsIn K mainGlobals "_law_leaf" = some (some (.ref f2)))
    (l2 : K.lookup f2 = some ⟨oc2, od2, .func (PySem.W.fnOf "_law_leaf" "_law_leaf" (defArgs (topS 10)) (defBody (topS 10)) (defScope (topS 10)) .none kV2 dc2 pm2 an2 cd2 ct2), sl2⟩)
    (c2 : PySem.W.codeIn K cd2 "_law_leaf" = true)
    (k2 : PySem.W.keepIn K (.ref f2) = true)
    (a3 : PySem.W.nsIn K mainGlobals "_law_tree" = some (some (.ref f3)))
    (l3 : K.lookup f3 = some ⟨oc3, od3, .func (PySem.W.fnOf "_law_tree" "_law_tree" (defArgs (topS 11)) (defBody (topS 11)) (defScope (topS 11)) .none kV3 dc3 pm3 an3 cd3 ct3), sl3⟩)
    (c3 : PySem.W.codeIn K cd3 "_law_tree" = true)
    (k3 : PySem.W.keepIn K (.ref f3) = true)
    (a4 : PySem.W.nsIn K mainGlobals "_law_area" = some (some (.ref f4)))
    (l4 : K.lookup f4 = some ⟨oc4, od4, .func (PySem.W.fnOf "_law_area" "_law_area" (defArgs (topS 12)) (defBody (topS 12)) (defScope (topS 12)) .none kV4 dc4 pm4 an4 cd4 ct4), sl4⟩)
    (c4 : PySem.W.codeIn K cd4 "_law_area" = true)
    (k4 : PySem.W.keepIn K (.ref f4) = true)
    (a5 : PySem.W.nsIn K mainGlobals "_law_has" = some (some (.ref f5)))
    (l5 : K.lookup f5 = some ⟨oc5, od5, .func (PySem.W.fnOf "_law_has" "_law_has" (defArgs (topS 13)) (defBody (topS 13)) (defScope (topS 13)) .none kV5 dc5 pm5 an5 cd5 ct5), sl5⟩)
    (c5 : PySem.W.codeIn K cd5 "_law_has" = true)
    (k5 : PySem.W.keepIn K (.ref f5) = true)
    (a6 : PySem.W.nsIn K mainGlobals "_law_corners" = some (some (.ref f6)))
    (l6 : K.lookup f6 = some ⟨oc6, od6, .func (PySem.W.fnOf "_law_corners" "_law_corners" (defArgs (topS 14)) (defBody (topS 14)) (defScope (topS 14)) .none kV6 dc6 pm6 an6 cd6 ct6), sl6⟩)
    (c6 : PySem.W.codeIn K cd6 "_law_corners" = true)
    (k6 : PySem.W.keepIn K (.ref f6) = true)
    (a7 : PySem.W.nsIn K mainGlobals "law" = some (some (.ref f7)))
    (l7 : K.lookup f7 = some ⟨oc7, od7, .func (PySem.W.fnOf "law" "law" (defArgs (topS 15)) (defBody (topS 15)) (defScope (topS 15)) .none kV7 dc7 pm7 an7 cd7 ct7), sl7⟩)
    (c7 : PySem.W.codeIn K cd7 "law" = true)
    (k7 : PySem.W.keepIn K (.ref f7) = true)
    (z_bool : PySem.W.nsIn K mainGlobals "bool" = some none)
    (z_isinstance : PySem.W.nsIn K mainGlobals "isinstance" = some none)
    (z_len : PySem.W.nsIn K mainGlobals "len" = some none)
    (z_range : PySem.W.nsIn K mainGlobals "range" = some none)
    (aC_Everywhere : PySem.W.nsIn K mainGlobals "Everywhere" = some (some (.ref C_Everywhere)))
    (pg_Everywhere : PySem.W.plainGet K C_Everywhere Str.empty = true)
    (hd_Everywhere : PySem.W.hasDictIn K C_Everywhere = true)
    (po_Everywhere : PySem.W.plainOver K C_Everywhere = true)
    (sa_Everywhere : PySem.W.findIn K (.ref C_Everywhere) "__setattr__" = some (some (.builtin "object.__setattr__")))
    (mk_Everywhere : PySem.W.makesIn K C_Everywhere = true)
    (kc_Everywhere : PySem.W.keepIn K (.ref C_Everywhere) = true)
    (a_Everywhere_has : PySem.W.findIn K (.ref C_Everywhere) "has" = some (some (.ref f_Everywhere_has)))
    (i_Everywhere_has : PySem.W.isFn K (.ref f_Everywhere_has) = true)
    (l_Everywhere_has : K.lookup f_Everywhere_has = some ⟨oc_Everywhere_has, od_Everywhere_has, .func (PySem.W.fnOf "has" "Everywhere.has" (defArgs (inClass (topS 2) 0)) (defBody (inClass (topS 2) 0)) (defScope (inClass (topS 2) 0)) .none kV_Everywhere_has dc_Everywhere_has pm_Everywhere_has an_Everywhere_has cd_Everywhere_has ct_Everywhere_has), sl_Everywhere_has⟩)
    (c_Everywhere_has : PySem.W.codeIn K cd_Everywhere_has "Everywhere.has" = true)
    (k_Everywhere_has : PySem.W.keepIn K (.ref f_Everywhere_has) = true)
    (in_Everywhere : PySem.W.findIn K (.ref C_Everywhere) "__init__" = some (some (.builtin "object.__init__")))
    (aC_Box : PySem.W.nsIn K mainGlobals "Box" = some (some (.ref C_Box)))
    (pg_Box : PySem.W.plainGet K C_Box Str.empty = true)
    (hd_Box : PySem.W.hasDictIn K C_Box = true)
    (po_Box : PySem.W.plainOver K C_Box = true)
    (sa_Box : PySem.W.findIn K (.ref C_Box) "__setattr__" = some (some (.builtin "object.__setattr__")))
    (mk_Box : PySem.W.makesIn K C_Box = true)
    (kc_Box : PySem.W.keepIn K (.ref C_Box) = true)
    (n_Box_top : PySem.W.findIn K (.ref C_Box) "top" = some none)
    (n_Box_left : PySem.W.findIn K (.ref C_Box) "left" = some none)
    (n_Box_bottom : PySem.W.findIn K (.ref C_Box) "bottom" = some none)
    (n_Box_right : PySem.W.findIn K (.ref C_Box) "right" = some none)
    (a_Box_init : PySem.W.findIn K (.ref C_Box) "__init__" = some (some (.ref f_Box_init)))
    (i_Box_init : PySem.W.isFn K (.ref f_Box_init) = true)
    (l_Box_init : K.lookup f_Box_init = some ⟨oc_Box_init, od_Box_init, .func (PySem.W.fnOf "__init__" "Box.__init__" (defArgs (inClass (topS 3) 0)) (defBody (inClass (topS 3) 0)) (defScope (inClass (topS 3) 0)) .none kV_Box_init dc_Box_init pm_Box_init an_Box_init cd_Box_init ct_Box_init), sl_Box_init⟩)
    (c_Box_init : PySem.W.codeIn K cd_Box_init "Box.__init__" = true)
    (k_Box_init : PySem.W.keepIn K (.ref f_Box_init) = true)
    (a_Box_has : PySem.W.findIn K (.ref C_Box) "has" = some (some (.ref f_Box_has)))
    (i_Box_has : PySem.W.isFn K (.ref f_Box_has) = true)
    (l_Box_has : K.lookup f_Box_has = some ⟨oc_Box_has, od_Box_has, .func (PySem.W.fnOf "has" "Box.has" (defArgs (inClass (topS 3) 1)) (defBody (inClass (topS 3) 1)) (defScope (inClass (topS 3) 1)) .none kV_Box_has dc_Box_has pm_Box_has an_Box_has cd_Box_has ct_Box_has), sl_Box_has⟩)
    (c_Box_has : PySem.W.codeIn K cd_Box_has "Box.has" = true)
    (k_Box_has : PySem.W.keepIn K (.ref f_Box_has) = true)
    (aC_Both : PySem.W.nsIn K mainGlobals "Both" = some (some (.ref C_Both)))
    (pg_Both : PySem.W.plainGet K C_Both Str.empty = true)
    (hd_Both : PySem.W.hasDictIn K C_Both = true)
    (po_Both : PySem.W.plainOver K C_Both = true)
    (sa_Both : PySem.W.findIn K (.ref C_Both) "__setattr__" = some (some (.builtin "object.__setattr__")))
    (mk_Both : PySem.W.makesIn K C_Both = true)
    (kc_Both : PySem.W.keepIn K (.ref C_Both) = true)
    (n_Both_one : PySem.W.findIn K (.ref C_Both) "one" = some none)
    (n_Both_other : PySem.W.findIn K (.ref C_Both) "other" = some none)
    (a_Both_init : PySem.W.findIn K (.ref C_Both) "__init__" = some (some (.ref f_Both_init)))
    (i_Both_init : PySem.W.isFn K (.ref f_Both_init) = true)
    (l_Both_init : K.lookup f_Both_init = some ⟨oc_Both_init, od_Both_init, .func (PySem.W.fnOf "__init__" "Both.__init__" (defArgs (inClass (topS 4) 0)) (defBody (inClass (topS 4) 0)) (defScope (inClass (topS 4) 0)) .none kV_Both_init dc_Both_init pm_Both_init an_Both_init cd_Both_init ct_Both_init), sl_Both_init⟩)
    (c_Both_init : PySem.W.codeIn K cd_Both_init "Both.__init__" = true)
    (k_Both_init : PySem.W.keepIn K (.ref f_Both_init) = true)
    (a_Both_has : PySem.W.findIn K (.ref C_Both) "has" = some (some (.ref f_Both_has)))
    (i_Both_has : PySem.W.isFn K (.ref f_Both_has) = true)
    (l_Both_has : K.lookup f_Both_has = some ⟨oc_Both_has, od_Both_has, .func (PySem.W.fnOf "has" "Both.has" (defArgs (inClass (topS 4) 1)) (defBody (inClass (topS 4) 1)) (defScope (inClass (topS 4) 1)) .none kV_Both_has dc_Both_has pm_Both_has an_Both_has cd_Both_has ct_Both_has), sl_Both_has⟩)
    (c_Both_has : PySem.W.codeIn K cd_Both_has "Both.has" = true)
    (k_Both_has : PySem.W.keepIn K (.ref f_Both_has) = true)
    (aC_Either : PySem.W.nsIn K mainGlobals "Either" = some (some (.ref C_Either)))
    (pg_Either : PySem.W.plainGet K C_Either Str.empty = true)
    (hd_Either : PySem.W.hasDictIn K C_Either = true)
    (po_Either : PySem.W.plainOver K C_Either = true)
    (sa_Either : PySem.W.findIn K (.ref C_Either) "__setattr__" = some (some (.builtin "object.__setattr__")))
    (mk_Either : PySem.W.makesIn K C_Either = true)
    (kc_Either : PySem.W.keepIn K (.ref C_Either) = true)
    (n_Either_one : PySem.W.findIn K (.ref C_Either) "one" = some none)
    (n_Either_other : PySem.W.findIn K (.ref C_Either) "other" = some none)
    (a_Either_init : PySem.W.findIn K (.ref C_Either) "__init__" = some (some (.ref f_Either_init)))
    (i_Either_init : PySem.W.isFn K (.ref f_Either_init) = true)
    (l_Either_init : K.lookup f_Either_init = some ⟨oc_Either_init, od_Either_init, .func (PySem.W.fnOf "__init__" "Either.__init__" (defArgs (inClass (topS 5) 0)) (defBody (inClass (topS 5) 0)) (defScope (inClass (topS 5) 0)) .none kV_Either_init dc_Either_init pm_Either_init an_Either_init cd_Either_init ct_Either_init), sl_Either_init⟩)
    (c_Either_init : PySem.W.codeIn K cd_Either_init "Either.__init__" = true)
    (k_Either_init : PySem.W.keepIn K (.ref f_Either_init) = true)
    (a_Either_has : PySem.W.findIn K (.ref C_Either) "has" = some (some (.ref f_Either_has)))
    (i_Either_has : PySem.W.isFn K (.ref f_Either_has) = true)
    (l_Either_has : K.lookup f_Either_has = some ⟨oc_Either_has, od_Either_has, .func (PySem.W.fnOf "has" "Either.has" (defArgs (inClass (topS 5) 1)) (defBody (inClass (topS 5) 1)) (defScope (inClass (topS 5) 1)) .none kV_Either_has dc_Either_has pm_Either_has an_Either_has cd_Either_has ct_Either_has), sl_Either_has⟩)
    (c_Either_has : PySem.W.codeIn K cd_Either_has "Either.has" = true)
    (k_Either_has : PySem.W.keepIn K (.ref f_Either_has) = true)
    (aC_Outside : PySem.W.nsIn K mainGlobals "Outside" = some (some (.ref C_Outside)))
    (pg_Outside : PySem.W.plainGet K C_Outside Str.empty = true)
    (hd_Outside : PySem.W.hasDictIn K C_Outside = true)
    (po_Outside : PySem.W.plainOver K C_Outside = true)
    (sa_Outside : PySem.W.findIn K (.ref C_Outside) "__setattr__" = some (some (.builtin "object.__setattr__")))
    (mk_Outside : PySem.W.makesIn K C_Outside = true)
    (kc_Outside : PySem.W.keepIn K (.ref C_Outside) = true)
    (n_Outside_one : PySem.W.findIn K (.ref C_Outside) "one" = some none)
    (a_Outside_init : PySem.W.findIn K (.ref C_Outside) "__init__" = some (some (.ref f_Outside_init)))
    (i_Outside_init : PySem.W.isFn K (.ref f_Outside_init) = true)
    (l_Outside_init : K.lookup f_Outside_init = some ⟨oc_Outside_init, od_Outside_init, .func (PySem.W.fnOf "__init__" "Outside.__init__" (defArgs (inClass (topS 6) 0)) (defBody (inClass (topS 6) 0)) (defScope (inClass (topS 6) 0)) .none kV_Outside_init dc_Outside_init pm_Outside_init an_Outside_init cd_Outside_init ct_Outside_init), sl_Outside_init⟩)
    (c_Outside_init : PySem.W.codeIn K cd_Outside_init "Outside.__init__" = true)
    (k_Outside_init : PySem.W.keepIn K (.ref f_Outside_init) = true)
    (a_Outside_has : PySem.W.findIn K (.ref C_Outside) "has" = some (some (.ref f_Outside_has)))
    (i_Outside_has : PySem.W.isFn K (.ref f_Outside_has) = true)
    (l_Outside_has : K.lookup f_Outside_has = some ⟨oc_Outside_has, od_Outside_has, .func (PySem.W.fnOf "has" "Outside.has" (defArgs (inClass (topS 6) 1)) (defBody (inClass (topS 6) 1)) (defScope (inClass (topS 6) 1)) .none kV_Outside_has dc_Outside_has pm_Outside_has an_Outside_has cd_Outside_has ct_Outside_has), sl_Outside_has⟩)
    (c_Outside_has : PySem.W.codeIn K cd_Outside_has "Outside.has" = true)
    (k_Outside_has : PySem.W.keepIn K (.ref f_Outside_has) = true)
    (aC_Area : PySem.W.nsIn K mainGlobals "Area" = some (some (.ref C_Area)))
    (ca_Everywhere_Area : PySem.W.findIn K (.ref C_Everywhere) "__class__" = some (some (.builtin "object.__class__")))
    (cg_Everywhere_Area : PySem.W.specialIn K (.builtin "object.__class__") "__get__" = some (some (.builtin "getset_descriptor.__get__")))
    (ct_Everywhere_Area : PySem.W.takesIn K (.builtin "object.__class__") = some true)
    (cm_Everywhere_Area : PySem.W.mroIn K C_Everywhere (.type "object") = some true)
    (ck_Everywhere_Area : PySem.W.kitOne K (.ref C_Everywhere) (.ref C_Area) = some true)
    (ca_Box_Area : PySem.W.findIn K (.ref C_Box) "__class__" = some (some (.builtin "object.__class__")))
    (cg_Box_Area : PySem.W.specialIn K (.builtin "object.__class__") "__get__" = some (some (.builtin "getset_descriptor.__get__")))
    (ct_Box_Area : PySem.W.takesIn K (.builtin "object.__class__") = some true)
    (cm_Box_Area : PySem.W.mroIn K C_Box (.type "object") = some true)
    (ck_Box_Area : PySem.W.kitOne K (.ref C_Box) (.ref C_Area) = some true)
    (ca_Both_Area : PySem.W.findIn K (.ref C_Both) "__class__" = some (some (.builtin "object.__class__")))
    (cg_Both_Area : PySem.W.specialIn K (.builtin "object.__class__") "__get__" = some (some (.builtin "getset_descriptor.__get__")))
    (ct_Both_Area : PySem.W.takesIn K (.builtin "object.__class__") = some true)
    (cm_Both_Area : PySem.W.mroIn K C_Both (.type "object") = some true)
    (ck_Both_Area : PySem.W.kitOne K (.ref C_Both) (.ref C_Area) = some true)
    (ca_Either_Area : PySem.W.findIn K (.ref C_Either) "__class__" = some (some (.builtin "object.__class__")))
    (cg_Either_Area : PySem.W.specialIn K (.builtin "object.__class__") "__get__" = some (some (.builtin "getset_descriptor.__get__")))
    (ct_Either_Area : PySem.W.takesIn K (.builtin "object.__class__") = some true)
    (cm_Either_Area : PySem.W.mroIn K C_Either (.type "object") = some true)
    (ck_Either_Area : PySem.W.kitOne K (.ref C_Either) (.ref C_Area) = some true)
    (ca_Outside_Area : PySem.W.findIn K (.ref C_Outside) "__class__" = some (some (.builtin "object.__class__")))
    (cg_Outside_Area : PySem.W.specialIn K (.builtin "object.__class__") "__get__" = some (some (.builtin "getset_descriptor.__get__")))
    (ct_Outside_Area : PySem.W.takesIn K (.builtin "object.__class__") = some true)
    (cm_Outside_Area : PySem.W.mroIn K C_Outside (.type "object") = some true)
    (ck_Outside_Area : PySem.W.kitOne K (.ref C_Outside) (.ref C_Area) = some true) :
    ∃ fd : FuncData, (∀ (s : Shared) (v : Value), BindsTo s fd ⟨[v], []⟩ [("_law_script", v)]) ∧ ∀ base : Heap, K.In base → base.Ns mainGlobals mg → FnOk l.prog w K mg base CX0 15 fa fd ["_law_script"] (spL K) := by
  have e := hfa.symm.trans (PySem.W.mg_of X G a7)
  cases e
  obtain ⟨c, hc_Everywhere, hc_Box, hc_Both, hc_Either, hc_Outside⟩ : ∃ c : Cl, c 0 = some C_Everywhere ∧ c 1 = some C_Box ∧ c 2 = some C_Both ∧ c 3 = some C_Either ∧ c 4 = some C_Outside := ⟨fun n => if n = 0 then some C_Everywhere else if n = 1 then some C_Box else if n = 2 then some C_Both else if n = 3 then some C_Either else if n = 4 then some C_Outside else none, rfl, rfl, rfl, rfl, rfl⟩
  have K_Everywhere : Cls K C_Everywhere := ⟨pg_Everywhere, hd_Everywhere, po_Everywhere, sa_Everywhere⟩
  have m_Everywhere := PySem.W.mg_of X G aC_Everywhere
  have F_Everywhere_has := fun_mk (st := (inClass (topS 2) 0)) l_Everywhere_has c_Everywhere_has k_Everywhere_has
  have b_Everywhere_has := F_Everywhere_has.binds (ps := ["self", "cell"]) fun _ _ _ _ _ _ us hl => match us, hl with | [_, _], _ => rfl
  have M_Everywhere_has : MethAt K c 0 "has" "Everywhere.has" (inClass (topS 2) 0) ["self", "cell"] := ⟨C_Everywhere, f_Everywhere_has, _, hc_Everywhere, K_Everywhere, ⟨a_Everywhere_has, i_Everywhere_has, k_Everywhere_has⟩, F_Everywhere_has, b_Everywhere_has⟩
  have E_Everywhere : MkEAt K c mg 0 "Everywhere" := ⟨C_Everywhere, hc_Everywhere, m_Everywhere, ⟨mk_Everywhere, in_Everywhere, kc_Everywhere⟩⟩
  have K_Box : Cls K C_Box := ⟨pg_Box, hd_Box, po_Box, sa_Box⟩
  have m_Box := PySem.W.mg_of X G aC_Box
  have T_Box : ClsAt K c 1 ["top", "left", "bottom", "right"] := ⟨C_Box, hc_Box, K_Box, (allNo_cons n_Box_top (allNo_cons n_Box_left (allNo_cons n_Box_bottom (allNo_cons n_Box_right allNo_nil))))⟩
  have F_Box_init := fun_mk (st := (inClass (topS 3) 0)) l_Box_init c_Box_init k_Box_init
  have b_Box_init := F_Box_init.binds (ps := ["self", "top", "left", "bottom", "right"]) fun _ _ _ _ _ _ us hl => match us, hl with | [_, _, _, _, _], _ => rfl
  have I_Box : ∃ C f fd, c 1 = some C ∧ mg "Box" = some (.ref C) ∧ Mk K C f ∧ Fun K "__init__" "Box.__init__" (inClass (topS 3) 0) f fd ∧ Binds K fd ["self", "top", "left", "bottom", "right"] [] := ⟨C_Box, f_Box_init, _, hc_Box, m_Box, ⟨mk_Box, a_Box_init, i_Box_init, kc_Box⟩, F_Box_init, b_Box_init⟩
  have F_Box_has := fun_mk (st := (inClass (topS 3) 1)) l_Box_has c_Box_has k_Box_has
  have b_Box_has := F_Box_has.binds (ps := ["self", "cell"]) fun _ _ _ _ _ _ us hl => match us, hl with | [_, _], _ => rfl
  have M_Box_has : MethAt K c 1 "has" "Box.has" (inClass (topS 3) 1) ["self", "cell"] := ⟨C_Box, f_Box_has, _, hc_Box, K_Box, ⟨a_Box_has, i_Box_has, k_Box_has⟩, F_Box_has, b_Box_has⟩
  have K_Both : Cls K C_Both := ⟨pg_Both, hd_Both, po_Both, sa_Both⟩
  have m_Both := PySem.W.mg_of X G aC_Both
  have T_Both : ClsAt K c 2 ["one", "other"] := ⟨C_Both, hc_Both, K_Both, (allNo_cons n_Both_one (allNo_cons n_Both_other allNo_nil))⟩
  have F_Both_init := fun_mk (st := (inClass (topS 4) 0)) l_Both_init c_Both_init k_Both_init
  have b_Both_init := F_Both_init.binds (ps := ["self", "one", "other"]) fun _ _ _ _ _ _ us hl => match us, hl with | [_, _, _], _ => rfl
  have I_Both : ∃ C f fd, c 2 = some C ∧ mg "Both" = some (.ref C) ∧ Mk K C f ∧ Fun K "__init__" "Both.__init__" (inClass (topS 4) 0) f fd ∧ Binds K fd ["self", "one", "other"] [] := ⟨C_Both, f_Both_init, _, hc_Both, m_Both, ⟨mk_Both, a_Both_init, i_Both_init, kc_Both⟩, F_Both_init, b_Both_init⟩
  have F_Both_has := fun_mk (st := (inClass (topS 4) 1)) l_Both_has c_Both_has k_Both_has
  have b_Both_has := F_Both_has.binds (ps := ["self", "cell"]) fun _ _ _ _ _ _ us hl => match us, hl with | [_, _], _ => rfl
  have M_Both_has : MethAt K c 2 "has" "Both.has" (inClass (topS 4) 1) ["self", "cell"] := ⟨C_Both, f_Both_has, _, hc_Both, K_Both, ⟨a_Both_has, i_Both_has, k_Both_has⟩, F_Both_has, b_Both_has⟩
  have K_Either : Cls K C_Either := ⟨pg_Either, hd_Either, po_Either, sa_Either⟩
  have m_Either := PySem.W.mg_of X G aC_Either
  have T_Either : ClsAt K c 3 ["one", "other"] := ⟨C_Either, hc_Either, K_Either, (allNo_cons n_Either_one (allNo_cons n_Either_other allNo_nil))⟩
  have F_Either_init := fun_mk (st := (inClass (topS 5) 0)) l_Either_init c_Either_init k_Either_init
  have b_Either_init := F_Either_init.binds (ps := ["self", "one", "other"]) fun _ _ _ _ _ _ us hl => match us, hl with | [_, _, _], _ => rfl
  have I_Either : ∃ C f fd, c 3 = some C ∧ mg "Either" = some (.ref C) ∧ Mk K C f ∧ Fun K "__init__" "Either.__init__" (inClass (topS 5) 0) f fd ∧ Binds K fd ["self", "one", "other"] [] := ⟨C_Either, f_Either_init, _, hc_Either, m_Either, ⟨mk_Either, a_Either_init, i_Either_init, kc_Either⟩, F_Either_init, b_Either_init⟩
  have F_Either_has := fun_mk (st := (inClass (topS 5) 1)) l_Either_has c_Either_has k_Either_has
  have b_Either_has := F_Either_has.binds (ps := ["self", "cell"]) fun _ _ _ _ _ _ us hl => match us, hl with | [_, _], _ => rfl
  have M_Either_has : MethAt K c 3 "has" "Either.has" (inClass (topS 5) 1) ["self", "cell"] := ⟨C_Either, f_Either_has, _, hc_Either, K_Either, ⟨a_Either_has, i_Either_has, k_Either_has⟩, F_Either_has, b_Either_has⟩
  have K_Outside : Cls K C_Outside := ⟨pg_Outside, hd_Outside, po_Outside, sa_Outside⟩
  have m_Outside := PySem.W.mg_of X G aC_Outside
  have T_Outside : ClsAt K c 4 ["one"] := ⟨C_Outside, hc_Outside, K_Outside, (allNo_cons n_Outside_one allNo_nil)⟩
  have F_Outside_init := fun_mk (st := (inClass (topS 6) 0)) l_Outside_init c_Outside_init k_Outside_init
  have b_Outside_init := F_Outside_init.binds (ps := ["self", "one"]) fun _ _ _ _ _ _ us hl => match us, hl with | [_, _], _ => rfl
  have I_Outside : ∃ C f fd, c 4 = some C ∧ mg "Outside" = some (.ref C) ∧ Mk K C f ∧ Fun K "__init__" "Outside.__init__" (inClass (topS 6) 0) f fd ∧ Binds K fd ["self", "one"] [] := ⟨C_Outside, f_Outside_init, _, hc_Outside, m_Outside, ⟨mk_Outside, a_Outside_init, i_Outside_init, kc_Outside⟩, F_Outside_init, b_Outside_init⟩
  have F_Outside_has := fun_mk (st := (inClass (topS 6) 1)) l_Outside_has c_Outside_has k_Outside_has
  have b_Outside_has := F_Outside_has.binds (ps := ["self", "cell"]) fun _ _ _ _ _ _ us hl => match us, hl with | [_, _], _ => rfl
  have M_Outside_has : MethAt K c 4 "has" "Outside.has" (inClass (topS 6) 1) ["self", "cell"] := ⟨C_Outside, f_Outside_has, _, hc_Outside, K_Outside, ⟨a_Outside_has, i_Outside_has, k_Outside_has⟩, F_Outside_has, b_Outside_has⟩
  have m_Area := PySem.W.mg_of X G aC_Area
  have Is_Everywhere_Area : IsAt K c mg 0 "Area" true := ⟨C_Everywhere, C_Area, hc_Everywhere, m_Area, K_Everywhere, ca_Everywhere_Area, cg_Everywhere_Area, ct_Everywhere_Area, cm_Everywhere_Area, ck_Everywhere_Area⟩
  have Is_Box_Area : IsAt K c mg 1 "Area" true := ⟨C_Box, C_Area, hc_Box, m_Area, K_Box, ca_Box_Area, cg_Box_Area, ct_Box_Area, cm_Box_Area, ck_Box_Area⟩
  have Is_Both_Area : IsAt K c mg 2 "Area" true := ⟨C_Both, C_Area, hc_Both, m_Area, K_Both, ca_Both_Area, cg_Both_Area, ct_Both_Area, cm_Both_Area, ck_Both_Area⟩
  have Is_Either_Area : IsAt K c mg 3 "Area" true := ⟨C_Either, C_Area, hc_Either, m_Area, K_Either, ca_Either_Area, cg_Either_Area, ct_Either_Area, cm_Either_Area, ck_Either_Area⟩
  have Is_Outside_Area : IsAt K c mg 4 "Area" true := ⟨C_Outside, C_Area, hc_Outside, m_Area, K_Outside, ca_Outside_Area, cg_Outside_Area, ct_Outside_Area, cm_Outside_Area, ck_Outside_Area⟩
  have F__law_cell_at := funAt (ps := ["_law_script", "_law_k"]) X G a0 l0 c0 k0 (fun _ _ _ _ _ _ us hl => match us, hl with | [_, _], _ => rfl)
  have F__law_number := funAt (ps := ["_law_cell"]) X G a1 l1 c1 k1 (fun _ _ _ _ _ _ us hl => match us, hl with | [_], _ => rfl)
  have F__law_leaf := funAt (ps := ["_law_cell"]) X G a2 l2 c2 k2 (fun _ _ _ _ _ _ us hl => match us, hl with | [_], _ => rfl)
  have F__law_tree := funAt (ps := ["_law_cells"]) X G a3 l3 c3 k3 (fun _ _ _ _ _ _ us hl => match us, hl with | [_], _ => rfl)
  have F__law_area := funAt (ps := ["_law_tree_here"]) X G a4 l4 c4 k4 (fun _ _ _ _ _ _ us hl => match us, hl with | [_], _ => rfl)
  have F__law_has := funAt (ps := ["_law_tree_here", "_law_cell"]) X G a5 l5 c5 k5 (fun _ _ _ _ _ _ us hl => match us, hl with | [_, _], _ => rfl)
  have F__law_corners := funAt (ps := ["_law_tree_here"]) X G a6 l6 c6 k6 (fun _ _ _ _ _ _ us hl => match us, hl with | [_], _ => rfl)
  have F_law := fun_mk (st := topS 15) l7 c7 k7
  have b_bool := PySem.W.mg_none_of X G z_bool
  have b_isinstance := PySem.W.mg_none_of X G z_isinstance
  have b_len := PySem.W.mg_none_of X G z_len
  have b_range := PySem.W.mg_none_of X G z_range
  have TT : Meths K c := ⟨M_Everywhere_has, M_Box_has, M_Both_has, M_Either_has, M_Outside_has, T_Box, T_Both, T_Either, T_Outside⟩
  have II : Inits K c mg := ⟨E_Everywhere, I_Box, I_Both, I_Either, I_Outside⟩
  have IA : IsAll K c mg := ⟨fun a => by cases a with | ev => exact Is_Everywhere_Area | bx => exact Is_Box_Area | bo => exact Is_Both_Area | ei => exact Is_Either_Area | ou => exact Is_Outside_Area⟩
  refine ⟨PySem.W.fnOf "law" "law" (defArgs (topS 15)) (defBody (topS 15)) (defScope (topS 15)) .none kV7 dc7 pm7 an7 cd7 ct7, fun s v => .of_eq rfl, fun base _ _ => ?_⟩
  have D_cell_at := ok_cell_at (P := l.prog) (w := w) (base := base) (c := c) F__law_cell_at b_len
  have D_num := ok_num (P := l.prog) (w := w) (base := base) (c := c) F__law_number
  have D_leaf := ok_leaf F__law_leaf D_num
  have D_tree := ok_tree F__law_tree D_cell_at D_leaf
  have D_area := ok_area (P := l.prog) (w := w) (base := base) F__law_area TT II 11
  have D_lhas := ok_lhas (P := l.prog) (w := w) (base := base) (c := c) F__law_has 11
  have D_cor := ok_cor (P := l.prog) (w := w) (base := base) (c := c) F__law_corners b_len 11 (by decide)
  have D_has := has_ok (P := l.prog) (w := w) (base := base) (mg := mg) TT 11
  exact law_imp (fn_law F_law D_cell_at D_num D_tree D_area D_lhas D_cor D_has IA b_isinstance b_bool b_range)
end Lw
open PySem PySem.W PyProof.Rows
set_option maxRecDepth 100000 in
set_option maxHeartbeats 0 in
theorem PySem.Challenge.cw_dustwalk_k29_areas_holds : PySem.Challenge.rw_dustwalk_k29_areas.Holds := by
  w_on; o_law; k_head; (case hw => w_witness2)
  k_fill
  refine Dw.law_walk (l := PySem.Challenge.rw_dustwalk_k29_areas) (k := 15) (x := "_law_script") rfl rfl ⟨rfl, by decide, by decide⟩ (fun w h Y => PySem.W.kIn_of Y) ?F
  case F =>
    intro w mg fa h KX G hmg
    refine' Lw.all_mk KX G hmg ?a0 ?l0 ?c0 ?k0 ?a1 ?l1 ?c1 ?k1 ?a2 ?l2 ?c2 ?k2 ?a3 ?l3 ?c3 ?k3 ?a4 ?l4 ?c4 ?k4 ?a5 ?l5 ?c5 ?k5 ?a6 ?l6 ?c6 ?k6 ?a7 ?l7 ?c7 ?k7 ?z_bool ?z_isinstance ?z_len ?z_range ?aC_Everywhere ?pg_Everywhere ?hd_Everywhere ?po_Everywhere ?sa_Everywhere ?mk_Everywhere ?kc_Everywhere ?a_Everywhere_has ?i_Everywhere_has ?l_Everywhere_has ?c_Everywhere_has ?k_Everywhere_has ?in_Everywhere ?aC_Box ?pg_Box ?hd_Box ?po_Box ?sa_Box ?mk_Box ?kc_Box ?n_Box_top ?n_Box_left ?n_Box_bottom ?n_Box_right ?a_Box_init ?i_Box_init ?l_Box_init ?c_Box_init ?k_Box_init ?a_Box_has ?i_Box_has ?l_Box_has ?c_Box_has ?k_Box_has ?aC_Both ?pg_Both ?hd_Both ?po_Both ?sa_Both ?mk_Both ?kc_Both ?n_Both_one ?n_Both_other ?a_Both_init ?i_Both_init ?l_Both_init ?c_Both_init ?k_Both_init ?a_Both_has ?i_Both_has ?l_Both_has ?c_Both_has ?k_Both_has ?aC_Either ?pg_Either ?hd_Either ?po_Either ?sa_Either ?mk_Either ?kc_Either ?n_Either_one ?n_Either_other ?a_Either_init ?i_Either_init ?l_Either_init ?c_Either_init ?k_Either_init ?a_Either_has ?i_Either_has ?l_Either_has ?c_Either_has ?k_Either_has ?aC_Outside ?pg_Outside ?hd_Outside ?po_Outside ?sa_Outside ?mk_Outside ?kc_Outside ?n_Outside_one ?a_Outside_init ?i_Outside_init ?l_Outside_init ?c_Outside_init ?k_Outside_init ?a_Outside_has ?i_Outside_has ?l_Outside_has ?c_Outside_has ?k_Outside_has ?aC_Area ?ca_Everywhere_Area ?cg_Everywhere_Area ?ct_Everywhere_Area ?cm_Everywhere_Area ?ck_Everywhere_Area ?ca_Box_Area ?cg_Box_Area ?ct_Box_Area ?cm_Box_Area ?ck_Box_Area ?ca_Both_Area ?cg_Both_Area ?ct_Both_Area ?cm_Both_Area ?ck_Both_Area ?ca_Either_Area ?cg_Either_Area ?ct_Either_Area ?cm_Either_Area ?ck_Either_Area ?ca_Outside_Area ?cg_Outside_Area ?ct_Outside_Area ?cm_Outside_Area ?ck_Outside_Area
    (case a0 => k_is)
    (case l0 => k_is)
    (case c0 => k_is)
    (case k0 => k_is)
    (case a1 => k_is)
    (case l1 => k_is)
    (case c1 => k_is)
    (case k1 => k_is)
    (case a2 => k_is)
    (case l2 => k_is)
    (case c2 => k_is)
    (case k2 => k_is)
    (case a3 => k_is)
    (case l3 => k_is)
    (case c3 => k_is)
    (case k3 => k_is)
    (case a4 => k_is)
    (case l4 => k_is)
    (case c4 => k_is)
    (case k4 => k_is)
    (case a5 => k_is)
    (case l5 => k_is)
    (case c5 => k_is)
    (case k5 => k_is)
    (case a6 => k_is)
    (case l6 => k_is)
    (case c6 => k_is)
    (case k6 => k_is)
    (case a7 => k_is)
    (case l7 => k_is)
    (case c7 => k_is)
    (case k7 => k_is)
    (case z_bool => k_is)
    (case z_isinstance => k_is)
    (case z_len => k_is)
    (case z_range => k_is)
    (case aC_Everywhere => k_is)
    (case pg_Everywhere => k_is)
    (case hd_Everywhere => k_is)
    (case po_Everywhere => k_is)
    (case sa_Everywhere => k_is)
    (case mk_Everywhere => k_is)
    (case kc_Everywhere => k_is)
    (case a_Everywhere_has => k_is)
    (case i_Everywhere_has => k_is)
    (case l_Everywhere_has => k_is)
    (case c_Everywhere_has => k_is)
    (case k_Everywhere_has => k_is)
    (case in_Everywhere => k_is)
    (case aC_Box => k_is)
    (case pg_Box => k_is)
    (case hd_Box => k_is)
    (case po_Box => k_is)
    (case sa_Box => k_is)
    (case mk_Box => k_is)
    (case kc_Box => k_is)
    (case n_Box_top => k_is)
    (case n_Box_left => k_is)
    (case n_Box_bottom => k_is)
    (case n_Box_right => k_is)
    (case a_Box_init => k_is)
    (case i_Box_init => k_is)
    (case l_Box_init => k_is)
    (case c_Box_init => k_is)
    (case k_Box_init => k_is)
    (case a_Box_has => k_is)
    (case i_Box_has => k_is)
    (case l_Box_has => k_is)
    (case c_Box_has => k_is)
    (case k_Box_has => k_is)
    (case aC_Both => k_is)
    (case pg_Both => k_is)
    (case hd_Both => k_is)
    (case po_Both => k_is)
    (case sa_Both => k_is)
    (case mk_Both => k_is)
    (case kc_Both => k_is)
    (case n_Both_one => k_is)
    (case n_Both_other => k_is)
    (case a_Both_init => k_is)
    (case i_Both_init => k_is)
    (case l_Both_init => k_is)
    (case c_Both_init => k_is)
    (case k_Both_init => k_is)
    (case a_Both_has => k_is)
    (case i_Both_has => k_is)
    (case l_Both_has => k_is)
    (case c_Both_has => k_is)
    (case k_Both_has => k_is)
    (case aC_Either => k_is)
    (case pg_Either => k_is)
    (case hd_Either => k_is)
    (case po_Either => k_is)
    (case sa_Either => k_is)
    (case mk_Either => k_is)
    (case kc_Either => k_is)
    (case n_Either_one => k_is)
    (case n_Either_other => k_is)
    (case a_Either_init => k_is)
    (case i_Either_init => k_is)
    (case l_Either_init => k_is)
    (case c_Either_init => k_is)
    (case k_Either_init => k_is)
    (case a_Either_has => k_is)
    (case i_Either_has => k_is)
    (case l_Either_has => k_is)
    (case c_Either_has => k_is)
    (case k_Either_has => k_is)
    (case aC_Outside => k_is)
    (case pg_Outside => k_is)
    (case hd_Outside => k_is)
    (case po_Outside => k_is)
    (case sa_Outside => k_is)
    (case mk_Outside => k_is)
    (case kc_Outside => k_is)
    (case n_Outside_one => k_is)
    (case a_Outside_init => k_is)
    (case i_Outside_init => k_is)
    (case l_Outside_init => k_is)
    (case c_Outside_init => k_is)
    (case k_Outside_init => k_is)
    (case a_Outside_has => k_is)
    (case i_Outside_has => k_is)
    (case l_Outside_has => k_is)
    (case c_Outside_has => k_is)
    (case k_Outside_has => k_is)
    (case aC_Area => k_is)
    (case ca_Everywhere_Area => k_is)
    (case cg_Everywhere_Area => k_is)
    (case ct_Everywhere_Area => k_is)
    (case cm_Everywhere_Area => k_is)
    (case ck_Everywhere_Area => kit_is)
    (case ca_Box_Area => k_is)
    (case cg_Box_Area => k_is)
    (case ct_Box_Area => k_is)
    (case cm_Box_Area => k_is)
    (case ck_Box_Area => kit_is)
    (case ca_Both_Area => k_is)
    (case cg_Both_Area => k_is)
    (case ct_Both_Area => k_is)
    (case cm_Both_Area => k_is)
    (case ck_Both_Area => kit_is)
    (case ca_Either_Area => k_is)
    (case cg_Either_Area => k_is)
    (case ct_Either_Area => k_is)
    (case cm_Either_Area => k_is)
    (case ck_Either_Area => kit_is)
    (case ca_Outside_Area => k_is)
    (case cg_Outside_Area => k_is)
    (case ct_Outside_Area => k_is)
    (case cm_Outside_Area => k_is)
    (case ck_Outside_Area => kit_is)
#print axioms PySem.Challenge.cw_dustwalk_k29_areas_holds
