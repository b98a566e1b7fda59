import PyProof.Rows.All
import Wide.All
import OpenK.AllK
import Wide.FinOn
import HandS.ForMost
import HandS.IsInst
import HandS.Wide
import HandS.Flow
import HandS.ExcCtx
import HandS.Deep
import HandS.More
import HandS.EndBits
import HandS.ExcIs
import HandS.WordsExc
import HandS.HotCalls
import KE.KEqDict
import PySem.Challenge.RW_dustwalk_k03_floors_refused
set_option Elab.async false
set_option linter.all false
set_option maxRecDepth 100000
set_option maxHeartbeats 4000000
namespace Dw
open PySem L2 PyProof.Rows
abbrev D := PyData
abbrev Sg := L2.St
abbrev Cl := Int → Option Addr

structure Ext (B H B' H' : Hp) : Prop where
  b : Same B B'
  h : Same H H'
  sub : Same B' H'
  new : ∀ a, B a = none → H a ≠ none → B' a = none
theorem Same.ne {H H' : Hp} (e : Same H H') {a : Addr} (h : H a ≠ none) : H' a = H a := by
  cases q : H a with
  | none => exact absurd q h
  | some o => exact e a o q
theorem Same.some {H H' : Hp} (e : Same H H') {a : Addr} (h : H a ≠ none) : H' a ≠ none := by
  rw [Same.ne e h]; exact h
theorem Ext.refl {B H : Hp} (s : Same B H) : Ext B H B H := ⟨Same.refl _, Same.refl _, s, fun _ h _ => h⟩
theorem Ext.trans {B H B1 H1 B2 H2 : Hp} (e : Ext B H B1 H1) (f : Ext B1 H1 B2 H2) : Ext B H B2 H2 :=
  ⟨e.b.trans f.b, e.h.trans f.h, f.sub, fun a h1 h2 => f.new a (e.new a h1 h2) (Same.some e.h h2)⟩
theorem same_upd {H : Hp} {p : Addr} {o : HO} (h : H p = none) : Same H (upd H p o) := fun b u q => by
  rw [upd_ne (ne_of_none q h)]; exact q
theorem Ext.lay {B H : Hp} (s : Same B H) {p : Addr} (o : HO) (h : H p = none) : Ext B H (upd B p o) (upd H p o) := by
  have hb : B p = none := s.free h
  refine ⟨same_upd hb, same_upd h, fun b u q => ?_, fun a h1 h2 => ?_⟩
  · by_cases e : b = p
    · subst e; rw [upd_same] at q ⊢; exact q
    · rw [upd_ne e] at q ⊢; exact s b u q
  · by_cases e : a = p
    · subst e; exact absurd h h2
    · rw [upd_ne e]; exact h1
theorem Ext.layH {B H : Hp} (s : Same B H) {p : Addr} (o : HO) (h : H p = none) : Ext B H B (upd H p o) :=
  ⟨Same.refl _, same_upd h, s.trans (same_upd h), fun _ h _ => h⟩
/-- what is new and one's own is laid down for good -/
theorem Ext.freeze {B H B' H' : Hp} (e : Ext B H B' H') {p : Addr} {o : HO} (h : H p = none) (hb : B' p = none) (hp : H' p = some o) : Ext B H (upd B' p o) H' :=
  ⟨e.b.trans (same_upd hb), e.h, fun b u q => by
    by_cases z : b = p
    · subst z; rw [upd_same] at q; cases q; exact hp
    · rw [upd_ne z] at q; exact e.sub b u q, fun a h1 h2 => by
    by_cases z : a = p
    · subst z; exact absurd h h2
    · rw [upd_ne z]; exact e.new a h1 h2⟩

/-- a tuple that is laid for good, or an object of the module -/
def TupD (K : PySem.W.Frag) (B : Hp) (a : Addr) (xs : List V) : Prop :=
  B a = some (.tup xs) ∨ ∃ (o : Obj) (its : Array Value) (n : Nat), K.lookup a = some o ∧ o.cls = .type "tuple" ∧ o.data = .seq its n ∧ its.size ≤ sizeLine ∧ Vals xs its.toList
theorem TupD.sq {K : PySem.W.Frag} {B : Hp} {a : Addr} {xs : List V} (h : TupD K B a xs) : SqT K B a xs := h.imp Or.inl id
theorem Same.tupD {K : PySem.W.Frag} {H H' : Hp} {a : Addr} {xs : List V} (e : Same H H') (h : TupD K H a xs) : TupD K H' a xs := h.imp (e _ _) id
mutual
inductive Tp (K : PySem.W.Frag) (c : Cl) (B : Hp) : V → PyData → Prop
  | non : Tp K c B .non .none
  | bl (b : Bool) : Tp K c B (.bl b) (.bool b)
  | int (i : Int) : Tp K c B (.int i) (.int i)
  | str (x : Str) : Tp K c B (.str x) (.str x)
  | lst {a : Addr} {xs : List V} {ds : List PyData} : Rd B a (.lst xs) → TpAll K c B xs ds → Tp K c B (.ref a) (.list ds)
  | tup {a : Addr} {xs : List V} {ds : List PyData} : TupD K B a xs → TpAll K c B xs ds → Tp K c B (.ref a) (.tuple ds)
  | dct {a : Addr} : B a = some (.dK []) → Tp K c B (.ref a) (.dict [])
  | ob {x dx C : Addr} {n : Int} {fs : List (Str × V)} {kvs : List (PyData × PyData)} : B x = some (.ins C dx fs) → c n = some C → TpF K c B fs kvs → Tp K c B (.ref x) (.dict ((.int n, .none) :: kvs))
inductive TpAll (K : PySem.W.Frag) (c : Cl) (B : Hp) : List V → List PyData → Prop
  | nil : TpAll K c B [] []
  | cons {v : V} {vs : List V} {d : PyData} {ds : List PyData} : Tp K c B v d → TpAll K c B vs ds → TpAll K c B (v :: vs) (d :: ds)
inductive TpF (K : PySem.W.Frag) (c : Cl) (B : Hp) : List (Str × V) → List (PyData × PyData) → Prop
  | nil : TpF K c B [] []
  | cons {f : Str} {v : V} {fs : List (Str × V)} {d : PyData} {kvs : List (PyData × PyData)} : Tp K c B v d → TpF K c B fs kvs → TpF K c B ((f, v) :: fs) ((.str f, d) :: kvs)
end
section
variable {K : PySem.W.Frag} {c : Cl} {H H' : Hp}
theorem Same.tup {a : Addr} {xs : List V} (e : Same H H') (h : SqT K H a xs) : SqT K H' a xs := by
  rcases h with (h | ⟨o, h⟩) | h
  · exact .inl (.inl (e _ _ h))
  · exact .inl (.inr ⟨o, e _ _ h⟩)
  · exact .inr h
theorem Same.rd {a : Addr} {o : HO} (e : Same H H') (h : Rd H a o) : Rd H' a o := h.elim (fun q => .inl (e _ _ q)) fun ⟨u, q⟩ => .inr ⟨u, e _ _ q⟩
mutual
theorem Tp.mono (e : Same H H') : ∀ (d : PyData) (v : V), Tp K c H v d → Tp K c H' v d
  | .none, _, h => by cases h; exact .non
  | .bool b, _, h => by cases h; exact .bl b
  | .int i, _, h => by cases h; exact .int i
  | .str i, _, h => by cases h; exact .str i
  | .list ds, _, h => by
    cases h with
    | lst hs ha => exact .lst (Same.rd e hs) (TpAll.mono e ds _ ha)
  | .tuple ds, _, h => by
    cases h with
    | tup hs ha => exact .tup (Same.tupD e hs) (TpAll.mono e ds _ ha)
  | .dict kvs, _, h => by
    cases h with
    | dct hd => exact .dct (e _ _ hd)
    | ob hx hc hf => exact .ob (e _ _ hx) hc (TpF.mono e _ _ hf)
theorem TpAll.mono (e : Same H H') : ∀ (ds : List PyData) (vs : List V), TpAll K c H vs ds → TpAll K c H' vs ds
  | [], _, h => by cases h; exact .nil
  | d :: ds, _, h => by
    cases h with
    | cons h1 h2 => exact .cons (Tp.mono e d _ h1) (TpAll.mono e ds _ h2)
theorem TpF.mono (e : Same H H') : ∀ (ds : List (PyData × PyData)) (vs : List (Str × V)), TpF K c H vs ds → TpF K c H' vs ds
  | [], _, h => by cases h; exact .nil
  | (k, d) :: ds, _, h => by
    cases h with
    | cons h1 h2 => exact .cons (Tp.mono e d _ h1) (TpF.mono e ds _ h2)
end
theorem TpAll.length : ∀ {ds : List PyData} {vs : List V}, TpAll K c H vs ds → vs.length = ds.length
  | _, _, .nil => rfl
  | _, _, .cons _ h => by simp [TpAll.length h]
theorem TpAll.get : ∀ {ds : List PyData} {vs : List V} {i : Nat} {d : PyData}, TpAll K c H vs ds → ds[i]? = some d → ∃ v, vs[i]? = some v ∧ Tp K c H v d
  | _, _, _, _, .nil, h => by simp at h
  | _, _, 0, _, .cons h _, e => by simp at e; subst e; exact ⟨_, rfl, h⟩
  | _, _, i + 1, _, .cons _ h, e => by simpa using TpAll.get (i := i) h (by simpa using e)
theorem TpAll.getV : ∀ {ds : List PyData} {vs : List V} {i : Nat} {v : V}, TpAll K c H vs ds → vs[i]? = some v → ∃ d, ds[i]? = some d ∧ Tp K c H v d
  | _, _, _, _, .nil, h => by simp at h
  | _, _, 0, _, .cons h _, e => by simp at e; subst e; exact ⟨_, rfl, h⟩
  | _, _, i + 1, _, .cons _ h, e => by simpa using TpAll.getV (i := i) h (by simpa using e)
theorem TpAll.append : ∀ {ds es : List PyData} {vs us : List V}, TpAll K c H vs ds → TpAll K c H us es → TpAll K c H (vs ++ us) (ds ++ es)
  | _, _, _, _, .nil, h => h
  | _, _, _, _, .cons h t, u => .cons h (TpAll.append t u)
theorem TpAll.take : ∀ {ds : List PyData} {vs : List V} (n : Nat), TpAll K c H vs ds → TpAll K c H (vs.take n) (ds.take n)
  | _, _, 0, _ => .nil
  | _, _, _ + 1, .nil => .nil
  | _, _, n + 1, .cons h t => .cons h (TpAll.take n t)
theorem TpAll.drop : ∀ {ds : List PyData} {vs : List V} (n : Nat), TpAll K c H vs ds → TpAll K c H (vs.drop n) (ds.drop n)
  | _, _, 0, r => r
  | _, _, _ + 1, .nil => .nil
  | _, _, n + 1, .cons _ t => TpAll.drop n t
theorem TpAll.set : ∀ {ds : List PyData} {vs : List V} {d : PyData} {v : V} (n : Nat), TpAll K c H vs ds → Tp K c H v d → TpAll K c H (vs.set n v) (ds.set n d)
  | _, _, _, _, _, .nil, _ => .nil
  | _, _, _, _, 0, .cons _ t, h => .cons h t
  | _, _, _, _, n + 1, .cons h t, r => .cons h (TpAll.set n t r)
mutual
theorem Tp.dp : ∀ (d : PyData) (v : V), Tp K c H v d → d.canLay0 = true → Dp K H v d
  | .none, _, h, _ => by cases h; exact .non
  | .bool b, _, h, _ => by cases h; exact .bl b
  | .int i, _, h, _ => by cases h; exact .int i
  | .str i, _, h, _ => by cases h; exact .str i
  | .list ds, _, h, s => by
    cases h with
    | lst hs ha => exact .lst (.inl hs) (TpAll.dp ds _ ha (by simpa [PyData.canLay0] using s))
  | .tuple ds, _, h, s => by
    cases h with
    | tup hs ha => exact .tup hs.sq (TpAll.dp ds _ ha (by simpa [PyData.canLay0] using s))
  | .dict kvs, _, h, s => by simp [PyData.canLay0] at s
theorem TpAll.dp : ∀ (ds : List PyData) (vs : List V), TpAll K c H vs ds → PyData.canLayAll0 ds = true → DpAll K H vs ds
  | [], _, h, _ => by cases h; exact .nil
  | d :: ds, _, h, s => by
    cases h with
    | cons h1 h2 =>
      have s' : d.canLay0 = true ∧ PyData.canLayAll0 ds = true := by simpa [PyData.canLayAll0] using s
      exact .cons (Tp.dp d _ h1 s'.1) (TpAll.dp ds _ h2 s'.2)
end
end
mutual
inductive Tm (K : PySem.W.Frag) (c : Cl) (Z B : Hp) : V → PyData → Prop
  | of {v : V} {d : PyData} : Tp K c B v d → Tm K c Z B v d
  | lst {a : Addr} {xs : List V} {ds : List PyData} : SqL K Z a xs → TmAll K c Z B xs ds → Tm K c Z B (.ref a) (.list ds)
inductive TmAll (K : PySem.W.Frag) (c : Cl) (Z B : Hp) : List V → List PyData → Prop
  | nil : TmAll K c Z B [] []
  | cons {v : V} {vs : List V} {d : PyData} {ds : List PyData} : Tm K c Z B v d → TmAll K c Z B vs ds → TmAll K c Z B (v :: vs) (d :: ds)
end
section
variable {K : PySem.W.Frag} {c : Cl} {Z Z' B B' : Hp}
mutual
theorem Tm.mono (z : Same Z Z') (e : Same B B') : ∀ (d : PyData) (v : V), Tm K c Z B v d → Tm K c Z' B' v d
  | .list ds, _, h => by
    cases h with
    | of h => exact .of (Tp.mono e _ _ h)
    | lst hs ha => exact .lst (z.seq hs) (TmAll.mono z e ds _ ha)
  | .none, _, h => by cases h with | of h => exact .of (Tp.mono e _ _ h)
  | .bool _, _, h => by cases h with | of h => exact .of (Tp.mono e _ _ h)
  | .int _, _, h => by cases h with | of h => exact .of (Tp.mono e _ _ h)
  | .str _, _, h => by cases h with | of h => exact .of (Tp.mono e _ _ h)
  | .tuple _, _, h => by cases h with | of h => exact .of (Tp.mono e _ _ h)
  | .dict _, _, h => by cases h with | of h => exact .of (Tp.mono e _ _ h)
theorem TmAll.mono (z : Same Z Z') (e : Same B B') : ∀ (ds : List PyData) (vs : List V), TmAll K c Z B vs ds → TmAll K c Z' B' vs ds
  | [], _, h => by cases h; exact .nil
  | d :: ds, _, h => by
    cases h with
    | cons h1 h2 => exact .cons (Tm.mono z e d _ h1) (TmAll.mono z e ds _ h2)
end
mutual
theorem Tm.dpn (s : Same B Z) : ∀ (d : PyData) (v : V), Tm K c Z B v d → d.canLay0 = true → Dp K Z v d
  | .list ds, _, h, l => by
    cases h with
    | of h => exact Tp.dp _ _ (Tp.mono s _ _ h) l
    | lst hs ha => exact .lst hs (TmAll.dpn s ds _ ha (by simpa [PyData.canLay0] using l))
  | .none, _, h, l => by cases h with | of h => exact Tp.dp _ _ (Tp.mono s _ _ h) l
  | .bool _, _, h, l => by cases h with | of h => exact Tp.dp _ _ (Tp.mono s _ _ h) l
  | .int _, _, h, l => by cases h with | of h => exact Tp.dp _ _ (Tp.mono s _ _ h) l
  | .str _, _, h, l => by cases h with | of h => exact Tp.dp _ _ (Tp.mono s _ _ h) l
  | .tuple _, _, h, l => by cases h with | of h => exact Tp.dp _ _ (Tp.mono s _ _ h) l
  | .dict _, _, h, l => by cases h with | of h => exact Tp.dp _ _ (Tp.mono s _ _ h) l
theorem TmAll.dpn (s : Same B Z) : ∀ (ds : List PyData) (vs : List V), TmAll K c Z B vs ds → PyData.canLayAll0 ds = true → DpAll K Z vs ds
  | [], _, h, _ => by cases h; exact .nil
  | d :: ds, _, h, l => by
    have l' : d.canLay0 = true ∧ PyData.canLayAll0 ds = true := by simpa [PyData.canLayAll0] using l
    cases h with
    | cons h1 h2 => exact .cons (Tm.dpn s d _ h1 l'.1) (TmAll.dpn s ds _ h2 l'.2)
end
theorem TmAll.of : ∀ {ds : List PyData} {vs : List V}, TpAll K c B vs ds → TmAll K c Z B vs ds
  | _, _, .nil => .nil
  | _, _, .cons h t => .cons (.of h) (TmAll.of t)
theorem TmAll.length : ∀ {ds : List PyData} {vs : List V}, TmAll K c Z B vs ds → vs.length = ds.length
  | _, _, .nil => rfl
  | _, _, .cons _ h => by simp [TmAll.length h]
theorem TmAll.get : ∀ {ds : List PyData} {vs : List V} {i : Nat} {d : PyData}, TmAll K c Z B vs ds → ds[i]? = some d → ∃ v, vs[i]? = some v ∧ Tm K c Z B v d
  | _, _, _, _, .nil, h => by simp at h
  | _, _, 0, _, .cons h _, e => by simp at e; subst e; exact ⟨_, rfl, h⟩
  | _, _, i + 1, _, .cons _ h, e => by simpa using TmAll.get (i := i) h (by simpa using e)
theorem TmAll.getV : ∀ {ds : List PyData} {vs : List V} {i : Nat} {v : V}, TmAll K c Z B vs ds → vs[i]? = some v → ∃ d, ds[i]? = some d ∧ Tm K c Z B v d
  | _, _, _, _, .nil, h => by simp at h
  | _, _, 0, _, .cons h _, e => by simp at e; subst e; exact ⟨_, rfl, h⟩
  | _, _, i + 1, _, .cons _ h, e => by simpa using TmAll.getV (i := i) h (by simpa using e)
/-- a list, however it lies -/
theorem Tm.seq (s : Same B Z) {v : V} {ds : List PyData} (h : Tm K c Z B v (.list ds)) : ∃ a xs, v = .ref a ∧ SqL K Z a xs ∧ TmAll K c Z B xs ds := by
  cases h with
  | of h =>
    cases h with
    | lst hs ha => exact ⟨_, _, rfl, .inl (Same.rd s hs), TmAll.of ha⟩
  | lst hs ha => exact ⟨_, _, rfl, hs, ha⟩
/-- no list at the top: it may be kept -/
def nolist : PyData → Bool
  | .list _ => false
  | _ => true
theorem Tm.kept {v : V} {d : PyData} (h : Tm K c Z B v d) (n : nolist d = true) : Tp K c B v d := by
  cases h with
  | of h => exact h
  | lst _ _ => cases n
end

structure Slot (K : PySem.W.Frag) (c : Cl) where
  /-- handed in, and to be changed here -/
  par : Bool
  P : Hp → Hp → Hp → V → List Addr → Prop
  stb : ∀ {Z B H B' H' : Hp} {v : V} {fp : List Addr}, P Z B H v fp → Same B B' → (∀ a ∈ fp, B' a = none) → (∀ a ∈ fp, H' a = H a) → P Z B' H' v fp
  dom : ∀ {Z B H : Hp} {v : V} {fp : List Addr}, P Z B H v fp → ∀ a ∈ fp, B a = none ∧ H a ≠ none
section
variable {K : PySem.W.Frag} {c : Cl}
/-- plain data that may be kept -/
def sd (d : D) : Slot K c where
  par := false
  P := fun _ B _ v fp => fp = [] ∧ Tp K c B v d
  stb := fun ⟨h1, h3⟩ e _ _ => ⟨h1, Tp.mono e _ _ h3⟩
  dom := fun ⟨h1, _⟩ a h => absurd (h1 ▸ h) (List.not_mem_nil)
/-- data that is only read here -/
def sb (d : D) : Slot K c where
  par := false
  P := fun Z B _ v fp => fp = [] ∧ Tm K c Z B v d
  stb := fun ⟨h1, h3⟩ e _ _ => ⟨h1, Tm.mono (Same.refl _) e _ _ h3⟩
  dom := fun ⟨h1, _⟩ a h => absurd (h1 ▸ h) (List.not_mem_nil)
/-- a list of one's own, its items plain data -/
def so (ds : List D) (par : Bool := false) : Slot K c where
  par := par
  P := fun _ B H v fp => ∃ p vs, v = .ref p ∧ fp = [p] ∧ B p = none ∧ H p = some (.lst vs) ∧ TpAll K c B vs ds
  stb := fun ⟨p, vs, h0, h1, h3, h4, h5⟩ e f g => ⟨p, vs, h0, h1, f p (by rw [h1]; exact List.mem_cons_self), by rw [g p (by rw [h1]; exact List.mem_cons_self)]; exact h4, TpAll.mono e _ _ h5⟩
  dom := fun ⟨p, vs, h0, h1, h3, h4, h5⟩ a h => by
    have e : a = p := List.mem_singleton.mp (h1 ▸ h)
    subst e
    exact ⟨h3, by rw [h4]; exact fun z => nomatch z⟩
end
abbrev Env (K : PySem.W.Frag) (c : Cl) := List (Option (Slot K c))
/-- what an expression may lean on -/
structure EnvE {K : PySem.W.Frag} {c : Cl} (G : Env K c) (Z B H : Hp) (σ : Sg) : Prop where
  sub : Same B H
  z : Same Z H
  sl : ∀ (i : Nat) (s : Slot K c), G[i]? = some (some s) → ∃ v fp, σ[i]? = some (some v) ∧ s.P Z B H v fp
theorem EnvE.ext {K : PySem.W.Frag} {c : Cl} {G : Env K c} {Z B H B' H' : Hp} {σ : Sg} (h : EnvE G Z B H σ) (e : Ext B H B' H') : EnvE G Z B' H' σ :=
  ⟨e.sub, h.z.trans e.h, fun i s q => by
    obtain ⟨v, fp, h1, h2⟩ := h.sl i s q
    have d1 := s.dom h2
    exact ⟨v, fp, h1, s.stb h2 e.b (fun a ha => e.new a (d1 a ha).1 (d1 a ha).2) fun a ha => Same.ne e.h (d1 a ha).2⟩⟩

/-- what is wanted of a value that is plain data -/
def Gv (K : PySem.W.Frag) (c : Cl) (B H : Hp) (d : D) (Q : VK) : Prop := ∀ v B' H', Ext B H B' H' → Tp K c B' v d → Q v H'
/-- .. of what is new and one's own -/
def Gs (K : PySem.W.Frag) (c : Cl) (B H : Hp) (s : Slot K c) (Q : VK) : Prop := ∀ v B' H' fp, Ext B H B' H' → (∀ Z, s.P Z B' H' v fp) → (∀ a ∈ fp, H a = none) → Q v H'
section
variable {c : Cl}
/-- it is data that may be kept -/
def DE (X : Cx) (G : Env X.K c) (e : Expr) (d : D) : Prop :=
  ∃ t, PE X e t ∧ ∀ Z B H σ Q, EnvE G Z B H σ → Gv X.K c B H d Q → t σ H Q
/-- it is data, to be read -/
def DR (X : Cx) (G : Env X.K c) (e : Expr) (d : D) : Prop :=
  ∃ t, PE X e t ∧ ∀ Z B H σ Q, EnvE G Z B H σ → (∀ v B' H', Ext B H B' H' → Tm X.K c H' B' v d → Q v H') → t σ H Q
/-- it is new -/
def DX (X : Cx) (G : Env X.K c) (e : Expr) (s : Slot X.K c) : Prop :=
  ∃ t, PE X e t ∧ ∀ Z B H σ Q, EnvE G Z B H σ → Gs X.K c B H s Q → t σ H Q
/-- as an argument: s is what the callee may lean on -/
def DA (X : Cx) (G : Env X.K c) (e : Expr) (s : Slot X.K c) : Prop :=
  ∃ t, PE X e t ∧ ∀ Z B H σ Q, EnvE G Z B H σ → (∀ v B' H', Ext B H B' H' → s.P H' B' H' v [] → (∀ B2 H2, Ext B' H' B2 H2 → s.P H2 B2 H2 v []) → Q v H') → t σ H Q
def DT (X : Cx) (G : Env X.K c) (e : Expr) (b : Bool) : Prop :=
  ∃ t, PT X e t ∧ ∀ Z B H σ Q, EnvE G Z B H σ → (∀ B' H', Ext B H B' H' → Q b H') → t σ H Q
def DW (X : Cx) (G : Env X.K c) (e : Expr) (b : Bool) : Prop :=
  ∃ t, PW X e t ∧ ∀ Z B H σ Q, EnvE G Z B H σ → (∀ B' H', Ext B H B' H' → Q b H') → t σ H Q
def DEs (X : Cx) (G : Env X.K c) (es : List Expr) (ds : List D) : Prop :=
  ∃ t, PA X es t ∧ ∀ Z B H σ Q, EnvE G Z B H σ → (∀ vs B' H', Ext B H B' H' → TpAll X.K c B' vs ds → Q vs H') → t σ H Q
def DRs (X : Cx) (G : Env X.K c) (es : List Expr) (ds : List D) : Prop :=
  ∃ t, PA X es t ∧ ∀ Z B H σ Q, EnvE G Z B H σ → (∀ vs B' H', Ext B H B' H' → TmAll X.K c H' B' vs ds → Q vs H') → t σ H Q
inductive SlAll {K : PySem.W.Frag} (Z B H : Hp) : List V → List (Slot K c) → Prop
  | nil : SlAll Z B H [] []
  | cons {v : V} {vs : List V} {s : Slot K c} {ss : List (Slot K c)} : s.P Z B H v [] → SlAll Z B H vs ss → SlAll Z B H (v :: vs) (s :: ss)
def DAs (X : Cx) (G : Env X.K c) (es : List Expr) (ss : List (Slot X.K c)) : Prop :=
  ∃ t, PA X es t ∧ ∀ Z B H σ Q, EnvE G Z B H σ → (∀ vs B' H', Ext B H B' H' → SlAll H' B' H' vs ss → Q vs H') → t σ H Q
/-- an operation of two data that are read; its value is kept -/
def OpD (c : Cl) (X : Cx) (f : Value → Value → Sem Value) (d1 d2 d : D) : Prop :=
  ∃ r, OpR X f r ∧ ∀ B H x y Q, Same B H → Tm X.K c H B x d1 → Tm X.K c H B y d2 → Gv X.K c B H d Q → r x y H Q
/-- .. of kept ones -/
def OpB (c : Cl) (X : Cx) (f : Value → Value → Sem Value) (d1 d2 d : D) : Prop :=
  ∃ r, OpR X f r ∧ ∀ B H x y Q, Same B H → Tp X.K c B x d1 → Tp X.K c B y d2 → Gv X.K c B H d Q → r x y H Q
def UnD (c : Cl) (X : Cx) (f : Value → Sem Value) (d1 d : D) : Prop :=
  ∃ r, UnR X f r ∧ ∀ B H x Q, Same B H → Tm X.K c H B x d1 → Gv X.K c B H d Q → r x H Q
def CallD (c : Cl) (X : Cx) (f : Value) (ds : List D) (d : D) : Prop :=
  ∃ r, CallR X f r ∧ ∀ B H xs Q, Same B H → TmAll X.K c H B xs ds → Gv X.K c B H d Q → r xs H Q
def CallB (c : Cl) (X : Cx) (f : Value) (ds : List D) (s : Slot X.K c) : Prop :=
  ∃ r, CallR X f r ∧ ∀ B H xs Q, Same B H → TpAll X.K c B xs ds → Gs X.K c B H s Q → r xs H Q
/-- an item: it lies as its whole does -/
def IxD (c : Cl) (X : Cx) (d1 d2 d : D) : Prop :=
  ∃ r, IxR X r ∧ ∀ Z B H x y Q, Same B H → Same Z H → Tm X.K c Z B x d1 → Tm X.K c Z B y d2 → (∀ v, Tm X.K c Z B v d → Q v H) → r x y H Q
/-- it is data that stands still -/
def DZ (X : Cx) (G : Env X.K c) (e : Expr) (d : D) : Prop :=
  ∃ t, PE X e t ∧ ∀ Z B H σ Q, EnvE G Z B H σ → (∀ v B' H', Ext B H B' H' → Tm X.K c Z B' v d → Q v H') → t σ H Q

variable {X : Cx} {G : Env X.K c} {a b e f : Expr} {es : List Expr} {ds : List D} {pos : Pos} {d d1 d2 d3 : D} {x : Str} {i : Nat}
theorem gv_of {K : PySem.W.Frag} {B H : Hp} {d : D} {Q : VK} (s : Same B H) (g : Gv K c B H d Q) {v : V} (h : Tp K c B v d) : Q v H := g v B H (Ext.refl s) h

theorem DE.dz (h : DE X G e d) : DZ X G e d := by
  obtain ⟨t, p, r⟩ := h
  exact ⟨t, p, fun Z B H σ Q E g => r Z B H σ Q E fun v B' H' e h => g v B' H' e (.of h)⟩
theorem DZ.dr (h : DZ X G e d) : DR X G e d := by
  obtain ⟨t, p, r⟩ := h
  exact ⟨t, p, fun Z B H σ Q E g => r Z B H σ Q E fun v B' H' e h => g v B' H' e (Tm.mono (E.z.trans e.h) (Same.refl _) _ _ h)⟩
theorem DE.dr (h : DE X G e d) : DR X G e d := by
  obtain ⟨t, p, r⟩ := h
  exact ⟨t, p, fun Z B H σ Q E g => r Z B H σ Q E fun v B' H' e h => g v B' H' e (.of h)⟩
theorem DR.de (h : DR X G e d) (n : nolist d = true := by rfl) : DE X G e d := by
  obtain ⟨t, p, r⟩ := h
  exact ⟨t, p, fun Z B H σ Q E g => r Z B H σ Q E fun v B' H' e h => g v B' H' e (h.kept n)⟩
theorem DE.dx (h : DE X G e d) : DX X G e (sd d) := by
  obtain ⟨t, p, r⟩ := h
  exact ⟨t, p, fun Z B H σ Q E g => r Z B H σ Q E fun v B' H' e h => g v B' H' [] e (fun _ => ⟨rfl, h⟩) fun a z => absurd z List.not_mem_nil⟩
theorem DX.de (h : DX X G e (sd d)) : DE X G e d := by
  obtain ⟨t, p, r⟩ := h
  exact ⟨t, p, fun Z B H σ Q E g => r Z B H σ Q E fun v B' H' fp e h _ => g v B' H' e (h B).2⟩
/-- a new list laid down for good -/
theorem DX.frozen (h : DX X G e (so ds)) : DE X G e (.list ds) := by
  obtain ⟨t, p, r⟩ := h
  refine ⟨t, p, fun Z B H σ Q E g => r Z B H σ Q E fun v B' H' fp e h hf => ?_⟩
  obtain ⟨q, vs, h0, h1, h3, h4, h5⟩ := h B
  subst h0
  have hq := hf q (by rw [h1]; exact List.mem_cons_self)
  have e2 := e.freeze hq h3 h4
  exact g _ (upd B' q (.lst vs)) H' e2 (.lst (Rd.of upd_same) (TpAll.mono (same_upd h3) _ _ h5))
theorem DE.da (h : DE X G e d) : DA X G e (sd d) := by
  obtain ⟨t, p, r⟩ := h
  exact ⟨t, p, fun Z B H σ Q E g => r Z B H σ Q E fun v B' H' e h => g v B' H' e ⟨rfl, h⟩ fun B2 H2 e2 => ⟨rfl, Tp.mono e2.b _ _ h⟩⟩
theorem DR.da (h : DR X G e d) : DA X G e (sb d) := by
  obtain ⟨t, p, r⟩ := h
  exact ⟨t, p, fun Z B H σ Q E g => r Z B H σ Q E fun v B' H' e h => g v B' H' e ⟨rfl, h⟩ fun B2 H2 e2 => ⟨rfl, Tm.mono e2.h e2.b _ _ h⟩⟩

theorem de_name (i : Nat) {d : D} (hG : G[i]? = some (some (sd d)) := by rfl) (hN : X.N[i]? = some x := by rfl)
    (hv : Vis X.env.scope x := by first | exact Or.inl rfl | exact Or.inr (Or.inl rfl) | exact Or.inr (Or.inr rfl)) (hd : (x == ("__debug__" : Str)) = false := by decide)
    (hcd : (x == ("__classdict__" : Str)) = false := by decide) : DE X G (.Name x pos) d :=
  ⟨_, pv i hN hv hd hcd, fun Z B H σ Q E g => by
    obtain ⟨v, fp, h1, _, h3⟩ := E.sl i _ hG
    exact ⟨v, h1, gv_of E.sub g h3⟩⟩
theorem dz_name (i : Nat) {d : D} (hG : G[i]? = some (some (sb d)) := by rfl) (hN : X.N[i]? = some x := by rfl)
    (hv : Vis X.env.scope x := by first | exact Or.inl rfl | exact Or.inr (Or.inl rfl) | exact Or.inr (Or.inr rfl)) (hd : (x == ("__debug__" : Str)) = false := by decide)
    (hcd : (x == ("__classdict__" : Str)) = false := by decide) : DZ X G (.Name x pos) d :=
  ⟨_, pv i hN hv hd hcd, fun Z B H σ Q E g => by
    obtain ⟨v, fp, h1, _, h3⟩ := E.sl i _ hG
    exact ⟨v, h1, g v B H (Ext.refl E.sub) h3⟩⟩
theorem dr_nameO (i : Nat) {ds : List D} {par : Bool} (hG : G[i]? = some (some (so ds par)) := by rfl) (hN : X.N[i]? = some x := by rfl)
    (hv : Vis X.env.scope x := by first | exact Or.inl rfl | exact Or.inr (Or.inl rfl) | exact Or.inr (Or.inr rfl)) (hd : (x == ("__debug__" : Str)) = false := by decide)
    (hcd : (x == ("__classdict__" : Str)) = false := by decide) : DR X G (.Name x pos) (.list ds) :=
  ⟨_, pv i hN hv hd hcd, fun Z B H σ Q E g => by
    obtain ⟨v, fp, h1, p, vs, h0, _, h3, h4, h5⟩ := E.sl i _ hG
    exact ⟨v, h1, g v B H (Ext.refl E.sub) (by rw [h0]; exact .lst (SqL.of h4) (TmAll.of h5))⟩⟩
theorem de_int {z : Int} {j} : DE X G (.Constant (.int z) j pos) (.int z) := ⟨_, pe_int, fun Z B H σ Q E g => gv_of E.sub g (.int z)⟩
theorem de_bl {z : Bool} {j} : DE X G (.Constant (.bool z) j pos) (.bool z) := ⟨_, pe_bl, fun Z B H σ Q E g => gv_of E.sub g (.bl z)⟩
theorem de_non {j} : DE X G (.Constant .none j pos) .none := ⟨_, pe_non, fun Z B H σ Q E g => gv_of E.sub g .non⟩
theorem de_str {z : Str} {j} : DE X G (.Constant (.str z) j pos) (.str z) := ⟨_, pe_str, fun Z B H σ Q E g => gv_of E.sub g (.str z)⟩
/-- a constant of the module -/
theorem de_glob {u : Value} {v : V} (hg : Gl X x) (hm : X.mg x = some u) (r : RelV v u) (h : ∀ B, Tp X.K c B v d) (hd : (x == ("__debug__" : Str)) = false := by decide) : DE X G (.Name x pos) d :=
  ⟨_, pe_glob hg hm r hd, fun Z B H σ Q E g => gv_of E.sub g (h B)⟩

theorem de_bin {op : Operator} (ha : DR X G a d1) (hb : DR X G b d2) (ho : OpD c X (binaryOp op) d1 d2 d) : DE X G (.BinOp a op b pos) d := by
  obtain ⟨ta, pa, ra⟩ := ha
  obtain ⟨tb, pb, rb⟩ := hb
  obtain ⟨r, hr, q⟩ := ho
  refine ⟨_, pe_op hr pa pb, fun Z B H σ Q E g => ?_⟩
  refine ra Z B H σ _ E fun v B1 H1 e1 h1 => rb Z B1 H1 σ _ (E.ext e1) fun u B2 H2 e2 h2 => ?_
  exact q B2 H2 v u Q e2.sub (Tm.mono e2.h e2.b _ _ h1) h2 fun w B3 H3 e3 h3 => g w B3 H3 ((e1.trans e2).trans e3) h3
theorem de_un {op : UnaryOp} (ha : DR X G a d1) (ho : UnD c X (unaryOp op) d1 d) : DE X G (.UnaryOp op a pos) d := by
  obtain ⟨ta, pa, ra⟩ := ha
  obtain ⟨r, hr, q⟩ := ho
  refine ⟨_, pe_un hr pa, fun Z B H σ Q E g => ?_⟩
  exact ra Z B H σ _ E fun v B1 H1 e1 h1 => q B1 H1 v Q e1.sub h1 fun w B3 H3 e3 h3 => g w B3 H3 (e1.trans e3) h3
theorem de_cmp {op : CmpOp} (ha : DR X G a d1) (hb : DR X G b d2) (ho : OpD c X (compareOp op) d1 d2 d) (hm : behindInMarks op b = false := by first | exact nomark _ (by decide) (by decide) | rfl) : DE X G (.Compare a [op] [b] pos) d := by
  obtain ⟨ta, pa, ra⟩ := ha
  obtain ⟨tb, pb, rb⟩ := hb
  obtain ⟨r, hr, q⟩ := ho
  refine ⟨_, pe_cmpR hr pa pb hm, fun Z B H σ Q E g => ?_⟩
  refine ra Z B H σ _ E fun v B1 H1 e1 h1 => rb Z B1 H1 σ _ (E.ext e1) fun u B2 H2 e2 h2 => ?_
  exact q B2 H2 v u Q e2.sub (Tm.mono e2.h e2.b _ _ h1) h2 fun w B3 H3 e3 h3 => g w B3 H3 ((e1.trans e2).trans e3) h3
theorem dt_cmp {op : CmpOp} {k : Bool} (ha : DR X G a d1) (hb : DR X G b d2) (ho : OpD c X (compareOp op) d1 d2 (.bool k)) (hm : behindInMarks op b = false := by first | exact nomark _ (by decide) (by decide) | rfl) : DT X G (.Compare a [op] [b] pos) k := by
  obtain ⟨ta, pa, ra⟩ := ha
  obtain ⟨tb, pb, rb⟩ := hb
  obtain ⟨r, hr, q⟩ := ho
  refine ⟨_, pt_cmpR hr pa pb hm, fun Z B H σ Q E g => ?_⟩
  refine ra Z B H σ _ E fun v B1 H1 e1 h1 => rb Z B1 H1 σ _ (E.ext e1) fun u B2 H2 e2 h2 => ?_
  refine q B2 H2 v u _ e2.sub (Tm.mono e2.h e2.b _ _ h1) h2 fun w B3 H3 e3 h3 => ?_
  cases h3
  exact ⟨k, rfl, g B3 H3 ((e1.trans e2).trans e3)⟩
theorem pe_never {X : Cx} {e : Expr} : PE X e (fun _ _ _ => False) := ⟨fun _ _ _ _ _ _ h => False.elim h⟩
theorem pw_never {X : Cx} {e : Expr} : PW X e (fun _ _ _ => False) := ⟨fun _ _ _ _ _ _ _ h => False.elim h⟩
theorem pt_never {X : Cx} {e : Expr} : PT X e (fun _ _ _ => False) := ⟨fun _ _ _ _ _ _ h => False.elim h⟩
theorem opr_never {X : Cx} {f : Value → Value → Sem Value} : OpR X f (fun _ _ _ _ => False) := fun _ _ _ _ _ _ _ _ _ _ _ _ h => False.elim h
/-- a reading that is only asked where p holds -/
theorem DE.ifp {p : Prop} (h : p → DE X G e d) : ∃ t, PE X e t ∧ (p → ∀ Z B H σ Q, EnvE G Z B H σ → Gv X.K c B H d Q → t σ H Q) := by
  by_cases hp : p
  · obtain ⟨t, a, b⟩ := h hp
    exact ⟨t, a, fun _ => b⟩
  · exact ⟨_, pe_never, fun q => absurd q hp⟩
theorem DR.ifp {p : Prop} (h : p → DR X G e d) : ∃ t, PE X e t ∧ (p → ∀ Z B H σ Q, EnvE G Z B H σ → (∀ v B' H', Ext B H B' H' → Tm X.K c H' B' v d → Q v H') → t σ H Q) := by
  by_cases hp : p
  · obtain ⟨t, a, b⟩ := h hp
    exact ⟨t, a, fun _ => b⟩
  · exact ⟨_, pe_never, fun q => absurd q hp⟩
theorem DW.ifp {p : Prop} {k : Bool} (h : p → DW X G e k) : ∃ t, PW X e t ∧ (p → ∀ Z B H σ Q, EnvE G Z B H σ → (∀ B' H', Ext B H B' H' → Q k H') → t σ H Q) := by
  by_cases hp : p
  · obtain ⟨t, a, b⟩ := h hp
    exact ⟨t, a, fun _ => b⟩
  · exact ⟨_, pw_never, fun q => absurd q hp⟩
theorem OpD.ifp {p : Prop} {f : Value → Value → Sem Value} (h : p → OpD c X f d1 d2 d) : ∃ r, OpR X f r ∧ (p → ∀ B H x y Q, Same B H → Tm X.K c H B x d1 → Tm X.K c H B y d2 → Gv X.K c B H d Q → r x y H Q) := by
  by_cases hp : p
  · obtain ⟨t, a, b⟩ := h hp
    exact ⟨t, a, fun _ => b⟩
  · exact ⟨_, opr_never, fun q => absurd q hp⟩
theorem de_chain {op op' : CmpOp} {k k' : Bool} (ha : DR X G a d1) (hb : DR X G b d2) (ho : OpD c X (compareOp op) d1 d2 (.bool k)) (hc : k = true → DR X G f d3) (ho' : k = true → OpD c X (compareOp op') d2 d3 (.bool k'))
    (hm : lastMarks [op, op'] [b, f] = false := by with_unfolding_all rfl) : DE X G (.Compare a [op, op'] [b, f] pos) (.bool (k && k')) := by
  obtain ⟨ta, pa, ra⟩ := ha
  obtain ⟨tb, pb, rb⟩ := hb
  obtain ⟨r, hr, q⟩ := ho
  obtain ⟨tc, pc, rc⟩ := DR.ifp hc
  obtain ⟨r', hr', q'⟩ := OpD.ifp ho'
  refine ⟨_, pe_chain hr hr' pa pb pc hm, fun Z B H σ Q E g => ?_⟩
  refine ra Z B H σ _ E fun v B1 H1 e1 h1 => rb Z B1 H1 σ _ (E.ext e1) fun u B2 H2 e2 h2 => ?_
  refine q B2 H2 v u _ e2.sub (Tm.mono e2.h e2.b _ _ h1) h2 fun w B3 H3 e3 h3 => ?_
  cases h3
  refine ⟨k, rfl, ?_⟩
  cases k with
  | true =>
    refine iteT ?_
    refine rc rfl Z B3 H3 σ _ (E.ext ((e1.trans e2).trans e3)) fun z B4 H4 e4 h4 => ?_
    exact q' rfl B4 H4 u z Q e4.sub (Tm.mono (e3.h.trans e4.h) (e3.b.trans e4.b) _ _ h2) h4 fun y B5 H5 e5 h5 => g y B5 H5 ((((e1.trans e2).trans e3).trans e4).trans e5) h5
  | false => exact iteF (g _ B3 H3 ((e1.trans e2).trans e3) (.bl _))
theorem dt_chain {op op' : CmpOp} {k k' : Bool} (ha : DR X G a d1) (hb : DR X G b d2) (ho : OpD c X (compareOp op) d1 d2 (.bool k)) (hc : k = true → DR X G f d3) (ho' : k = true → OpD c X (compareOp op') d2 d3 (.bool k'))
    (hm : lastMarks [op, op'] [b, f] = false := by with_unfolding_all rfl) : DT X G (.Compare a [op, op'] [b, f] pos) (k && k') := by
  obtain ⟨ta, pa, ra⟩ := ha
  obtain ⟨tb, pb, rb⟩ := hb
  obtain ⟨r, hr, q⟩ := ho
  obtain ⟨tc, pc, rc⟩ := DR.ifp hc
  obtain ⟨r', hr', q'⟩ := OpD.ifp ho'
  refine ⟨_, pt_chain hr hr' pa pb pc hm, fun Z B H σ Q E g => ?_⟩
  refine ra Z B H σ _ E fun v B1 H1 e1 h1 => rb Z B1 H1 σ _ (E.ext e1) fun u B2 H2 e2 h2 => ?_
  refine q B2 H2 v u _ e2.sub (Tm.mono e2.h e2.b _ _ h1) h2 fun w B3 H3 e3 h3 => ?_
  cases h3
  refine ⟨k, rfl, ?_⟩
  cases k with
  | true =>
    refine iteT ?_
    refine rc rfl Z B3 H3 σ _ (E.ext ((e1.trans e2).trans e3)) fun z B4 H4 e4 h4 => ?_
    refine q' rfl B4 H4 u z _ e4.sub (Tm.mono (e3.h.trans e4.h) (e3.b.trans e4.b) _ _ h2) h4 fun y B5 H5 e5 h5 => ?_
    cases h5
    exact ⟨k', rfl, g B5 H5 ((((e1.trans e2).trans e3).trans e4).trans e5)⟩
  | false => exact iteF ⟨_, rfl, g B3 H3 ((e1.trans e2).trans e3)⟩

theorem dt_val {k : Bool} (h : DE X G e (.bool k)) (he : ∀ whole, isTrue e X.env whole = (do let v ← whole; standAt e.pos; holding [v] (truthy v)) := by intro _; rfl) : DT X G e k := by
  obtain ⟨t, p, r⟩ := h
  refine ⟨_, pt_val p he, fun Z B H σ Q E g => r Z B H σ _ E fun v B' H' e h => ?_⟩
  cases h
  exact ⟨k, rfl, g B' H' e⟩
theorem DW.dt {k : Bool} (h : DW X G e k) : DT X G e k := by
  obtain ⟨t, p, r⟩ := h
  exact ⟨_, p.pt, r⟩
theorem dt_not {k : Bool} (h : DT X G e k) : DT X G (.UnaryOp .Not e pos) (!k) := by
  obtain ⟨t, p, r⟩ := h
  exact ⟨_, pt_not p, fun Z B H σ Q E g => r Z B H σ _ E fun B' H' e => g B' H' e⟩
theorem dw_and1 {k : Bool} (h : DT X G e k) : DW X G (.BoolOp .And [e] pos) k := by
  obtain ⟨t, p, r⟩ := h
  exact ⟨_, pw_and1 p, r⟩
theorem dw_or1 {k : Bool} (h : DT X G e k) : DW X G (.BoolOp .Or [e] pos) k := by
  obtain ⟨t, p, r⟩ := h
  exact ⟨_, pw_or1 p, r⟩
theorem dw_and {k k' : Bool} (h : DT X G a k) (h' : k = true → DW X G (.BoolOp .And (b :: es) pos) k') : DW X G (.BoolOp .And (a :: b :: es) pos) (k && k') := by
  obtain ⟨t, p, r⟩ := h
  obtain ⟨t', p', r'⟩ := DW.ifp h'
  refine ⟨_, pw_and p p', fun Z B H σ Q E g => r Z B H σ _ E fun B' H' e => ?_⟩
  cases k with
  | true => exact iteT (r' rfl Z B' H' σ _ (E.ext e) fun B2 H2 e2 => g B2 H2 (e.trans e2))
  | false => exact iteF (g B' H' e)
theorem dw_or {k k' : Bool} (h : DT X G a k) (h' : k = false → DW X G (.BoolOp .Or (b :: es) pos) k') : DW X G (.BoolOp .Or (a :: b :: es) pos) (k || k') := by
  obtain ⟨t, p, r⟩ := h
  obtain ⟨t', p', r'⟩ := DW.ifp h'
  refine ⟨_, pw_or p p', fun Z B H σ Q E g => r Z B H σ _ E fun B' H' e => ?_⟩
  cases k with
  | true => exact iteT (g B' H' e)
  | false => exact iteF (r' rfl Z B' H' σ _ (E.ext e) fun B2 H2 e2 => g B2 H2 (e.trans e2))
theorem de_one {op} (h : DE X G e d) : DE X G (.BoolOp op [e] pos) d := by
  obtain ⟨t, p, r⟩ := h
  exact ⟨_, pe_one p, r⟩
theorem de_and {k k' : Bool} (h : DE X G a (.bool k)) (h' : k = true → DE X G (.BoolOp .And (b :: es) pos) (.bool k')) : DE X G (.BoolOp .And (a :: b :: es) pos) (.bool (k && k')) := by
  obtain ⟨t, p, r⟩ := h
  obtain ⟨t', p', r'⟩ := DE.ifp h'
  refine ⟨_, pe_and p p', fun Z B H σ Q E g => r Z B H σ _ E fun v B' H' e h => ?_⟩
  cases h
  refine ⟨k, rfl, ?_⟩
  cases k with
  | true => exact iteT (r' rfl Z B' H' σ _ (E.ext e) fun v B2 H2 e2 h2 => g v B2 H2 (e.trans e2) h2)
  | false => exact iteF (g _ B' H' e (.bl _))
theorem de_or {k k' : Bool} (h : DE X G a (.bool k)) (h' : k = false → DE X G (.BoolOp .Or (b :: es) pos) (.bool k')) : DE X G (.BoolOp .Or (a :: b :: es) pos) (.bool (k || k')) := by
  obtain ⟨t, p, r⟩ := h
  obtain ⟨t', p', r'⟩ := DE.ifp h'
  refine ⟨_, pe_or p p', fun Z B H σ Q E g => r Z B H σ _ E fun v B' H' e h => ?_⟩
  cases h
  refine ⟨k, rfl, ?_⟩
  cases k with
  | true => exact iteT (g _ B' H' e (.bl _))
  | false => exact iteF (r' rfl Z B' H' σ _ (E.ext e) fun v B2 H2 e2 h2 => g v B2 H2 (e.trans e2) h2)
theorem de_not {k : Bool} (h : DE X G e (.bool k)) : DE X G (.UnaryOp .Not e pos) (.bool (!k)) := by
  obtain ⟨t, p, r⟩ := h
  refine ⟨_, pe_not p, fun Z B H σ Q E g => r Z B H σ _ E fun v B' H' e h => ?_⟩
  cases h
  exact ⟨k, rfl, g _ B' H' e (.bl _)⟩
theorem de_ifExp {k : Bool} (h : DT X G e k) (h1 : k = true → DE X G a d1) (h2 : k = false → DE X G b d2) : DE X G (.IfExp e a b pos) (if k = true then d1 else d2) := by
  obtain ⟨t, p, r⟩ := h
  obtain ⟨t1, p1, r1⟩ := DE.ifp h1
  obtain ⟨t2, p2, r2⟩ := DE.ifp h2
  refine ⟨_, pe_ifExp p p1 p2, fun Z B H σ Q E g => r Z B H σ _ E fun B' H' e => ?_⟩
  cases k with
  | true => exact iteT (r1 rfl Z B' H' σ _ (E.ext e) fun v B2 H2 e2 h2 => g v B2 H2 (e.trans e2) h2)
  | false => exact iteF (r2 rfl Z B' H' σ _ (E.ext e) fun v B2 H2 e2 h2 => g v B2 H2 (e.trans e2) h2)

theorem des_nil : DEs X G [] [] := ⟨_, pa_nil, fun Z B H σ Q E g => g [] B H (Ext.refl E.sub) .nil⟩
theorem des_cons (h : DE X G e d) (h' : DEs X G es ds) (hs : starEach (e :: es) X.env = (false, eval e X.env) :: starEach es X.env := by rfl) : DEs X G (e :: es) (d :: ds) := by
  obtain ⟨t, p, r⟩ := h
  obtain ⟨t', p', r'⟩ := h'
  refine ⟨_, pa_cons p p' hs, fun Z B H σ Q E g => r Z B H σ _ E fun v B' H' e h => r' Z B' H' σ _ (E.ext e) fun vs B2 H2 e2 h2 => ?_⟩
  exact g (v :: vs) B2 H2 (e.trans e2) (.cons (Tp.mono e2.b _ _ h) h2)
theorem drs_nil : DRs X G [] [] := ⟨_, pa_nil, fun Z B H σ Q E g => g [] B H (Ext.refl E.sub) .nil⟩
theorem drs_cons (h : DR X G e d) (h' : DRs X G es ds) (hs : starEach (e :: es) X.env = (false, eval e X.env) :: starEach es X.env := by rfl) : DRs X G (e :: es) (d :: ds) := by
  obtain ⟨t, p, r⟩ := h
  obtain ⟨t', p', r'⟩ := h'
  refine ⟨_, pa_cons p p' hs, fun Z B H σ Q E g => r Z B H σ _ E fun v B' H' e h => r' Z B' H' σ _ (E.ext e) fun vs B2 H2 e2 h2 => ?_⟩
  exact g (v :: vs) B2 H2 (e.trans e2) (.cons (Tm.mono e2.h e2.b _ _ h) h2)
theorem das_nil : DAs (c := c) X G [] [] := ⟨_, pa_nil, fun Z B H σ Q E g => g [] B H (Ext.refl E.sub) .nil⟩
theorem das_cons {s : Slot X.K c} {ss : List (Slot X.K c)} (h : DA X G e s) (h' : DAs X G es ss) (hs : starEach (e :: es) X.env = (false, eval e X.env) :: starEach es X.env := by rfl) : DAs X G (e :: es) (s :: ss) := by
  obtain ⟨t, p, r⟩ := h
  obtain ⟨t', p', r'⟩ := h'
  refine ⟨_, pa_cons p p' hs, fun Z B H σ Q E g => r Z B H σ _ E fun v B' H' e h hn => r' Z B' H' σ _ (E.ext e) fun vs B2 H2 e2 h2 => ?_⟩
  exact g (v :: vs) B2 H2 (e.trans e2) (.cons (hn B2 H2 e2) h2)
theorem small {n : Nat} (h : n ≤ 1000000) : n ≤ sizeLine := by rw [sizeLine_eq]; omega
theorem de_tup {k} (h : DEs X G es ds) (hl : ds.length ≤ sizeLine := by first | (show _ ≤ sizeLine; decide) | (apply small; simp; done) | (apply small; simp; omega)) : DE X G (.Tuple es k pos) (.tuple ds) := by
  obtain ⟨t, p, r⟩ := h
  refine ⟨_, pe_tup p, fun Z B H σ Q E g => r Z B H σ _ E fun vs B' H' e h => ⟨by rw [h.length]; exact hl, fun q hq => ?_⟩⟩
  exact g _ (upd B' q (.tup vs)) _ (e.trans (Ext.lay e.sub _ hq)) (.tup (Or.inl upd_same) (TpAll.mono (same_upd (e.sub.free hq)) _ _ h))
theorem dx_lst (h : DEs X G es ds) (hl : ds.length ≤ sizeLine := by first | (show _ ≤ sizeLine; decide) | (apply small; simp; done) | (apply small; simp; omega)) : DX X G (.List es pos) (so ds) := by
  obtain ⟨t, p, r⟩ := h
  refine ⟨_, pe_lst p, fun Z B H σ Q E g => r Z B H σ _ E fun vs B' H' e h => ⟨by rw [h.length]; exact hl, fun q hq => ?_⟩⟩
  refine g _ B' _ [q] (e.trans (Ext.layH e.sub _ hq)) (fun _ => ⟨q, vs, rfl, rfl, e.sub.free hq, upd_same, h⟩) fun a ha => ?_
  rw [List.mem_singleton.mp ha]
  exact e.h.free hq
theorem de_lst (h : DEs X G es ds) (hl : ds.length ≤ sizeLine := by first | (show _ ≤ sizeLine; decide) | (apply small; simp; done) | (apply small; simp; omega)) : DE X G (.List es pos) (.list ds) := (dx_lst h hl).frozen
theorem dr_ix (ha : DR X G a d1) (hb : DR X G b d2) (ho : IxD c X d1 d2 d) (hs : PlainIx b := by exact fun _ _ => rfl) : DR X G (.Subscript a b pos) d := by
  obtain ⟨ta, pa, ra⟩ := ha
  obtain ⟨tb, pb, rb⟩ := hb
  obtain ⟨r, hr, q⟩ := ho
  refine ⟨_, pe_ix hr pa pb hs, fun Z B H σ Q E g => ?_⟩
  refine ra Z B H σ _ E fun v B1 H1 e1 h1 => rb Z B1 H1 σ _ (E.ext e1) fun u B2 H2 e2 h2 => ?_
  exact q H2 B2 H2 v u Q e2.sub (Same.refl _) (Tm.mono e2.h e2.b _ _ h1) h2 fun w hw => g w B2 H2 (e1.trans e2) hw
theorem dz_ix (ha : DZ X G a d1) (hb : DZ X G b d2) (ho : IxD c X d1 d2 d) (hs : PlainIx b := by exact fun _ _ => rfl) : DZ X G (.Subscript a b pos) d := by
  obtain ⟨ta, pa, ra⟩ := ha
  obtain ⟨tb, pb, rb⟩ := hb
  obtain ⟨r, hr, q⟩ := ho
  refine ⟨_, pe_ix hr pa pb hs, fun Z B H σ Q E g => ?_⟩
  refine ra Z B H σ _ E fun v B1 H1 e1 h1 => rb Z B1 H1 σ _ (E.ext e1) fun u B2 H2 e2 h2 => ?_
  exact q Z B2 H2 v u Q e2.sub (E.z.trans (e1.trans e2).h) (Tm.mono (Same.refl _) e2.b _ _ h1) h2 fun w hw => g w B2 H2 (e1.trans e2) hw
theorem de_callB {id : String} {p : Pos} (hc : CallD c X (.builtin id) ds d) (hm : X.mg x = none) (ha : DRs X G (e :: es) ds) (hg : Gl X x := by rfl) (hv : bootBuiltins x = some (.builtin id) := by decide +kernel) (hn : x ≠ "__name__" := by decide) (hdb : (x == ("__debug__" : Str)) = false := by decide)
    (he : starEach (e :: es) X.env = (false, eval e X.env) :: starEach es X.env := by rfl) (hpl : (backTo pos (starEach es X.env)).any (·.1) = false := by rfl) : DE X G (.Call (.Name x p) (e :: es) [] pos) d := by
  obtain ⟨ta, pa, ra⟩ := ha
  obtain ⟨r, hr, q⟩ := hc
  refine ⟨_, pe_callB hr hg hm hv pa hn hdb he hpl, fun Z B H σ Q E g => ?_⟩
  exact ra Z B H σ _ E fun vs B1 H1 e1 h1 => q B1 H1 vs Q e1.sub h1 fun w B3 H3 e3 h3 => g w B3 H3 (e1.trans e3) h3
theorem de_callT {id : String} {p : Pos} (hc : CallD c X (.type id) ds d) (hm : X.mg x = none) (ha : DRs X G (e :: es) ds) (hg : Gl X x := by rfl) (hv : bootBuiltins x = some (.type id) := by decide +kernel) (hn : x ≠ "__name__" := by decide) (hdb : (x == ("__debug__" : Str)) = false := by decide)
    (he : starEach (e :: es) X.env = (false, eval e X.env) :: starEach es X.env := by rfl) (hpl : (backTo pos (starEach es X.env)).any (·.1) = false := by rfl) : DE X G (.Call (.Name x p) (e :: es) [] pos) d := by
  obtain ⟨ta, pa, ra⟩ := ha
  obtain ⟨r, hr, q⟩ := hc
  refine ⟨_, pe_callTy hr hg hm hv pa hn hdb he hpl, fun Z B H σ Q E g => ?_⟩
  exact ra Z B H σ _ E fun vs B1 H1 e1 h1 => q B1 H1 vs Q e1.sub h1 fun w B3 H3 e3 h3 => g w B3 H3 (e1.trans e3) h3
theorem gs_ext {K : PySem.W.Frag} {B H B1 H1 : Hp} {s : Slot K c} {Q : VK} (e : Ext B H B1 H1) (g : Gs K c B H s Q) : Gs K c B1 H1 s Q := fun v B' H' fp e' h hf =>
  g v B' H' fp (e.trans e') h fun a ha => e.h.free (hf a ha)
theorem dx_callB {id : String} {p : Pos} {s : Slot X.K c} (hc : CallB c X (.builtin id) ds s) (hm : X.mg x = none) (ha : DEs X G (e :: es) ds) (hg : Gl X x := by rfl) (hv : bootBuiltins x = some (.builtin id) := by decide +kernel) (hn : x ≠ "__name__" := by decide) (hdb : (x == ("__debug__" : Str)) = false := by decide)
    (he : starEach (e :: es) X.env = (false, eval e X.env) :: starEach es X.env := by rfl) (hpl : (backTo pos (starEach es X.env)).any (·.1) = false := by rfl) : DX X G (.Call (.Name x p) (e :: es) [] pos) s := by
  obtain ⟨ta, pa, ra⟩ := ha
  obtain ⟨r, hr, q⟩ := hc
  refine ⟨_, pe_callB hr hg hm hv pa hn hdb he hpl, fun Z B H σ Q E g => ?_⟩
  exact ra Z B H σ _ E fun vs B1 H1 e1 h1 => q B1 H1 vs Q e1.sub h1 (gs_ext e1 g)
theorem dx_callT {id : String} {p : Pos} {s : Slot X.K c} (hc : CallB c X (.type id) ds s) (hm : X.mg x = none) (ha : DEs X G (e :: es) ds) (hg : Gl X x := by rfl) (hv : bootBuiltins x = some (.type id) := by decide +kernel) (hn : x ≠ "__name__" := by decide) (hdb : (x == ("__debug__" : Str)) = false := by decide)
    (he : starEach (e :: es) X.env = (false, eval e X.env) :: starEach es X.env := by rfl) (hpl : (backTo pos (starEach es X.env)).any (·.1) = false := by rfl) : DX X G (.Call (.Name x p) (e :: es) [] pos) s := by
  obtain ⟨ta, pa, ra⟩ := ha
  obtain ⟨r, hr, q⟩ := hc
  refine ⟨_, pe_callTy hr hg hm hv pa hn hdb he hpl, fun Z B H σ Q E g => ?_⟩
  exact ra Z B H σ _ E fun vs B1 H1 e1 h1 => q B1 H1 vs Q e1.sub h1 (gs_ext e1 g)

/-- a def's promise: R: which slots may be handed in, and what comes of them -/
def spS (K : PySem.W.Frag) (R : List (Slot K c) → Slot K c → Prop) : Sp := fun vs H Q _ => ∃ B ss r, Same B H ∧ SlAll H B H vs ss ∧ R ss r ∧ Gs K c B H r Q
structure DefOk (P : Program) (w : World) (K : PySem.W.Frag) (mg : Str → Option Value) (base : Heap) (x : Str) (k : Nat) (R : List (Slot K c) → Slot K c → Prop) : Prop where
  ex : ∃ f fd ps, mg x = some (.ref f) ∧ PySem.W.keepIn K (.ref f) = true ∧ Binds K fd ps [] ∧ FnOk P w K mg base CX0 k f fd ps (spS K R)
theorem dx_call {k : Nat} {R : List (Slot X.K c) → Slot X.K c → Prop} {p : Pos} {ss : List (Slot X.K c)} {s : Slot X.K c} (F : DefOk X.prog X.w X.K X.mg X.base x k R) (hr : Room k X.A) (ha : DAs X G (e :: es) ss) (hR : R ss s) (hg : Gl X x := by rfl) (hdb : (x == ("__debug__" : Str)) = false := by decide)
    (he : starEach (e :: es) X.env = (false, eval e X.env) :: starEach es X.env := by rfl) (hpl : (backTo pos (starEach es X.env)).any (·.1) = false := by rfl) : DX X G (.Call (.Name x p) (e :: es) [] pos) s := by
  obtain ⟨ta, pa, ra⟩ := ha
  obtain ⟨f, fd, ps, hm, hk, hb, F⟩ := F.ex
  refine ⟨_, pe_call F hr hg hm hk hb .nil pass0 pa hdb he hpl, fun Z B H σ Q E g => ?_⟩
  refine ra Z B H σ _ E fun vs B1 H1 e1 h1 => ?_
  refine ⟨B1, ss, s, e1.sub, ?_, hR, gs_ext e1 g⟩
  rw [List.append_nil]
  exact h1
theorem de_call {k : Nat} {R : List (Slot X.K c) → Slot X.K c → Prop} {p : Pos} {ss : List (Slot X.K c)} (F : DefOk X.prog X.w X.K X.mg X.base x k R) (hr : Room k X.A) (ha : DAs X G (e :: es) ss) (hR : R ss (sd d)) (hg : Gl X x := by rfl) (hdb : (x == ("__debug__" : Str)) = false := by decide)
    (he : starEach (e :: es) X.env = (false, eval e X.env) :: starEach es X.env := by rfl) (hpl : (backTo pos (starEach es X.env)).any (·.1) = false := by rfl) : DE X G (.Call (.Name x p) (e :: es) [] pos) d := (dx_call F hr ha hR hg hdb he hpl).de
end
end Dw

namespace Dw
open PySem L2 PyProof.Rows

/-- the weakest reading -/
structure wpS (X : Cx) (sts : List Stmt) (D : Ends) (σ : Sg) (H : Hp) : Prop where
  h : ∀ (pins : List (Addr × Obj)) (s : Shared), Inv X pins σ H s → wpAny (model X.prog X.w) X.A (execs sts X.env) (SP X pins D) X.xe s
theorem pss_wp {X : Cx} {sts : List Stmt} : PSs X sts (wpS X sts) := ⟨fun pins s _ _ _ I h => h.h pins s I⟩
theorem wp_of {X : Cx} {sts : List Stmt} {t : TS} (h : PSs X sts t) {D : Ends} {σ : Sg} {H : Hp} (q : t D σ H) : wpS X sts D σ H := ⟨fun pins s I => h.run pins s σ H D I q⟩

/-- a def's entry: what it may write, what was kept and what there was then, what stands still -/
structure Ent where
  W : Addr → Prop
  B0 : Hp
  H0 : Hp
  Z : Hp
  /-- what the names that were handed in to be changed hold -/
  pv : Nat → Option V
variable {K : PySem.W.Frag} {c : Cl}
structure StE (F : Ent) (G : Env K c) (B H : Hp) (σ : Sg) : Prop where
  sub : Same B H
  b0 : Same F.B0 B
  zf : ∀ a o, F.Z a = some o → F.H0 a = some o ∧ ¬ F.W a
  h0 : ∀ a o, F.H0 a = some o → ¬ F.W a → H a = some o
  hw : ∀ a, F.W a → H a ≠ none
  new : ∀ a, F.B0 a = none → F.H0 a ≠ none → B a = none
  len : σ.length = G.length
  pn : ∀ i s v, G[i]? = some (some s) → s.par = true → σ[i]? = some (some v) → F.pv i = some v
  sl : ∃ fps : Nat → List Addr, (∀ i s, G[i]? = some (some s) → ∃ v, σ[i]? = some (some v) ∧ s.P F.Z B H v (fps i) ∧ ∀ a ∈ fps i, if s.par = true then F.W a else F.H0 a = none) ∧
    ∀ i j s s', i ≠ j → G[i]? = some (some s) → G[j]? = some (some s') → ∀ a ∈ fps i, a ∉ fps j
theorem StE.z {F : Ent} {G : Env K c} {B H : Hp} {σ : Sg} (h : StE F G B H σ) : Same F.Z H := fun a o q => h.h0 a o (h.zf a o q).1 (h.zf a o q).2
theorem StE.env {F : Ent} {G : Env K c} {B H : Hp} {σ : Sg} (h : StE F G B H σ) : EnvE G F.Z B H σ :=
  ⟨h.sub, h.z, fun i s q => by
    obtain ⟨fps, h1, _⟩ := h.sl
    obtain ⟨v, h2, h3, _⟩ := h1 i s q
    exact ⟨v, fps i, h2, h3⟩⟩
theorem StE.there {F : Ent} {G : Env K c} {B H : Hp} {σ : Sg} (h : StE F G B H σ) {a : Addr} (e : F.H0 a ≠ none) : H a ≠ none := by
  by_cases w : F.W a
  · exact h.hw a w
  · cases q : F.H0 a with
    | none => exact absurd q e
    | some o => rw [h.h0 a o q w]; exact fun z => nomatch z
theorem StE.ext {F : Ent} {G : Env K c} {B H B' H' : Hp} {σ : Sg} (h : StE F G B H σ) (e : Ext B H B' H') : StE F G B' H' σ := by
  obtain ⟨fps, h1, h2⟩ := h.sl
  refine ⟨e.sub, h.b0.trans e.b, h.zf, fun a o q w => e.h a o (h.h0 a o q w), fun a w => Same.some e.h (h.hw a w), fun a q r => e.new a (h.new a q r) (h.there r), h.len, h.pn, fps, fun i s q => ?_, h2⟩
  obtain ⟨v, h3, h4, h5⟩ := h1 i s q
  have d := s.dom h4
  exact ⟨v, h3, s.stb h4 e.b (fun a ha => e.new a (d a ha).1 (d a ha).2) fun a ha => Same.ne e.h (d a ha).2, h5⟩
theorem getset {α : Type} {l : List α} {i j : Nat} {x y : α} (h : (l.set i x)[j]? = some y) : (i = j ∧ x = y ∧ i < l.length) ∨ (i ≠ j ∧ l[j]? = some y) := by
  by_cases e : i = j
  · subst e
    by_cases hl : i < l.length
    · rw [List.getElem?_set_self hl] at h
      exact .inl ⟨rfl, Option.some.inj h, hl⟩
    · rw [List.getElem?_eq_none (by simpa using hl)] at h
      cases h
  · rw [List.getElem?_set_ne e] at h
    exact .inr ⟨e, h⟩
def fset (fps : Nat → List Addr) (i : Nat) (fp : List Addr) : Nat → List Addr := fun j => if j = i then fp else fps j
theorem fset_same {fps : Nat → List Addr} {i : Nat} {fp : List Addr} : fset fps i fp i = fp := by simp [fset]
theorem fset_ne {fps : Nat → List Addr} {i j : Nat} {fp : List Addr} (h : i ≠ j) : fset fps i fp j = fps j := by simp [fset, Ne.symm h]
/-- a name takes a value that is new (or plain data) -/
theorem StE.set {F : Ent} {G : Env K c} {B H B' H' : Hp} {σ : Sg} {s : Slot K c} {v : V} {fp : List Addr} (h : StE F G B H σ) (e : Ext B H B' H') (p : s.P F.Z B' H' v fp) (hf : ∀ a ∈ fp, H a = none) (hp : s.par = false) (i : Nat) :
    StE F (G.set i (some s)) B' H' (σ.set i (some v)) := by
  have h' := h.ext e
  obtain ⟨fps, h1, h2⟩ := h.sl
  refine ⟨h'.sub, h'.b0, h'.zf, h'.h0, h'.hw, h'.new, by simp [h.len], fun j s' w q hq hw => ?_, fset fps i fp, fun j s' q => ?_, fun j k s1 s2 ne q1 q2 a ha hb => ?_⟩
  · rcases getset q with ⟨rfl, e1, hl⟩ | ⟨ne, q⟩
    · cases e1
      rw [hp] at hq
      cases hq
    · rw [List.getElem?_set_ne ne] at hw
      exact h.pn j s' w q hq hw
  · rcases getset q with ⟨rfl, e1, hl⟩ | ⟨ne, q⟩
    · cases e1
      refine ⟨v, by rw [List.getElem?_set_self (by rw [h.len]; exact hl)], by rw [fset_same]; exact p, fun a ha => ?_⟩
      have ha : a ∈ fp := by rw [fset_same] at ha; exact ha
      rw [hp]
      simp only [Bool.false_eq_true, if_false]
      cases q : F.H0 a with
      | none => rfl
      | some o => exact absurd (hf a ha) (h.there (by rw [q]; exact fun z => nomatch z))
    · obtain ⟨u, h3, h4, h5⟩ := h1 j s' q
      have d := s'.dom h4
      refine ⟨u, by rw [List.getElem?_set_ne ne]; exact h3, ?_, fun a ha => ?_⟩
      · rw [fset_ne ne]
        exact s'.stb h4 e.b (fun a ha => e.new a (d a ha).1 (d a ha).2) fun a ha => Same.ne e.h (d a ha).2
      · rw [fset_ne ne] at ha
        exact h5 a ha
  · have old : ∀ {k : Nat} {s' : Slot K c}, G[k]? = some (some s') → ∀ b ∈ fps k, H b ≠ none := fun {k s'} q b hb => by
      obtain ⟨u, _, h4, _⟩ := h1 k s' q
      exact (s'.dom h4 b hb).2
    rcases getset q1 with ⟨rfl, _, _⟩ | ⟨n1, r1⟩
    · rcases getset q2 with ⟨rfl, _, _⟩ | ⟨n2, r2⟩
      · exact ne rfl
      · have ha : a ∈ fp := by rw [fset_same] at ha; exact ha
        rw [fset_ne n2] at hb
        exact old r2 a hb (hf a ha)
    · rw [fset_ne n1] at ha
      rcases getset q2 with ⟨rfl, _, _⟩ | ⟨n2, r2⟩
      · have hb : a ∈ fp := by rw [fset_same] at hb; exact hb
        exact old r1 a ha (hf a hb)
      · rw [fset_ne n2] at hb
        exact h2 j k s1 s2 ne r1 r2 a ha hb
/-- a weaker environment -/
def Wk (G G' : Env K c) : Prop := G.length = G'.length ∧ ∀ (i : Nat) (s : Slot K c), G'[i]? = some (some s) → G[i]? = some (some s)
theorem Wk.refl (G : Env K c) : Wk G G := ⟨rfl, fun _ _ h => h⟩
theorem StE.weak {F : Ent} {G G' : Env K c} {B H : Hp} {σ : Sg} (h : StE F G B H σ) (w : Wk G G') : StE F G' B H σ := by
  obtain ⟨fps, h1, h2⟩ := h.sl
  exact ⟨h.sub, h.b0, h.zf, h.h0, h.hw, h.new, h.len.trans w.1, fun i s v q => h.pn i s v (w.2 i s q), fps, fun i s q => h1 i s (w.2 i s q), fun i j s s' ne q r => h2 i j s s' ne (w.2 i s q) (w.2 j s' r)⟩
/-- what a slot's name holds is changed in place -/
theorem StE.change {F : Ent} {G : Env K c} {B H H' : Hp} {σ : Sg} {i : Nat} {s s' : Slot K c} (h : StE F G B H σ) (hi : G[i]? = some (some s)) (hp : s'.par = s.par)
    (step : ∀ v fp, σ[i]? = some (some v) → s.P F.Z B H v fp → ∃ fp', s'.P F.Z B H' v fp' ∧ (∀ a ∈ fp', a ∈ fp ∨ (H a = none)) ∧ (s.par = true → ∀ a ∈ fp', a ∈ fp) ∧ (∀ a, a ∉ fp → H a ≠ none → H' a = H a) ∧ (∀ a ∈ fp, H' a ≠ none)) : StE F (G.set i (some s')) B H' σ := by
  obtain ⟨fps, h1, h2⟩ := h.sl
  obtain ⟨v, hv, p, hw⟩ := h1 i s hi
  obtain ⟨fp', p', hsub, hpar, keep, there⟩ := step v (fps i) hv p
  have dm := s.dom p
  have il : i < G.length := (List.getElem?_eq_some_iff.mp hi).1
  have nb : ∀ a ∈ fps i, B a = none := fun a ha => (dm a ha).1
  have kp : ∀ a o, H a = some o → a ∉ fps i → H' a = some o := fun a o q n => by rw [keep a n (by rw [q]; exact fun z => nomatch z)]; exact q
  refine ⟨fun a o q => kp a o (h.sub a o q) fun z => ?_, h.b0, h.zf, fun a o q w => kp a o (h.h0 a o q w) fun z => ?_, fun a w => ?_, h.new, by rw [List.length_set]; exact h.len, fun j u w q hq hw' => ?_,
    fset fps i fp', fun j u q => ?_, fun j k s1 s2 ne q1 q2 a ha hb => ?_⟩
  · rw [nb a z] at q; cases q
  · have := hw a z
    cases hs : s.par with
    | true => rw [hs, if_pos rfl] at this; exact w this
    | false => rw [hs] at this; simp only [Bool.false_eq_true, if_false] at this; rw [this] at q; cases q
  · by_cases z : a ∈ fps i
    · exact there a z
    · have := h.hw a w
      rw [keep a z this]; exact this
  · rcases getset q with ⟨rfl, e1, hl⟩ | ⟨ne, q⟩
    · cases e1
      exact h.pn _ _ w hi (hp ▸ hq) hw'
    · exact h.pn j u w q hq hw'
  · rcases getset q with ⟨rfl, e1, hl⟩ | ⟨ne, q⟩
    · cases e1
      refine ⟨v, hv, by rw [fset_same]; exact p', fun a ha => ?_⟩
      have ha : a ∈ fp' := by rw [fset_same] at ha; exact ha
      rw [hp]
      rcases hsub a ha with z | z
      · exact hw a z
      · cases hs : s.par with
        | true => exact absurd (h.hw a (by have := hw a (hpar hs a ha); rw [hs, if_pos rfl] at this; exact this)) (fun n => n z)
        | false =>
          simp only [Bool.false_eq_true, if_false]
          cases q : F.H0 a with
          | none => rfl
          | some o => exact absurd z (h.there (by rw [q]; exact fun z => nomatch z))
    · obtain ⟨u', h3, h4, h5⟩ := h1 j u q
      refine ⟨u', h3, ?_, fun a ha => ?_⟩
      · rw [fset_ne ne]
        refine u.stb h4 (Same.refl _) (fun a ha => (u.dom h4 a ha).1) fun a ha => keep a (fun z => h2 i j s u ne hi q a z ha) (u.dom h4 a ha).2
      · rw [fset_ne ne] at ha
        exact h5 a ha
  · have old : ∀ {k : Nat} {s' : Slot K c}, G[k]? = some (some s') → ∀ b ∈ fps k, H b ≠ none := fun {k s'} q b hb => by
      obtain ⟨u, _, h4, _⟩ := h1 k s' q
      exact (s'.dom h4 b hb).2
    rcases getset q1 with ⟨rfl, _, _⟩ | ⟨n1, r1⟩
    · rcases getset q2 with ⟨rfl, _, _⟩ | ⟨n2, r2⟩
      · exact ne rfl
      · have ha : a ∈ fp' := by rw [fset_same] at ha; exact ha
        rw [fset_ne n2] at hb
        rcases hsub a ha with z | z
        · exact h2 i k s s2 n2 hi r2 a z hb
        · exact old r2 a hb z
    · rw [fset_ne n1] at ha
      rcases getset q2 with ⟨rfl, _, _⟩ | ⟨n2, r2⟩
      · have hb : a ∈ fp' := by rw [fset_same] at hb; exact hb
        rcases hsub a hb with z | z
        · exact h2 j i s1 s (Ne.symm n1) r1 hi a ha z
        · exact old r1 a ha z
      · rw [fset_ne n2] at hb
        exact h2 j k s1 s2 ne r1 r2 a ha hb

inductive Out (K : PySem.W.Frag) (c : Cl) where
  | nx (G : Env K c) | bk (G : Env K c) | ct (G : Env K c) | ret (s : Slot K c) (G : Env K c) | exc (cls : Value) (G : Env K c)
structure EndsOk (X : Cx) (F : Ent) (Ph : Out X.K c → Prop) (D : Ends) : Prop where
  nx : ∀ G B H σ, StE F G B H σ → Ph (.nx G) → D.nx σ H
  bk : ∀ G B H σ, StE F G B H σ → Ph (.bk G) → D.bk σ H
  ct : ∀ G B H σ, StE F G B H σ → Ph (.ct G) → D.ct σ H
  rt : ∀ s G B H σ v fp, StE F G B H σ → (∀ Z, s.P Z B H v fp) → (∀ a ∈ fp, F.H0 a = none) → Ph (.ret s G) → D.rt v H
  ex : ∃ W : WX, L2N.Takes X W ∧ ∀ cls G B H σ, StE F G B H σ → Ph (.exc cls G) → W cls none σ H
theorem takes0N {X : Cx} : L2N.Takes X (fun _ _ _ _ => False) := fun _ _ x => by
  obtain ⟨_, _, _, _, _, _, _, _, _, _, _, _, _, _, _, _, z⟩ := x
  exact z.elim
def DSs (X : Cx) (G : Env X.K c) (sts : List Stmt) (Ph : Out X.K c → Prop) : Prop :=
  ∀ F B H σ D, StE F G B H σ → EndsOk X F Ph D → wpS X sts D σ H
/-- what a statement in the middle is to reach -/
def sq (X : Cx) (rest : List Stmt) (Ph : Out X.K c → Prop) : Out X.K c → Prop
  | .nx G => DSs X G rest Ph
  | o => Ph o
theorem EndsOk.sq {X : Cx} {F : Ent} {Ph : Out X.K c → Prop} {D : Ends} {rest : List Stmt} (h : EndsOk X F Ph D) : EndsOk X F (sq X rest Ph) { D with nx := wpS X rest D } :=
  ⟨fun G B H σ S p => p F B H σ D S h, h.bk, h.ct, h.rt, h.ex⟩
section
variable {X : Cx} {G : Env X.K c} {a b e : Expr} {es : List Expr} {st : Stmt} {rest body orelse : List Stmt} {Ph Ps : Out X.K c → Prop} {ds : List D} {pos pos' : Pos} {d d1 d2 d3 : D} {x : Str} {k : Nat}
theorem DSs.imp (h : DSs X G rest Ps) (k : ∀ o, Ps o → Ph o) : DSs X G rest Ph := fun F B H σ D S E => h F B H σ D S
  ⟨fun G B H σ S p => E.nx G B H σ S (k _ p), fun G B H σ S p => E.bk G B H σ S (k _ p), fun G B H σ S p => E.ct G B H σ S (k _ p), fun s G B H σ v fp S q f p => E.rt s G B H σ v fp S q f (k _ p), E.ex.elim fun W hw => ⟨W, hw.1, fun cls G B H σ S p => hw.2 cls G B H σ S (k _ p)⟩⟩
theorem DSs.weak {G' : Env X.K c} (w : Wk G G') (h : DSs X G' rest Ph) : DSs X G rest Ph := fun F B H σ D S E => h F B H σ D (S.weak w) E
theorem dss_nil (h : Ph (.nx G)) : DSs X G [] Ph := fun F B H σ D S E => wp_of pss_nil (E.nx G B H σ S h)
theorem dss_pass (h : DSs X G rest Ph) : DSs X G (.Pass pos :: rest) Ph := fun F B H σ D S E => wp_of (pss_cons ps_pass pss_wp) (h F B H σ D S E)
theorem dss_doc {z j} (h : DSs X G rest Ph) : DSs X G (.Expr (.Constant (.str z) j pos) pos' :: rest) Ph := fun F B H σ D S E => wp_of (pss_cons ps_doc pss_wp) (h F B H σ D S E)
theorem dss_break (h : Ph (.bk G)) : DSs X G (.Break pos :: rest) Ph := fun F B H σ D S E => wp_of (pss_cons ps_break pss_wp) (E.bk G B H σ S h)
theorem dss_cont (h : Ph (.ct G)) : DSs X G (.Continue pos :: rest) Ph := fun F B H σ D S E => wp_of (pss_cons ps_continue pss_wp) (E.ct G B H σ S h)
theorem dss_retN (h : Ph (.ret (sd .none) G)) : DSs X G (.Return none pos :: rest) Ph := fun F B H σ D S E => wp_of (pss_cons ps_retN pss_wp) (E.rt (sd .none) G B H σ .non [] S (fun _ => ⟨rfl, .non⟩) (fun a h => absurd h List.not_mem_nil) h)
theorem dss_retX {s : Slot X.K c} (he : DX X G e s) (h : Ph (.ret s G)) : DSs X G (.Return (some e) pos :: rest) Ph := fun F B H σ D S E => by
  obtain ⟨t, p, r⟩ := he
  refine wp_of (pss_cons (ps_ret p) pss_wp) (r F.Z B H σ _ S.env fun v B' H' fp e q hf => ?_)
  refine E.rt s G B' H' σ v fp (S.ext e) q (fun a ha => ?_) h
  cases z : F.H0 a with
  | none => rfl
  | some o => exact absurd (hf a ha) (S.there (by rw [z]; exact fun z => nomatch z))
theorem dss_ret (he : DE X G e d) (h : Ph (.ret (sd d) G)) : DSs X G (.Return (some e) pos :: rest) Ph := fun F B H σ D S E => by
  obtain ⟨t, p, r⟩ := he
  refine wp_of (pss_cons (ps_ret p) pss_wp) (r F.Z B H σ _ S.env fun v B' H' e q => ?_)
  exact E.rt (sd d) G B' H' σ v [] (S.ext e) (fun _ => ⟨rfl, q⟩) (fun a h => absurd h List.not_mem_nil) h
/-- a name that holds a list of one's own is handed back -/
theorem dss_retO (i : Nat) {s : Slot X.K c} (h : Ph (.ret s G)) (hG : G[i]? = some (some s) := by rfl) (hp : s.par = false := by rfl) (hz : ∀ Z Z' B H v fp, s.P Z B H v fp → s.P Z' B H v fp := by exact fun _ _ _ _ _ _ h => h) (hN : X.N[i]? = some x := by rfl)
    (hv : Vis X.env.scope x := by first | exact Or.inl rfl | exact Or.inr (Or.inl rfl) | exact Or.inr (Or.inr rfl)) (hd : (x == ("__debug__" : Str)) = false := by decide)
    (hcd : (x == ("__classdict__" : Str)) = false := by decide) : DSs X G (.Return (some (.Name x pos')) pos :: rest) Ph := fun F B H σ D S E => by
  obtain ⟨fps, h1, _⟩ := S.sl
  obtain ⟨v, h2, h3, h4⟩ := h1 i s hG
  refine wp_of (pss_cons (ps_ret (pv i hN hv hd hcd)) pss_wp) ⟨v, h2, E.rt s G B H σ v (fps i) S (fun _ => hz _ _ _ _ _ _ h3) (fun a ha => ?_) h⟩
  have := h4 a ha
  rw [hp] at this
  simpa using this
/-- the body's own facts -/
structure Bd (X : Cx) (k : Nat) : Prop where
  nd : X.N.Nodup
  calm : X.calm = true
  room : Room k X.A
  po : PassesOwn (model X.prog X.w) X.A X.env X.xe
theorem dss_setN (nd : X.N.Nodup) (i : Nat) (he : DE X G e d) (h : DSs X (G.set i (some (sd d))) rest Ph) (hi : X.N[i]? = some x := by rfl) (hx : Loc X.env.scope x := by first | exact Or.inl rfl | exact Or.inr rfl)
    (hs : swapsWith e (some (.Name x pos')) pos.line X.env = pure false := by rfl) (hf : X.fn x = true ∨ X.env.scope.names.lookup x = some .local := by first | exact .inl rfl | exact .inr rfl) : DSs X G (.Assign [.Name x pos'] e pos :: rest) Ph := fun F B H σ D S E => by
  obtain ⟨t, p, r⟩ := he
  refine wp_of (pss_cons (ps_set nd hi hx p hs hf) pss_wp) (r F.Z B H σ _ S.env fun v B' H' e q => ?_)
  exact h F B' H' _ D (S.set (s := sd d) (fp := []) e ⟨rfl, q⟩ (fun a z => absurd z List.not_mem_nil) rfl i) E
theorem dss_set (C : Bd X k) (i : Nat) (he : DE X G e d) (h : DSs X (G.set i (some (sd d))) rest Ph) (hi : X.N[i]? = some x := by rfl) (hx : Loc X.env.scope x := by first | exact Or.inl rfl | exact Or.inr rfl)
    (hs : swapsWith e (some (.Name x pos')) pos.line X.env = pure false := by rfl) (hf : X.fn x = true ∨ X.env.scope.names.lookup x = some .local := by first | exact .inl rfl | exact .inr rfl) : DSs X G (.Assign [.Name x pos'] e pos :: rest) Ph := dss_setN C.nd i he h hi hx hs hf
theorem dss_setXN {s : Slot X.K c} (nd : X.N.Nodup) (i : Nat) (he : DX X G e s) (h : DSs X (G.set i (some s)) rest Ph) (hp : s.par = false := by rfl) (hi : X.N[i]? = some x := by rfl) (hx : Loc X.env.scope x := by first | exact Or.inl rfl | exact Or.inr rfl)
    (hs : swapsWith e (some (.Name x pos')) pos.line X.env = pure false := by rfl) (hf : X.fn x = true ∨ X.env.scope.names.lookup x = some .local := by first | exact .inl rfl | exact .inr rfl) : DSs X G (.Assign [.Name x pos'] e pos :: rest) Ph := fun F B H σ D S E => by
  obtain ⟨t, p, r⟩ := he
  refine wp_of (pss_cons (ps_set nd hi hx p hs hf) pss_wp) (r F.Z B H σ _ S.env fun v B' H' fp e q hf => ?_)
  exact h F B' H' _ D (S.set e (q _) hf hp i) E
theorem dss_setX {s : Slot X.K c} (C : Bd X k) (i : Nat) (he : DX X G e s) (h : DSs X (G.set i (some s)) rest Ph) (hp : s.par = false := by rfl) (hi : X.N[i]? = some x := by rfl) (hx : Loc X.env.scope x := by first | exact Or.inl rfl | exact Or.inr rfl)
    (hs : swapsWith e (some (.Name x pos')) pos.line X.env = pure false := by rfl) (hf : X.fn x = true ∨ X.env.scope.names.lookup x = some .local := by first | exact .inl rfl | exact .inr rfl) : DSs X G (.Assign [.Name x pos'] e pos :: rest) Ph := dss_setXN C.nd i he h hp hi hx hs hf
theorem dss_if {b : Bool} (hc : DT X G e b) (h1 : b = true → DSs X G body (sq X rest Ph)) (h2 : b = false → DSs X G orelse (sq X rest Ph)) : DSs X G (.If e body orelse pos :: rest) Ph := fun F B H σ D S E => by
  obtain ⟨t, p, r⟩ := hc
  refine wp_of (pss_cons (ps_if p pss_wp pss_wp) pss_wp) (r F.Z B H σ _ S.env fun B' H' e => ?_)
  cases b with
  | true => exact iteT (h1 rfl F B' H' σ _ (S.ext e) E.sq)
  | false => exact iteF (h2 rfl F B' H' σ _ (S.ext e) E.sq)
/-- an expression for its own sake -/
theorem dss_expr (he : DE X G e d) (h : DSs X G rest Ph) (hs : swapsWith e none pos.line X.env = pure false := by rfl) : DSs X G (.Expr e pos :: rest) Ph := fun F B H σ D S E => by
  obtain ⟨t, p, r⟩ := he
  refine wp_of (pss_cons (ps_expr p hs) pss_wp) (r F.Z B H σ _ S.env fun v B' H' e q => ?_)
  exact h F B' H' σ D (S.ext e) E
/-- a list of one's own is changed by an expression: the slot's new content -/
def DM (X : Cx) (G : Env X.K c) (e : Expr) (i : Nat) (s s' : Slot X.K c) : Prop :=
  ∃ t, PE X e t ∧ ∀ F B H σ Q, StE F G B H σ → G[i]? = some (some s) → (∀ v B' H', StE F (G.set i (some s')) B' H' σ → Q v H') → t σ H Q
theorem dss_mut {s s' : Slot X.K c} (i : Nat) (he : DM X G e i s s') (h : DSs X (G.set i (some s')) rest Ph) (hG : G[i]? = some (some s) := by rfl) (hs : swapsWith e none pos.line X.env = pure false := by rfl) : DSs X G (.Expr e pos :: rest) Ph := fun F B H σ D S E => by
  obtain ⟨t, p, r⟩ := he
  refine wp_of (pss_cons (ps_expr p hs) pss_wp) (r F B H σ _ S hG fun v B' H' S' => ?_)
  exact h F B' H' σ D S' E
theorem wk_of {F : Ent} {B H : Hp} {σ : Sg} {i : Nat} {ds ds' : List D} {par : Bool} {vs' : List V} (S : StE F G B H σ) (hG : G[i]? = some (some (so ds par))) {p : Addr} {vs : List V} (hv : σ[i]? = some (some (.ref p))) (hp : H p = some (.lst vs)) (hd : TpAll X.K c B vs' ds') :
    StE F (G.set i (some (so ds' par))) B (upd H p (.lst vs')) σ := by
  refine S.change hG rfl fun v fp h1 ⟨q, us, h2, h3, h4, h5, h6⟩ => ?_
  rw [hv] at h1
  cases h1
  cases h2
  refine ⟨[p], ⟨p, vs', rfl, rfl, h4, upd_same, hd⟩, fun a ha => .inl (h3 ▸ ha), fun _ a ha => h3 ▸ ha, fun a ha _ => ?_, fun a ha => ?_⟩
  · rw [upd_ne]
    rw [h3] at ha
    exact fun z => ha (List.mem_singleton.mpr z)
  · rw [h3] at ha
    rw [List.mem_singleton.mp ha, upd_same]
    exact fun z => nomatch z
theorem so_at {F : Ent} {B H : Hp} {σ : Sg} {i : Nat} {ds : List D} {par : Bool} (S : StE F G B H σ) (hG : G[i]? = some (some (so ds par))) : ∃ p vs, σ[i]? = some (some (.ref p)) ∧ H p = some (.lst vs) ∧ TpAll X.K c B vs ds := by
  obtain ⟨fps, h1, _⟩ := S.sl
  obtain ⟨v, h2, ⟨p, vs, h3, h4, h5, h6, h7⟩, _⟩ := h1 i _ hG
  subst h3
  exact ⟨p, vs, h2, h6, h7⟩
/-- xs.append(e) -/
theorem dm_append (i : Nat) {par : Bool} {py pa pc : Pos} (he : DE X G e d) (hG : G[i]? = some (some (so ds par)) := by rfl) (hl : ds.length < sizeLine) (hN : X.N[i]? = some x := by rfl)
    (hv : Vis X.env.scope x := by first | exact Or.inl rfl | exact Or.inr (Or.inl rfl) | exact Or.inr (Or.inr rfl)) (hd : (x == ("__debug__" : Str)) = false := by decide)
    (hcd : (x == ("__classdict__" : Str)) = false := by decide) (hs : starEach [e] X.env = (false, eval e X.env) :: starEach [] X.env := by rfl)
    (hbase : attributeBase (.Name x py) "append" X.env (eval (.Name x py) X.env) = eval (.Name x py) X.env := by rfl)
    (hfew : ((backTo pc (starEach (e :: []) X.env)).all (fun x => !x.1) && (backToKw pc (keywordEach [] X.env)).all (fun x => x.1.isSome)
      && decide ((e :: []).length + ([] : List Keyword).length + (if ([] : List Keyword).isEmpty then 0 else 1) < 30)) = true := by rfl)
    (hline : (pa.endLine == pc.line) = true := by rfl) (hplain : (backTo pc (starEach [] X.env)).any (·.1) = false := by rfl) : DM X G (.Call (.Attribute (.Name x py) "append" pa) [e] [] pc) i (so ds par) (so (ds ++ [d]) par) := by
  obtain ⟨t, p, r⟩ := he
  refine ⟨_, pe_bm PySem.F.plainAttrs_list PySem.F.slot_list_append PySem.F.type_list_append mt_append (pv i hN hv hd hcd) (pa_cons p pa_nil hs) hbase hfew hline hs hplain, fun F B H σ Q S _ k => ?_⟩
  obtain ⟨q, vs, h1, h2, h3⟩ := so_at S hG
  refine ⟨_, h1, Or.inl ⟨rfl, _, Or.inl (Or.inl h2)⟩, r F.Z B H σ _ S.env fun v B' H' e hv' => ?_⟩
  have S' := S.ext e
  have h2' := e.h _ _ h2
  refine ⟨q, vs, v, rfl, rfl, h2', by rw [h3.length]; exact hl, ?_⟩
  exact k _ B' _ (wk_of S' hG h1 h2' ((TpAll.mono e.b _ _ h3).append (.cons hv' .nil)))
end
end Dw

namespace Dw
open PySem L2 PyProof.Rows
variable {c : Cl}
structure Bound {K : PySem.W.Frag} (is : List Nat) (G G' : Env K c) (Z B H : Hp) (σ σ' : Sg) : Prop where
  lg : G'.length = G.length
  ls : σ'.length = σ.length
  un : ∀ j, j ∉ is → G'[j]? = G[j]? ∧ σ'[j]? = σ[j]?
  at_ : ∀ j ∈ is, ∃ s' v', G'[j]? = some (some s') ∧ s'.par = false ∧ σ'[j]? = some (some v') ∧ s'.P Z B H v' []
def DG (X : Cx) (tg : Expr) (is : List Nat) (s : Slot X.K c) (G G' : Env X.K c) : Prop :=
  ∃ gt, PG X tg gt ∧ ∀ Z B H σ v Q, Same B H → Same Z H → σ.length = G.length → s.P Z B H v [] → (∀ σ', Bound is G G' Z B H σ σ' → Q σ' H) → gt v σ H Q
section
variable {X : Cx} {G G' G1 G2 : Env X.K c} {e : Expr} {es : List Expr} {pos : Pos} {d : D} {ds : List D} {x : Str} {k : Nat} {s : Slot X.K c}
theorem dg_nameN (nd : X.N.Nodup) (i : Nat) (hl : i < G.length := by exact Nat.le_of_ble_eq_true rfl) (hp : s.par = false := by rfl) (hi : X.N[i]? = some x := by rfl) (hx : Loc X.env.scope x := by first | exact Or.inl rfl | exact Or.inr rfl)
    (hf : X.fn x = true ∨ X.env.scope.names.lookup x = some .local := by first | exact .inl rfl | exact .inr rfl) : DG X (.Name x pos) [i] s G (G.set i (some s)) := by
  refine ⟨_, pg_name nd hi hx hf, fun Z B H σ v Q sb sz ln p h => h _ ⟨by simp, by simp, fun j hj => ?_, fun j hj => ?_⟩⟩
  · have ne : i ≠ j := fun z => hj (List.mem_singleton.mpr z.symm)
    rw [List.getElem?_set_ne ne, List.getElem?_set_ne ne]
    exact ⟨rfl, rfl⟩
  · rw [List.mem_singleton.mp hj]
    exact ⟨s, v, by rw [List.getElem?_set_self hl], hp, by rw [List.getElem?_set_self (by rw [ln]; exact hl)], p⟩
theorem dg_name (C : Bd X k) (i : Nat) (hl : i < G.length := by exact Nat.le_of_ble_eq_true rfl) (hp : s.par = false := by rfl) (hi : X.N[i]? = some x := by rfl) (hx : Loc X.env.scope x := by first | exact Or.inl rfl | exact Or.inr rfl)
    (hf : X.fn x = true ∨ X.env.scope.names.lookup x = some .local := by first | exact .inl rfl | exact .inr rfl) : DG X (.Name x pos) [i] s G (G.set i (some s)) := dg_nameN C.nd i hl hp hi hx hf
/-- a row of targets, for a row of plain data -/
def DGs (X : Cx) (tgs : List Expr) (is : List Nat) (ds : List D) (G G' : Env X.K c) : Prop :=
  ∃ gt, PGs X tgs gt ∧ ∀ Z B H σ vs Q, Same B H → Same Z H → σ.length = G.length → TpAll X.K c B vs ds → (∀ σ', Bound is G G' Z B H σ σ' → Q σ' H) → gt vs σ H Q
theorem dgs_nil : DGs X [] [] [] G G := by
  refine ⟨_, pgs_nil, fun Z B H σ vs Q sb sz ln p h => ?_⟩
  cases p
  exact ⟨rfl, h σ ⟨rfl, rfl, fun j _ => ⟨rfl, rfl⟩, fun j hj => absurd hj List.not_mem_nil⟩⟩
theorem Bound.trans {K : PySem.W.Frag} {G G1 G2 : Env K c} {is js : List Nat} {Z B H : Hp} {σ σ1 σ2 : Sg} (a : Bound is G G1 Z B H σ σ1) (b : Bound js G1 G2 Z B H σ1 σ2) : Bound (is ++ js) G G2 Z B H σ σ2 := by
  refine ⟨b.lg.trans a.lg, b.ls.trans a.ls, fun j hj => ?_, fun j hj => ?_⟩
  · have h1 := b.un j fun z => hj (List.mem_append_right _ z)
    have h2 := a.un j fun z => hj (List.mem_append_left _ z)
    exact ⟨h1.1.trans h2.1, h1.2.trans h2.2⟩
  · by_cases z : j ∈ js
    · exact b.at_ j z
    · have h1 := b.un j z
      obtain ⟨s', v', q1, q2, q3, q4⟩ := a.at_ j ((List.mem_append.mp hj).resolve_right z)
      exact ⟨s', v', h1.1.trans q1, q2, h1.2.trans q3, q4⟩
theorem dgs_cons {is js : List Nat} (h : DG X e is (sd d) G G1) (h' : DGs X es js ds G1 G2) (hs : (assignEach (e :: es) X.env).map (·.2) = assign e X.env :: (assignEach es X.env).map (·.2) := by rfl) : DGs X (e :: es) (is ++ js) (d :: ds) G G2 := by
  obtain ⟨g1, p1, r1⟩ := h
  obtain ⟨g2, p2, r2⟩ := h'
  refine ⟨_, pgs_cons p1 p2 hs, fun Z B H σ vs Q sb sz ln p h => ?_⟩
  cases p with
  | cons q1 q2 =>
    refine ⟨_, _, rfl, r1 Z B H σ _ _ sb sz ln ⟨rfl, q1⟩ fun σ1 b1 => r2 Z B H σ1 _ Q sb sz (by rw [b1.ls, b1.lg]; exact ln) q2 fun σ2 b2 => h σ2 (b1.trans b2)⟩
theorem dg_tup (C : Bd X k) {is : List Nat} {kk : Nat} (h : DGs X es is ds G G') (hn : (assignEach es X.env).length = ds.length := by rfl) (hst : (assignEach es X.env).findIdx? (·.1) = none := by rfl) : DG X (.Tuple es kk pos) is (sd (.tuple ds)) G G' := by
  obtain ⟨g, p, r⟩ := h
  refine ⟨_, pg_tup C.calm p hn hst, fun Z B H σ v Q sb sz ln p h => ?_⟩
  cases p.2 with
  | tup hs ha => exact ⟨_, _, rfl, Same.tup sb hs.sq, by rw [ha.length], r Z B H σ _ Q sb sz ln ha h⟩
end
def fdrop (fps : Nat → List Addr) (is : List Nat) : Nat → List Addr := fun j => if j ∈ is then [] else fps j
theorem fdrop_in {fps : Nat → List Addr} {is : List Nat} {j : Nat} (h : j ∈ is) : fdrop fps is j = [] := by simp [fdrop, h]
theorem fdrop_out {fps : Nat → List Addr} {is : List Nat} {j : Nat} (h : j ∉ is) : fdrop fps is j = fps j := by simp [fdrop, h]
theorem StE.bound {K : PySem.W.Frag} {F : Ent} {is : List Nat} {G G' : Env K c} {B H : Hp} {σ σ' : Sg} (S : StE F G B H σ) (b : Bound is G G' F.Z B H σ σ') : StE F G' B H σ' := by
  obtain ⟨fps, h1, h2⟩ := S.sl
  refine ⟨S.sub, S.b0, S.zf, S.h0, S.hw, S.new, by rw [b.ls, b.lg]; exact S.len, fun j s w q hq hw => ?_, fdrop fps is, fun j s q => ?_, fun i j s s' ne q1 q2 a ha hb => ?_⟩
  · by_cases z : j ∈ is
    · obtain ⟨s', v', q1, q2, q3, q4⟩ := b.at_ j z
      rw [q1] at q
      cases q
      rw [q2] at hq
      cases hq
    · obtain ⟨q1, q2⟩ := b.un j z
      rw [q1] at q
      rw [q2] at hw
      exact S.pn j s w q hq hw
  · by_cases z : j ∈ is
    · obtain ⟨s', v', q1, q2, q3, q4⟩ := b.at_ j z
      rw [q1] at q
      cases q
      refine ⟨v', q3, by rw [fdrop_in z]; exact q4, fun a ha => ?_⟩
      rw [fdrop_in z] at ha
      exact absurd ha List.not_mem_nil
    · obtain ⟨q1, q2⟩ := b.un j z
      rw [q1] at q
      obtain ⟨v, r1, r2, r3⟩ := h1 j s q
      refine ⟨v, q2.trans r1, by rw [fdrop_out z]; exact r2, fun a ha => ?_⟩
      rw [fdrop_out z] at ha
      exact r3 a ha
  · by_cases z : i ∈ is
    · rw [fdrop_in z] at ha
      exact List.not_mem_nil ha
    · by_cases z' : j ∈ is
      · rw [fdrop_in z'] at hb
        exact List.not_mem_nil hb
      · rw [fdrop_out z] at ha
        rw [fdrop_out z'] at hb
        rw [(b.un i z).1] at q1
        rw [(b.un j z').1] at q2
        exact h2 i j s s' ne q1 q2 a ha hb

/-- n items, the i-th fits the slot g i -/
def Walkd {K : PySem.W.Frag} (J : It) (n : Nat) (g : Nat → Slot K c) (Z B1 : Hp) : Prop :=
  ∀ i B H, Same B1 B → Same B H → Same Z H → (i < n → J.go i H ∧ ∀ x H', J.yld i H x H' → ∃ B', Ext B H B' H' ∧ (g i).P Z B' H' x []) ∧ (n ≤ i → J.stop i H)
def DIp (P : TI → Prop) (X : Cx) (G : Env X.K c) (n : Nat) (g : Nat → Slot X.K c) : Prop :=
  ∃ wi, P wi ∧ ∀ Z B H σ R, EnvE G Z B H σ → (∀ J B' H', Ext B H B' H' → Walkd J n g Z B' → R J H') → wi σ H R
abbrev DI (X : Cx) (G : Env X.K c) (tg iter : Expr) (n : Nat) (g : Nat → Slot X.K c) : Prop := DIp (PI X tg iter) X G n g
section
variable {X : Cx} {G : Env X.K c} {tg e e2 : Expr} {pos p : Pos} {ds es : List D}
/-- the items of plain data, to be kept or to be read -/
theorem walk_list {K : PySem.W.Frag} {Z B : Hp} {a : Addr} {xs : List V} (h0 : Rd B a (.lst xs)) (hd : TpAll K c B xs ds) : Walkd (Itl K a) ds.length (fun i => sd (K := K) (c := c) (ds[i]?.getD .none)) Z B := by
  intro i B2 H2 e1 e2 e3
  have h2 : SqL K H2 a xs := .inl (Same.rd e2 (Same.rd e1 h0))
  have hl := hd.length
  refine ⟨fun hi => ⟨⟨xs, xs[i]'(by omega), h2, by simp [List.getElem?_eq_getElem, hl, hi]⟩, fun x H' y => ?_⟩, fun hi => ⟨xs, h2, by omega⟩⟩
  obtain ⟨e, y⟩ := y
  subst e
  obtain ⟨d, q1, q2⟩ := hd.getV (y xs h2)
  exact ⟨B2, Ext.refl e2, rfl, by rw [q1]; exact Tp.mono e1 _ _ q2⟩
theorem walk_listB {K : PySem.W.Frag} {Z B : Hp} {a : Addr} {xs : List V} (h0 : SqL K Z a xs) (hd : TmAll K c Z B xs ds) : Walkd (Itl K a) ds.length (fun i => sb (K := K) (c := c) (ds[i]?.getD .none)) Z B := by
  intro i B2 H2 e1 e2 e3
  have h2 : SqL K H2 a xs := e3.seq h0
  have hl := hd.length
  refine ⟨fun hi => ⟨⟨xs, xs[i]'(by omega), h2, by simp [List.getElem?_eq_getElem, hl, hi]⟩, fun x H' y => ?_⟩, fun hi => ⟨xs, h2, by omega⟩⟩
  obtain ⟨e, y⟩ := y
  subst e
  obtain ⟨d, q1, q2⟩ := hd.getV (y xs h2)
  exact ⟨B2, Ext.refl e2, rfl, by rw [q1]; exact Tm.mono (Same.refl _) e1 _ _ q2⟩
theorem walk_tup {K : PySem.W.Frag} {Z B : Hp} {a : Addr} {xs : List V} (h : SqT K B a xs) (hd : TpAll K c B xs ds) : Walkd (Itt K a) ds.length (fun i => sd (K := K) (c := c) (ds[i]?.getD .none)) Z B := by
  intro i B2 H2 e1 e2 e3
  have h2 := Same.tup e2 (Same.tup e1 h)
  have hl := hd.length
  refine ⟨fun hi => ⟨⟨xs, xs[i]'(by omega), h2, by simp [List.getElem?_eq_getElem, hl, hi]⟩, fun x H' y => ?_⟩, fun hi => ⟨xs, h2, by omega⟩⟩
  obtain ⟨e, y⟩ := y
  subst e
  obtain ⟨d, q1, q2⟩ := hd.getV (y xs h2)
  exact ⟨B2, Ext.refl e2, rfl, by rw [q1]; exact Tp.mono e1 _ _ q2⟩
theorem di_list (h : DE X G e (.list ds)) : DI X G tg e ds.length (fun i => sd (K := X.K) (c := c) (ds[i]?.getD .none)) := by
  obtain ⟨t, p, r⟩ := h
  refine ⟨_, pi_list p, fun Z B H σ R E g => r Z B H σ _ E fun v B' H' e h => ?_⟩
  cases h with
  | lst hs ha => exact ⟨_, rfl, ⟨_, .inl (Same.rd e.sub hs)⟩, g _ B' H' e (walk_list hs ha)⟩
theorem di_listB (h : DZ X G e (.list ds)) : DI X G tg e ds.length (fun i => sb (K := X.K) (c := c) (ds[i]?.getD .none)) := by
  obtain ⟨t, p, r⟩ := h
  refine ⟨_, pi_list p, fun Z B H σ R E g => r Z B H σ _ E fun v B' H' e h => ?_⟩
  cases h with
  | of h =>
    cases h with
    | lst hs ha =>
      refine ⟨_, rfl, ⟨_, .inl (Same.rd e.sub hs)⟩, g _ B' H' e ?_⟩
      intro i B2 H2 e1 e2 e3
      have w := walk_list (Z := Z) hs ha i B2 H2 e1 e2 e3
      refine ⟨fun hi => ⟨(w.1 hi).1, fun x H' y => ?_⟩, w.2⟩
      obtain ⟨B', q1, q2, q3⟩ := (w.1 hi).2 x H' y
      exact ⟨B', q1, rfl, .of q3⟩
  | lst hs ha => exact ⟨_, rfl, ⟨_, (E.z.trans e.h).seq hs⟩, g _ B' H' e (walk_listB hs ha)⟩
/-- a list whose items are no lists: they may be kept -/
theorem di_listZ (h : DZ X G e (.list ds)) (hn : ∀ d ∈ ds, nolist d = true) : DI X G tg e ds.length (fun i => sd (K := X.K) (c := c) (ds[i]?.getD .none)) := by
  obtain ⟨wi, p, r⟩ := di_listB (tg := tg) h
  refine ⟨wi, p, fun Z B H σ R E g => r Z B H σ R E fun J B' H' e w => g J B' H' e ?_⟩
  intro i B2 H2 e1 e2 e3
  refine ⟨fun hi => ⟨((w i B2 H2 e1 e2 e3).1 hi).1, fun x H' y => ?_⟩, (w i B2 H2 e1 e2 e3).2⟩
  obtain ⟨B', q1, q2, q3⟩ := ((w i B2 H2 e1 e2 e3).1 hi).2 x H' y
  refine ⟨B', q1, rfl, q3.kept ?_⟩
  rw [List.getElem?_eq_getElem hi]
  exact hn _ (List.getElem_mem hi)
theorem di_tup (h : DE X G e (.tuple ds)) : DI X G tg e ds.length (fun i => sd (K := X.K) (c := c) (ds[i]?.getD .none)) := by
  obtain ⟨t, p, r⟩ := h
  refine ⟨_, pi_tup p, fun Z B H σ R E g => r Z B H σ _ E fun v B' H' e h => ?_⟩
  cases h with
  | tup hs ha => exact ⟨_, rfl, ⟨_, Same.tup e.sub hs.sq⟩, g _ B' H' e (walk_tup hs.sq ha)⟩
theorem di_range1 {m : Int} (h : DE X G e (.int m)) (h1 : -(2 ^ 62) ≤ m) (h2 : m < 2 ^ 62) (hm : X.mg "range" = none) (hg : Gl X "range" := by rfl) (hs : starEach [e] X.env = [(false, eval e X.env)] := by rfl) :
    DI X G tg (.Call (.Name "range" p) [e] [] pos) m.toNat fun i => sd (.int i) := by
  obtain ⟨t, q, r⟩ := h
  refine ⟨_, pi_range1 hg hm (pa_cons q pa_nil hs) hs, fun Z B H σ R E g => r Z B H σ _ E fun v B' H' e h => ?_⟩
  cases h
  refine ⟨_, rfl, h1, h2, g _ B' H' e fun i B2 H2 e1 e2 e3 => ⟨fun hi => ⟨hi, fun x H' y => ?_⟩, fun hi => hi⟩⟩
  obtain ⟨y1, y2⟩ := y
  subst y1 y2
  exact ⟨B2, Ext.refl e2, rfl, by rw [Int.zero_add]; exact .int _⟩
theorem di_range2 {lo m : Int} (h : DE X G e (.int lo)) (h' : DE X G e2 (.int m)) (h1 : -(2 ^ 62) ≤ lo ∧ lo < 2 ^ 62) (h2 : -(2 ^ 62) ≤ m ∧ m < 2 ^ 62) (hm : X.mg "range" = none) (hg : Gl X "range" := by rfl)
    (hs : starEach [e, e2] X.env = [(false, eval e X.env), (false, eval e2 X.env)] := by rfl) (hs2 : starEach [e2] X.env = [(false, eval e2 X.env)] := by rfl) :
    DI X G tg (.Call (.Name "range" p) [e, e2] [] pos) (m - lo).toNat fun i => sd (.int (lo + i)) := by
  obtain ⟨t, q, r⟩ := h
  obtain ⟨t', q', r'⟩ := h'
  refine ⟨_, pi_range2 hg hm (pa_cons q (pa_cons q' pa_nil (by rw [hs2]; rfl)) (by rw [hs, hs2])) hs hs2, fun Z B H σ R E g => r Z B H σ _ E fun v B' H' e h => r' Z B' H' σ _ (E.ext e) fun v2 B3 H3 e3 h3 => ?_⟩
  cases h
  cases h3
  refine ⟨_, _, rfl, ⟨h1.1, h1.2, h2.1, h2.2⟩, g _ B3 H3 (e.trans e3) fun i B2 H2 e1 e2 e3 => ⟨fun hi => ⟨hi, fun x H' y => ?_⟩, fun hi => hi⟩⟩
  obtain ⟨y1, y2⟩ := y
  subst y1 y2
  exact ⟨B2, Ext.refl e2, rfl, .int _⟩
end

theorem StE.rebase {K : PySem.W.Frag} {F : Ent} {G G2 : Env K c} {B1 H1 B H : Hp} {σ σ1 : Sg} (S : StE F G B1 H1 σ1) (T : StE { F with B0 := B1 } G2 B H σ) : StE F G2 B H σ :=
  ⟨T.sub, S.b0.trans T.b0, T.zf, T.h0, T.hw, fun a q r => T.new a (S.new a q r) r, T.len, T.pn, T.sl⟩
theorem StE.based {K : PySem.W.Frag} {F : Ent} {G : Env K c} {B H : Hp} {σ : Sg} (S : StE F G B H σ) : StE { F with B0 := B } G B H σ :=
  ⟨S.sub, Same.refl _, S.zf, S.h0, S.hw, fun _ q _ => q, S.len, S.pn, S.sl⟩
section
variable {X : Cx} {G : Env X.K c} {tg e iter : Expr} {body rest : List Stmt} {Ph : Out X.K c → Prop} {pos p : Pos} {k : Nat}
/-- what a turn is to reach -/
def turnP (X : Cx) (Gn : Env X.K c) (rest : List Stmt) (Ph : Out X.K c → Prop) : Out X.K c → Prop
  | .nx G' => Wk G' Gn
  | .ct G' => Wk G' Gn
  | .bk G' => DSs X G' rest Ph
  | .ret s G' => Ph (.ret s G')
  | .exc cls G' => Ph (.exc cls G')
theorem dss_for (C : Bd X k) {n : Nat} {g : Nat → Slot X.K c} (hi : DI X G tg iter n g) (I : Nat → Env X.K c) (h0 : Wk G (I 0)) {is : List Nat} {I' : Nat → Env X.K c} (hg : ∀ i, i < n → DG X tg is (g i) (I i) (I' i))
    (turn : ∀ i, i < n → DSs X (I' i) body (turnP X (I (i + 1)) rest Ph)) (hr : DSs X (I n) rest Ph) (hs : ∀ x, foldedSetIterable iter X.env x = pure x := by intro _; rfl) : DSs X G (.For tg iter body [] pos :: rest) Ph := fun F B H σ D S E => by
  obtain ⟨wi, pi, ri⟩ := hi
  by_cases hn : n = 0
  · subst hn
    refine wp_of (pss_cons (ps_for C.po C.calm pi (g := fun _ _ _ _ => False) ⟨fun _ _ _ _ _ _ _ _ _ h => False.elim h⟩ (pss_wp (X := X) (sts := body)) hs) pss_wp) (ri F.Z B H σ _ S.env fun J B1 H1 e1 w => ?_)
    have S1 := S.ext e1
    refine ⟨fun i m σ H => m = 0 ∧ ∃ B, StE { F with B0 := B1 } (I 0) B H σ, ⟨0, rfl, B1, S1.based.weak h0⟩, fun i m σ H ⟨_, B, T⟩ => .inl ⟨(w i B H T.b0 T.sub T.z).2 (Nat.zero_le _), ?_⟩⟩
    exact hr F B H σ D (S1.rebase T) E
  · obtain ⟨gt, pg, _⟩ := hg 0 (Nat.pos_of_ne_zero hn)
    have pgw : PG X tg (fun v σ H Q => ∃ i, ∃ h : i < n, (hg i h).choose v σ H Q) := ⟨fun pins s σ H v u Q I0 r h => by
      obtain ⟨i, hi, h⟩ := h
      exact (hg i hi).choose_spec.1.run pins s σ H v u Q I0 r h⟩
    refine wp_of (pss_cons (ps_for C.po C.calm pi pgw (pss_wp (X := X) (sts := body)) hs) pss_wp) (ri F.Z B H σ _ S.env fun J B1 H1 e1 w => ?_)
    have S1 := S.ext e1
    refine ⟨fun i m σ H => m = n - i ∧ i ≤ n ∧ ∃ B, StE { F with B0 := B1 } (I i) B H σ, ⟨n, by simp, Nat.zero_le _, B1, S1.based.weak h0⟩, ?_⟩
    rintro i m σ2 H2 ⟨rfl, hi, B2, T⟩
    by_cases hlt : i < n
    · have wk := (w i B2 H2 T.b0 T.sub T.z).1 hlt
      refine .inr ⟨wk.1, fun σ' H' => ∃ B', StE { F with B0 := B1 } (I (i + 1)) B' H' σ', fun σ' H' T' => ⟨n - (i + 1), by omega, rfl, hlt, T'⟩, fun x H' y => ?_⟩
      obtain ⟨B', e2, hx⟩ := wk.2 x H' y
      have T2 := T.ext e2
      refine ⟨i, hlt, (hg i hlt).choose_spec.2 F.Z B' H' σ2 x _ T2.sub T2.z T2.len hx fun σ3 b => ?_⟩
      have T3 := T2.bound b
      refine turn i hlt { F with B0 := B1 } B' H' σ3 _ T3 ⟨fun G' B4 H4 σ4 T4 w4 => ⟨B4, T4.weak w4⟩, fun G' B4 H4 σ4 T4 w4 => w4 F B4 H4 σ4 D (S1.rebase T4) E, fun G' B4 H4 σ4 T4 w4 => ⟨B4, T4.weak w4⟩, fun s G' B4 H4 σ4 v fp T4 q f w4 => E.rt s G' B4 H4 σ4 v fp (S1.rebase T4) q f w4, E.ex.elim fun W hw => ⟨W, hw.1, fun cls G' B4 H4 σ4 T4 w4 => hw.2 cls G' B4 H4 σ4 (S1.rebase T4) w4⟩⟩
    · have en : i = n := by omega
      subst en
      exact .inl ⟨(w i B2 H2 T.b0 T.sub T.z).2 (Nat.le_refl _), hr F B2 H2 σ2 D (S1.rebase T) E⟩
/-- while: by states of one's own and a measure -/
theorem dss_while (C : Bd X k) {al : Type} (I : al → Env X.K c) (mu : al → Nat) (b : al → Bool) (a0 : al) (h0 : Wk G (I a0)) (hc : ∀ a, DT X (I a) e (b a))
    (turn : ∀ a, b a = true → DSs X (I a) body fun o => match o with
      | .nx G' => ∃ a', mu a' < mu a ∧ Wk G' (I a')
      | .ct G' => ∃ a', mu a' < mu a ∧ Wk G' (I a')
      | .bk G' => DSs X G' rest Ph
      | .ret s G' => Ph (.ret s G')
      | .exc cls G' => Ph (.exc cls G'))
    (hr : ∀ a, b a = false → DSs X (I a) rest Ph) : DSs X G (.While e body [] pos :: rest) Ph := fun F B H σ D S E => by
  have ptw : PT X e (fun σ H Q => ∃ a, (hc a).choose σ H Q) := ⟨fun pins s σ H Q I0 h => by
    obtain ⟨a, h⟩ := h
    exact (hc a).choose_spec.1.run pins s σ H Q I0 h⟩
  refine wp_of (pss_cons (ps_while C.po ptw (pss_wp (X := X) (sts := body))) pss_wp) ?_
  refine ⟨fun m σ H => ∃ a B, m = mu a ∧ StE F (I a) B H σ, ⟨_, a0, B, rfl, S.weak h0⟩, ?_⟩
  rintro m σ1 H1 ⟨a, B1, rfl, T⟩
  refine ⟨a, (hc a).choose_spec.2 F.Z B1 H1 σ1 _ T.env fun B2 H2 e2 => ?_⟩
  have T2 := T.ext e2
  cases hb : b a with
  | true =>
    refine iteT ⟨fun σ' H' => ∃ a' B', mu a' < mu a ∧ StE F (I a') B' H' σ', fun σ' H' ⟨a', B', l, T'⟩ => ⟨mu a', l, a', B', rfl, T'⟩, ?_⟩
    exact turn a hb F B2 H2 σ1 _ T2 ⟨fun G' B4 H4 σ4 T4 ⟨a', l, w4⟩ => ⟨a', B4, l, T4.weak w4⟩, fun G' B4 H4 σ4 T4 w4 => w4 F B4 H4 σ4 D T4 E, fun G' B4 H4 σ4 T4 ⟨a', l, w4⟩ => ⟨a', B4, l, T4.weak w4⟩, fun s G' B4 H4 σ4 v fp T4 q f w4 => E.rt s G' B4 H4 σ4 v fp T4 q f w4, E.ex.elim fun W hw => ⟨W, hw.1, fun cls G' B4 H4 σ4 T4 w4 => hw.2 cls G' B4 H4 σ4 T4 w4⟩⟩
  | false => exact iteF (hr a hb F B2 H2 σ1 D T2 E)
/-- a target that takes plain data: a, b = e -/
theorem dss_asg (C : Bd X k) {is : List Nat} {d : D} {G' : Env X.K c} (he : DE X G e d) (hg : DG X tg is (sd d) G G') (h : DSs X G' rest Ph) (hs : swapsWithSole [tg] e pos.line X.env = pure false := by rfl) (hw : swappedStores [tg] e X.env = pure none := by rfl)
    (h1 : (assignEach [tg] X.env).map (·.2) = [assign tg X.env] := by rfl) : DSs X G (.Assign [tg] e pos :: rest) Ph := fun F B H σ D S E => by
  obtain ⟨t, p, r⟩ := he
  obtain ⟨gt, pg, rg⟩ := hg
  refine wp_of (pss_cons (ps_asg p pg hs hw h1) pss_wp) (r F.Z B H σ _ S.env fun v B' H' e q => ?_)
  have S' := S.ext e
  exact rg F.Z B' H' σ v _ S'.sub S'.z S'.len ⟨rfl, q⟩ fun σ' b => h F B' H' σ' D (S'.bound b) E
/-- a list of one's own is laid down for good -/
theorem dss_freeze (i : Nat) {ds : List D} (h : DSs X (G.set i (some (sd (.list ds)))) rest Ph) (hG : G[i]? = some (some (so ds)) := by rfl) : DSs X G rest Ph := fun F B H σ D S E => by
  obtain ⟨fps, h1, h2⟩ := S.sl
  obtain ⟨v, hv, ⟨p, vs, e0, e1, e2, e3, e4⟩, hf⟩ := h1 i _ hG
  have hp : F.H0 p = none := by
    have := hf p (by rw [e1]; exact List.mem_cons_self)
    simpa [so] using this
  have il : i < G.length := (List.getElem?_eq_some_iff.mp hG).1
  have up : Same B (upd B p (.lst vs)) := same_upd e2
  refine h F (upd B p (.lst vs)) H σ D ⟨fun a o q => ?_, S.b0.trans up, S.zf, S.h0, S.hw, fun a q r => ?_, by rw [List.length_set]; exact S.len, fun j s w q hq hw => ?_, fset fps i [], fun j s q => ?_, fun j l s1 s2 ne q1 q2 a ha hb => ?_⟩ E
  · by_cases z : a = p
    · subst z; rw [upd_same] at q; cases q; exact e3
    · rw [upd_ne z] at q; exact S.sub a o q
  · by_cases z : a = p
    · subst z; exact absurd hp r
    · rw [upd_ne z]; exact S.new a q r
  · rcases getset q with ⟨rfl, q1, _⟩ | ⟨ne, q⟩
    · cases q1
      cases hq
    · exact S.pn j s w q hq hw
  · rcases getset q with ⟨rfl, q1, _⟩ | ⟨ne, q⟩
    · cases q1
      refine ⟨v, hv, ⟨fset_same, ?_⟩, fun a ha => ?_⟩
      · subst e0
        exact .lst (Rd.of upd_same) (TpAll.mono up _ _ e4)
      · rw [fset_same] at ha
        exact absurd ha List.not_mem_nil
    · obtain ⟨u, r1, r2, r3⟩ := h1 j s q
      refine ⟨u, r1, ?_, fun a ha => ?_⟩
      · rw [fset_ne ne]
        refine s.stb r2 up (fun a ha => ?_) fun a ha => rfl
        have : a ≠ p := fun z => h2 i j _ s ne hG q p (by rw [e1]; exact List.mem_cons_self) (z ▸ ha)
        rw [upd_ne this]
        exact (s.dom r2 a ha).1
      · rw [fset_ne ne] at ha
        exact r3 a ha
  · rcases getset q1 with ⟨rfl, _, _⟩ | ⟨n1, r1⟩
    · rw [fset_same] at ha
      exact List.not_mem_nil ha
    · rw [fset_ne n1] at ha
      rcases getset q2 with ⟨rfl, _, _⟩ | ⟨n2, r2⟩
      · rw [fset_same] at hb
        exact List.not_mem_nil hb
      · rw [fset_ne n2] at hb
        exact h2 j l s1 s2 ne r1 r2 a ha hb
/-- x += e, a plain name -/
theorem dss_aug (C : Bd X k) (i : Nat) {x : Str} {d1 d2 d : D} {op : Operator} {pos' : Pos} {ti : TIp} (he : DE X G e d2) (ho : PIp X op ti) (hp : ∀ B H v w Q, Same B H → Tp X.K c B v d1 → Tp X.K c B w d2 → Gv X.K c B H d Q → ti v w H Q) (h : DSs X (G.set i (some (sd d))) rest Ph)
    (hG : G[i]? = some (some (sd d1)) := by rfl) (hi : X.N[i]? = some x := by rfl) (hx : Loc X.env.scope x := by first | exact Or.inl rfl | exact Or.inr rfl)
    (hf : X.fn x = true ∨ X.env.scope.names.lookup x = some .local := by first | exact .inl rfl | exact .inr rfl) : DSs X G (.AugAssign (.Name x pos') op e pos :: rest) Ph := fun F B H σ D S E => by
  obtain ⟨t, p, r⟩ := he
  obtain ⟨v, fp, h1, h2, h3⟩ := S.env.sl i _ hG
  refine wp_of (pss_cons (ps_aug C.nd hi hx p ho hf) pss_wp) ⟨v, h1, r F.Z B H σ _ S.env fun w B' H' e q => ?_⟩
  refine hp B' H' v w _ e.sub (Tp.mono e.b _ _ h3) q fun u B2 H2 e2 q2 => ?_
  exact h F B2 H2 _ D (S.set (s := sd d) (fp := []) (e.trans e2) ⟨rfl, q2⟩ (fun a z => absurd z List.not_mem_nil) rfl i) E
end

def defEnd {K : PySem.W.Frag} (r : Slot K c) : Out K c → Prop
  | .ret s _ => s = r
  | .nx _ => r = sd .none
  | _ => False
def G0 {K : PySem.W.Frag} (N : List Str) (ss : List (Slot K c)) : Env K c := ss.map some ++ List.replicate (N.length - ss.length) none
theorem SlAll.length {K : PySem.W.Frag} {Z B H : Hp} : ∀ {vs : List V} {ss : List (Slot K c)}, SlAll Z B H vs ss → vs.length = ss.length
  | _, _, .nil => rfl
  | _, _, .cons _ h => by simp [SlAll.length h]
theorem SlAll.get {K : PySem.W.Frag} {Z B H : Hp} : ∀ {vs : List V} {ss : List (Slot K c)} {i : Nat} {s : Slot K c}, SlAll Z B H vs ss → ss[i]? = some s → ∃ v, vs[i]? = some v ∧ s.P Z B H v []
  | _, _, _, _, .nil, h => by simp at h
  | _, _, 0, _, .cons h _, e => by simp at e; subst e; exact ⟨_, rfl, h⟩
  | _, _, i + 1, _, .cons _ h, e => by simpa using SlAll.get (i := i) h (by simpa using e)
theorem ste_start {K : PySem.W.Frag} {N : List Str} {B H : Hp} {vs : List V} {ss : List (Slot K c)} (sb : Same B H) (h : SlAll H B H vs ss) (hl : ss.length ≤ N.length) : StE ⟨fun _ => False, B, H, H, fun i => (L2.start N vs)[i]?.getD none⟩ (G0 N ss) B H (L2.start N vs) := by
  have el := h.length
  refine ⟨sb, Same.refl _, fun a o q => ⟨q, fun z => z⟩, fun a o q _ => q, fun a w => w.elim, fun a q _ => q, ?_, fun i s v _ _ hv => by show (L2.start N vs)[i]?.getD none = some v; rw [hv]; rfl, fun _ => [], fun i s q => ?_, fun i j s s' _ _ _ a ha => absurd ha List.not_mem_nil⟩
  · simp [L2.start, G0, el]
  · unfold G0 at q
    by_cases hi : i < ss.length
    · rw [List.getElem?_append_left (by simpa using hi), List.getElem?_map] at q
      cases e : ss[i]? with
      | none => rw [e] at q; cases q
      | some s' =>
        rw [e] at q
        cases q
        obtain ⟨v, h1, h2⟩ := h.get e
        refine ⟨v, ?_, h2, fun a ha => absurd ha List.not_mem_nil⟩
        unfold L2.start
        rw [List.getElem?_append_left (by simpa [el] using hi), List.getElem?_map, h1]
        rfl
    · rw [List.getElem?_append_right (by simpa using hi), List.getElem?_replicate] at q
      split at q <;> cases q
abbrev bx (P : Program) (w : World) (K : PySem.W.Frag) (mg : Str → Option Value) (base : Heap) (N : List Str) (qual : Str) (st : Stmt) (f : Addr) (cdv : Value) (A : Around) (outer : List PySem.Env) (s : Shared) (H : Hp) (E : XK) : Cx :=
  (cxOf CX0 P w K mg base N qual (defScope st) f cdv A outer s H E).nox
theorem def_fn {P : Program} {w : World} {K : PySem.W.Frag} {mg : Str → Option Value} {base : Heap} {x qual : Str} {st : Stmt} {f : Addr} {fd : FuncData} {N ps : List Str} {k : Nat} {R : List (Slot K c) → Slot K c → Prop}
    (F : Fun K x qual st f fd) (S : FnScope N ps (defScope st)) (hR : ∀ ss r, R ss r → ss.length = ps.length)
    (body : ∀ (cdv : Value) (A : Around) (outer : List PySem.Env) (s : Shared) (H : Hp) (E : XK) (ss : List (Slot K c)) (r : Slot K c), R ss r → Bd (bx P w K mg base N qual st f cdv A outer s H E) k →
      DSs (c := c) (bx P w K mg base N qual st f cdv A outer s H E) (G0 N ss) (defBody st) (defEnd r)) : FnOk P w K mg base CX0 (k + 1) f fd ps (spS K R) := by
  refine F.ok S (fun vs H Q E h => ?_) fun cdv A outer s H vs Q E hr h => ?_
  · obtain ⟨B, ss, r, _, h, hq, _⟩ := h
    rw [h.length]
    exact hR ss r hq
  · obtain ⟨B, ss, r, sb, h, hq, g⟩ := h
    have hl : ss.length ≤ N.length := by
      rw [hR ss r hq]
      have := congrArg List.length S.pre
      rw [List.length_take] at this
      omega
    have S0 := ste_start sb h hl
    refine ⟨_, pss_wp, body cdv A outer s H E ss r hq ⟨S.nd, rfl, hr, PassesOwn.never⟩ _ B H _ _ S0 ⟨fun G B' H' σ T e => ?_, fun G B' H' σ T e => e.elim, fun G B' H' σ T e => e.elim, fun u G B' H' σ v fp T p hf e => ?_, _, takes0N, fun cls G B' H' σ T e => e.elim⟩⟩
    · have e : r = sd .none := e
      subst e
      exact g .non B' H' [] ⟨T.b0, fun a o q => T.h0 a o q fun z => z, T.sub, fun a q q' => T.new a q q'⟩ (fun _ => ⟨rfl, .non⟩) fun a ha => absurd ha List.not_mem_nil
    · have e : u = r := e
      subst e
      exact g v B' H' fp ⟨T.b0, fun a o q => T.h0 a o q fun z => z, T.sub, fun a q q' => T.new a q q'⟩ p hf

theorem def_ok {P : Program} {w : World} {K : PySem.W.Frag} {mg : Str → Option Value} {base : Heap} {x qual : Str} {st : Stmt} {f : Addr} {fd : FuncData} {N ps : List Str} {k : Nat} {R : List (Slot K c) → Slot K c → Prop}
    (F : Fun K x qual st f fd) (S : FnScope N ps (defScope st)) (hm : mg x = some (.ref f)) (bn : Binds K fd ps []) (hR : ∀ ss r, R ss r → ss.length = ps.length)
    (body : ∀ (cdv : Value) (A : Around) (outer : List PySem.Env) (s : Shared) (H : Hp) (E : XK) (ss : List (Slot K c)) (r : Slot K c), R ss r → Bd (bx P w K mg base N qual st f cdv A outer s H E) k →
      DSs (c := c) (bx P w K mg base N qual st f cdv A outer s H E) (G0 N ss) (defBody st) (defEnd r)) : DefOk P w K mg base x (k + 1) R := ⟨⟨f, fd, ps, hm, F.kp, bn, def_fn F S hR body⟩⟩

theorem wk_nil {K : PySem.W.Frag} : Wk ([] : Env K c) [] := Wk.refl _
theorem wk_same {K : PySem.W.Frag} {G G' : Env K c} {s : Option (Slot K c)} (h : Wk G G') : Wk (s :: G) (s :: G') := ⟨by simp [h.1], fun i u q => by
  cases i with
  | zero => exact q
  | succ i => exact h.2 i u (by simpa using q)⟩
theorem wk_none {K : PySem.W.Frag} {G G' : Env K c} {s : Option (Slot K c)} (h : Wk G G') : Wk (s :: G) (none :: G') := ⟨by simp [h.1], fun i u q => by
  cases i with
  | zero => simp at q
  | succ i => exact h.2 i u (by simpa using q)⟩

def wipeG {K : PySem.W.Frag} (G : Env K c) : List Nat → Env K c
  | [] => G
  | v :: vs => (wipeG G vs).set v none
theorem wipe_at {σ : Sg} {i : Nat} : ∀ {vs : List Nat}, i ∉ vs → (wipe σ vs)[i]? = σ[i]? := fun h => wipe_out h
theorem wipe_in {σ : Sg} {i : Nat} : ∀ {vs : List Nat}, i ∈ vs → i < σ.length → (wipe σ vs)[i]? = some none
  | v :: vs, h, hl => by
    unfold wipe
    by_cases e : v = i
    · subst e
      rw [List.getElem?_set_self (by rw [wipe_length]; exact hl)]
    · rw [List.getElem?_set_ne e]
      exact wipe_in ((List.mem_cons.mp h).resolve_left fun z => e z.symm) hl
theorem wipeG_len {K : PySem.W.Frag} {G : Env K c} : ∀ {vs : List Nat}, (wipeG G vs).length = G.length
  | [] => rfl
  | v :: vs => by unfold wipeG; rw [List.length_set, wipeG_len]
theorem wipeG_get {K : PySem.W.Frag} {G : Env K c} {i : Nat} {s : Slot K c} : ∀ {vs : List Nat}, (wipeG G vs)[i]? = some (some s) → G[i]? = some (some s) ∧ i ∉ vs
  | [], h => ⟨h, List.not_mem_nil⟩
  | v :: vs, h => by
    unfold wipeG at h
    rcases getset h with ⟨_, e, _⟩ | ⟨ne, h⟩
    · cases e
    · obtain ⟨a, b⟩ := wipeG_get h
      exact ⟨a, fun z => (List.mem_cons.mp z).elim (fun z => ne z.symm) b⟩
theorem wipe_eq {σ σ2 : Sg} {vs is : List Nat} (hl : σ2.length = σ.length) (hs : ∀ i ∈ is, i ∈ vs) (h : ∀ j, j ∉ is → σ2[j]? = (wipe σ vs)[j]?) : wipe σ2 vs = wipe σ vs := by
  apply List.ext_getElem?
  intro j
  by_cases z : j ∈ vs
  · by_cases l : j < σ.length
    · rw [wipe_in z (by omega), wipe_in z l]
    · rw [List.getElem?_eq_none (by rw [wipe_length]; omega), List.getElem?_eq_none (by rw [wipe_length]; omega)]
  · rw [wipe_at z]
    exact h j fun q => z (hs j q)
section
variable {X : Cx} {G : Env X.K c} {tg e elt iter : Expr} {ifs : List Expr} {body rest : List Stmt} {Ph : Out X.K c → Prop} {pos p : Pos} {k : Nat} {scope : Scope} {own : List (Str × Nat)}
theorem Bd.blk (C : Bd X k) {s : Shared} {H : Hp} {scope : Scope} {a : Addr} {cl : List (Str × Addr)} {fp : List Addr} : Bd (X.blk s H scope (compEnvC scope cl a X.env) fp) k := ⟨C.nd, C.calm, C.room, PassesOwn.never⟩
/-- the block's contexts -/
abbrev BI := Shared × Hp × Addr × List (Str × Addr) × List Addr
abbrev bY (X : Cx) (scope : Scope) (j : BI) : Cx := X.blk j.1 j.2.1 scope (compEnvC scope j.2.2.2.1 j.2.2.1 X.env) j.2.2.2.2
def DTs (Y : Cx) (G : Env Y.K c) (ifs : List Expr) (b : Bool) : Prop :=
  ∃ tt, PTs Y ifs tt ∧ ∀ Z B H σ Q, EnvE G Z B H σ → (∀ B' H', Ext B H B' H' → Q b H') → tt σ H Q
theorem dts_nil : DTs X G [] true := ⟨_, pts_nil, fun Z B H σ Q E g => g B H (Ext.refl E.sub)⟩
theorem dts_one {b : Bool} (h : DT X G e b) : DTs X G [e] b := by
  obtain ⟨t, p, r⟩ := h
  exact ⟨_, pts_one p, r⟩
def fil (b : Nat → Bool) (f : Nat → D) (n : Nat) : List D := ((List.range n).filter b).map f
theorem fil_succ (b : Nat → Bool) (f : Nat → D) (n : Nat) : fil b f (n + 1) = fil b f n ++ (if b n = true then [f n] else []) := by
  unfold fil
  rw [List.range_succ, List.filter_append, List.map_append]
  cases e : b n <;> simp [List.filter, e]
theorem fil_len (b : Nat → Bool) (f : Nat → D) (n : Nat) : (fil b f n).length ≤ n := by
  unfold fil
  rw [List.length_map]
  have := List.length_filter_le b (List.range n)
  rw [List.length_range] at this
  exact this
theorem envE_bound {K : PySem.W.Frag} {is : List Nat} {G G' : Env K c} {Z B H : Hp} {σ σ' : Sg} (S : EnvE G Z B H σ) (b : Bound is G G' Z B H σ σ') : EnvE G' Z B H σ' := by
  refine ⟨S.sub, S.z, fun j s q => ?_⟩
  by_cases z : j ∈ is
  · obtain ⟨s', v', q1, q2, q3, q4⟩ := b.at_ j z
    rw [q1] at q
    cases q
    exact ⟨v', [], q3, q4⟩
  · obtain ⟨q1, q2⟩ := b.un j z
    rw [q1] at q
    obtain ⟨v, fp, r1, r2⟩ := S.sl j s q
    exact ⟨v, fp, q2.trans r1, r2⟩
theorem envE_wipe {K : PySem.W.Frag} {G : Env K c} {Z B H : Hp} {σ : Sg} (S : EnvE G Z B H σ) (vs : List Nat) : EnvE (wipeG G vs) Z B H (wipe σ vs) := by
  refine ⟨S.sub, S.z, fun j s q => ?_⟩
  obtain ⟨q1, q2⟩ := wipeG_get q
  obtain ⟨v, fp, r1, r2⟩ := S.sl j s q1
  exact ⟨v, fp, (wipe_at q2).trans r1, r2⟩
/-- a list comprehension, whatever becomes of it -/
def DLcP (P : TI → Prop) (X : Cx) (G : Env X.K c) (elt tg : Expr) (ifs : List Expr) (scope : Scope) (s : Slot X.K c) : Prop :=
  ∃ own wi g tt te, P wi ∧ BlkOk X.N X.env.scope scope own ∧ (∀ (s : Shared) (H : Hp) (C : Addr) (cl : List (Str × Addr)) (fp : List Addr), PG (X.blk s H scope (compEnvC scope cl C X.env) fp) tg g) ∧
    (∀ (s : Shared) (H : Hp) (C : Addr) (cl : List (Str × Addr)) (fp : List Addr), PTs (X.blk s H scope (compEnvC scope cl C X.env) fp) ifs tt) ∧ (∀ (s : Shared) (H : Hp) (C : Addr) (cl : List (Str × Addr)) (fp : List Addr), PE (X.blk s H scope (compEnvC scope cl C X.env) fp) elt te) ∧
    ∀ Z B H σ Q, EnvE G Z B H σ → Gs X.K c B H s Q → tLc wi g tt te (own.map (·.2)) σ H Q
abbrev DLc (X : Cx) (G : Env X.K c) (elt tg iter : Expr) (ifs : List Expr) (scope : Scope) (s : Slot X.K c) : Prop := DLcP (PI X tg iter) X G elt tg ifs scope s
theorem DLc.dx {s : Slot X.K c} (C : Bd X k) (h : DLc X G elt tg iter ifs scope s) (hs : ∀ x, foldedSetIterable iter X.env x = pure x := by intro _; rfl) : DX X G (.ListComp elt [⟨tg, iter, ifs, 0⟩] scope pos) s := by
  obtain ⟨own, wi, g, tt, te, h1, h2, h3, h4, h5, h6⟩ := h
  exact ⟨_, pe_lc C.calm C.nd h1 h2 h3 h4 h5 hs, h6⟩
/-- name = [..] on one line -/
theorem dss_setLc {s : Slot X.K c} {y : Str} {py spos : Pos} (C : Bd X k) (i : Nat) (h : DLc X G elt tg iter ifs scope s) (hr : DSs X (G.set i (some s)) rest Ph) (hp : s.par = false := by rfl) (hN : X.N[i]? = some y := by rfl) (hyl : X.env.scope.names.lookup y = some .local := by rfl)
    (hsw : swapsWith (.ListComp elt [⟨tg, iter, ifs, 0⟩] scope pos) (some (.Name y py)) spos.line X.env = pure true := by rfl) (hs : ∀ x, foldedSetIterable iter X.env x = pure x := by intro _; rfl) :
    DSs X G (.Assign [.Name y py] (.ListComp elt [⟨tg, iter, ifs, 0⟩] scope pos) spos :: rest) Ph := fun F B H σ D S E => by
  obtain ⟨own, wi, g, tt, te, h1, h2, h3, h4, h5, h6⟩ := h
  refine wp_of (pss_cons (ps_setLc C.calm C.nd hN hyl hsw h1 h2 h3 h4 h5 hs) pss_wp) (show tLc wi g tt te (own.map (·.2)) σ H (fun x H1 => gName i x σ H1 (wpS X rest D)) from h6 F.Z B H σ _ S.env fun v B' H' fp e q hf => ?_)
  exact hr F B' H' _ D (S.set e (q _) hf hp i) E
/-- [elt for tg in iter if ..] -/
theorem dlc_TP {P : TI → Prop} {n : Nat} {g : Nat → Slot X.K c} (hi : DIp P X G n g) (ok : BlkOk X.N X.env.scope scope own) {is : List Nat} (his : ∀ i ∈ is, i ∈ own.map (·.2)) (I' : Nat → Env X.K c) (b : Nat → Bool) (f : Nat → D) (hz : n < sizeLine)
    (hl : G.length = X.N.length)
    (hg : ∀ j : BI, ∀ i, i < n → DG (c := c) (bY X scope j) tg is (g i) (wipeG G (own.map (·.2))) (I' i))
    (ht : ∀ j : BI, ∀ i, i < n → DTs (c := c) (bY X scope j) (I' i) ifs (b i))
    (he : ∀ j : BI, ∀ i, i < n → b i = true → DE (c := c) (bY X scope j) (I' i) elt (f i)) : DLcP P X G elt tg ifs scope (so (fil b f n)) := by
  obtain ⟨wi, pi, ri⟩ := hi
  have vs : List Nat := own.map (·.2)
  let gw : TG := fun v σ H1 Q => ∀ j : BI, ∀ pins s' u, Inv (bY X scope j) pins σ H1 s' → RelV v u → wpAny (model X.prog X.w) X.A (assign tg (bY X scope j).env u) (fun _ s2 => ∃ σ' H', Inv (bY X scope j) pins σ' H' s2 ∧ Q σ' H') (fun _ _ => False) s'
  let tw : TT := fun σ H1 Q => ∀ j : BI, ∀ pins s', Inv (bY X scope j) pins σ H1 s' → wpAny (model X.prog X.w) X.A (forIn ifs true fun c r => if r = true then do let ok ← isTrue c (bY X scope j).env (eval c (bY X scope j).env); pure (ForInStep.yield ok) else pure (ForInStep.yield r)) (TP (bY X scope j) pins σ Q) (fun _ _ => False) s'
  let ew : TE := fun σ H1 Q => ∀ j : BI, ∀ pins s', Inv (bY X scope j) pins σ H1 s' → wpAny (model X.prog X.w) X.A (eval elt (bY X scope j).env) (EP (bY X scope j) pins σ Q) (fun _ _ => False) s'
  have pg : ∀ (s : Shared) (H : Hp) (C : Addr) (cl : List (Str × Addr)) (fp : List Addr), PG (X.blk s H scope (compEnvC scope cl C X.env) fp) tg gw := fun s H C cl fp => ⟨fun pins s' σ H v u Q I r h => h (s, _, C, cl, fp) pins s' u I r⟩
  have pt : ∀ (s : Shared) (H : Hp) (C : Addr) (cl : List (Str × Addr)) (fp : List Addr), PTs (X.blk s H scope (compEnvC scope cl C X.env) fp) ifs tw := fun s H C cl fp => ⟨fun pins s' σ H Q I h => h (s, _, C, cl, fp) pins s' I⟩
  have pe : ∀ (s : Shared) (H : Hp) (C : Addr) (cl : List (Str × Addr)) (fp : List Addr), PE (X.blk s H scope (compEnvC scope cl C X.env) fp) elt ew := fun s H C cl fp => ⟨fun pins s' σ H Q I h => h (s, _, C, cl, fp) pins s' I⟩
  refine ⟨own, wi, gw, tw, ew, pi, ok, pg, pt, pe, fun Z B H σ Q E gs => ri Z B H σ _ E fun J B1 H1 e1 w D hD => ?_⟩
  have E1 := E.ext e1
  have hHD : H D = none := e1.h.free hD
  refine ⟨fun i m H2 => m = n - i ∧ i ≤ n ∧ ∃ B2 acc, Ext B1 H1 B2 H2 ∧ B2 D = none ∧ H2 D = some (.lst acc) ∧ TpAll X.K c B2 acc (fil b f i), ⟨n, by simp, Nat.zero_le _, B1, [], Ext.layH e1.sub _ hD, e1.sub.free hD, upd_same, .nil⟩, ?_⟩
  rintro i m H2 ⟨rfl, hi, B2, acc, e2, d1, d2, d3⟩
  by_cases hlt : i < n
  · have wk := (w i B2 H2 e2.b e2.sub ((E1.ext e2).z)).1 hlt
    refine .inr ⟨wk.1, fun H' => ∃ B2 acc, Ext B1 H1 B2 H' ∧ B2 D = none ∧ H' D = some (.lst acc) ∧ TpAll X.K c B2 acc (fil b f (i + 1)), fun H' q => ⟨n - (i + 1), by omega, rfl, hlt, q⟩, fun x H3 y => ?_⟩
    obtain ⟨B3, e3, hx⟩ := wk.2 x H3 y
    have E3 := envE_wipe (E1.ext (e2.trans e3)) (own.map (·.2))
    intro j pins s' u Iv rv
    obtain ⟨gt, pg', rg⟩ := hg j i hlt
    refine pg'.run pins s' _ _ x u _ Iv rv (rg Z B3 H3 _ x _ E3.sub E3.z ?_ hx fun σ2 bd => ⟨?_, ?_⟩)
    · rw [wipe_length, wipeG_len, hl]
      have := Iv.len
      rw [wipe_length] at this
      exact this
    · exact wipe_eq (by rw [bd.ls, wipe_length]) his fun j' hj => (bd.un j' hj).2
    · have E4 := envE_bound E3 bd
      intro j2 pins2 s2 Iv2
      obtain ⟨tt, pt', rt⟩ := ht j2 i hlt
      refine pt'.run pins2 s2 σ2 H3 _ Iv2 (rt Z B3 H3 σ2 _ E4 fun B5 H5 e5 => ?_)
      have e35 := (e2.trans e3).trans e5
      have dB : B5 D = none := by
        have := e3.new D d1 (by rw [d2]; exact fun z => nomatch z)
        exact e5.new D this (Same.some e3.h (by rw [d2]; exact fun z => nomatch z))
      cases hb : b i with
      | false =>
        refine iteF ⟨B5, acc, e35, dB, e5.h _ _ (e3.h _ _ d2), ?_⟩
        rw [fil_succ, hb]
        simpa using TpAll.mono (e3.trans e5).b _ _ d3
      | true =>
        refine iteT ?_
        intro j3 pins3 s3 Iv3
        obtain ⟨te, pe', re⟩ := he j3 i hlt hb
        refine pe'.run pins3 s3 σ2 H5 _ Iv3 (re Z B5 H5 σ2 _ (E4.ext e5) fun y B6 H6 e6 hy => ?_)
        have d2' := e6.h _ _ (e5.h _ _ (e3.h _ _ d2))
        have dB6 : B6 D = none := e6.new D dB (by rw [e5.h _ _ (e3.h _ _ d2)]; exact fun z => nomatch z)
        refine ⟨acc, d2', by rw [d3.length]; have := fil_len b f i; omega, B6, acc ++ [y], ⟨(e35.trans e6).b, fun a o q => ?_, fun a o q => ?_, (e35.trans e6).new⟩, dB6, upd_same, ?_⟩
        · have : a ≠ D := ne_of_none q hD
          rw [upd_ne this]
          exact (e35.trans e6).h a o q
        · have : a ≠ D := ne_of_none q dB6
          rw [upd_ne this]
          exact e6.sub a o q
        · rw [fil_succ, hb]
          exact (TpAll.mono ((e3.trans e5).trans e6).b _ _ d3).append (.cons hy .nil)
  · have en : i = n := by omega
    subst en
    refine .inl ⟨(w i B2 H2 e2.b e2.sub ((E1.ext e2).z)).2 (Nat.le_refl _), gs _ B2 H2 [D] (e1.trans e2) (fun _ => ⟨D, acc, rfl, rfl, d1, d2, d3⟩) fun a ha => ?_⟩
    rw [List.mem_singleton.mp ha]
    exact hHD
theorem dlc_T (C : Bd X k) {n : Nat} {g : Nat → Slot X.K c} (hi : DI X G tg iter n g) (ok : BlkOk X.N X.env.scope scope own) {is : List Nat} (his : ∀ i ∈ is, i ∈ own.map (·.2)) (I' : Nat → Env X.K c) (b : Nat → Bool) (f : Nat → D) (hz : n < sizeLine)
    (hl : G.length = X.N.length)
    (hg : ∀ j : BI, ∀ i, i < n → DG (c := c) (bY X scope j) tg is (g i) (wipeG G (own.map (·.2))) (I' i))
    (ht : ∀ j : BI, ∀ i, i < n → DTs (c := c) (bY X scope j) (I' i) ifs (b i))
    (he : ∀ j : BI, ∀ i, i < n → b i = true → DE (c := c) (bY X scope j) (I' i) elt (f i)) : DLc X G elt tg iter ifs scope (so (fil b f n)) := dlc_TP hi ok his I' b f hz hl hg ht he
theorem dx_lcT (C : Bd X k) {n : Nat} {g : Nat → Slot X.K c} (hi : DI X G tg iter n g) (ok : BlkOk X.N X.env.scope scope own) {is : List Nat} (his : ∀ i ∈ is, i ∈ own.map (·.2)) (I' : Nat → Env X.K c) (b : Nat → Bool) (f : Nat → D) (hz : n < sizeLine)
    (hl : G.length = X.N.length)
    (hg : ∀ j : BI, ∀ i, i < n → DG (c := c) (bY X scope j) tg is (g i) (wipeG G (own.map (·.2))) (I' i))
    (ht : ∀ j : BI, ∀ i, i < n → DTs (c := c) (bY X scope j) (I' i) ifs (b i))
    (he : ∀ j : BI, ∀ i, i < n → b i = true → DE (c := c) (bY X scope j) (I' i) elt (f i))
    (hs : ∀ x, foldedSetIterable iter X.env x = pure x := by intro _; rfl) : DX X G (.ListComp elt [⟨tg, iter, ifs, 0⟩] scope pos) (so (fil b f n)) := (dlc_T C hi ok his I' b f hz hl hg ht he).dx C hs
/-- .. the target one name -/
theorem dlc_1 (C : Bd X k) {x : Str} {tp : Pos} (i0 : Nat) {n : Nat} {g : Nat → Slot X.K c} (hi : DI X G (.Name x tp) iter n g) (ok : BlkOk X.N X.env.scope scope [(x, i0)]) (b : Nat → Bool) (f : Nat → D) (hz : n < sizeLine)
    (ht : ∀ j : BI, ∀ i, i < n → DTs (c := c) (bY X scope j) ((wipeG G [i0]).set i0 (some (g i))) ifs (b i))
    (he : ∀ j : BI, ∀ i, i < n → b i = true → DE (c := c) (bY X scope j) ((wipeG G [i0]).set i0 (some (g i))) elt (f i))
    (hl : G.length = X.N.length := by rfl) (hl0 : i0 < G.length := by exact Nat.le_of_ble_eq_true rfl) (hp : ∀ i, (g i).par = false := by exact fun _ => rfl) (hN : X.N[i0]? = some x := by rfl)
    (hx : ∀ j : BI, Loc (bY X scope j).env.scope x := by first | exact fun _ => Or.inl rfl | exact fun _ => Or.inr rfl)
    (hf : ∀ j : BI, (bY X scope j).fn x = true ∨ (bY X scope j).env.scope.names.lookup x = some .local := by first | exact fun _ => .inl rfl | exact fun _ => .inr rfl) : DLc X G elt (.Name x tp) iter ifs scope (so (fil b f n)) :=
  dlc_T C (own := [(x, i0)]) hi ok (is := [i0]) (by simp) (fun i => (wipeG G [i0]).set i0 (some (g i))) b f hz hl
    (fun j i h => dg_name (c := c) C.blk i0 (by rw [wipeG_len]; exact hl0) (hp i) hN (hx j) (hf j)) ht he
theorem dlc_1P {P : TI → Prop} {x : Str} {tp : Pos} (i0 : Nat) {n : Nat} {g : Nat → Slot X.K c} (nd : X.N.Nodup) (hi : DIp P X G n g) (ok : BlkOk X.N X.env.scope scope [(x, i0)]) (b : Nat → Bool) (f : Nat → D) (hz : n < sizeLine)
    (ht : ∀ j : BI, ∀ i, i < n → DTs (c := c) (bY X scope j) ((wipeG G [i0]).set i0 (some (g i))) ifs (b i))
    (he : ∀ j : BI, ∀ i, i < n → b i = true → DE (c := c) (bY X scope j) ((wipeG G [i0]).set i0 (some (g i))) elt (f i))
    (hl : G.length = X.N.length := by rfl) (hl0 : i0 < G.length := by exact Nat.le_of_ble_eq_true rfl) (hp : ∀ i, (g i).par = false := by exact fun _ => rfl) (hN : X.N[i0]? = some x := by rfl)
    (hx : ∀ j : BI, Loc (bY X scope j).env.scope x := by first | exact fun _ => Or.inl rfl | exact fun _ => Or.inr rfl)
    (hf : ∀ j : BI, (bY X scope j).fn x = true ∨ (bY X scope j).env.scope.names.lookup x = some .local := by first | exact fun _ => .inl rfl | exact fun _ => .inr rfl) : DLcP P X G elt (.Name x tp) ifs scope (so (fil b f n)) :=
  dlc_TP (own := [(x, i0)]) hi ok (is := [i0]) (by simp) (fun i => (wipeG G [i0]).set i0 (some (g i))) b f hz hl
    (fun j i h => dg_nameN (c := c) (X := bY X scope j) nd i0 (by rw [wipeG_len]; exact hl0) (hp i) hN (hx j) (hf j)) ht he
theorem dx_lc1 (C : Bd X k) {x : Str} {tp : Pos} (i0 : Nat) {n : Nat} {g : Nat → Slot X.K c} (hi : DI X G (.Name x tp) iter n g) (ok : BlkOk X.N X.env.scope scope [(x, i0)]) (b : Nat → Bool) (f : Nat → D) (hz : n < sizeLine)
    (ht : ∀ j : BI, ∀ i, i < n → DTs (c := c) (bY X scope j) ((wipeG G [i0]).set i0 (some (g i))) ifs (b i))
    (he : ∀ j : BI, ∀ i, i < n → b i = true → DE (c := c) (bY X scope j) ((wipeG G [i0]).set i0 (some (g i))) elt (f i))
    (hl : G.length = X.N.length := by rfl) (hl0 : i0 < G.length := by exact Nat.le_of_ble_eq_true rfl) (hp : ∀ i, (g i).par = false := by exact fun _ => rfl) (hN : X.N[i0]? = some x := by rfl)
    (hx : ∀ j : BI, Loc (bY X scope j).env.scope x := by first | exact fun _ => Or.inl rfl | exact fun _ => Or.inr rfl)
    (hf : ∀ j : BI, (bY X scope j).fn x = true ∨ (bY X scope j).env.scope.names.lookup x = some .local := by first | exact fun _ => .inl rfl | exact fun _ => .inr rfl)
    (hs : ∀ x, foldedSetIterable iter X.env x = pure x := by intro _; rfl) : DX X G (.ListComp elt [⟨.Name x tp, iter, ifs, 0⟩] scope pos) (so (fil b f n)) :=
  dx_lcT C (own := [(x, i0)]) hi ok (is := [i0]) (by simp) (fun i => (wipeG G [i0]).set i0 (some (g i))) b f hz hl
    (fun j i h => dg_name (c := c) C.blk i0 (by rw [wipeG_len]; exact hl0) (hp i) hN (hx j) (hf j)) ht he hs
end
end Dw

namespace Dw
open PySem L2 PyProof.Rows
variable {c : Cl}
def Shp (n : Nat) (d : D) : Prop := d.canLay0 = true ∧ d.depth ≤ n
def ShpA (n : Nat) (ds : List D) : Prop := PyData.canLayAll0 ds = true ∧ PyData.depthAll ds ≤ n
theorem ShpA.nil (n : Nat) : ShpA n [] := ⟨by simp [PyData.canLayAll0], by simp [PyData.depthAll]⟩
theorem ShpA.cons {n : Nat} {d : D} {ds : List D} (h : Shp n d) (t : ShpA n ds) : ShpA n (d :: ds) := ⟨by simp [PyData.canLayAll0, h.1, t.1], by simp only [PyData.depthAll]; exact Nat.max_le.mpr ⟨h.2, t.2⟩⟩
theorem ShpA.map {α : Type} {n : Nat} {f : α → D} : ∀ {l : List α}, (∀ a ∈ l, Shp n (f a)) → ShpA n (l.map f)
  | [], _ => ShpA.nil n
  | a :: l, h => (h a List.mem_cons_self).elim fun x y => ShpA.cons ⟨x, y⟩ (ShpA.map fun b hb => h b (List.mem_cons_of_mem _ hb))
theorem ShpA.of {n : Nat} : ∀ {l : List D}, (∀ a ∈ l, Shp n a) → ShpA n l
  | [], _ => ShpA.nil n
  | a :: l, h => ShpA.cons (h a List.mem_cons_self) (ShpA.of fun b hb => h b (List.mem_cons_of_mem _ hb))
theorem Shp.int (n : Nat) (i : Int) : Shp n (.int i) := ⟨by simp [PyData.canLay0], by simp [PyData.depth]⟩
theorem Shp.bool (n : Nat) (i : Bool) : Shp n (.bool i) := ⟨by simp [PyData.canLay0], by simp [PyData.depth]⟩
theorem Shp.none (n : Nat) : Shp n .none := ⟨by simp [PyData.canLay0], by simp [PyData.depth]⟩
theorem Shp.str (n : Nat) (x : Str) (h : PyData.strOk x = true) : Shp n (.str x) := ⟨by simp [PyData.canLay0, h], by simp [PyData.depth]⟩
theorem Shp.tuple {n : Nat} {ds : List D} (h : ShpA n ds) : Shp (n + 1) (.tuple ds) := ⟨by simp only [PyData.canLay0]; exact h.1, by simp only [PyData.depth]; have := h.2; omega⟩
theorem Shp.list {n : Nat} {ds : List D} (h : ShpA n ds) : Shp (n + 1) (.list ds) := ⟨by simp only [PyData.canLay0]; exact h.1, by simp only [PyData.depth]; have := h.2; omega⟩
theorem Shp.mono {n m : Nat} {d : D} (h : Shp n d) (l : n ≤ m) : Shp m d := ⟨h.1, Nat.le_trans h.2 l⟩
theorem Shp.shaped {n : Nat} {d : D} (h : Shp n d) (l : n ≤ 64 := by decide) : SeqAt.shaped d = true := by
  show (d.canLay0 && decide (d.depth ≤ 64)) = true
  rw [h.1, Bool.true_and]
  exact decide_eq_true (Nat.le_trans h.2 l)
/-- data of a Lean type -/
class En (α : Type) [DecidableEq α] where
  enc : α → D
  dep : Nat
  shp : ∀ a, Shp dep (enc a)
  eqv : ∀ a b, PyData.eqv (enc a) (enc b) = decide (a = b)

end Dw
namespace Dw
open PySem L2 PyProof.Rows
variable {c : Cl}
abbrev enc {α : Type} [DecidableEq α] [En α] (a : α) : D := En.enc a
instance : En Int where
  enc := .int
  dep := 0
  shp := Shp.int 0
  eqv := fun a b => by simp [PyData.eqv]; rw [Bool.beq_eq_decide_eq]
instance : En Bool where
  enc := .bool
  dep := 0
  shp := Shp.bool 0
  eqv := fun a b => by simp [PyData.eqv]; rw [Bool.beq_eq_decide_eq]
theorem eqvAll_cons (x y : D) (xs ys : List D) : PyData.eqvAll (x :: xs) (y :: ys) = (PyData.eqv x y && PyData.eqvAll xs ys) := by simp [PyData.eqvAll]
theorem eqvAll_nil : PyData.eqvAll [] [] = true := by simp [PyData.eqvAll]
instance {α β : Type} [DecidableEq α] [DecidableEq β] [En α] [En β] : En (α × β) where
  enc := fun p => .tuple [enc p.1, enc p.2]
  dep := max (En.dep α) (En.dep β) + 1
  shp := fun p => Shp.tuple (ShpA.cons ((En.shp p.1).mono (Nat.le_max_left _ _)) (ShpA.cons ((En.shp p.2).mono (Nat.le_max_right _ _)) (ShpA.nil _)))
  eqv := fun a b => by
    have e : PyData.eqv (.tuple [enc a.1, enc a.2]) (.tuple [enc b.1, enc b.2]) = (PyData.eqv (enc a.1) (enc b.1) && (PyData.eqv (enc a.2) (enc b.2) && true)) := by simp only [PyData.eqv, PyData.eqvAll]
    rw [e, En.eqv, En.eqv, Bool.and_true]
    by_cases h1 : a.1 = b.1 <;> by_cases h2 : a.2 = b.2 <;> simp [h1, h2, Prod.ext_iff]
theorem eqvAll_map {α : Type} [DecidableEq α] [En α] : ∀ l m : List α, PyData.eqvAll (l.map enc) (m.map enc) = decide (l = m)
  | [], [] => by simp [PyData.eqvAll]
  | [], b :: m => by simp [PyData.eqvAll]
  | a :: l, [] => by simp [PyData.eqvAll]
  | a :: l, b :: m => by
    rw [List.map_cons, List.map_cons, eqvAll_cons, En.eqv, eqvAll_map l m]
    by_cases h1 : a = b <;> by_cases h2 : l = m <;> simp [h1, h2]
instance {α : Type} [DecidableEq α] [En α] : En (List α) where
  enc := fun l => .list (l.map enc)
  dep := En.dep α + 1
  shp := fun l => Shp.list (ShpA.map fun a _ => En.shp a)
  eqv := fun a b => by
    have e : PyData.eqv (.list (a.map enc)) (.list (b.map enc)) = PyData.eqvAll (a.map enc) (b.map enc) := by simp only [PyData.eqv]
    rw [e, eqvAll_map]
/-- a ground: a wall, or a cost and a height -/
inductive Gd where
  | wall | gr (k h : Int)
  deriving DecidableEq
def Gd.e : Gd → D
  | .wall => .none
  | .gr k h => .tuple [.int k, .int h]
instance : En Gd where
  enc := Gd.e
  dep := 1
  shp := fun a => by
    cases a with
    | wall => exact Shp.none _
    | gr k h => exact Shp.tuple (ShpA.cons (Shp.int _ _) (ShpA.cons (Shp.int _ _) (ShpA.nil _)))
  eqv := fun a b => by
    cases a with
    | wall => cases b <;> simp [Gd.e, PyData.eqv]
    | gr k h =>
      cases b with
      | wall => simp [Gd.e, PyData.eqv]
      | gr k' h' =>
        simp only [Gd.e, PyData.eqv, PyData.eqvAll, Bool.and_true, Gd.gr.injEq]
        by_cases h1 : k = k' <;> by_cases h2 : h = h' <;> simp [h1, h2]

section
variable {X : Cx} {G : Env X.K c} {a b e : Expr} {pos : Pos} {d d1 d2 d3 : D} {ds es : List D} {k : Nat}
theorem Tm.int {K : PySem.W.Frag} {Z B : Hp} {v : V} {i : Int} (h : Tm K c Z B v (.int i)) : v = .int i := by
  cases h with | of h => cases h; rfl
theorem Tm.bool {K : PySem.W.Frag} {Z B : Hp} {v : V} {i : Bool} (h : Tm K c Z B v (.bool i)) : v = .bl i := by
  cases h with | of h => cases h; rfl
theorem Tm.str {K : PySem.W.Frag} {Z B : Hp} {v : V} {i : Str} (h : Tm K c Z B v (.str i)) : v = .str i := by
  cases h with | of h => cases h; rfl
theorem Tm.tuple {K : PySem.W.Frag} {Z B : Hp} {v : V} (h : Tm K c Z B v (.tuple ds)) : ∃ a xs, v = .ref a ∧ TupD K B a xs ∧ TpAll K c B xs ds := by
  cases h with
  | of h => cases h with | tup hs ha => exact ⟨_, _, rfl, hs, ha⟩
theorem Tm.dp {K : PySem.W.Frag} {B H : Hp} {v : V} {n : Nat} (s : Same B H) (h : Tm K c H B v d) (hs : Shp n d) : Dp K H v d := Tm.dpn s _ _ h hs.1
theorem opd_int {op : Operator} {C : Int → Int → Prop} {g : Int → Int → Int} (h : OpR X (binaryOp op) (rI C fun i j => .int (g i j))) {i j : Int} (hc : C i j) : OpD c X (binaryOp op) (.int i) (.int j) (.int (g i j)) :=
  ⟨_, h, fun B H x y Q s hx hy g => ⟨i, j, hx.int, hy.int, hc, gv_of s g (.int _)⟩⟩
theorem opd_int0 {op : Operator} {g : Int → Int → Int} (h : OpR X (binaryOp op) (rI0 fun i j => .int (g i j))) {i j : Int} : OpD c X (binaryOp op) (.int i) (.int j) (.int (g i j)) :=
  ⟨_, h, fun B H x y Q s hx hy g => ⟨i, j, hx.int, hy.int, gv_of s g (.int _)⟩⟩
theorem opd_cmp0 {op : CmpOp} {g : Int → Int → Bool} (h : OpR X (compareOp op) (rI0 fun i j => .bl (g i j))) {i j : Int} : OpD c X (compareOp op) (.int i) (.int j) (.bool (g i j)) :=
  ⟨_, h, fun B H x y Q s hx hy g => ⟨i, j, hx.int, hy.int, gv_of s g (.bl _)⟩⟩
theorem od_add {i j : Int} : OpD c X (binaryOp .Add) (.int i) (.int j) (.int (i + j)) := opd_int0 op_add
theorem od_sub {i j : Int} : OpD c X (binaryOp .Sub) (.int i) (.int j) (.int (i - j)) := opd_int0 op_sub
theorem od_mul {i j : Int} (h : CMulW i j) : OpD c X (binaryOp .Mult) (.int i) (.int j) (.int (i * j)) := opd_int op_mulW h
theorem od_mulS {i j : Int} (h : CMul i j) : OpD c X (binaryOp .Mult) (.int i) (.int j) (.int (i * j)) := opd_int op_mul h
theorem od_fdiv {i j : Int} (h : CDivW i j) : OpD c X (binaryOp .FloorDiv) (.int i) (.int j) (.int (i / j)) := opd_int op_fdivW h
theorem od_fdivS {i j : Int} (h : CDiv i j) : OpD c X (binaryOp .FloorDiv) (.int i) (.int j) (.int (i / j)) := opd_int op_fdiv h
theorem od_mod {i j : Int} (h : 0 < j) : OpD c X (binaryOp .Mod) (.int i) (.int j) (.int (i % j)) := opd_int op_mod h
theorem od_pow {i j : Int} (h : CPow i j) : OpD c X (binaryOp .Pow) (.int i) (.int j) (.int (i ^ j.toNat)) := opd_int op_pow h
theorem od_shr {i j : Int} (h : 0 ≤ j) : OpD c X (binaryOp .RShift) (.int i) (.int j) (.int (i / 2 ^ j.toNat)) := opd_int op_shr h
theorem od_lt {i j : Int} : OpD c X (compareOp .Lt) (.int i) (.int j) (.bool (decide (i < j))) := opd_cmp0 op_lt
theorem od_le {i j : Int} : OpD c X (compareOp .LtE) (.int i) (.int j) (.bool (decide (i ≤ j))) := opd_cmp0 op_le
theorem od_gt {i j : Int} : OpD c X (compareOp .Gt) (.int i) (.int j) (.bool (decide (j < i))) := opd_cmp0 op_gt
theorem od_ge {i j : Int} : OpD c X (compareOp .GtE) (.int i) (.int j) (.bool (decide (j ≤ i))) := opd_cmp0 op_ge
theorem od_neg {i : Int} : UnD c X (unaryOp .USub) (.int i) (.int (-i)) := ⟨_, un_neg, fun B H x Q s hx g => ⟨i, hx.int, gv_of s g (.int _)⟩⟩
/-- == and != of data -/
theorem od_eq {n m : Nat} (C : Bd X k) (h1 : Shp n d1) (h2 : Shp m d2) (l1 : n ≤ 64 := by decide) (l2 : m ≤ 64 := by decide) : OpD c X (compareOp .Eq) d1 d2 (.bool (PyData.eqv d1 d2)) :=
  ⟨_, op_eqD C.room.units, fun B H x y Q s hx hy g => ⟨d1, d2, hx.dp s h1, hy.dp s h2, h1.shaped l1, h2.shaped l2, gv_of s g (.bl _)⟩⟩
theorem od_ne {n m : Nat} (C : Bd X k) (h1 : Shp n d1) (h2 : Shp m d2) (l1 : n ≤ 64 := by decide) (l2 : m ≤ 64 := by decide) : OpD c X (compareOp .NotEq) d1 d2 (.bool (!PyData.eqv d1 d2)) :=
  ⟨_, op_neD C.room.units, fun B H x y Q s hx hy g => ⟨d1, d2, hx.dp s h1, hy.dp s h2, h1.shaped l1, h2.shaped l2, gv_of s g (.bl _)⟩⟩
theorem od_eqE {α : Type} [DecidableEq α] [En α] (C : Bd X k) (x y : α) (l : En.dep α ≤ 64 := by decide) : OpD c X (compareOp .Eq) (enc x) (enc y) (.bool (decide (x = y))) := by
  rw [← En.eqv]
  exact od_eq C (En.shp x) (En.shp y) l l
theorem od_neE {α : Type} [DecidableEq α] [En α] (C : Bd X k) (x y : α) (l : En.dep α ≤ 64 := by decide) : OpD c X (compareOp .NotEq) (enc x) (enc y) (.bool (!decide (x = y))) := by
  rw [← En.eqv]
  exact od_ne C (En.shp x) (En.shp y) l l
theorem od_eqI (C : Bd X k) {i j : Int} : OpD c X (compareOp .Eq) (.int i) (.int j) (.bool (decide (i = j))) := od_eqE C i j
theorem od_neI (C : Bd X k) {i j : Int} : OpD c X (compareOp .NotEq) (.int i) (.int j) (.bool (!decide (i = j))) := od_neE C i j
/-- is None, is not None -/
def isN : D → Bool
  | .none => true
  | _ => false
theorem isN_ok {K : PySem.W.Frag} {Z B : Hp} {v : V} (h : Tm K c Z B v d) : decide (v = .non) = isN d := by
  cases h with
  | of h => cases h <;> simp [isN]
  | lst => simp [isN]
theorem od_is : OpD c X (compareOp .Is) d1 .none (.bool (isN d1)) := ⟨_, op_isN, fun B H x y Q s hx hy g => ⟨by cases hy with | of h => cases h; rfl, by rw [isN_ok hx]; exact gv_of s g (.bl _)⟩⟩
theorem od_isnot : OpD c X (compareOp .IsNot) d1 .none (.bool (!isN d1)) := ⟨_, op_notN, fun B H x y Q s hx hy g => ⟨by cases hy with | of h => cases h; rfl, by rw [isN_ok hx]; exact gv_of s g (.bl _)⟩⟩
/-- in, not in, of a list or a tuple of data -/
def rInQ (K : PySem.W.Frag) (neg : Bool) : R2 := fun x y H Q => ∃ d ds, Dp K H x d ∧ (Dp K H y (.list ds) ∨ Dp K H y (.tuple ds)) ∧ d.canLay0 = true ∧ PyData.canLayAll0 ds = true ∧ d.depth ≤ 64 ∧ Q (.bl (if neg then !(ds.any fun z => PyData.eqv z d) else ds.any fun z => PyData.eqv z d)) H
theorem op_inQ (hu : X.A.units + 65 < cLine) : OpR X (compareOp .In) (rInQ X.K false) := by
  intro pins s σ H x y v u Q I rx ry h
  obtain ⟨d, ds, hd, he, sd, se, dl, q⟩ := h
  obtain ⟨as, r1⟩ := Dp.reads I d x v hd rx
  have hr : X.A.units + 1 + min (PyData.depthAll ds) d.depth < cLine := by have := Nat.min_le_right (PyData.depthAll ds) d.depth; omega
  rcases he with he | he
  · obtain ⟨bs, r2⟩ := Dp.reads I (.list ds) y u he ry
    exact SeqAt.in_list_reads r2 r1 se sd hr ⟨.bl _, H, I, rfl, q⟩
  · obtain ⟨bs, r2⟩ := Dp.reads I (.tuple ds) y u he ry
    exact SeqAt.in_tuple_reads r2 r1 se sd hr ⟨.bl _, H, I, rfl, q⟩
theorem op_notInQ (hu : X.A.units + 65 < cLine) : OpR X (compareOp .NotIn) (rInQ X.K true) := by
  intro pins s σ H x y v u Q I rx ry h
  obtain ⟨d, ds, hd, he, sd, se, dl, q⟩ := h
  obtain ⟨as, r1⟩ := Dp.reads I d x v hd rx
  have hr : X.A.units + 1 + min (PyData.depthAll ds) d.depth < cLine := by have := Nat.min_le_right (PyData.depthAll ds) d.depth; omega
  rcases he with he | he
  · obtain ⟨bs, r2⟩ := Dp.reads I (.list ds) y u he ry
    exact SeqAt.notIn_list_reads r2 r1 se sd hr ⟨.bl _, H, I, rfl, q⟩
  · obtain ⟨bs, r2⟩ := Dp.reads I (.tuple ds) y u he ry
    exact SeqAt.notIn_tuple_reads r2 r1 se sd hr ⟨.bl _, H, I, rfl, q⟩
theorem units65 (C : Bd X k) : X.A.units + 65 < cLine := by have := C.room.un; omega
theorem od_inL {n m : Nat} (C : Bd X k) (h1 : Shp n d1) (h2 : ShpA m ds) (l1 : n ≤ 64 := by decide) : OpD c X (compareOp .In) d1 (.list ds) (.bool (ds.any fun z => PyData.eqv z d1)) :=
  ⟨_, op_inQ (units65 C), fun B H x y Q s hx hy g => ⟨d1, ds, hx.dp s h1, .inl (hy.dp s (Shp.list h2)), h1.1, h2.1, Nat.le_trans h1.2 l1, gv_of s g (.bl _)⟩⟩
theorem od_inT {n m : Nat} (C : Bd X k) (h1 : Shp n d1) (h2 : ShpA m ds) (l1 : n ≤ 64 := by decide) : OpD c X (compareOp .In) d1 (.tuple ds) (.bool (ds.any fun z => PyData.eqv z d1)) :=
  ⟨_, op_inQ (units65 C), fun B H x y Q s hx hy g => ⟨d1, ds, hx.dp s h1, .inr (hy.dp s (Shp.tuple h2)), h1.1, h2.1, Nat.le_trans h1.2 l1, gv_of s g (.bl _)⟩⟩
theorem od_notInL {n m : Nat} (C : Bd X k) (h1 : Shp n d1) (h2 : ShpA m ds) (l1 : n ≤ 64 := by decide) : OpD c X (compareOp .NotIn) d1 (.list ds) (.bool (!ds.any fun z => PyData.eqv z d1)) :=
  ⟨_, op_notInQ (units65 C), fun B H x y Q s hx hy g => ⟨d1, ds, hx.dp s h1, .inl (hy.dp s (Shp.list h2)), h1.1, h2.1, Nat.le_trans h1.2 l1, gv_of s g (.bl _)⟩⟩
theorem od_notInT {n m : Nat} (C : Bd X k) (h1 : Shp n d1) (h2 : ShpA m ds) (l1 : n ≤ 64 := by decide) : OpD c X (compareOp .NotIn) d1 (.tuple ds) (.bool (!ds.any fun z => PyData.eqv z d1)) :=
  ⟨_, op_notInQ (units65 C), fun B H x y Q s hx hy g => ⟨d1, ds, hx.dp s h1, .inr (hy.dp s (Shp.tuple h2)), h1.1, h2.1, Nat.le_trans h1.2 l1, gv_of s g (.bl _)⟩⟩
theorem any_mem {α : Type} [DecidableEq α] [En α] (l : List α) (a : α) : ((l.map enc).any fun z => PyData.eqv z (enc a)) = decide (a ∈ l) := by
  induction l with
  | nil => simp
  | cons b l ih =>
    rw [List.map_cons, List.any_cons, ih, En.eqv]
    by_cases h : b = a
    · subst h; simp
    · have h' : ¬ a = b := fun e => h e.symm
      simp [h, h']
def DXbin (c : Cl) (X : Cx) (f : Value → Value → Sem Value) (d1 d2 : D) (s : Slot X.K c) : Prop :=
  ∃ r, OpR X f r ∧ ∀ B H x y Q, Same B H → Tp X.K c B x d1 → Tp X.K c B y d2 → Gs X.K c B H s Q → r x y H Q
theorem dx_bin {op : Operator} {s : Slot X.K c} (ha : DE X G a d1) (hb : DE X G b d2) (ho : DXbin c X (binaryOp op) d1 d2 s) : DX X G (.BinOp a op b pos) s := by
  obtain ⟨ta, pa, ra⟩ := ha
  obtain ⟨tb, pb, rb⟩ := hb
  obtain ⟨r, hr, q⟩ := ho
  refine ⟨_, pe_op hr pa pb, fun Z B H σ Q E g => ?_⟩
  refine ra Z B H σ _ E fun v B1 H1 e1 h1 => rb Z B1 H1 σ _ (E.ext e1) fun u B2 H2 e2 h2 => ?_
  exact q B2 H2 v u Q e2.sub (Tp.mono e2.b _ _ h1) h2 (gs_ext (e1.trans e2) g)
theorem gs_lst {K : PySem.W.Frag} {B H : Hp} {Q : VK} {vs : List V} (s : Same B H) (g : Gs K c B H (so ds) Q) (h : TpAll K c B vs ds) {p : Addr} (hp : H p = none) : Q (.ref p) (upd H p (.lst vs)) :=
  g _ B _ [p] (Ext.layH s _ hp) (fun _ => ⟨p, vs, rfl, rfl, s.free hp, upd_same, h⟩) fun a ha => by rw [List.mem_singleton.mp ha]; exact hp
end
end Dw

namespace Dw
open PySem L2 PyProof.Rows
variable {c : Cl}
section
variable {X : Cx} {G : Env X.K c} {a b e f : Expr} {es : List Expr} {pos : Pos} {d d1 d2 d3 : D} {ds zs : List D} {k : Nat} {x : Str}
theorem Inv.lstR {pins : List (Addr × Obj)} {σ : Sg} {H : Hp} {s : Shared} {l : Addr} {xs : List V} (I : Inv X pins σ H s) (h : Rd H l (.lst xs)) : xs.length ≤ sizeLine ∧ ∃ (its : List Value) (n : Nat), Vals xs its ∧ xs.length = its.length ∧ s.heap.get? l = some { cls := .type "list", data := .seq its.toArray n } := by
  obtain ⟨z, its, n, r, e⟩ := h.ok I.hok
  exact ⟨z, its, n, r, r.length, e⟩
def rCatR : R2 := fun x y H Q => ∃ l b xs zs, x = .ref l ∧ y = .ref b ∧ Rd H l (.lst xs) ∧ Rd H b (.lst zs) ∧ xs.length + zs.length ≤ sizeLine ∧ ∀ p, H p = none → Q (.ref p) (upd H p (.lst (xs ++ zs)))
theorem op_catR : OpR X (binaryOp .Add) rCatR := by
  intro pins s σ H x y v u Q I rx ry h
  obtain ⟨l, b, xs, zs, rfl, rfl, hH, hB, hz, q⟩ := h
  cases rx
  cases ry
  obtain ⟨z, its, n, r, hl, e⟩ := Inv.lstR I hH
  obtain ⟨z2, its2, n2, r2, hl2, e2⟩ := Inv.lstR I hB
  refine PySem.P.add_list e e2 ?_ (by rw [List.size_toArray, List.size_toArray]; omega)
  have ea : its.toArray ++ its2.toArray = (its ++ its2).toArray := by simp
  rw [ea]
  exact ⟨.ref _, _, I.lnew (t' := s.toks) (r.append r2) (by rw [List.length_append]; omega), rfl, q _ I.fresh⟩
theorem ob_cat (hl : ds.length + zs.length ≤ sizeLine) : DXbin c X (binaryOp .Add) (.list ds) (.list zs) (so (ds ++ zs)) :=
  ⟨_, op_catR, fun B H x y Q s hx hy g => by
    cases hx with
    | lst h1 h2 =>
      cases hy with
      | lst h3 h4 => exact ⟨_, _, _, _, rfl, rfl, Same.rd s h1, Same.rd s h3, by rw [h2.length, h4.length]; exact hl, fun p hp => gs_lst s g (h2.append h4) hp⟩⟩
theorem tpAll_rep {K : PySem.W.Frag} {B : Hp} {vs : List V} (h : TpAll K c B vs ds) : ∀ n : Nat, TpAll K c B (List.replicate n vs).flatten (List.replicate n ds).flatten
  | 0 => .nil
  | n + 1 => by
    rw [List.replicate_succ, List.replicate_succ, List.flatten_cons, List.flatten_cons]
    exact h.append (tpAll_rep h n)
/-- [..] * n, a written list -/
theorem dx_rep {n : Int} (ha : DX X G a (so ds)) (hb : DE X G b (.int n)) (h1 : -(2 ^ 63) ≤ n) (h2 : n < 2 ^ 63) (hl : ds.length * n.toNat ≤ sizeLine) : DX X G (.BinOp a .Mult b pos) (so (List.replicate n.toNat ds).flatten) := by
  obtain ⟨ta, pa, ra⟩ := ha
  obtain ⟨tb, pb, rb⟩ := hb
  refine ⟨_, pe_op op_rep pa pb, fun Z B H σ Q E g => ?_⟩
  refine ra Z B H σ _ E fun v B1 H1 fp e1 h hf => rb Z B1 H1 σ _ (E.ext e1) fun u B2 H2 e2 hu => ?_
  obtain ⟨p, vs, q0, q1, q2, q3, q4⟩ := h B
  cases hu
  refine ⟨p, n, vs, q0, rfl, e2.h _ _ q3, h1, h2, by rw [q4.length]; exact hl, fun r hr => ?_⟩
  exact gs_lst e2.sub (gs_ext (e1.trans e2) g) (tpAll_rep (TpAll.mono e2.b _ _ q4) _) hr

theorem ix_of {K : PySem.W.Frag} {Z B : Hp} {vs : List V} {i : Int} (h : TmAll K c Z B vs ds) (hd : atI ds i = some d) : ∃ v, atI vs i = some v ∧ Tm K c Z B v d := by
  have hl := h.length
  unfold atI at hd ⊢
  rw [hl]
  cases e : ixN ds.length i with
  | none => rw [e] at hd; cases hd
  | some j =>
    rw [e] at hd
    exact h.get (i := j) hd
theorem ixd_list {i : Int} (hd : atI ds i = some d) : IxD c X (.list ds) (.int i) d := ⟨_, ix_list, fun Z B H x y Q s z hx hy g => by
  cases hy.int
  cases hx with
  | of hx =>
    cases hx with
    | lst h1 h2 =>
      obtain ⟨v, q1, q2⟩ := ix_of (Z := Z) (TmAll.of h2) hd
      exact ⟨_, _, _, v, rfl, rfl, .inl (Same.rd s h1), q1, g v q2⟩
  | lst h1 h2 =>
    obtain ⟨v, q1, q2⟩ := ix_of h2 hd
    exact ⟨_, _, _, v, rfl, rfl, z.seq h1, q1, g v q2⟩⟩
theorem ixd_tup {i : Int} (hd : atI ds i = some d) : IxD c X (.tuple ds) (.int i) d := ⟨_, ix_tup, fun Z B H x y Q s z hx hy g => by
  cases hy.int
  obtain ⟨p, xs, rfl, h1, h2⟩ := hx.tuple
  obtain ⟨v, q1, q2⟩ := ix_of (Z := Z) (TmAll.of h2) hd
  exact ⟨_, _, _, v, rfl, rfl, Same.tup s h1.sq, q1, g v q2⟩⟩
theorem atI_of {α : Type} {xs : List α} {i : Int} {v : α} (h0 : 0 ≤ i) (h : xs[i.toNat]? = some v) : atI xs i = some v := by
  have e : i = (i.toNat : Int) := by omega
  rw [e]
  exact atI_nat h
def cutD (ds : List D) (lo hi : Option Int) : List D := (ds.drop (HT.sIx ds.length 0 lo)).take (HT.sIx ds.length ds.length hi - HT.sIx ds.length 0 lo)
def DO (X : Cx) (G : Env X.K c) (e : Option Expr) (o : Option Int) : Prop :=
  ∃ t, PO X e t ∧ ∀ Z B H σ Q, EnvE G Z B H σ → (∀ B' H', Ext B H B' H' → Q o H') → t σ H Q
theorem do_none : DO (c := c) X G none none := ⟨_, po_none, fun Z B H σ Q E g => g B H (Ext.refl E.sub)⟩
theorem do_some {i : Int} (h : DE X G e (.int i)) : DO X G (some e) (some i) := by
  obtain ⟨t, p, r⟩ := h
  refine ⟨_, po_some p, fun Z B H σ Q E g => r Z B H σ _ E fun v B' H' e h => ?_⟩
  cases h
  exact ⟨i, rfl, g B' H' e⟩
/-- xs[lo:hi] of a list whose items may be kept -/
theorem dx_slice {lo hi : Option Expr} {l u : Option Int} {p2 : Pos} (ha : DZ X G a (.list ds)) (hn : ∀ d ∈ ds, nolist d = true) (hl : DO X G lo l) (hu : DO X G hi u) : DX X G (.Subscript a (.Slice lo hi none p2) pos) (so (cutD ds l u)) := by
  obtain ⟨ta, pa, ra⟩ := ha
  obtain ⟨tl, pl, rl⟩ := hl
  obtain ⟨tu, pu, ru⟩ := hu
  refine ⟨_, pe_slice sl_list pa pl pu, fun Z B H σ Q E g => ?_⟩
  refine ra Z B H σ _ E fun v B1 H1 e1 h1 => rl Z B1 H1 σ _ (E.ext e1) fun B2 H2 e2 => ru Z B2 H2 σ _ (E.ext (e1.trans e2)) fun B3 H3 e3 => ?_
  have e := (e1.trans e2).trans e3
  have kept : ∀ {vs : List V} {es : List D}, TmAll X.K c Z B1 vs es → (∀ d ∈ es, nolist d = true) → TpAll X.K c B1 vs es := by
    intro vs es h
    induction es generalizing vs with
    | nil => intro _; cases h; exact .nil
    | cons d es ih =>
      intro hn
      cases h with
      | cons q1 q2 => exact .cons (q1.kept (hn d List.mem_cons_self)) (ih q2 fun z hz => hn z (List.mem_cons_of_mem _ hz))
  have fin : ∀ {p : Addr} {vs : List V}, v = .ref p → SqL X.K H3 p vs → TpAll X.K c B1 vs ds → (rSlL X.K) v l u H3 Q := fun {p vs} q1 q2 q3 => by
    refine ⟨p, vs, q1, q2, fun r hr => ?_⟩
    refine gs_lst e3.sub (gs_ext e g) ?_ hr
    have := TpAll.mono (e2.trans e3).b _ _ q3
    unfold cutV cutD
    rw [q3.length]
    exact (this.drop _).take _
  cases h1 with
  | of h1 =>
    cases h1 with
    | lst q1 q2 => exact fin rfl (.inl (Same.rd (e1.sub.trans (e2.trans e3).h) q1)) q2
  | lst q1 q2 => exact fin rfl ((E.z.trans e.h).seq q1) (kept q2 hn)
/-- t[lo:hi] of a text -/
theorem de_sliceS {z : Str} {lo hi : Option Expr} {l u : Option Int} {p2 : Pos} (ha : DE X G a (.str z)) (hz : z.length ≤ sizeLine) (hl : DO X G lo l) (hu : DO X G hi u) : DE X G (.Subscript a (.Slice lo hi none p2) pos) (.str (cutS z l u)) := by
  obtain ⟨ta, pa, ra⟩ := ha
  obtain ⟨tl, pl, rl⟩ := hl
  obtain ⟨tu, pu, ru⟩ := hu
  refine ⟨_, pe_slice sl_str pa pl pu, fun Z B H σ Q E g => ?_⟩
  refine ra Z B H σ _ E fun v B1 H1 e1 h1 => rl Z B1 H1 σ _ (E.ext e1) fun B2 H2 e2 => ru Z B2 H2 σ _ (E.ext (e1.trans e2)) fun B3 H3 e3 => ?_
  cases h1
  exact ⟨z, rfl, hz, g _ B3 H3 ((e1.trans e2).trans e3) (.str _)⟩

theorem Tm.seqH {B H : Hp} {v : V} (s : Same B H) (h : Tm X.K c H B v (.list ds)) : ∃ p xs, v = .ref p ∧ SqL X.K H p xs ∧ xs.length = ds.length := by
  obtain ⟨p, xs, h1, h2, h3⟩ := Tm.seq s h
  exact ⟨p, xs, h1, h2, h3.length⟩
theorem tm1 {B H : Hp} {xs : List V} (h : TmAll X.K c H B xs [d]) : ∃ v, xs = [v] ∧ Tm X.K c H B v d := by
  cases h with | cons h t => cases t; exact ⟨_, rfl, h⟩
theorem tm2 {B H : Hp} {xs : List V} (h : TmAll X.K c H B xs [d1, d2]) : ∃ v u, xs = [v, u] ∧ Tm X.K c H B v d1 ∧ Tm X.K c H B u d2 := by
  cases h with | cons h t => cases t with | cons h' t => cases t; exact ⟨_, _, rfl, h, h'⟩
theorem tp1 {B : Hp} {xs : List V} (h : TpAll X.K c B xs [d]) : ∃ v, xs = [v] ∧ Tp X.K c B v d := by
  cases h with | cons h t => cases t; exact ⟨_, rfl, h⟩
theorem cd_lenL : CallD c X (.builtin "len") [.list ds] (.int ds.length) := ⟨_, call_len, fun B H xs Q s h g => by
  obtain ⟨v, rfl, hv⟩ := tm1 h
  obtain ⟨p, ys, rfl, h1, h2⟩ := Tm.seqH s hv
  exact ⟨_, ys.length, rfl, .inl ⟨ys, h1, rfl⟩, by rw [h2]; exact gv_of s g (.int _)⟩⟩
theorem cd_lenT : CallD c X (.builtin "len") [.tuple ds] (.int ds.length) := ⟨_, call_len, fun B H xs Q s h g => by
  obtain ⟨v, rfl, hv⟩ := tm1 h
  obtain ⟨p, ys, rfl, h1, h2⟩ := hv.tuple
  exact ⟨_, ys.length, rfl, .inr ⟨ys, Same.tup s h1.sq, rfl⟩, by rw [h2.length]; exact gv_of s g (.int _)⟩⟩
theorem cd_lenS {z : Str} (hz : z.length ≤ sizeLine) : CallD c X (.builtin "len") [.str z] (.int z.length) := ⟨_, call_len, fun B H xs Q s h g => by
  obtain ⟨v, rfl, hv⟩ := tm1 h
  cases hv.str
  exact ⟨_, z.length, rfl, ⟨hz, rfl⟩, gv_of s g (.int _)⟩⟩
/-- tuple(t), a tuple is itself -/
theorem cd_tupleT : CallD c X (.type "tuple") [.tuple ds] (.tuple ds) := ⟨_, call_tupleT, fun B H xs Q s h g => by
  obtain ⟨v, rfl, hv⟩ := tm1 h
  obtain ⟨p, ys, rfl, h1, h2⟩ := hv.tuple
  exact ⟨p, ys, rfl, Same.tup s h1.sq, gv_of s g (.tup h1 h2)⟩⟩
/-- list(xs), list(t): items that may be kept -/
theorem cb_listL : CallB c X (.type "list") [.list ds] (so ds) := ⟨_, call_list_of, fun B H xs Q s h g => by
  obtain ⟨v, rfl, hv⟩ := tp1 h
  cases hv with | lst h1 h2 => exact ⟨_, _, rfl, .inl (.inl (Same.rd s h1)), fun p hp => gs_lst s g h2 hp⟩⟩
theorem cb_listT : CallB c X (.type "list") [.tuple ds] (so ds) := ⟨_, call_list_of, fun B H xs Q s h g => by
  obtain ⟨v, rfl, hv⟩ := tp1 h
  cases hv with | tup h1 h2 => exact ⟨_, _, rfl, .inr (Same.tup s h1.sq), fun p hp => gs_lst s g h2 hp⟩⟩
/-- isinstance: what a value is -/
inductive TyD : D → String → Prop
  | non : TyD .none "NoneType"
  | bl (b : Bool) : TyD (.bool b) "bool"
  | int (i : Int) : TyD (.int i) "int"
  | str (z : Str) : TyD (.str z) "str"
  | lst (ds : List D) : TyD (.list ds) "list"
  | tup (ds : List D) : TyD (.tuple ds) "tuple"
  | dct : TyD (.dict []) "dict"
end
end Dw

namespace Dw
open PySem L2 PyProof.Rows
variable {c : Cl}
section
variable {X : Cx} {G : Env X.K c} {a b e f : Expr} {es : List Expr} {pos : Pos} {d d1 d2 d3 : D} {ds zs : List D} {k : Nat} {x : Str}
theorem TyD.ok {B H : Hp} {v : V} {t : String} (s : Same B H) (h : Tm X.K c H B v d) (ty : TyD d t) : TyX X.K H v (.type t) := by
  have seqT : ∀ {p : Addr} {xs : List V}, SqT X.K H p xs → TyX X.K H (.ref p) (.type "tuple") := fun {p xs} q => by
    rcases q with (q | ⟨o, q⟩) | ⟨o, its, n, q, q2, _⟩
    · exact .base (.tup q)
    · exact .fTuple q
    · exact .kTuple q q2
  cases ty with
  | lst ds =>
    obtain ⟨p, xs, rfl, q, _⟩ := Tm.seq s h
    rcases q with (q | ⟨o, q⟩) | ⟨o, its, n, q, q2, _⟩
    · exact .base (.lst q)
    · exact .base (.frz q)
    · exact .kList q q2
  | tup ds =>
    obtain ⟨p, xs, rfl, q, _⟩ := h.tuple
    exact seqT (Same.tup s q.sq)
  | non => cases h with | of h => cases h; exact .base .non
  | dct => cases h with | of h => cases h with | dct q => exact .base (.dK (s _ _ q))
  | bl b => cases h.bool; exact .base (.bl b)
  | int b => cases h.int; exact .base (.int b)
  | str b => cases h.str; exact .base (.str b)
theorem call1_run {id : String} {p : Pos} {T : String} {y : Str} {q : Pos} : True := trivial
/-- whether a value of the built-in class t is one of T -/
def isiB (t T : String) : Bool := t == T || (t == "bool" && T == "int")
/-- isinstance(e, T), T a built-in class -/
theorem de_isi {t : String} (T : String) {p q : Pos} {y : Str} (ha : DR X G a d) (ht : TyD d t) (hk : kitB t T = some (isiB t T)) (hm : X.mg "isinstance" = none) (hmT : X.mg y = none) (hvT : bootBuiltins y = some (.type T) := by decide +kernel) (hg : Gl X "isinstance" := by rfl) (hgT : Gl X y := by rfl)
    (hn : y ≠ "__name__" := by decide) (hdb : (y == ("__debug__" : Str)) = false := by decide) (he : starEach (a :: [.Name y q]) X.env = (false, eval a X.env) :: starEach [.Name y q] X.env := by rfl)
    (he2 : starEach [.Name y q] X.env = (false, eval (.Name y q) X.env) :: starEach [] X.env := by rfl) (hpl : (backTo pos (starEach [.Name y q] X.env)).any (·.1) = false := by rfl) : DE X G (.Call (.Name "isinstance" p) [a, .Name y q] [] pos) (.bool (isiB t T)) := by
  obtain ⟨ta, pa, ra⟩ := ha
  refine ⟨_, pe_callB call_isi hg hm (by decide +kernel) (pa_cons pa (pa_cons (pe_bltn (v := .ty T) hgT hmT hvT rfl hn hdb) pa_nil he2) he) (by decide) (by decide) he hpl, fun Z B H σ Q E g => ?_⟩
  refine ra Z B H σ _ E fun v B' H' e h => ?_
  exact ⟨v, _, _, _, _, rfl, .ty T, TyD.ok e.sub h ht, kit_ty hk, g _ B' H' e (.bl _)⟩
/-- D[k] of a written dict with texts as keys -/
theorem de_wix {z : Str} {x : Str} {p : Pos} {ad : Addr} {v : V} (hm : X.mg x = some (.ref ad)) (hb : DE X G b (.str z)) (hk : KDct X.K X.w ad z v) (hv : ∀ B, Tp X.K c B v d) (hg : Gl X x := by rfl) (hd : (x == ("__debug__" : Str)) = false := by decide) (hs : PlainIx b := by exact fun _ _ => rfl) :
    DE X G (.Subscript (.Name x p) b pos) d := by
  obtain ⟨tb, pb, rb⟩ := hb
  refine ⟨_, pe_ix ix_kdict (pe_glob (v := .ref ad) hg hm rfl hd) pb hs, fun Z B H σ Q E g => rb Z B H σ _ E fun u B' H' e h => ?_⟩
  cases h
  exact ⟨ad, z, v, rfl, rfl, hk, g v B' H' e (hv B')⟩
/-- a written tuple of the module -/
theorem tp_ktup {K : PySem.W.Frag} {B : Hp} {p : Addr} {dd : Option Addr} {its : Array Value} {n : Nat} {sl : Array (Option Value)} {vs : List V} (h : K.lookup p = some ⟨.type "tuple", dd, .seq its n, sl⟩) (hl : its.size ≤ sizeLine) (hv : Vals vs its.toList) (hd : TpAll K c B vs ds) : Tp K c B (.ref p) (.tuple ds) :=
  .tup (.inr ⟨_, its, n, h, rfl, rfl, hl, hv⟩) hd
end
end Dw
namespace Dw
open PySem L2 PyProof.Rows
variable {c : Cl}
/-- a def of the top: what the head knows of it -/
structure FunAt (K : PySem.W.Frag) (mg : Str → Option Value) (x : Str) (st : Stmt) (ps : List Str) : Prop where
  ex : ∃ f fd, mg x = some (.ref f) ∧ Fun K x x st f fd ∧ Binds K fd ps []
theorem def_okF {P : Program} {w : World} {K : PySem.W.Frag} {mg : Str → Option Value} {base : Heap} {x : Str} {st : Stmt} {N ps : List Str} {k : Nat} {R : List (Slot K c) → Slot K c → Prop}
    (F : FunAt K mg x st ps) (S : FnScope N ps (defScope st)) (hR : ∀ ss r, R ss r → ss.length = ps.length)
    (body : ∀ (f : Addr) (cdv : Value) (A : Around) (outer : List PySem.Env) (s : Shared) (H : Hp) (E : XK) (ss : List (Slot K c)) (r : Slot K c), R ss r → Bd (bx P w K mg base N x st f cdv A outer s H E) k →
      DSs (c := c) (bx P w K mg base N x st f cdv A outer s H E) (G0 N ss) (defBody st) (defEnd r)) : DefOk P w K mg base x (k + 1) R := by
  obtain ⟨f, fd, hm, F, bn⟩ := F.ex
  exact def_ok F S hm bn hR (body f)
theorem DefOk.mono {P : Program} {w : World} {K : PySem.W.Frag} {mg : Str → Option Value} {base : Heap} {x : Str} {j k : Nat} {R : List (Slot K c) → Slot K c → Prop} (h : DefOk P w K mg base x j R) (l : j ≤ k) : DefOk P w K mg base x k R := by
  obtain ⟨f, fd, ps, h1, h2, h3, h4⟩ := h.ex
  exact ⟨f, fd, ps, h1, h2, h3, h4.mono l⟩
/-- the law's own promise: the script's ints come in, True goes out -/
def RLaw (K : PySem.W.Frag) (c : Cl) : List (Slot K c) → Slot K c → Prop := fun ss r => ∃ ns : List Int, ns.length ≤ 63 ∧ ss = [sb (.list (ns.map .int))] ∧ r = sd (.bool true)
end Dw

namespace Dw
open PySem L2 PyProof.Rows
variable {c : Cl}
/-- a constant of the module -/
structure ConstAt (K : PySem.W.Frag) (c : Cl) (mg : Str → Option Value) (x : Str) (d : D) : Prop where
  ex : ∃ u v, mg x = some u ∧ RelV v u ∧ ∀ B, Tp K c B v d
section
variable {X : Cx} {G : Env X.K c} {a b e f : Expr} {es : List Expr} {pos : Pos} {d d1 d2 d3 : D} {ds zs : List D} {k : Nat} {x : Str}
theorem de_const (h : ConstAt X.K c X.mg x d) (hg : Gl X x := by rfl) (hd : (x == ("__debug__" : Str)) = false := by decide) : DE X G (.Name x pos) d := by
  obtain ⟨u, v, h1, h2, h3⟩ := h.ex
  exact de_glob hg h1 h2 h3 hd
/-- the table of moves -/
structure MovesAt (K : PySem.W.Frag) (c : Cl) (w : World) (mg : Str → Option Value) : Prop where
  ex : ∃ ad, mg "MOVES" = some (.ref ad) ∧ (∃ v, KDct K w ad "n" v ∧ ∀ B, Tp K c B v (.tuple [.int (-1), .int 0])) ∧ (∃ v, KDct K w ad "e" v ∧ ∀ B, Tp K c B v (.tuple [.int 0, .int 1])) ∧
    (∃ v, KDct K w ad "s" v ∧ ∀ B, Tp K c B v (.tuple [.int 1, .int 0])) ∧ (∃ v, KDct K w ad "w" v ∧ ∀ B, Tp K c B v (.tuple [.int 0, .int (-1)]))
/-- a side: 0 n, 1 e, 2 s, 3 w -/
def sideS (i : Fin 4) : Str := match i with | 0 => "n" | 1 => "e" | 2 => "s" | 3 => "w"
def mv (i : Fin 4) : Int × Int := match i with | 0 => (-1, 0) | 1 => (0, 1) | 2 => (1, 0) | 3 => (0, -1)
theorem de_moves {p : Pos} (M : MovesAt X.K c X.w X.mg) (i : Fin 4) (hb : DE X G b (.str (sideS i))) (hg : Gl X "MOVES" := by rfl) (hs : PlainIx b := by exact fun _ _ => rfl) :
    DE X G (.Subscript (.Name "MOVES" p) b pos) (enc (mv i)) := by
  obtain ⟨ad, hm, ⟨v0, k0, t0⟩, ⟨v1, k1, t1⟩, ⟨v2, k2, t2⟩, ⟨v3, k3, t3⟩⟩ := M.ex
  match i with
  | 0 => exact de_wix hm hb k0 t0 hg (by decide) hs
  | 1 => exact de_wix hm hb k1 t1 hg (by decide) hs
  | 2 => exact de_wix hm hb k2 t2 hg (by decide) hs
  | 3 => exact de_wix hm hb k3 t3 hg (by decide) hs
end
/-- the name of a value's class -/
def tyN : D → String
  | .none => "NoneType"
  | .bool _ => "bool"
  | .int _ => "int"
  | .str _ => "str"
  | .list _ => "list"
  | .tuple _ => "tuple"
  | .dict [] => "dict"
  | .dict _ => "?"
/-- no object -/
def nodict : D → Bool
  | .dict (_ :: _) => false
  | _ => true
theorem tyD_of : ∀ {d : D}, nodict d = true → TyD d (tyN d)
  | .none, _ => .non
  | .bool _, _ => .bl _
  | .int _, _ => .int _
  | .str _, _ => .str _
  | .list _, _ => .lst _
  | .tuple _, _ => .tup _
  | .dict [], _ => .dct
  | .dict (_ :: _), h => by cases h
theorem kit_tyN {T : String} (h : (["NoneType", "bool", "int", "str", "list", "tuple", "dict"].all fun t => decide (kitB t T = some (isiB t T))) = true) {d : D} (hd : nodict d = true) : kitB (tyN d) T = some (isiB (tyN d) T) := by
  have all := fun t ht => of_decide_eq_true (List.all_eq_true.mp h t ht)
  match d, hd with
  | .none, _ => exact all _ (by simp [tyN])
  | .bool _, _ => exact all _ (by simp [tyN])
  | .int _, _ => exact all _ (by simp [tyN])
  | .str _, _ => exact all _ (by simp [tyN])
  | .list _, _ => exact all _ (by simp [tyN])
  | .tuple _, _ => exact all _ (by simp [tyN])
  | .dict [], _ => exact all _ (by simp [tyN])
/-- isinstance(e, T) of data -/
theorem de_isd {X : Cx} {G : Env X.K c} {a : Expr} {d : D} {pos : Pos} (T : String) {p q : Pos} {y : Str} (ha : DR X G a d) (hm : X.mg "isinstance" = none) (hmT : X.mg y = none) (hd : nodict d = true := by rfl) (hk : (["NoneType", "bool", "int", "str", "list", "tuple", "dict"].all fun t => decide (kitB t T = some (isiB t T))) = true := by decide +kernel) (hvT : bootBuiltins y = some (.type T) := by decide +kernel) (hg : Gl X "isinstance" := by rfl) (hgT : Gl X y := by rfl)
    (hn : y ≠ "__name__" := by decide) (hdb : (y == ("__debug__" : Str)) = false := by decide) (he : starEach (a :: [.Name y q]) X.env = (false, eval a X.env) :: starEach [.Name y q] X.env := by rfl)
    (he2 : starEach [.Name y q] X.env = (false, eval (.Name y q) X.env) :: starEach [] X.env := by rfl) (hpl : (backTo pos (starEach [.Name y q] X.env)).any (·.1) = false := by rfl) : DE X G (.Call (.Name "isinstance" p) [a, .Name y q] [] pos) (.bool (isiB (tyN d) T)) :=
  de_isi T ha (tyD_of hd) (kit_tyN hk hd) hm hmT hvT hg hgT hn hdb he he2 hpl
/-- what a chart knows of a cell -/
inductive Kn where
  | unk | wall | gr (k h : Int)
  deriving DecidableEq
def Kn.e : Kn → D
  | .unk => .str "?"
  | .wall => .none
  | .gr k h => .tuple [.int k, .int h]
instance : En Kn where
  enc := Kn.e
  dep := 1
  shp := fun a => by
    cases a with
    | unk => exact Shp.str _ _ (by decide +kernel)
    | wall => exact Shp.none _
    | gr k h => exact Shp.tuple (ShpA.cons (Shp.int _ _) (ShpA.cons (Shp.int _ _) (ShpA.nil _)))
  eqv := fun a b => by
    cases a with
    | unk => cases b <;> simp [Kn.e, PyData.eqv]
    | wall => cases b <;> simp [Kn.e, PyData.eqv]
    | gr k h =>
      cases b with
      | unk => simp [Kn.e, PyData.eqv]
      | wall => simp [Kn.e, PyData.eqv]
      | gr k' h' =>
        simp only [Kn.e, PyData.eqv, PyData.eqvAll, Bool.and_true, Kn.gr.injEq]
        by_cases h1 : k = k' <;> by_cases h2 : h = h' <;> simp [h1, h2]
theorem kn_nodict (a : Kn) : nodict (enc a) = true := by cases a <;> rfl
theorem kn_nodictL (a : Kn) : nolist (enc a) = true := by cases a <;> rfl
theorem gd_nodictL (a : Gd) : nolist (enc a) = true := by cases a <;> rfl
theorem gd_nodict (a : Gd) : nodict (enc a) = true := by cases a <;> rfl
/-- one can step from the one to the other -/
def stepK : Kn → Kn → Bool
  | .gr _ h, .gr _ h' => decide (h' ≤ h)
  | _, _ => false
/-- an if whose ways meet -/
def joinP {X : Cx} (Gj : Dw.Env X.K c) (Ph : Out X.K c → Prop) : Out X.K c → Prop
  | .nx G' => Wk G' Gj
  | o => Ph o
theorem dss_ifJ {X : Cx} {G : Env X.K c} {e : Expr} {body orelse rest : List Stmt} {Ph : Out X.K c → Prop} {pos : Pos} {k : Bool} (Gj : Env X.K c) (hc : DT X G e k) (h1 : k = true → DSs X G body (joinP Gj Ph)) (h2 : k = false → DSs X G orelse (joinP Gj Ph)) (h : DSs X Gj rest Ph) :
    DSs X G (.If e body orelse pos :: rest) Ph := by
  have im : ∀ o, joinP Gj Ph o → sq X rest Ph o := fun o q => by
    cases o with
    | nx G' => exact DSs.weak q h
    | bk _ => exact q
    | ct _ => exact q
    | ret _ _ => exact q
    | exc _ _ => exact q
  exact dss_if hc (fun q => (h1 q).imp im) fun q => (h2 q).imp im
section
variable {X : Cx} {G : Env X.K c} {e : Expr}
theorem de_lit {i : Int} (v : Int) (h : DE X G e (.int i)) (hv : i = v) : DE X G e (.int v) := hv ▸ h
theorem od_powC {i j : Int} (h : (decide (0 ≤ j) && decide (j ≤ 1000000) && decide (i.natAbs < 2 ^ 64)) = true := by decide +kernel) : OpD c X (binaryOp .Pow) (.int i) (.int j) (.int (i ^ j.toNat)) := by
  simp only [Bool.and_eq_true, decide_eq_true_eq] at h
  exact od_pow ⟨h.1.1, h.1.2, h.2⟩
theorem od_mulC {i j : Int} (h : decide (i.natAbs.log2 + j.natAbs.log2 < 1000000) = true := by decide +kernel) : OpD c X (binaryOp .Mult) (.int i) (.int j) (.int (i * j)) := od_mul (show i.natAbs.log2 + j.natAbs.log2 < 1000000 from of_decide_eq_true h)
theorem od_fdivC {i j : Int} (h : (decide (0 < j) && decide (j.natAbs.log2 < 9000)) = true := by decide +kernel) : OpD c X (binaryOp .FloorDiv) (.int i) (.int j) (.int (i / j)) := by
  simp only [Bool.and_eq_true, decide_eq_true_eq] at h
  exact od_fdiv ⟨h.1, h.2⟩
end
theorem tup2 {a b a' b' : Int} (h : a = a') (h2 : b = b') : PyData.tuple [.int a, .int b] = enc (a', b') := by
  rw [h, h2]
  rfl
theorem lt_line {n : Nat} (h : n ≤ 1000000) : n < sizeLine := by rw [sizeLine_eq]; omega
def intL (ns : List Int) : D := .list (ns.map .int)
theorem getD_of_le {α : Type} (l : List α) (i : Nat) (d : α) (h : l.length ≤ i) : l.getD i d = d := by
  rw [List.getD_eq_getElem?_getD, List.getElem?_eq_none h]
  rfl

def spL (K : PySem.W.Frag) : Sp := fun vs H Q _ => ∃ (a : Addr) (ns : List Int), vs = [.ref a] ∧ SqL K H a (ns.map V.int) ∧ ns.length ≤ 63 ∧ ∀ H', Q (.bl true) H'
theorem tmAll_ints {K : PySem.W.Frag} {Z B : Hp} : ∀ ns : List Int, TmAll K c Z B (ns.map V.int) (ns.map PyData.int)
  | [] => .nil
  | n :: ns => .cons (.of (.int n)) (tmAll_ints ns)
theorem law_imp {P : Program} {w : World} {K : PySem.W.Frag} {mg : Str → Option Value} {base : Heap} {k : Nat} {f : Addr} {fd : FuncData} {ps : List Str} (F : FnOk P w K mg base CX0 k f fd ps (spS K (RLaw K c))) : FnOk P w K mg base CX0 k f fd ps (spL K) :=
  F.imp fun vs H Q E h => by
    obtain ⟨a, ns, rfl, hS, hl, q⟩ := h
    refine ⟨H, [sb (.list (ns.map .int))], sd (.bool true), Same.refl _, .cons ⟨rfl, .lst hS (tmAll_ints ns)⟩ .nil, ⟨ns, hl, rfl, rfl⟩, fun v B' H' fp e p hf => ?_⟩
    obtain ⟨_, h⟩ := p H
    cases h
    exact q H'
theorem law_walk {l : PySem.W.OpenLaw} {k : Nat} {q : Program} {loose : List Str} {XP : (Str → Option Value) → Heap → Prop} {YP : World → Heap → Prop} {d : DefRec} {K : Params → PySem.W.Frag} {x : Str} (hn : l.most = some 63) (hdf : d.params.defaults = []) (hr : Room k callerA)
    (hY : ∀ (w : World) (h : Heap), YP w h → (K w.params).In h)
    (F : ∀ (w : World) (mg : Str → Option Value) (fa : Addr) (h : Heap), (K w.params).In h → h.Ns mainGlobals mg → mg d.name = some (.ref fa) →
      ∃ fd : FuncData, (∀ (s : Shared) (u : Value), BindsTo s fd ⟨[u], []⟩ [(x, u)]) ∧ ∀ base : Heap, (K w.params).In base → base.Ns mainGlobals mg → FnOk l.prog w (K w.params) mg base CX0 k fa fd [x] (spL (K w.params))) :
    PySem.W.WalkO q loose XP YP l.row.toRowW d [] (fun f vs => PySem.call f vs) :=
  L2.walk_of (n := 63) (k := k) (x := x) (CX := fun _ => CX0) (sp := fun w => spL (K w.params)) hn (by decide) hdf hr hY F (fun _ _ a ns hl _ hS => ⟨a, ns, rfl, hS, hl, fun _ => rfl⟩) fun _ _ _ _ _ z => z
/-- a def of the top, from the head's facts -/
theorem funAt {K : PySem.W.Frag} {mg : Str → Option Value} {h : Heap} (X : K.In h) (G : h.Ns mainGlobals mg) {x : Str} {st : Stmt} {ps : List Str} {f : Addr} {oc : Value} {od an : Option Addr} {osl : Array (Option Value)} {kV doc pm cdv ct : Value} (a : PySem.W.nsIn K mainGlobals x = some (some (.ref f)))
    (l : K.lookup f = some ⟨oc, od, .func (PySem.W.fnOf x x (defArgs st) (defBody st) (defScope st) .none kV doc pm an cdv ct), osl⟩) (c : PySem.W.codeIn K cdv x = true) (k : PySem.W.keepIn K (.ref f) = true)
    (b : ∀ (kV doc pm : Value) (an : Option Addr) (cdv ct : Value) (us : List Value), us.length = ps.length → bindArgs (PySem.W.fnOf x x (defArgs st) (defBody st) (defScope st) .none kV doc pm an cdv ct) ⟨us, []⟩ = pure (ps.zip us)) : FunAt K mg x st ps := by
  have F := fun_mk (st := st) l c k
  exact ⟨f, _, PySem.W.mg_of X G a, F, F.binds b⟩
theorem vals_ii {i j : Int} {t u : Tok} : Vals [V.int i, V.int j] [Value.int i t, Value.int j u] := .cons ⟨t, rfl⟩ (.cons ⟨u, rfl⟩ .nil)
theorem tpAll_ii {K : PySem.W.Frag} {B : Hp} {i j : Int} : TpAll K c B [V.int i, V.int j] [PyData.int i, PyData.int j] := .cons (.int i) (.cons (.int j) .nil)
theorem vals_s4 {a b c d : Str} {t u v z : Tok} : Vals [V.str a, V.str b, V.str c, V.str d] [Value.str a t, Value.str b u, Value.str c v, Value.str d z] := .cons ⟨t, rfl⟩ (.cons ⟨u, rfl⟩ (.cons ⟨v, rfl⟩ (.cons ⟨z, rfl⟩ .nil)))
theorem tpAll_s4 {K : PySem.W.Frag} {B : Hp} {x y z u : Str} : TpAll K c B [V.str x, V.str y, V.str z, V.str u] [PyData.str x, PyData.str y, PyData.str z, PyData.str u] := .cons (.str x) (.cons (.str y) (.cons (.str z) (.cons (.str u) .nil)))
theorem tw_le : (2 : Nat) ≤ sizeLine := by rw [sizeLine_eq]; decide
theorem fo_le : (4 : Nat) ≤ sizeLine := by rw [sizeLine_eq]; decide
theorem tp_ii {K : PySem.W.Frag} {p : Addr} {dd : Option Addr} {n : Nat} {sl : Array (Option Value)} {i j : Int} {t u : Tok} (l : K.lookup p = some ⟨.type "tuple", dd, .seq #[.int i t, .int j u] n, sl⟩) (B : Hp) : Tp K c B (.ref p) (.tuple [.int i, .int j]) := tp_ktup l tw_le vals_ii tpAll_ii
theorem const_ii {K : PySem.W.Frag} {mg : Str → Option Value} {x : Str} {p : Addr} {dd : Option Addr} {n : Nat} {sl : Array (Option Value)} {i j : Int} {t u : Tok} (h : mg x = some (.ref p)) (l : K.lookup p = some ⟨.type "tuple", dd, .seq #[.int i t, .int j u] n, sl⟩) : ConstAt K c mg x (.tuple [.int i, .int j]) :=
  ⟨_, .ref p, h, rfl, tp_ii l⟩
theorem const_s4 {K : PySem.W.Frag} {mg : Str → Option Value} {x : Str} {p : Addr} {dd : Option Addr} {n : Nat} {sl : Array (Option Value)} {a b c' d : Str} {t u v z : Tok} (h : mg x = some (.ref p)) (l : K.lookup p = some ⟨.type "tuple", dd, .seq #[.str a t, .str b u, .str c' v, .str d z] n, sl⟩) : ConstAt K c mg x (.tuple [.str a, .str b, .str c', .str d]) :=
  ⟨_, .ref p, h, rfl, fun B => tp_ktup l fo_le vals_s4 tpAll_s4⟩
theorem moves_at {K : PySem.W.Frag} {w : World} {mg : Str → Option Value} {ad p0 p1 p2 p3 : Addr} {es : Array DictEntry} {n n0 n1 n2 n3 : Nat} {d0 d1 d2 d3 : Option Addr} {s0 s1 s2 s3 : Array (Option Value)} {t0 u0 t1 u1 t2 u2 t3 u3 : Tok} (h : mg "MOVES" = some (.ref ad))
    (l : K.lookup ad = some ⟨.type "dict", none, .dict es n, #[]⟩) (kl : PySem.W.KeysLit w.params es.toList) (a0 : PySem.W.nsIn K ad "n" = some (some (.ref p0))) (a1 : PySem.W.nsIn K ad "e" = some (some (.ref p1))) (a2 : PySem.W.nsIn K ad "s" = some (some (.ref p2))) (a3 : PySem.W.nsIn K ad "w" = some (some (.ref p3)))
    (l0 : K.lookup p0 = some ⟨.type "tuple", d0, .seq #[.int (-1) t0, .int 0 u0] n0, s0⟩) (l1 : K.lookup p1 = some ⟨.type "tuple", d1, .seq #[.int 0 t1, .int 1 u1] n1, s1⟩) (l2 : K.lookup p2 = some ⟨.type "tuple", d2, .seq #[.int 1 t2, .int 0 u2] n2, s2⟩) (l3 : K.lookup p3 = some ⟨.type "tuple", d3, .seq #[.int 0 t3, .int (-1) u3] n3, s3⟩) : MovesAt K c w mg :=
  ⟨ad, h, ⟨.ref p0, ⟨es, n, _, l, kl, a0, rfl⟩, tp_ii l0⟩, ⟨.ref p1, ⟨es, n, _, l, kl, a1, rfl⟩, tp_ii l1⟩, ⟨.ref p2, ⟨es, n, _, l, kl, a2, rfl⟩, tp_ii l2⟩, ⟨.ref p3, ⟨es, n, _, l, kl, a3, rfl⟩, tp_ii l3⟩⟩
end Dw

namespace Dw
open PySem L2 PyProof.Rows
variable {c : Cl}
/-- a field -/
def fldD : List (D × D) → Str → Option D
  | [], _ => none
  | (.str g, d) :: r, f => if f = g then some d else fldD r f
  | _ :: r, f => fldD r f
theorem tpF_get {K : PySem.W.Frag} {B : Hp} {f : Str} {d : D} : ∀ {kvs : List (D × D)} {fs : List (Str × V)}, TpF K c B fs kvs → fldD kvs f = some d → ∃ v, fs.lookup f = some v ∧ Tp K c B v d
  | _, _, .nil, h => by cases h
  | _, _, .cons (f := g) (v := v) (fs := fs) h t, e => by
    unfold fldD at e
    by_cases q : f = g
    · rw [if_pos q] at e
      cases e
      have : (f == g) = true := beq_iff_eq.mpr q
      exact ⟨_, by simp [List.lookup, this], h⟩
    · rw [if_neg q] at e
      have : (f == g) = false := beq_eq_false_iff_ne.mpr q
      obtain ⟨v, h1, h2⟩ := tpF_get t e
      exact ⟨v, by simp [List.lookup, this, h1], h2⟩
theorem tpF_none {K : PySem.W.Frag} {B : Hp} {f : Str} : ∀ {kvs : List (D × D)} {fs : List (Str × V)}, TpF K c B fs kvs → fldD kvs f = none → fs.lookup f = none
  | _, _, .nil, h => rfl
  | _, _, .cons (f := g) (v := v) (fs := fs) h t, e => by
    unfold fldD at e
    by_cases q : f = g
    · rw [if_pos q] at e
      cases e
    · rw [if_neg q] at e
      have : (f == g) = false := beq_eq_false_iff_ne.mpr q
      simp [List.lookup, this, tpF_none t e]
abbrev obD (n : Int) (kvs : List (D × D)) : D := .dict ((.int n, .none) :: kvs)
/-- a class, and names that are fields alone -/
structure ClsAt (K : PySem.W.Frag) (c : Cl) (n : Int) (attrs : List Str) : Prop where
  ex : ∃ C, c n = some C ∧ Cls K C ∧ ∀ f ∈ attrs, NoAttr K C f
structure MthOk (P : Program) (w : World) (K : PySem.W.Frag) (c : Cl) (mg : Str → Option Value) (base : Heap) (n : Int) (m : Str) (k : Nat) (R : List (Slot K c) → Slot K c → Prop) : Prop where
  ex : ∃ C f fd ps, c n = some C ∧ Cls K C ∧ Meth K C m f ∧ Binds K fd ps [] ∧ FnOk P w K mg base CX0 k f fd ps (spS K R)
/-- what the head knows of a method -/
structure MethAt (K : PySem.W.Frag) (c : Cl) (n : Int) (m qual : Str) (st : Stmt) (ps : List Str) : Prop where
  ex : ∃ C f fd, c n = some C ∧ Cls K C ∧ Meth K C m f ∧ Fun K m qual st f fd ∧ Binds K fd ps []
theorem mth_ok {P : Program} {w : World} {K : PySem.W.Frag} {mg : Str → Option Value} {base : Heap} {n : Int} {m qual : Str} {st : Stmt} {N ps : List Str} {k : Nat} {R : List (Slot K c) → Slot K c → Prop}
    (F : MethAt K c n m qual st ps) (S : FnScope N ps (defScope st)) (hR : ∀ ss r, R ss r → ss.length = ps.length)
    (body : ∀ (f : Addr) (cdv : Value) (A : Around) (outer : List PySem.Env) (s : Shared) (H : Hp) (E : XK) (ss : List (Slot K c)) (r : Slot K c), R ss r → Bd (bx P w K mg base N qual st f cdv A outer s H E) k →
      DSs (c := c) (bx P w K mg base N qual st f cdv A outer s H E) (G0 N ss) (defBody st) (defEnd r)) : MthOk P w K c mg base n m (k + 1) R := by
  obtain ⟨C, f, fd, h1, h2, h3, h4, h5⟩ := F.ex
  exact ⟨C, f, fd, ps, h1, h2, h3, h5, def_fn h4 S hR (body f)⟩
section
variable {X : Cx} {G : Env X.K c} {a b e o : Expr} {es : List Expr} {pos p apos : Pos} {d d1 d2 : D} {ds : List D} {k : Nat} {x m f : Str} {n : Int} {kvs : List (D × D)}
theorem de_fld {attrs : List Str} (T : ClsAt X.K c n attrs) (ho : DE X G e (obD n kvs)) (hl : fldD kvs f = some d) (hf : f ∈ attrs := by decide) (hb : attributeBase e f X.env (eval e X.env) = eval e X.env := by rfl) : DE X G (.Attribute e f pos) d := by
  obtain ⟨t, q, r⟩ := ho
  obtain ⟨C, h1, h2, h3⟩ := T.ex
  refine ⟨_, pe_fld q hb, fun Z B H σ Q E g => r Z B H σ _ E fun v B' H' e h => ?_⟩
  cases h with
  | ob hx hc ht =>
    rw [h1] at hc
    cases hc
    obtain ⟨v, q1, q2⟩ := tpF_get ht hl
    exact ⟨_, C, _, _, v, rfl, e.sub _ _ hx, h2, h3 f hf, q1, g v B' H' e q2⟩
theorem dx_meth {R : List (Slot X.K c) → Slot X.K c → Prop} {ss : List (Slot X.K c)} {s : Slot X.K c} {pl : Sem Bool} (F : MthOk X.prog X.w X.K c X.mg X.base n m k R) (hr : Room k X.A) (ho : DE X G o (obD n kvs)) (ha : DAs X G (e :: es) ss) (hR : R (sd (obD n kvs) :: ss) s) (hm : fldD kvs m = none := by rfl)
    (hst : starEach (e :: es) X.env = (false, eval e X.env) :: starEach es X.env := by rfl) (hpl : (backTo pos (starEach es X.env)).any (·.1) = false := by rfl)
    (ht : eval (.Call (.Attribute o m apos) (e :: es) [] pos) X.env = (do
      let ov ← eval o X.env
      standAt apos.atName
      let (f, first) ← holding [ov] (getMethod ov m pl)
      callWith pos f first (backTo pos (starEach (e :: es) X.env)) (backToKw pos (keywordEach [] X.env))) := by rfl) : DX X G (.Call (.Attribute o m apos) (e :: es) [] pos) s := by
  obtain ⟨t, q, r⟩ := ho
  obtain ⟨ta, qa, ra⟩ := ha
  obtain ⟨C, f, fd, ps, h1, h2, h3, h4, h5⟩ := F.ex
  refine ⟨_, pe_meth q h2 h3 h5 hr h4 .nil pass0 qa hst hpl ht, fun Z B H σ Q E g => r Z B H σ _ E fun v B' H' e h => ?_⟩
  cases h with
  | ob hx hc hf =>
    rw [h1] at hc
    cases hc
    refine ⟨_, _, _, rfl, e.sub _ _ hx, tpF_none hf hm, ra Z B' H' σ _ (E.ext e) fun vs B2 H2 e2 hv => ?_⟩
    refine ⟨B2, _, s, e2.sub, ?_, hR, gs_ext (e.trans e2) g⟩
    rw [List.append_nil]
    exact .cons ⟨rfl, .ob (e2.b _ _ hx) h1 (TpF.mono e2.b _ _ hf)⟩ hv
theorem dx_meth0 {R : List (Slot X.K c) → Slot X.K c → Prop} {s : Slot X.K c} {pl : Sem Bool} (F : MthOk X.prog X.w X.K c X.mg X.base n m k R) (hr : Room k X.A) (ho : DE X G o (obD n kvs)) (hR : R [sd (obD n kvs)] s) (hm : fldD kvs m = none := by rfl)
    (ht : eval (.Call (.Attribute o m apos) [] [] pos) X.env = (do
      let ov ← eval o X.env
      standAt apos.atName
      let (f, first) ← holding [ov] (getMethod ov m pl)
      callWith pos f first (backTo pos (starEach [] X.env)) (backToKw pos (keywordEach [] X.env))) := by rfl) : DX X G (.Call (.Attribute o m apos) [] [] pos) s := by
  obtain ⟨t, q, r⟩ := ho
  obtain ⟨C, f, fd, ps, h1, h2, h3, h4, h5⟩ := F.ex
  refine ⟨_, pe_meth0 q h2 h3 h5 hr h4 .nil pass0 ht, fun Z B H σ Q E g => r Z B H σ _ E fun v B' H' e h => ?_⟩
  cases h with
  | ob hx hc hf =>
    rw [h1] at hc
    cases hc
    refine ⟨_, _, _, rfl, e.sub _ _ hx, tpF_none hf hm, ?_⟩
    refine ⟨B', _, s, e.sub, ?_, hR, gs_ext e g⟩
    exact .cons ⟨rfl, .ob hx h1 hf⟩ .nil
theorem de_meth {R : List (Slot X.K c) → Slot X.K c → Prop} {ss : List (Slot X.K c)} {pl : Sem Bool} (F : MthOk X.prog X.w X.K c X.mg X.base n m k R) (hr : Room k X.A) (ho : DE X G o (obD n kvs)) (ha : DAs X G (e :: es) ss) (hR : R (sd (obD n kvs) :: ss) (sd d)) (hm : fldD kvs m = none := by rfl)
    (hst : starEach (e :: es) X.env = (false, eval e X.env) :: starEach es X.env := by rfl) (hpl : (backTo pos (starEach es X.env)).any (·.1) = false := by rfl)
    (ht : eval (.Call (.Attribute o m apos) (e :: es) [] pos) X.env = (do
      let ov ← eval o X.env
      standAt apos.atName
      let (f, first) ← holding [ov] (getMethod ov m pl)
      callWith pos f first (backTo pos (starEach (e :: es) X.env)) (backToKw pos (keywordEach [] X.env))) := by rfl) : DE X G (.Call (.Attribute o m apos) (e :: es) [] pos) d := (dx_meth F hr ho ha hR hm hst hpl ht).de
/-- an __init__ that keeps its arguments -/
def spI (K : PySem.W.Frag) (c : Cl) (n : Int) (names : List Str) : Sp := fun vs H Q _ => ∃ (x dx C : Addr) (us : List V), vs = .ref x :: us ∧ us.length = names.length ∧ c n = some C ∧ H x = some (.ins C dx []) ∧ Q .non (upd H x (.ins C dx (names.zip us)))
structure MkOk (P : Program) (w : World) (K : PySem.W.Frag) (c : Cl) (mg : Str → Option Value) (base : Heap) (n : Int) (x : Str) (k : Nat) (names : List Str) : Prop where
  ex : ∃ C f fd ps, c n = some C ∧ mg x = some (.ref C) ∧ Mk K C f ∧ Binds K fd ps [] ∧ FnOk P w K mg base CX0 k f fd ps (spI K c n names)
def zipD : List Str → List D → List (D × D)
  | f :: fs, d :: ds => (.str f, d) :: zipD fs ds
  | _, _ => []
theorem tpF_zip {K : PySem.W.Frag} {B : Hp} : ∀ {names : List Str} {us : List V} {ds : List D}, TpAll K c B us ds → names.length = ds.length → TpF K c B (names.zip us) (zipD names ds)
  | [], _, _, .nil, _ => .nil
  | f :: fs, _, _, .nil, h => by simp at h
  | [], _, _, .cons _ _, h => by simp at h
  | f :: fs, _, _, .cons h t, e => .cons h (tpF_zip t (by simpa using e))
theorem ext_made {B1 H1 : Hp} {x dx C : Addr} {fs : List (Str × V)} (s : Same B1 H1) (nx : H1 x = none) (ndx : H1 dx = none) (ne : dx ≠ x) : Ext B1 H1 (upd B1 x (.ins C dx fs)) (upd (upd (upd H1 dx (.own x)) x (.ins C dx [])) x (.ins C dx fs)) := by
  rw [upd_upd]
  have nb := s.free nx
  refine ⟨same_upd nb, fun a o q => ?_, fun a o q => ?_, fun a h1 h2 => ?_⟩
  · rw [upd_ne (ne_of_none q nx), upd_ne (ne_of_none q ndx)]
    exact q
  · by_cases z : a = x
    · subst z; rw [upd_same] at q ⊢; exact q
    · rw [upd_ne z] at q
      have q' := s a o q
      rw [upd_ne z, upd_ne (ne_of_none q' ndx)]
      exact q'
  · by_cases z : a = x
    · subst z; exact absurd nx h2
    · rw [upd_ne z]; exact h1
theorem de_make {names : List Str} (F : MkOk X.prog X.w X.K c X.mg X.base n x k names) (hr : Room (k + 1) X.A) (ha : DEs X G (e :: es) ds) (hl : names.length = ds.length := by rfl) (hg : Gl X x := by rfl) (hdb : (x == ("__debug__" : Str)) = false := by decide)
    (he : starEach (e :: es) X.env = (false, eval e X.env) :: starEach es X.env := by rfl) (hpl : (backTo pos (starEach es X.env)).any (·.1) = false := by rfl) : DE X G (.Call (.Name x p) (e :: es) [] pos) (obD n (zipD names ds)) := by
  obtain ⟨t, q, r⟩ := ha
  obtain ⟨C, f, fd, ps, h1, h2, h3, h4, h5⟩ := F.ex
  refine ⟨_, pe_make h3 h5 hr hg h2 h4 .nil pass0 q hdb he hpl, fun Z B H σ Q E g => r Z B H σ _ E fun vs B' H' e h => ?_⟩
  intro y dy ny ndy ne
  rw [List.append_nil]
  refine ⟨y, dy, C, vs, rfl, by rw [h.length]; exact hl.symm, h1, upd_same, rfl, ?_⟩
  have ee := ext_made (fs := names.zip vs) (C := C) e.sub ny ndy ne
  exact g _ _ _ (e.trans ee) (.ob upd_same h1 (TpF.mono ee.b _ _ (tpF_zip h hl)))
end
structure MkE (K : PySem.W.Frag) (C : Addr) : Prop where
  makes : PySem.W.makesIn K C = true
  init : PySem.W.findIn K (.ref C) "__init__" = some (some (.builtin "object.__init__"))
  kp : PySem.W.keepIn K (.ref C) = true
structure MkEAt (K : PySem.W.Frag) (c : Cl) (mg : Str → Option Value) (n : Int) (x : Str) : Prop where
  ex : ∃ C, c n = some C ∧ mg x = some (.ref C) ∧ MkE K C
section
open PySem.W
theorem make_mapE {prog : Program} {w : World} {A : Around} {K : Frag} {C : Addr} {s : Shared} {R : Result → Shared → Prop} (X : K.In s.heap) (M : MkE K C)
    (h : R (.ok (.ret (.ref (s.heap.objs.size + 1)))) { s with heap := (s.heap.push PySem.W.emptyDict).push (PySem.W.instObj C s.heap.objs.size) }) : codeAny (model prog w) A (.call (.ref C) ⟨[], []⟩) R s := by
  obtain ⟨hh, g, d, t, os⟩ := s
  have Y := makes_of (M := model prog w) X M.makes
  refine make_core Y (looks_findIn X M.init) (fun self => Looks.of_pure (oi_bind self)) (.inr ⟨rfl, rfl⟩) ?_
  have hx : ((hh.push emptyDict).push (instObj C hh.objs.size)).get? (hh.objs.size + 1) = some (instObj C hh.objs.size) := by heap_get
  have t1 : Looks (model prog w) ((hh.push emptyDict).push (instObj C hh.objs.size)) (typeOf (.ref (hh.objs.size + 1))) (.ref C) := (Looks.ld hx).andThen .now
  have t2 : Looks (model prog w) ((hh.push emptyDict).push (instObj C hh.objs.size)) (isInstance (.ref (hh.objs.size + 1)) (.type "object")) true := t1.andThen (Y.top.keeps fun b o e => Heap.get?_push_of_some _ (Heap.get?_push_of_some _ e))
  refine codeAny_call_builtin oi_plain entry_oi (@check_slot (model prog w) _ _ _ "object.__init__" "object" "__init__" (.ref (hh.objs.size + 1)) [] [] _ oi_kind oi_split t2 (oi_args (.ref (hh.objs.size + 1))) ?_)
  rw [oi_run]
  exact wpAny_pure (And.intro rfl h)
end
def tMakeE (C : Addr) : TE := fun _ H Q => ∀ x dx, H x = none → H dx = none → dx ≠ x → Q (.ref x) (upd (upd H dx (.own x)) x (.ins C dx []))
theorem pe_makeE {X : Cx} {C : Addr} {x : Str} {p pos : Pos} (M : MkE X.K C) (hg : Gl X x) (hm : X.mg x = some (.ref C)) (hdb : (x == ("__debug__" : Str)) = false := by decide) : PE X (.Call (.Name x p) [] [] pos) (tMakeE C) := by
  refine ⟨fun pins s σ H Q I h => ?_⟩
  refine wpAny_Call_Name_kw (ld_glob I hg hm ?_ hdb)
  refine PySem.W.callWith_K0 I.kIn M.kp (wpAny_call (make_mapE I.kIn M ?_))
  exact ⟨V.ref (s.heap.objs.size + 1), _, Inv.made (C := C) I, rfl, h _ _ (I.hok.fresh (Nat.le_succ _)) (I.hok.fresh (Nat.le_refl _)) (Nat.ne_of_lt (Nat.lt_succ_self _))⟩
theorem de_makeE {X : Cx} {G : Env X.K c} {n : Int} {x : Str} {p pos : Pos} (F : MkEAt X.K c X.mg n x) (hg : Gl X x := by rfl) (hdb : (x == ("__debug__" : Str)) = false := by decide) : DE X G (.Call (.Name x p) [] [] pos) (obD n []) := by
  obtain ⟨C, h1, h2, h3⟩ := F.ex
  refine ⟨_, pe_makeE h3 hg h2 hdb, fun Z B H σ Q E g => ?_⟩
  intro y dy ny ndy ne
  have ee := ext_made (fs := []) (C := C) E.sub ny ndy ne
  rw [upd_upd] at ee
  exact g _ _ _ ee (.ob upd_same h1 .nil)
structure IsAt (K : PySem.W.Frag) (c : Cl) (mg : Str → Option Value) (n : Int) (y : Str) (b : Bool) : Prop where
  ex : ∃ C A, c n = some C ∧ mg y = some (.ref A) ∧ Cls K C ∧ PySem.W.findIn K (.ref C) "__class__" = some (some (.builtin "object.__class__")) ∧ PySem.W.specialIn K (.builtin "object.__class__") "__get__" = some (some (.builtin "getset_descriptor.__get__")) ∧
    PySem.W.takesIn K (.builtin "object.__class__") = some true ∧ PySem.W.mroIn K C (.type "object") = some true ∧ PySem.W.kitOne K (.ref C) (.ref A) = some b
theorem de_isC {X : Cx} {G : Env X.K c} {a : Expr} {n : Int} {kvs : List (D × D)} {b : Bool} {y : Str} {p q pos : Pos} (F : IsAt X.K c X.mg n y b) (ha : DE X G a (obD n kvs)) (hm : X.mg "isinstance" = none) (hg : Gl X "isinstance" := by rfl) (hgy : Gl X y := by rfl)
    (hdb : (y == ("__debug__" : Str)) = false := by decide) (he : starEach (a :: [.Name y q]) X.env = (false, eval a X.env) :: starEach [.Name y q] X.env := by rfl)
    (he2 : starEach [.Name y q] X.env = (false, eval (.Name y q) X.env) :: starEach [] X.env := by rfl) (hpl : (backTo pos (starEach [.Name y q] X.env)).any (·.1) = false := by rfl) : DE X G (.Call (.Name "isinstance" p) [a, .Name y q] [] pos) (.bool b) := by
  obtain ⟨t, pa, r⟩ := ha
  obtain ⟨C, A, h1, h2, h3, h4, h5, h6, h7, h8⟩ := F.ex
  refine ⟨_, pe_callB call_isi hg hm (by decide +kernel) (pa_cons pa (pa_cons (pe_glob (v := .ref A) hgy h2 rfl hdb) pa_nil he2) he) (by decide) (by decide) he hpl, fun Z B H σ Q E g => r Z B H σ _ E fun v B' H' e h => ?_⟩
  cases h with
  | ob hx hc hf =>
    rw [h1] at hc
    cases hc
    exact ⟨_, _, _, _, b, rfl, .own A, .base (.ins (e.sub _ _ hx) h3 h4 h5 h6 h7), h8, g _ B' H' e (.bl b)⟩
section
variable {X : Cx} {G : Env X.K c} {a b e : Expr} {es : List Expr} {pos : Pos} {d : D} {ds zs : List D} {k : Nat} {x : Str}
def DL (X : Cx) (G : Env X.K c) (e : Expr) (ds : List D) : Prop :=
  ∃ t, PE X e t ∧ ∀ Z B H σ Q, EnvE G Z B H σ → (∀ v B' H', Ext B H B' H' → (∃ p vs, v = .ref p ∧ Rd H' p (.lst vs) ∧ TpAll X.K c B' vs ds) → Q v H') → t σ H Q
theorem dl_of (h : DE X G e (.list ds)) : DL X G e ds := by
  obtain ⟨t, p, r⟩ := h
  refine ⟨t, p, fun Z B H σ Q E g => r Z B H σ Q E fun v B' H' e h => g v B' H' e ?_⟩
  cases h with
  | lst h1 h2 => exact ⟨_, _, rfl, Same.rd e.sub h1, h2⟩
theorem dl_own (i : Nat) {par : Bool} (hG : G[i]? = some (some (so ds par)) := by rfl) (hN : X.N[i]? = some x := by rfl)
    (hv : Vis X.env.scope x := by first | exact Or.inl rfl | exact Or.inr (Or.inl rfl) | exact Or.inr (Or.inr rfl)) (hd : (x == ("__debug__" : Str)) = false := by decide)
    (hcd : (x == ("__classdict__" : Str)) = false := by decide) : DL X G (.Name x pos) ds :=
  ⟨_, pv i hN hv hd hcd, fun Z B H σ Q E g => by
    obtain ⟨v, fp, h1, p, vs, h0, _, h3, h4, h5⟩ := E.sl i _ hG
    exact ⟨v, h1, g v B H (Ext.refl E.sub) ⟨p, vs, h0, Rd.of h4, h5⟩⟩⟩
theorem dx_cat (ha : DL X G a ds) (hb : DL X G b zs) (hl : ds.length + zs.length ≤ sizeLine) : DX X G (.BinOp a .Add b pos) (so (ds ++ zs)) := by
  obtain ⟨ta, pa, ra⟩ := ha
  obtain ⟨tb, pb, rb⟩ := hb
  refine ⟨_, pe_op op_catR pa pb, fun Z B H σ Q E g => ?_⟩
  refine ra Z B H σ _ E fun v B1 H1 e1 ⟨p, vs, h0, h1, h2⟩ => rb Z B1 H1 σ _ (E.ext e1) fun u B2 H2 e2 ⟨p', us, h3, h4, h5⟩ => ?_
  exact ⟨p, p', vs, us, h0, h3, Same.rd e2.h h1, h4, by rw [h2.length, h5.length]; exact hl, fun q hq => gs_lst e2.sub (gs_ext (e1.trans e2) g) ((TpAll.mono e2.b _ _ h2).append h5) hq⟩
/-- == and != of texts -/
theorem od_eqS {y z : Str} (C : Bd X k) (hy : PyData.strOk y = true := by decide +kernel) (hz : PyData.strOk z = true := by decide +kernel) : OpD c X (compareOp .Eq) (.str y) (.str z) (.bool (decide (y = z))) := by
  have := od_eq (c := c) (d1 := .str y) (d2 := .str z) C (Shp.str 0 y hy) (Shp.str 0 z hz)
  have e : PyData.eqv (.str y) (.str z) = decide (y = z) := by
    simp only [PyData.eqv]
    by_cases h : y = z
    · subst h; simp
    · rw [decide_eq_false h]; exact beq_eq_false_iff_ne.mpr h
  rw [e] at this
  exact this
theorem od_neS {y z : Str} (C : Bd X k) (hy : PyData.strOk y = true := by decide +kernel) (hz : PyData.strOk z = true := by decide +kernel) : OpD c X (compareOp .NotEq) (.str y) (.str z) (.bool (!decide (y = z))) := by
  have := od_ne (c := c) (d1 := .str y) (d2 := .str z) C (Shp.str 0 y hy) (Shp.str 0 z hz)
  have e : PyData.eqv (.str y) (.str z) = decide (y = z) := by
    simp only [PyData.eqv]
    by_cases h : y = z
    · subst h; simp
    · rw [decide_eq_false h]; exact beq_eq_false_iff_ne.mpr h
  rw [e] at this
  exact this
theorem dss_ifT {b : Bool} {body orelse rest : List Stmt} {Ph : Out X.K c → Prop} (hc : DT X G e b) (hb : b = true) (h : DSs X G body (sq X rest Ph)) : DSs X G (.If e body orelse pos :: rest) Ph := dss_if hc (fun _ => h) fun q => by rw [hb] at q; cases q
theorem dss_ifF {b : Bool} {body orelse rest : List Stmt} {Ph : Out X.K c → Prop} (hc : DT X G e b) (hb : b = false) (h : DSs X G orelse (sq X rest Ph)) : DSs X G (.If e body orelse pos :: rest) Ph := dss_if hc (fun q => by rw [hb] at q; cases q) fun _ => h
/-- .. with no else: on to the rest -/
theorem dss_skip {b : Bool} {body rest : List Stmt} {Ph : Out X.K c → Prop} (hc : DT X G e b) (hb : b = false) (h : DSs X G rest Ph) : DSs X G (.If e body [] pos :: rest) Ph := dss_ifF hc hb (dss_nil h)
end
def cutA {α : Type} (l : List α) (lo hi : Option Int) : List α := (l.drop (HT.sIx l.length 0 lo)).take (HT.sIx l.length l.length hi - HT.sIx l.length 0 lo)
theorem cutD_map {α : Type} (f : α → D) (l : List α) (lo hi : Option Int) : cutD (l.map f) lo hi = (cutA l lo hi).map f := by
  unfold cutD cutA
  rw [List.length_map, List.map_take, List.map_drop]
theorem cutA_le {α : Type} (l : List α) (lo hi : Nat) : (cutA l (some (lo : Int)) (some (hi : Int))).length ≤ hi - lo := by
  unfold cutA
  rw [List.length_take, List.length_drop, HT.sIx_nat, HT.sIx_nat]
  omega
theorem cutA_len {α : Type} (l : List α) (lo hi : Option Int) : (cutA l lo hi).length ≤ l.length := by
  unfold cutA
  rw [List.length_take, List.length_drop]
  omega
/-- the i-th item of a mapped list -/
theorem map_at {α : Type} (f : α → D) {l : List α} {i : Nat} {a : α} (h : l[i]? = some a) : (l.map f)[i]?.getD .none = f a := by
  rw [List.getElem?_map, h]
  rfl
theorem at_some {α : Type} {l : List α} {i : Nat} (h : i < l.length) : ∃ a, l[i]? = some a := ⟨l[i], List.getElem?_eq_getElem h⟩
theorem take_at {α : Type} {l : List α} {i : Nat} {a : α} (h : l[i]? = some a) : l.take (i + 1) = l.take i ++ [a] := by
  rw [List.take_succ, h]
  rfl
end Dw
namespace Dw
open PySem L2 PyProof.Rows
theorem allNo_nil {K : PySem.W.Frag} {C : Addr} : ∀ f ∈ ([] : List Str), NoAttr K C f := fun _ h => absurd h List.not_mem_nil
theorem allNo_cons {K : PySem.W.Frag} {C : Addr} {a : Str} {as : List Str} (h : PySem.W.findIn K (.ref C) a = some none) (t : ∀ f ∈ as, NoAttr K C f) : ∀ f ∈ a :: as, NoAttr K C f := fun f hf => by
  rcases List.mem_cons.mp hf with rfl | hf
  · exact h
  · exact t f hf
theorem map_atD {α : Type} (f : α → D) (d : α) {l : List α} {i : Nat} (h : i < l.length) : (l.map f)[i]?.getD .none = f (l.getD i d) := by
  obtain ⟨a, e⟩ := at_some h
  rw [map_at f e, List.getD_eq_getElem?_getD, e]
  rfl
theorem take_atD {α : Type} (d : α) {l : List α} {i : Nat} (h : i < l.length) : l.take (i + 1) = l.take i ++ [l.getD i d] := by
  obtain ⟨a, e⟩ := at_some h
  rw [take_at e, List.getD_eq_getElem?_getD, e]
  rfl
end Dw

namespace Dw
open PySem L2 PyProof.Rows
variable {c : Cl}
/-- what lies where: I B H v fp -/
structure Kind (K : PySem.W.Frag) (c : Cl) where
  I : Hp → Hp → V → List Addr → Prop
  stb : ∀ {B H B' H' : Hp} {v : V} {fp : List Addr}, I B H v fp → Same B B' → (∀ a ∈ fp, H' a = H a) → I B' H' v fp
  dom : ∀ {B H : Hp} {v : V} {fp : List Addr}, I B H v fp → ∀ a ∈ fp, H a ≠ none
def kn {K : PySem.W.Frag} (k : Kind K c) (par : Bool := false) : Slot K c where
  par := par
  P := fun _ B H v fp => k.I B H v fp ∧ ∀ a ∈ fp, B a = none
  stb := fun ⟨h, _⟩ e f g => ⟨k.stb h e g, f⟩
  dom := fun ⟨h, f⟩ a ha => ⟨f a ha, k.dom h a ha⟩
/-- handed in to be read -/
def kb {K : PySem.W.Frag} (k : Kind K c) : Slot K c where
  par := false
  P := fun Z B _ v fp => fp = [] ∧ ∃ fp', k.I B Z v fp'
  stb := fun ⟨h1, fp', h⟩ e _ _ => ⟨h1, fp', k.stb h e fun _ _ => rfl⟩
  dom := fun ⟨h1, _⟩ a h => absurd (h1 ▸ h) List.not_mem_nil
/-- e is a thing of the kind k, to be read -/
def DK (X : Cx) (G : Env X.K c) (e : Expr) (k : Kind X.K c) : Prop :=
  ∃ t, PE X e t ∧ ∀ Z B H σ Q, EnvE G Z B H σ → (∀ v B' H' fp, Ext B H B' H' → k.I B' H' v fp → Q v H') → t σ H Q
section
variable {X : Cx} {G : Env X.K c} {e : Expr} {pos : Pos} {x : Str} {k : Kind X.K c}
theorem dk_own (i : Nat) {par : Bool} (hG : G[i]? = some (some (kn k par)) := by rfl) (hN : X.N[i]? = some x := by rfl)
    (hv : Vis X.env.scope x := by first | exact Or.inl rfl | exact Or.inr (Or.inl rfl) | exact Or.inr (Or.inr rfl)) (hd : (x == ("__debug__" : Str)) = false := by decide)
    (hcd : (x == ("__classdict__" : Str)) = false := by decide) : DK X G (.Name x pos) k :=
  ⟨_, pv i hN hv hd hcd, fun Z B H σ Q E g => by
    obtain ⟨v, fp, h1, h2, _⟩ := E.sl i _ hG
    exact ⟨v, h1, g v B H fp (Ext.refl E.sub) h2⟩⟩
theorem dk_bor (i : Nat) (hG : G[i]? = some (some (kb k)) := by rfl) (hN : X.N[i]? = some x := by rfl)
    (hv : Vis X.env.scope x := by first | exact Or.inl rfl | exact Or.inr (Or.inl rfl) | exact Or.inr (Or.inr rfl)) (hd : (x == ("__debug__" : Str)) = false := by decide)
    (hcd : (x == ("__classdict__" : Str)) = false := by decide) : DK X G (.Name x pos) k :=
  ⟨_, pv i hN hv hd hcd, fun Z B H σ Q E g => by
    obtain ⟨v, fp, h1, _, fp', h2⟩ := E.sl i _ hG
    exact ⟨v, h1, g v B H fp' (Ext.refl E.sub) (k.stb h2 (Same.refl _) fun a ha => Same.ne E.z (k.dom h2 a ha))⟩⟩
theorem dk_x (h : DX X G e (kn k)) : DK X G e k := by
  obtain ⟨t, p, r⟩ := h
  exact ⟨t, p, fun Z B H σ Q E g => r Z B H σ Q E fun v B' H' fp e h hf => g v B' H' fp e (h B).1⟩
theorem DK.da (h : DK X G e k) : DA X G e (kb k) := by
  obtain ⟨t, p, r⟩ := h
  exact ⟨t, p, fun Z B H σ Q E g => r Z B H σ Q E fun v B' H' fp e h => g v B' H' e ⟨rfl, fp, h⟩ fun B2 H2 e2 => ⟨rfl, fp, k.stb h e2.b fun a ha => Same.ne e2.h (k.dom h a ha)⟩⟩
end
/-- B with what H has at fp -/
def layB (B H : Hp) (fp : List Addr) : Hp := fun a => if a ∈ fp then H a else B a
theorem lay_in {B H : Hp} {fp : List Addr} {a : Addr} (h : a ∈ fp) : layB B H fp a = H a := if_pos h
theorem lay_out {B H : Hp} {fp : List Addr} {a : Addr} (h : a ∉ fp) : layB B H fp a = B a := if_neg h
theorem same_lay {B H : Hp} {fp : List Addr} (h : ∀ a ∈ fp, B a = none) : Same B (layB B H fp) := fun a o q => by
  by_cases z : a ∈ fp
  · rw [h a z] at q; cases q
  · rw [lay_out z]; exact q
theorem lay_same {B H : Hp} {fp : List Addr} (s : Same B H) : Same (layB B H fp) H := fun a o q => by
  by_cases z : a ∈ fp
  · rw [lay_in z] at q; exact q
  · rw [lay_out z] at q; exact s a o q
/-- a kind whose things are plain data once they are laid down -/
def Frz {K : PySem.W.Frag} (k : Kind K c) (d : D) : Prop := ∀ B H v fp, k.I B H v fp → (∀ a ∈ fp, B a = none) → Tp K c (layB B H fp) v d
theorem Ext.layF {B H B' H' : Hp} (e : Ext B H B' H') {fp : List Addr} (h : ∀ a ∈ fp, H a = none) (hb : ∀ a ∈ fp, B' a = none) : Ext B H (layB B' H' fp) H' :=
  ⟨e.b.trans (same_lay hb), e.h, lay_same e.sub, fun a h1 h2 => by
    by_cases z : a ∈ fp
    · exact absurd (h a z) h2
    · rw [lay_out z]; exact e.new a h1 h2⟩
section
variable {X : Cx} {G : Env X.K c} {e e2 : Expr} {es : List Expr} {rest body : List Stmt} {Ph : Out X.K c → Prop} {pos pos' : Pos} {d : D} {ds : List D} {x y : Str} {k : Kind X.K c} {n : Nat}
theorem DX.frozenK (h : DX X G e (kn k)) (hf : Frz k d) : DE X G e d := by
  obtain ⟨t, p, r⟩ := h
  refine ⟨t, p, fun Z B H σ Q E g => r Z B H σ Q E fun v B' H' fp e h hn => ?_⟩
  obtain ⟨h1, h2⟩ := h B
  exact g _ _ H' (e.layF hn h2) (hf B' H' v fp h1 h2)
theorem dss_freezeK (i : Nat) (hf : Frz k d) (h : DSs X (G.set i (some (sd d))) rest Ph) (hG : G[i]? = some (some (kn k)) := by rfl) : DSs X G rest Ph := fun F B H σ D S E => by
  obtain ⟨fps, h1, h2⟩ := S.sl
  obtain ⟨v, hv, ⟨q1, q2⟩, hw⟩ := h1 i _ hG
  have hp : ∀ a ∈ fps i, F.H0 a = none := fun a ha => by
    have := hw a ha
    simpa [kn] using this
  have up : Same B (layB B H (fps i)) := same_lay q2
  refine h F (layB B H (fps i)) H σ D ⟨lay_same S.sub, S.b0.trans up, S.zf, S.h0, S.hw, fun a q r => ?_, by rw [List.length_set]; exact S.len, fun j s w q hq hw => ?_, fset fps i [], fun j s q => ?_, fun j l s1 s2 ne r1 r2 a ha hb => ?_⟩ E
  · by_cases z : a ∈ fps i
    · exact absurd (hp a z) r
    · rw [lay_out z]; exact S.new a q r
  · rcases getset q with ⟨rfl, q1, _⟩ | ⟨ne, q⟩
    · cases q1
      cases hq
    · exact S.pn j s w q hq hw
  · rcases getset q with ⟨rfl, e1, _⟩ | ⟨ne, q⟩
    · cases e1
      refine ⟨v, hv, ⟨fset_same, hf B H v (fps i) q1 q2⟩, fun a ha => ?_⟩
      rw [fset_same] at ha
      exact absurd ha List.not_mem_nil
    · obtain ⟨u, r1, r2, r3⟩ := h1 j s q
      refine ⟨u, r1, ?_, fun a ha => ?_⟩
      · rw [fset_ne ne]
        refine s.stb r2 up (fun a ha => ?_) fun a ha => rfl
        rw [lay_out fun z => h2 i j _ s ne hG q a z ha]
        exact (s.dom r2 a ha).1
      · rw [fset_ne ne] at ha
        exact r3 a ha
  · rcases getset r1 with ⟨rfl, _, _⟩ | ⟨n1, r1⟩
    · rw [fset_same] at ha
      exact List.not_mem_nil ha
    · rw [fset_ne n1] at ha
      rcases getset r2 with ⟨rfl, _, _⟩ | ⟨n2, r2⟩
      · rw [fset_same] at hb
        exact List.not_mem_nil hb
      · rw [fset_ne n2] at hb
        exact h2 j l s1 s2 ne r1 r2 a ha hb
/-- a slot is told otherwise -/
theorem StE.cast {F : Ent} {B H : Hp} {σ : Sg} {i : Nat} {s s' : Slot X.K c} (S : StE F G B H σ) (hG : G[i]? = some (some s)) (hp : s'.par = s.par) (h : ∀ Z B H v fp, s.P Z B H v fp → s'.P Z B H v fp) : StE F (G.set i (some s')) B H σ :=
  S.change hG hp fun v fp h1 h2 => ⟨fp, h _ _ _ _ _ h2, fun a ha => .inl ha, fun _ a ha => ha, fun _ _ _ => rfl, fun a ha => (s.dom h2 a ha).2⟩
theorem dss_cast (i : Nat) {s s' : Slot X.K c} (hh : ∀ Z B H v fp, s.P Z B H v fp → s'.P Z B H v fp) (h : DSs X (G.set i (some s')) rest Ph) (hG : G[i]? = some (some s) := by rfl) (hp : s'.par = s.par := by rfl) : DSs X G rest Ph := fun F B H σ D S E => h F B H σ D (S.cast hG hp hh) E
end
inductive RowsAt (K : PySem.W.Frag) (c : Cl) (B H : Hp) : List Addr → List (List D) → Prop
  | nil : RowsAt K c B H [] []
  | cons {q : Addr} {qs : List Addr} {vs : List V} {r : List D} {rs : List (List D)} : H q = some (.lst vs) → TpAll K c B vs r → RowsAt K c B H qs rs → RowsAt K c B H (q :: qs) (r :: rs)
section
variable {K : PySem.W.Frag} {B H B' H' : Hp}
theorem RowsAt.mono (e : Same B B') : ∀ {qs : List Addr} {rs : List (List D)}, RowsAt K c B H qs rs → (∀ a ∈ qs, H' a = H a) → RowsAt K c B' H' qs rs
  | _, _, .nil, _ => .nil
  | _, _, .cons h t r, f => .cons (by rw [f _ List.mem_cons_self]; exact h) (TpAll.mono e _ _ t) (RowsAt.mono e r fun a ha => f a (List.mem_cons_of_mem _ ha))
theorem RowsAt.there : ∀ {qs : List Addr} {rs : List (List D)}, RowsAt K c B H qs rs → ∀ a ∈ qs, H a ≠ none
  | _, _, .cons h _ r, a, ha => by
    rcases List.mem_cons.mp ha with z | z
    · rw [z, h]; exact fun z => nomatch z
    · exact r.there a z
theorem RowsAt.len : ∀ {qs : List Addr} {rs : List (List D)}, RowsAt K c B H qs rs → qs.length = rs.length
  | _, _, .nil => rfl
  | _, _, .cons _ _ r => by simp [r.len]
theorem RowsAt.snoc : ∀ {qs : List Addr} {rs : List (List D)} {q : Addr} {vs : List V} {r : List D}, RowsAt K c B H qs rs → H q = some (.lst vs) → TpAll K c B vs r → RowsAt K c B H (qs ++ [q]) (rs ++ [r])
  | _, _, _, _, _, .nil, h, t => .cons h t .nil
  | _, _, _, _, _, .cons h' t' r', h, t => .cons h' t' (r'.snoc h t)
theorem RowsAt.get : ∀ {qs : List Addr} {rs : List (List D)} {i : Nat} {r : List D}, RowsAt K c B H qs rs → rs[i]? = some r → ∃ q vs, qs[i]? = some q ∧ H q = some (.lst vs) ∧ TpAll K c B vs r
  | _, _, _, _, .nil, e => by simp at e
  | _, _, 0, _, .cons h t _, e => by simp at e; subst e; exact ⟨_, _, rfl, h, t⟩
  | _, _, i + 1, _, .cons _ _ r, e => by simpa using r.get (i := i) (by simpa using e)
/-- one row is changed -/
theorem RowsAt.set : ∀ {qs : List Addr} {rs : List (List D)} {i : Nat} {q : Addr} {vs : List V} {r : List D}, RowsAt K c B H qs rs → qs.Nodup → qs[i]? = some q → TpAll K c B vs r → RowsAt K c B (upd H q (.lst vs)) qs (rs.set i r)
  | _, _, _, _, _, _, .nil, _, e, _ => by simp at e
  | _, _, 0, _, _, _, .cons h t r', nd, e, u => by
    simp at e
    subst e
    refine .cons upd_same u (r'.mono (Same.refl _) fun a ha => upd_ne fun z => ?_)
    exact (List.nodup_cons.mp nd).1 (z ▸ ha)
  | q0 :: qs, _, i + 1, q, _, _, .cons h t r', nd, e, u => by
    have e' : qs[i]? = some q := by simpa using e
    have m := List.mem_of_getElem? e'
    have ne : q0 ≠ q := fun z => (List.nodup_cons.mp nd).1 (by rw [z]; exact m)
    refine .cons (by rw [upd_ne ne]; exact h) t (RowsAt.set r' (List.nodup_cons.mp nd).2 e' u)
theorem RowsAt.tm {Z : Hp} (z : Same H Z) : ∀ {qs : List Addr} {rs : List (List D)}, RowsAt K c B H qs rs → TmAll K c Z B (qs.map V.ref) (rs.map PyData.list)
  | _, _, .nil => .nil
  | _, _, .cons h t r => .cons (.lst (.inl (.inl (z _ _ h))) (TmAll.of t)) (r.tm z)
theorem RowsAt.tp : ∀ {qs : List Addr} {rs : List (List D)}, RowsAt K c B H qs rs → Same B B' → (∀ a ∈ qs, B' a = H a) → TpAll K c B' (qs.map V.ref) (rs.map PyData.list)
  | _, _, .nil, _, _ => .nil
  | _, _, .cons h t r, e, f => .cons (.lst (.inl (by rw [f _ List.mem_cons_self]; exact h)) (TpAll.mono e _ _ t)) (r.tp e fun a ha => f a (List.mem_cons_of_mem _ ha))
end
def kRows {K : PySem.W.Frag} (rs : List (List D)) : Kind K c where
  I := fun B H v fp => ∃ p qs, v = .ref p ∧ fp = p :: qs ∧ H p = some (.lst (qs.map V.ref)) ∧ RowsAt K c B H qs rs ∧ (p :: qs).Nodup
  stb := fun ⟨p, qs, h0, h1, h2, h3, h4⟩ e f => ⟨p, qs, h0, h1, by rw [f p (by rw [h1]; exact List.mem_cons_self)]; exact h2, h3.mono e fun a ha => f a (by rw [h1]; exact List.mem_cons_of_mem _ ha), h4⟩
  dom := fun ⟨p, qs, h0, h1, h2, h3, h4⟩ a ha => by
    rw [h1] at ha
    rcases List.mem_cons.mp ha with z | z
    · rw [z, h2]; exact fun z => nomatch z
    · exact h3.there a z
theorem frz_rows {K : PySem.W.Frag} {rs : List (List D)} : Frz (K := K) (c := c) (kRows rs) (.list (rs.map .list)) := fun B H v fp ⟨p, qs, h0, h1, h2, h3, h4⟩ hb => by
  subst h0 h1
  exact .lst (.inl (by rw [lay_in List.mem_cons_self]; exact h2)) (h3.tp (same_lay hb) fun a ha => lay_in (List.mem_cons_of_mem _ ha))
/-- an empty list as rows -/
theorem rows_nil {K : PySem.W.Frag} : ∀ Z B H v fp, (so (K := K) (c := c) []).P Z B H v fp → (kn (K := K) (c := c) (kRows [])).P Z B H v fp := fun Z B H v fp ⟨p, vs, h0, h1, h3, h4, h5⟩ => by
  cases h5
  exact ⟨⟨p, [], h0, h1, h4, .nil, by simp⟩, fun a ha => by rw [h1] at ha; rw [List.mem_singleton.mp ha]; exact h3⟩
section
variable {X : Cx} {G : Env X.K c} {e e1 e2 : Expr} {es : List Expr} {rest body : List Stmt} {Ph : Out X.K c → Prop} {pos pos' : Pos} {d : D} {ds : List D} {rs : List (List D)} {x y : Str} {k : Nat}
theorem dr_rows (h : DK X G e (kRows rs)) : DR X G e (.list (rs.map .list)) := by
  obtain ⟨t, p, r⟩ := h
  exact ⟨t, p, fun Z B H σ Q E g => r Z B H σ Q E fun v B' H' fp e ⟨p, qs, h0, h1, h2, h3, h4⟩ => g v B' H' e (by subst h0; exact .lst (.inl (.inl h2)) (h3.tm (Same.refl _)))⟩
/-- a thing takes another one into itself -/
theorem StE.merge {F : Ent} {B H H' : Hp} {σ : Sg} {i j : Nat} {s t s' : Slot X.K c} (S : StE F G B H σ) (ne : i ≠ j) (hi : G[i]? = some (some s)) (hj : G[j]? = some (some t)) (hs : s.par = false) (ht : t.par = false) (hs' : s'.par = false)
    (step : ∀ v u fp fq, σ[i]? = some (some v) → σ[j]? = some (some u) → s.P F.Z B H v fp → t.P F.Z B H u fq → (∀ a ∈ fp, a ∉ fq) → s'.P F.Z B H' v (fp ++ fq) ∧ (∀ a, a ∉ fp → H' a = H a) ∧ (∀ a ∈ fp, H' a ≠ none)) : StE F ((G.set i (some s')).set j none) B H' σ := by
  obtain ⟨fps, h1, h2⟩ := S.sl
  obtain ⟨v, hv, p, hw⟩ := h1 i s hi
  obtain ⟨u, hu, q, hw2⟩ := h1 j t hj
  obtain ⟨p', keep, there⟩ := step v u (fps i) (fps j) hv hu p q (h2 i j s t ne hi hj)
  have n1 : ∀ a ∈ fps i, F.H0 a = none := fun a ha => by have := hw a ha; rw [hs] at this; simpa using this
  have n2 : ∀ a ∈ fps j, F.H0 a = none := fun a ha => by have := hw2 a ha; rw [ht] at this; simpa using this
  have gs : ∀ {k : Nat} {r : Slot X.K c}, ((G.set i (some s')).set j none)[k]? = some (some r) → (k = i ∧ r = s') ∨ (k ≠ i ∧ k ≠ j ∧ G[k]? = some (some r)) := fun {k r} e => by
    rcases getset e with ⟨_, z, _⟩ | ⟨n, e⟩
    · cases z
    · rcases getset e with ⟨z, z2, _⟩ | ⟨n', e⟩
      · exact .inl ⟨z.symm, (Option.some.inj z2).symm⟩
      · exact .inr ⟨fun z => n' z.symm, fun z => n z.symm, e⟩
  have kp : ∀ a o, H a = some o → a ∉ fps i → H' a = some o := fun a o e n => by rw [keep a n]; exact e
  have fi : fset (fset fps i (fps i ++ fps j)) j [] i = fps i ++ fps j := by rw [fset_ne (Ne.symm ne), fset_same]
  have fo : ∀ {k : Nat}, k ≠ i → k ≠ j → fset (fset fps i (fps i ++ fps j)) j [] k = fps k := fun h1 h2 => by rw [fset_ne (Ne.symm h2), fset_ne (Ne.symm h1)]
  refine ⟨fun a o e => kp a o (S.sub a o e) fun z => ?_, S.b0, S.zf, fun a o e w => kp a o (S.h0 a o e w) fun z => ?_, fun a w => ?_, S.new, by simp [S.len], fun k r w e hr hw' => ?_, fset (fset fps i (fps i ++ fps j)) j [], fun k r e => ?_, fun k l r1 r2 n e1 e2 a ha hb => ?_⟩
  · rw [(s.dom p a z).1] at e; cases e
  · rw [n1 a z] at e; cases e
  · by_cases z : a ∈ fps i
    · exact there a z
    · rw [keep a z]; exact S.hw a w
  · rcases gs e with ⟨rfl, rfl⟩ | ⟨_, _, e⟩
    · rw [hs'] at hr; cases hr
    · exact S.pn k r w e hr hw'
  · rcases gs e with ⟨z1, z2⟩ | ⟨m1, m2, e⟩
    · subst z1 z2
      refine ⟨v, hv, by rw [fi]; exact p', fun a ha => ?_⟩
      rw [fi] at ha
      rw [hs', if_neg (by decide)]
      exact (List.mem_append.mp ha).elim (n1 a) (n2 a)
    · obtain ⟨y, r1, r2, r3⟩ := h1 k r e
      refine ⟨y, r1, ?_, fun a ha => ?_⟩
      · rw [fo m1 m2]
        exact r.stb r2 (Same.refl _) (fun a ha => (r.dom r2 a ha).1) fun a ha => keep a fun z => h2 i k s r (Ne.symm m1) hi e a z ha
      · rw [fo m1 m2] at ha
        exact r3 a ha
  · rcases gs e1 with ⟨z1, z2⟩ | ⟨m1, m2, e1⟩
    · rcases gs e2 with ⟨z3, z4⟩ | ⟨m3, m4, e2⟩
      · exact n (z1.trans z3.symm)
      · rw [z1, fi] at ha
        rw [fo m3 m4] at hb
        exact (List.mem_append.mp ha).elim (fun z => h2 _ _ _ _ (Ne.symm m3) hi e2 a z hb) fun z => h2 _ _ _ _ (Ne.symm m4) hj e2 a z hb
    · rw [fo m1 m2] at ha
      rcases gs e2 with ⟨z3, z4⟩ | ⟨m3, m4, e2⟩
      · rw [z3, fi] at hb
        exact (List.mem_append.mp hb).elim (fun z => h2 _ _ _ _ m1 e1 hi a ha z) fun z => h2 _ _ _ _ m2 e1 hj a ha z
      · rw [fo m3 m4] at hb
        exact h2 _ _ _ _ n e1 e2 a ha hb
/-- rows.append(row): the row goes into the rows, its name is forgotten -/
theorem dss_rowIn (i j : Nat) {pv1 pv2 pa pc : Pos} (h : DSs X ((G.set i (some (kn (kRows (rs ++ [ds]))))).set j none) rest Ph) (ne : i ≠ j := by decide) (hi : G[i]? = some (some (kn (kRows rs))) := by rfl) (hj : G[j]? = some (some (so ds)) := by rfl) (hl : rs.length < sizeLine)
    (hN : X.N[i]? = some x := by rfl) (hN2 : X.N[j]? = some y := by rfl)
    (hv : Vis X.env.scope x := by first | exact Or.inl rfl | exact Or.inr (Or.inl rfl) | exact Or.inr (Or.inr rfl)) (hd : (x == ("__debug__" : Str)) = false := by decide)
    (hcd : (x == ("__classdict__" : Str)) = false := by decide)
    (hv2 : Vis X.env.scope y := by first | exact Or.inl rfl | exact Or.inr (Or.inl rfl) | exact Or.inr (Or.inr rfl)) (hd2 : (y == ("__debug__" : Str)) = false := by decide)
    (hcd2 : (y == ("__classdict__" : Str)) = false := by decide)
    (hs : starEach [.Name y pv2] X.env = (false, eval (.Name y pv2) X.env) :: starEach [] X.env := by rfl)
    (hbase : attributeBase (.Name x pv1) "append" X.env (eval (.Name x pv1) X.env) = eval (.Name x pv1) X.env := by rfl)
    (hfew : ((backTo pc (starEach (.Name y pv2 :: []) X.env)).all (fun x => !x.1) && (backToKw pc (keywordEach [] X.env)).all (fun x => x.1.isSome)
      && decide ((Expr.Name y pv2 :: []).length + ([] : List Keyword).length + (if ([] : List Keyword).isEmpty then 0 else 1) < 30)) = true := by rfl)
    (hline : (pa.endLine == pc.line) = true := by rfl) (hplain : (backTo pc (starEach [] X.env)).any (·.1) = false := by rfl)
    (hsw : swapsWith (.Call (.Attribute (.Name x pv1) "append" pa) [.Name y pv2] [] pc) none pos.line X.env = pure false := by rfl) :
    DSs X G (.Expr (.Call (.Attribute (.Name x pv1) "append" pa) [.Name y pv2] [] pc) pos :: rest) Ph := fun F B H σ D S E => by
  obtain ⟨fps, h1, h2⟩ := S.sl
  obtain ⟨v, hσ, ⟨⟨p, qs, rfl, e1, e2, e3, e4⟩, e5⟩, _⟩ := h1 i _ hi
  obtain ⟨u, hσ2, ⟨q, vs, rfl, f1, f2, f3, f4⟩, _⟩ := h1 j _ hj
  refine wp_of (pss_cons (ps_expr (pe_bm PySem.F.plainAttrs_list PySem.F.slot_list_append PySem.F.type_list_append mt_append (pv i hN hv hd hcd) (pa_cons (pv j hN2 hv2 hd2 hcd2) pa_nil hs) hbase hfew hline hs hplain) hsw) pss_wp) ?_
  refine ⟨_, hσ, Or.inl ⟨rfl, _, Or.inl (Or.inl e2)⟩, _, hσ2, ?_⟩
  refine ⟨p, qs.map V.ref, .ref q, rfl, rfl, e2, by rw [List.length_map, e3.len]; exact hl, ?_⟩
  refine h F B _ σ D (S.merge ne hi hj rfl rfl rfl fun v u fp fq a1 a2 ⟨⟨p', qs', b0, b1, b2, b3, b4⟩, b5⟩ ⟨q', vs', c0, c1, c3, c4, c5⟩ dj => ?_) E
  rw [hσ] at a1
  rw [hσ2] at a2
  cases a1
  cases a2
  cases b0
  cases c0
  rw [b2] at e2
  have e2' : qs'.map V.ref = qs.map V.ref := by injection (Option.some.inj e2)
  have qpn : q ∉ p :: qs' := fun z => dj q (by rw [b1]; exact z) (by rw [c1]; exact List.mem_singleton.mpr rfl)
  have pq : ∀ a, a ∈ qs' ++ [q] → a ≠ p := fun a ha z => by
    subst z
    rcases List.mem_append.mp ha with z | z
    · exact (List.nodup_cons.mp b4).1 z
    · exact qpn (by rw [List.mem_singleton.mp z]; exact List.mem_cons_self)
  refine ⟨⟨⟨p, qs' ++ [q], rfl, by rw [b1, c1]; rfl, by rw [upd_same, ← e2', List.map_append]; rfl, ?_, ?_⟩, fun a ha => ?_⟩, fun a ha => ?_, fun a ha => ?_⟩
  · refine RowsAt.snoc (b3.mono (Same.refl _) fun a ha => upd_ne (pq a (List.mem_append_left _ ha))) ?_ c5
    rw [upd_ne (pq q (List.mem_append_right _ (List.mem_singleton.mpr rfl)))]
    exact c4
  · rw [← List.cons_append]
    refine List.nodup_append.mpr ⟨b4, by simp, fun a ha b hb => ?_⟩
    rw [List.mem_singleton.mp hb]
    exact fun z => qpn (z ▸ ha)
  · rcases List.mem_append.mp ha with z | z
    · exact b5 a z
    · rw [c1] at z
      rw [List.mem_singleton.mp z]
      exact c3
  · rw [upd_ne]
    exact fun z => ha (by rw [b1, z]; exact List.mem_cons_self)
  · by_cases z : a = p
    · rw [z, upd_same]; exact fun z => nomatch z
    · rw [upd_ne z]
      rw [b1] at ha
      exact b3.there a ((List.mem_cons.mp ha).resolve_left z)
end
end Dw

namespace Dw
open PySem L2 PyProof.Rows
variable {c : Cl}
theorem ixN_at {α : Type} {xs : List α} {i : Int} {j : Nat} (h : ixN xs.length i = some j) : atI xs i = xs[j]? := by
  unfold atI
  rw [h]
  rfl
section
variable {X : Cx} {G : Env X.K c} {e ei ej : Expr} {es : List Expr} {rest body : List Stmt} {Ph : Out X.K c → Prop} {pos pos' pp p2 : Pos} {d : D} {ds r : List D} {rs : List (List D)} {x y : Str} {k : Nat}
/-- rows[a][b] = e -/
theorem dss_cell (i : Nat) {a b : Int} {m n : Nat} (he : DE X G e d) (hi : DE X G ei (.int a)) (hj : DE X G ej (.int b)) (ha : ixN rs.length a = some m) (hr : rs[m]? = some r) (hb : ixN r.length b = some n) (h : DSs X (G.set i (some (kn (kRows (rs.set m (r.set n d)))))) rest Ph)
    (hG : G[i]? = some (some (kn (kRows rs))) := by rfl) (hN : X.N[i]? = some x := by rfl)
    (hv : Vis X.env.scope x := by first | exact Or.inl rfl | exact Or.inr (Or.inl rfl) | exact Or.inr (Or.inr rfl)) (hd : (x == ("__debug__" : Str)) = false := by decide)
    (hcd : (x == ("__classdict__" : Str)) = false := by decide) (hpi : PlainIx ei := by exact fun _ _ => rfl)
    (has : ∀ v, assign (.Subscript (.Subscript (.Name x pos') ei p2) ej pp) X.env v = (do
      let ov ← holding [v] (eval (.Subscript (.Name x pos') ei p2) X.env)
      let iv ← holding [v, ov] (eval ej X.env)
      standAt pp
      holding [v, ov, iv] (setItem ov iv v)
      release [v, ov, iv] []) := by intro _; rfl)
    (hs : swapsWithSole [.Subscript (.Subscript (.Name x pos') ei p2) ej pp] e pos.line X.env = pure false := by rfl) (hw : swappedStores [.Subscript (.Subscript (.Name x pos') ei p2) ej pp] e X.env = pure none := by rfl)
    (h1 : (assignEach [.Subscript (.Subscript (.Name x pos') ei p2) ej pp] X.env).map (·.2) = [assign (.Subscript (.Subscript (.Name x pos') ei p2) ej pp) X.env] := by rfl) :
    DSs X G (.Assign [.Subscript (.Subscript (.Name x pos') ei p2) ej pp] e pos :: rest) Ph := fun F B H σ D S E => by
  obtain ⟨te, pe, re⟩ := he
  obtain ⟨ti, pi, ri⟩ := hi
  obtain ⟨tj, pj, rj⟩ := hj
  refine wp_of (pss_cons (ps_asg pe (pg_sub (pe_ix ix_list (pv i hN hv hd hcd) pi hpi) pj set_list has) hs hw h1) pss_wp) ?_
  refine re F.Z B H σ _ S.env fun v B1 H1 e1 q1 => ?_
  have S1 := S.ext e1
  obtain ⟨fps, s1, s2⟩ := S1.sl
  obtain ⟨u, hσ, ⟨⟨p, qs, z0, z1, z2, z3, z4⟩, z5⟩, z6⟩ := s1 i _ hG
  subst z0
  obtain ⟨q, vs, g1, g2, g3⟩ := z3.get hr
  refine ⟨_, hσ, ri F.Z B1 H1 σ _ S1.env fun w B2 H2 e2 q2 => ?_⟩
  cases q2
  have lq : ixN (qs.map V.ref).length a = some m := by rw [List.length_map, z3.len]; exact ha
  refine ⟨p, qs.map V.ref, a, .ref q, rfl, rfl, .inl (.inl (e2.h _ _ z2)), by rw [ixN_at lq, List.getElem?_map, g1]; rfl, ?_⟩
  refine rj F.Z B2 H2 σ _ (S1.ext e2).env fun w B3 H3 e3 q3 => ?_
  cases q3
  have e13 := e2.trans e3
  have S3 := S1.ext e13
  refine ⟨q, vs, b, n, rfl, rfl, e13.h _ _ g2, by rw [g3.length]; exact hb, ?_⟩
  refine h F B3 (upd H3 q (.lst (vs.set n v))) σ D (S3.change hG rfl fun v' fp a1 a2 => ?_) E
  rw [hσ] at a1
  cases a1
  obtain ⟨⟨p', qs', b0, b1, b2, b3, b4⟩, b5⟩ := a2
  cases b0
  have e' : qs'.map V.ref = qs.map V.ref := by
    have := (e13.h _ _ z2).symm.trans b2
    injection (Option.some.inj this) with z
    exact z.symm
  have e'' : qs' = qs := by
    have := congrArg (List.map fun v => match v with | V.ref a => a | _ => 0) e'
    simpa [List.map_map, Function.comp_def] using this
  subst e''
  have nd := List.nodup_cons.mp b4
  have mq := List.mem_of_getElem? g1
  have pq : p ≠ q := fun z => nd.1 (by rw [z]; exact mq)
  refine ⟨fp, ⟨⟨p, qs', rfl, b1, by rw [upd_ne pq]; exact b2, ?_, b4⟩, b5⟩, fun a h => .inl h, fun _ a h => h, fun a h1 h2 => upd_ne fun z => h1 (by rw [b1, z]; exact List.mem_cons_of_mem _ mq), fun a h => ?_⟩
  · exact b3.set nd.2 g1 ((TpAll.mono e13.b _ _ g3).set n (Tp.mono e13.b _ _ q1))
  · by_cases z : a = q
    · rw [z, upd_same]; exact fun z => nomatch z
    · rw [upd_ne z]
      rw [b1] at h
      rcases List.mem_cons.mp h with z | z
      · rw [z, b2]; exact fun z => nomatch z
      · exact b3.there a z
end
theorem tmAll_bls {K : PySem.W.Frag} {Z B : Hp} : ∀ {bs : List Bool} {vs : List V}, TmAll K c Z B vs (bs.map PyData.bool) → vs = bs.map V.bl
  | [], _, h => by cases h; rfl
  | b :: bs, _, h => by
    cases h with
    | cons h1 h2 =>
      have e := tmAll_bls h2
      cases h1 with
      | of h1 => cases h1; rw [e]; rfl
theorem cd_all {X : Cx} {k : Nat} (C : Bd X k) (bs : List Bool) : CallD c X (.builtin "all") [.list (bs.map .bool)] (.bool (bs.all id)) := ⟨_, cr_all C.calm, fun B H xs Q s h g => by
  cases h with
  | cons h1 h2 =>
    cases h2
    obtain ⟨a, vs, rfl, hs, ha⟩ := h1.seq s
    have e := tmAll_bls ha
    subst e
    exact ⟨a, bs, rfl, hs, gv_of s g (.bl _)⟩⟩
section
variable {X : Cx} {G : Env X.K c} {tg e elt iter : Expr} {pos p : Pos} {k : Nat} {scope : Scope} {own : List (Str × Nat)}
theorem RowsAt.ext {K : PySem.W.Frag} {B H B' H' : Hp} (e : Ext B H B' H') {qs : List Addr} {rs : List (List D)} (h : RowsAt K c B H qs rs) : RowsAt K c B' H' qs rs := h.mono e.b fun a ha => Same.ne e.h (h.there a ha)
theorem dlc_Rows (C : Bd X k) {n : Nat} {g : Nat → Slot X.K c} (hi : DI X G tg iter n g) (ok : BlkOk X.N X.env.scope scope own) {is : List Nat} (his : ∀ i ∈ is, i ∈ own.map (·.2)) (I' : Nat → Env X.K c) (f : Nat → List D) (hz : n < sizeLine)
    (hl : G.length = X.N.length)
    (hg : ∀ j : BI, ∀ i, i < n → DG (c := c) (bY X scope j) tg is (g i) (wipeG G (own.map (·.2))) (I' i))
    (he : ∀ j : BI, ∀ i, i < n → DX (c := c) (bY X scope j) (I' i) elt (so (f i))) : DLc X G elt tg iter [] scope (kn (kRows ((List.range n).map f))) := by
  obtain ⟨wi, pi, ri⟩ := hi
  let gw : TG := fun v σ H1 Q => ∀ j : BI, ∀ pins s' u, Inv (bY X scope j) pins σ H1 s' → RelV v u → wpAny (model X.prog X.w) X.A (assign tg (bY X scope j).env u) (fun _ s2 => ∃ σ' H', Inv (bY X scope j) pins σ' H' s2 ∧ Q σ' H') (fun _ _ => False) s'
  let ew : TE := fun σ H1 Q => ∀ j : BI, ∀ pins s', Inv (bY X scope j) pins σ H1 s' → wpAny (model X.prog X.w) X.A (eval elt (bY X scope j).env) (EP (bY X scope j) pins σ Q) (fun _ _ => False) s'
  have pg : ∀ (s : Shared) (H : Hp) (C : Addr) (cl : List (Str × Addr)) (fp : List Addr), PG (X.blk s H scope (compEnvC scope cl C X.env) fp) tg gw := fun s H C cl fp => ⟨fun pins s' σ H v u Q I r h => h (s, _, C, cl, fp) pins s' u I r⟩
  have pe : ∀ (s : Shared) (H : Hp) (C : Addr) (cl : List (Str × Addr)) (fp : List Addr), PE (X.blk s H scope (compEnvC scope cl C X.env) fp) elt ew := fun s H C cl fp => ⟨fun pins s' σ H Q I h => h (s, _, C, cl, fp) pins s' I⟩
  refine ⟨own, wi, gw, _, ew, pi, ok, pg, fun s H C cl fp => pts_nil, pe, fun Z B H σ Q E gs => ri Z B H σ _ E fun J B1 H1 e1 w D hD => ?_⟩
  have E1 := E.ext e1
  refine ⟨fun i m H2 => m = n - i ∧ i ≤ n ∧ ∃ B2 qs, Ext B1 H1 B2 H2 ∧ B2 D = none ∧ H2 D = some (.lst (qs.map V.ref)) ∧ RowsAt X.K c B2 H2 qs ((List.range i).map f) ∧ (D :: qs).Nodup ∧ (∀ a ∈ qs, H1 a = none ∧ B2 a = none), ⟨n, by simp, Nat.zero_le _, B1, [], Ext.layH e1.sub _ hD, e1.sub.free hD, upd_same, .nil, by simp, fun a ha => absurd ha List.not_mem_nil⟩, ?_⟩
  rintro i m H2 ⟨rfl, hi, B2, qs, e2, d1, d2, d3, d4, d5⟩
  by_cases hlt : i < n
  · have wk := (w i B2 H2 e2.b e2.sub ((E1.ext e2).z)).1 hlt
    refine .inr ⟨wk.1, fun H' => ∃ B2 qs, Ext B1 H1 B2 H' ∧ B2 D = none ∧ H' D = some (.lst (qs.map V.ref)) ∧ RowsAt X.K c B2 H' qs ((List.range (i + 1)).map f) ∧ (D :: qs).Nodup ∧ (∀ a ∈ qs, H1 a = none ∧ B2 a = none), fun H' q => ⟨n - (i + 1), by omega, rfl, hlt, q⟩, fun x H3 y => ?_⟩
    obtain ⟨B3, e3, hx⟩ := wk.2 x H3 y
    have E3 := envE_wipe (E1.ext (e2.trans e3)) (own.map (·.2))
    intro j pins s' u Iv rv
    obtain ⟨gt, pg', rg⟩ := hg j i hlt
    refine pg'.run pins s' _ _ x u _ Iv rv (rg Z B3 H3 _ x _ E3.sub E3.z ?_ hx fun σ2 bd => ⟨?_, ?_⟩)
    · rw [wipe_length, wipeG_len, hl]
      have := Iv.len
      rw [wipe_length] at this
      exact this
    · exact wipe_eq (by rw [bd.ls, wipe_length]) his fun j' hj => (bd.un j' hj).2
    · have E4 := envE_bound E3 bd
      refine (show ew σ2 H3 _ from ?_)
      intro j3 pins3 s3 Iv3
      obtain ⟨te, pe', re⟩ := he j3 i hlt
      refine pe'.run pins3 s3 σ2 H3 _ Iv3 (re Z B3 H3 σ2 _ E4 fun y B6 H6 fp e6 hy hf => ?_)
      obtain ⟨q, vs, y0, y1, y3, y4, y5⟩ := hy B
      subst y0
      have hq3 := hf q (by rw [y1]; exact List.mem_singleton.mpr rfl)
      have hD3 : H3 D ≠ none := by rw [e3.h _ _ d2]; exact fun z => nomatch z
      have e36 := e3.trans e6
      have e16 := e2.trans e36
      have d2' := e36.h _ _ d2
      have dB6 : B6 D = none := e36.new D d1 (by rw [d2]; exact fun z => nomatch z)
      have nqD : q ≠ D := fun z => hD3 (z ▸ hq3)
      have dq : ∀ a ∈ qs, a ≠ D ∧ a ≠ q := fun a ha => ⟨fun z => (List.nodup_cons.mp d4).1 (z ▸ ha), fun z => d3.there a ha (e3.h.free (z ▸ hq3))⟩
      refine ⟨qs.map V.ref, d2', by rw [List.length_map, d3.len, List.length_map, List.length_range]; omega, B6, qs ++ [q], ⟨e16.b, fun a o r => ?_, fun a o r => ?_, e16.new⟩, dB6, by rw [upd_same, List.map_append]; rfl, ?_, ?_, fun a ha => ?_⟩
      · have : a ≠ D := ne_of_none r hD
        rw [upd_ne this]
        exact e16.h a o r
      · have : a ≠ D := ne_of_none r dB6
        rw [upd_ne this]
        exact e6.sub a o r
      · rw [List.range_succ, List.map_append]
        refine RowsAt.snoc ((d3.ext e36).mono (Same.refl _) fun a ha => upd_ne (dq a ha).1) ?_ y5
        rw [upd_ne nqD]
        exact y4
      · rw [← List.cons_append]
        refine List.nodup_append.mpr ⟨d4, by simp, fun a ha b hb => ?_⟩
        rw [List.mem_singleton.mp hb]
        rcases List.mem_cons.mp ha with z | z
        · rw [z]; exact fun z => nqD z.symm
        · exact (dq a z).2
      · rcases List.mem_append.mp ha with z | z
        · exact ⟨(d5 a z).1, e36.new a (d5 a z).2 (d3.there a z)⟩
        · rw [List.mem_singleton.mp z]
          exact ⟨e2.h.free (e3.h.free hq3), y3⟩
  · have en : i = n := by omega
    subst en
    refine .inl ⟨(w i B2 H2 e2.b e2.sub ((E1.ext e2).z)).2 (Nat.le_refl _), gs _ B2 H2 (D :: qs) (e1.trans e2) (fun _ => ⟨⟨D, qs, rfl, rfl, d2, d3, d4⟩, fun a ha => ?_⟩) fun a ha => ?_⟩
    · rcases List.mem_cons.mp ha with z | z
      · rw [z]; exact d1
      · exact (d5 a z).2
    · rcases List.mem_cons.mp ha with z | z
      · rw [z]; exact e1.h.free hD
      · exact e1.h.free (d5 a z).1
theorem dx_lcRows (C : Bd X k) {n : Nat} {g : Nat → Slot X.K c} (hi : DI X G tg iter n g) (ok : BlkOk X.N X.env.scope scope own) {is : List Nat} (his : ∀ i ∈ is, i ∈ own.map (·.2)) (I' : Nat → Env X.K c) (f : Nat → List D) (hz : n < sizeLine)
    (hl : G.length = X.N.length)
    (hg : ∀ j : BI, ∀ i, i < n → DG (c := c) (bY X scope j) tg is (g i) (wipeG G (own.map (·.2))) (I' i))
    (he : ∀ j : BI, ∀ i, i < n → DX (c := c) (bY X scope j) (I' i) elt (so (f i)))
    (hs : ∀ x, foldedSetIterable iter X.env x = pure x := by intro _; rfl) : DX X G (.ListComp elt [⟨tg, iter, [], 0⟩] scope pos) (kn (kRows ((List.range n).map f))) := (dlc_Rows C hi ok his I' f hz hl hg he).dx C hs
end
end Dw

namespace Dw
open PySem L2 PyProof.Rows
variable {c : Cl}
/-- an object under way, its fields plain data -/
def kIns {K : PySem.W.Frag} (n : Int) (kvs : List (D × D)) : Kind K c where
  I := fun B H v fp => ∃ x dx C fs, v = .ref x ∧ fp = [x] ∧ c n = some C ∧ H x = some (.ins C dx fs) ∧ TpF K c B fs kvs
  stb := fun ⟨x, dx, C, fs, h0, h1, h2, h3, h4⟩ e f => ⟨x, dx, C, fs, h0, h1, h2, by rw [f x (by rw [h1]; exact List.mem_cons_self)]; exact h3, TpF.mono e _ _ h4⟩
  dom := fun ⟨x, dx, C, fs, h0, h1, h2, h3, h4⟩ a ha => by
    rw [h1] at ha
    rw [List.mem_singleton.mp ha, h3]
    exact fun z => nomatch z
/-- what __init__ promises: R: the arguments' slots, the fields that come of them -/
def spN (K : PySem.W.Frag) (c : Cl) (n : Int) (R : List (Slot K c) → List (D × D) → Prop) : Sp := fun vs H Q _ => ∃ (B Z : Hp) (x dx C : Addr) (us : List V) (ss : List (Slot K c)) (kvs : List (D × D)), vs = .ref x :: us ∧ c n = some C ∧ H x = some (.ins C dx []) ∧ B x = none ∧
  Same B H ∧ Same Z H ∧ Z x = none ∧ SlAll Z B H us ss ∧ R ss kvs ∧
  ∀ B' H' dx' fs, Same B B' → Same B' H' → (∀ a o, H a = some o → a ≠ x → H' a = some o) → (∀ a, B a = none → H a ≠ none → B' a = none) → H' x = some (.ins C dx' fs) → TpF K c B' fs kvs → Q .non H'
structure NewOk (P : Program) (w : World) (K : PySem.W.Frag) (c : Cl) (mg : Str → Option Value) (base : Heap) (n : Int) (x : Str) (k : Nat) (R : List (Slot K c) → List (D × D) → Prop) : Prop where
  ex : ∃ C f fd ps, c n = some C ∧ mg x = some (.ref C) ∧ Mk K C f ∧ Binds K fd ps [] ∧ FnOk P w K mg base CX0 k f fd ps (spN K c n R)
def fp1 (x : Addr) : Nat → List Addr
  | 0 => [x]
  | _ + 1 => []
def newEnd {K : PySem.W.Frag} (n : Int) (kvs : List (D × D)) : Out K c → Prop
  | .nx G => G[0]? = some (some (kn (kIns n kvs) true))
  | _ => False
theorem ste_new {K : PySem.W.Frag} {N : List Str} {B H Z : Hp} {x dx C : Addr} {us : List V} {ss : List (Slot K c)} {n : Int} (hc : c n = some C) (hx : H x = some (.ins C dx [])) (bx' : B x = none) (sb : Same B H) (sz : Same Z H) (zx : Z x = none) (h : SlAll Z B H us ss) (hl : ss.length + 1 ≤ N.length) :
    StE ⟨fun a => a = x, B, H, Z, fun i => (L2.start N (.ref x :: us))[i]?.getD none⟩ (G0 N (kn (kIns n []) true :: ss)) B H (L2.start N (.ref x :: us)) := by
  have el := h.length
  have sl : ∀ i s, (G0 N (kn (K := K) (c := c) (kIns n []) true :: ss))[i]? = some (some s) → (i = 0 ∧ s = kn (kIns n []) true) ∨ ∃ j, i = j + 1 ∧ ss[j]? = some s := fun i s q => by
    unfold G0 at q
    by_cases hi : i < (kn (K := K) (c := c) (kIns n []) true :: ss).length
    · rw [List.getElem?_append_left (by simpa using hi), List.getElem?_map] at q
      cases i with
      | zero => exact .inl ⟨rfl, by simpa using q.symm⟩
      | succ j =>
        rw [List.getElem?_cons_succ] at q
        cases e : ss[j]? with
        | none => rw [e] at q; cases q
        | some s' => rw [e] at q; cases q; exact .inr ⟨j, rfl, e⟩
    · rw [List.getElem?_append_right (by simpa using hi), List.getElem?_replicate] at q
      split at q <;> cases q
  refine ⟨sb, Same.refl _, fun a o q => ⟨sz a o q, fun z => by
      have q : Z a = some o := q
      have z : a = x := z
      rw [z, zx] at q
      cases q⟩, fun a o q _ => q, fun a w => (by rw [show a = x from w, hx]; exact (fun z => nomatch z)), fun a q _ => q, ?_, fun i s v _ _ hv => by show (L2.start N (.ref x :: us))[i]?.getD none = some v; rw [hv]; rfl,
    fp1 x, fun i s q => ?_, fun i j s s' ne _ _ a ha hb => ?_⟩
  · simp [L2.start, G0, el]
  · rcases sl i s q with ⟨rfl, rfl⟩ | ⟨j, rfl, e⟩
    · refine ⟨.ref x, ?_, ?_, fun a ha => ?_⟩
      · unfold L2.start
        rw [List.getElem?_append_left (by simp)]
        rfl
      · exact ⟨⟨x, dx, C, [], rfl, rfl, hc, hx, .nil⟩, fun a ha => by rw [List.mem_singleton.mp ha]; exact bx'⟩
      · exact List.mem_singleton.mp ha
    · obtain ⟨v, h1, h2⟩ := h.get e
      have hj : j < us.length := (List.getElem?_eq_some_iff.mp h1).1
      refine ⟨v, ?_, h2, fun a ha => absurd ha List.not_mem_nil⟩
      unfold L2.start
      rw [List.getElem?_append_left (by simp; omega), List.getElem?_map, List.getElem?_cons_succ, h1]
      rfl
  · match i, j, ne, ha, hb with
    | 0, 0, ne, _, _ => exact ne rfl
    | 0, _ + 1, _, _, hb => exact List.not_mem_nil hb
    | _ + 1, _, _, ha, _ => exact List.not_mem_nil ha
theorem new_fn {P : Program} {w : World} {K : PySem.W.Frag} {mg : Str → Option Value} {base : Heap} {x qual : Str} {st : Stmt} {f : Addr} {fd : FuncData} {N ps : List Str} {k : Nat} {n : Int} {R : List (Slot K c) → List (D × D) → Prop}
    (F : Fun K x qual st f fd) (S : FnScope N ps (defScope st)) (hR : ∀ ss kvs, R ss kvs → ss.length + 1 = ps.length)
    (body : ∀ (cdv : Value) (A : Around) (outer : List PySem.Env) (s : Shared) (H : Hp) (E : XK) (ss : List (Slot K c)) (kvs : List (D × D)), R ss kvs → Bd (bx P w K mg base N qual st f cdv A outer s H E) k →
      DSs (c := c) (bx P w K mg base N qual st f cdv A outer s H E) (G0 N (kn (kIns n []) true :: ss)) (defBody st) (newEnd n kvs)) : FnOk P w K mg base CX0 (k + 1) f fd ps (spN K c n R) := by
  refine F.ok S (fun vs H Q E h => ?_) fun cdv A outer s H vs Q E hr h => ?_
  · obtain ⟨B, Z, x, dx, C, us, ss, kvs, rfl, _, _, _, _, _, _, h, hq, _⟩ := h
    rw [List.length_cons, h.length]
    exact hR ss kvs hq
  · obtain ⟨B, Z, x, dx, C, us, ss, kvs, rfl, hc, hx, bx', sb, sz, zx, h, hq, g⟩ := h
    have hl : ss.length + 1 ≤ N.length := by
      rw [hR ss kvs hq]
      have := congrArg List.length S.pre
      rw [List.length_take] at this
      omega
    have el := h.length
    have S0 := ste_new (N := N) (n := n) hc hx bx' sb sz zx h hl
    refine ⟨_, pss_wp, body cdv A outer s H E ss kvs hq ⟨S.nd, rfl, hr, PassesOwn.never⟩ _ B H _ _ S0 ⟨fun G B' H' σ T e => ?_, fun G B' H' σ T e => e.elim, fun G B' H' σ T e => e.elim, fun u G B' H' σ v fp T p hf e => e.elim, _, takes0N, fun cls G B' H' σ T e => e.elim⟩⟩
    have e : G[0]? = some (some (kn (kIns n kvs) true)) := e
    obtain ⟨fps, h1, _⟩ := T.sl
    obtain ⟨v, hv, ⟨⟨x', dx', C', fs, e0, e1, e2, e3, e4⟩, _⟩, _⟩ := h1 0 _ e
    have pv0 := T.pn 0 _ v e rfl hv
    have pv1 : (L2.start N (.ref x :: us))[0]?.getD none = some v := pv0
    unfold L2.start at pv1
    rw [List.getElem?_append_left (by simp)] at pv1
    have ev : V.ref x = v := Option.some.inj pv1
    rw [e0] at ev
    cases ev
    rw [hc] at e2
    cases e2
    exact g B' H' dx' fs T.b0 T.sub (fun a o q ne => T.h0 a o q ne) (fun a q q' => T.new a q q') e3 e4
section
variable {X : Cx} {G : Env X.K c} {a b e o : Expr} {es : List Expr} {rest : List Stmt} {Ph : Out X.K c → Prop} {pos pos' p apos : Pos} {d : D} {ds : List D} {k : Nat} {x m f : Str} {n : Int} {kvs : List (D × D)}
/-- C(..), its __init__ reckons -/
theorem de_new {R : List (Slot X.K c) → List (D × D) → Prop} {ss : List (Slot X.K c)} (F : NewOk X.prog X.w X.K c X.mg X.base n x k R) (hr : Room (k + 1) X.A) (ha : DAs X G (e :: es) ss) (hR : R ss kvs) (hg : Gl X x := by rfl) (hdb : (x == ("__debug__" : Str)) = false := by decide)
    (he : starEach (e :: es) X.env = (false, eval e X.env) :: starEach es X.env := by rfl) (hpl : (backTo pos (starEach es X.env)).any (·.1) = false := by rfl) : DE X G (.Call (.Name x p) (e :: es) [] pos) (obD n kvs) := by
  obtain ⟨t, q, r⟩ := ha
  obtain ⟨C, f, fd, ps, h1, h2, h3, h4, h5⟩ := F.ex
  refine ⟨_, pe_make h3 h5 hr hg h2 h4 .nil pass0 q hdb he hpl, fun Z B H σ Q E g => r Z B H σ _ E fun vs B' H' e h => ?_⟩
  intro y dy ny ndy ne
  rw [List.append_nil]
  have s1 : Same H' (upd (upd H' dy (.own y)) y (.ins C dy [])) := fun a o q => by
    rw [upd_ne (ne_of_none q ny), upd_ne (ne_of_none q ndy)]
    exact q
  refine ⟨B', H', y, dy, C, vs, ss, kvs, rfl, h1, upd_same, e.sub.free ny, e.sub.trans s1, s1, ny, ?_, hR, fun B2 H2 dx' fs b1 b2 b3 b4 b5 b6 => ?_⟩
  · have up : ∀ {vs : List V} {ss : List (Slot X.K c)}, SlAll H' B' H' vs ss → SlAll H' B' (upd (upd H' dy (.own y)) y (.ins C dy [])) vs ss := by
      intro vs ss h
      induction h with
      | nil => exact .nil
      | cons h1 _ ih => exact .cons (Slot.stb _ h1 (Same.refl _) (fun a ha => absurd ha List.not_mem_nil) fun a ha => absurd ha List.not_mem_nil) ih
    exact up h
  · have b2y : B2 y = none := b4 y (e.sub.free ny) (by rw [upd_same]; exact fun z => nomatch z)
    have sy : Same B2 (upd B2 y (.ins C dx' fs)) := same_upd b2y
    refine ⟨rfl, g _ (upd B2 y (.ins C dx' fs)) H2 ⟨e.b.trans (b1.trans sy), fun a o q => ?_, fun a o q => ?_, fun a q q' => ?_⟩ (.ob upd_same h1 (TpF.mono sy _ _ b6))⟩
    · have q2 := e.h a o q
      exact b3 a o (s1 a o q2) (ne_of_none q2 ny)
    · by_cases z : a = y
      · subst z; rw [upd_same] at q; cases q; exact b5
      · rw [upd_ne z] at q; exact b2 a o q
    · have q2 := e.new a q q'
      have q3 : H' a ≠ none := Same.some e.h q'
      have ny' : a ≠ y := fun z => q3 (z ▸ ny)
      rw [upd_ne ny']
      exact b4 a q2 (Same.some s1 q3)
theorem putF_new {f : Str} {v : V} : ∀ {fs : List (Str × V)}, fs.lookup f = none → putF f v fs = fs ++ [(f, v)]
  | [], _ => rfl
  | (g, x) :: r, h => by
    by_cases e : g = f
    · subst e
      simp [List.lookup] at h
    · have e' : (f == g) = false := beq_eq_false_iff_ne.mpr fun z => e z.symm
      have h' : r.lookup f = none := by simpa [List.lookup, e'] using h
      show (if g = f then _ else _) = _
      rw [if_neg e, putF_new h']
      rfl
theorem TpF.snoc {K : PySem.W.Frag} {B : Hp} {f : Str} {v : V} {d : D} : ∀ {fs : List (Str × V)} {kvs : List (D × D)}, TpF K c B fs kvs → Tp K c B v d → TpF K c B (fs ++ [(f, v)]) (kvs ++ [(.str f, d)])
  | _, _, .nil, h => .cons h .nil
  | _, _, .cons h t, r => .cons h (TpF.snoc t r)
theorem TpF.len {K : PySem.W.Frag} {B : Hp} : ∀ {fs : List (Str × V)} {kvs : List (D × D)}, TpF K c B fs kvs → fs.length = kvs.length
  | _, _, .nil => rfl
  | _, _, .cons _ t => by simp [TpF.len t]
/-- self.f = e, a field that is new -/
theorem dss_fld {attrs : List Str} {par : Bool} (T : ClsAt X.K c n attrs) (i : Nat) (he : DE X G e d) (h : DSs X (G.set i (some (kn (kIns n (kvs ++ [(.str f, d)])) par))) rest Ph) (hG : G[i]? = some (some (kn (kIns n kvs) par)) := by rfl) (hnew : fldD kvs f = none := by rfl) (hl : kvs.length < 1000 := by exact Nat.le_of_ble_eq_true rfl) (hf : f ∈ attrs := by decide)
    (hN : X.N[i]? = some x := by rfl) (hv : Vis X.env.scope x := by first | exact Or.inl rfl | exact Or.inr (Or.inl rfl) | exact Or.inr (Or.inr rfl)) (hd : (x == ("__debug__" : Str)) = false := by decide)
    (hcd : (x == ("__classdict__" : Str)) = false := by decide) (hs : swapsWith e (some (.Attribute (.Name x p) f pos')) pos.line X.env = pure false := by rfl) :
    DSs X G (.Assign [.Attribute (.Name x p) f pos'] e pos :: rest) Ph := fun F B H σ D S E => by
  obtain ⟨t, q, r⟩ := he
  obtain ⟨C, t1, t2, t3⟩ := T.ex
  refine wp_of (pss_cons (ps_fld (pv i hN hv hd hcd) q hs) pss_wp) ?_
  refine r F.Z B H σ _ S.env fun v B1 H1 e1 q1 => ?_
  have S1 := S.ext e1
  obtain ⟨fps, s1, s2⟩ := S1.sl
  obtain ⟨u, hσ, ⟨⟨y, dx, C', fs, z0, z1, z2, z3, z4⟩, z5⟩, z6⟩ := s1 i _ hG
  subst z0
  rw [t1] at z2
  cases z2
  refine ⟨_, hσ, y, C, dx, fs, rfl, z3, t2, t3 _ hf, by rw [z4.len]; exact hl, ?_⟩
  rw [putF_new (tpF_none z4 hnew)]
  refine h F B1 _ σ D (S1.change hG rfl fun v' fp a1 a2 => ?_) E
  rw [hσ] at a1
  cases a1
  obtain ⟨⟨y', dx', C2, fs', b0, b1, b2, b3, b4⟩, b5⟩ := a2
  cases b0
  refine ⟨fp, ⟨⟨y, dx, C, fs ++ [(f, v)], rfl, b1, t1, upd_same, z4.snoc q1⟩, b5⟩, fun a h => .inl h, fun _ a h => h, fun a h1 h2 => upd_ne fun z => h1 (by rw [b1, z]; exact List.mem_singleton.mpr rfl), fun a h => ?_⟩
  rw [b1] at h
  rw [List.mem_singleton.mp h, upd_same]
  exact fun z => nomatch z
theorem ext_over {B H B' H' : Hp} {q : Addr} {o : HO} (e : Ext B H B' H') (h : H q = none) (hb : B' q = none) (hq : H' q ≠ none) : Ext B H B' (upd H' q o) :=
  ⟨e.b, fun a u r => by rw [upd_ne (ne_of_none r h)]; exact e.h a u r, fun a u r => by rw [upd_ne (ne_of_none r hb)]; exact e.sub a u r, e.new⟩
theorem de_clearX (h : DX X G o (so ds)) (hbase : attributeBase o "clear" X.env (eval o X.env) = eval o X.env := by rfl) (hline : (apos.endLine == pos.line) = true := by rfl) : DE X G (.Call (.Attribute o "clear" apos) [] [] pos) .none := by
  obtain ⟨t, p, r⟩ := h
  refine ⟨_, pe_bm0 PySem.F.plainAttrs_list PySem.F.slot_list_clear PySem.F.type_list_clear mt_clear p hbase hline, fun Z B H σ Q E g => r Z B H σ _ E fun v B' H' fp e h hf => ?_⟩
  obtain ⟨q, vs, rfl, h1, h3, h4, h5⟩ := h B
  refine ⟨Or.inl ⟨rfl, _, Or.inl (Or.inl h4)⟩, q, vs, rfl, rfl, h4, g .non B' _ (ext_over e (hf q (by rw [h1]; exact List.mem_singleton.mpr rfl)) h3 (by rw [h4]; exact fun z => nomatch z)) .non⟩
theorem TmAll.keep {K : PySem.W.Frag} {Z B : Hp} : ∀ {vs : List V} {ds : List D}, TmAll K c Z B vs ds → (∀ d ∈ ds, nolist d = true) → TpAll K c B vs ds
  | _, _, .nil, _ => .nil
  | _, _, .cons h t, q => .cons (h.kept (q _ List.mem_cons_self)) (TmAll.keep t fun d hd => q d (List.mem_cons_of_mem _ hd))
/-- list(e), a new list of e's items -/
theorem dx_listR (ha : DR X G a (.list ds)) (hq : ∀ d ∈ ds, nolist d = true) (hm : X.mg "list" = none) (hg : Gl X "list" := by rfl)
    (he : starEach (a :: []) X.env = (false, eval a X.env) :: starEach [] X.env := by rfl) (hpl : (backTo pos (starEach [] X.env)).any (·.1) = false := by rfl) : DX X G (.Call (.Name "list" p) [a] [] pos) (so ds) := by
  obtain ⟨t, pa, r⟩ := ha
  refine ⟨_, pe_callTy call_list_of hg hm (by decide +kernel) (pa_cons pa pa_nil he) (by decide) (by decide) he hpl, fun Z B H σ Q E g => r Z B H σ _ E fun v B' H' e h => ?_⟩
  obtain ⟨q, vs, rfl, hs, hv⟩ := h.seq e.sub
  exact ⟨q, vs, rfl, .inl hs, fun l hl => gs_lst e.sub (gs_ext e g) (TmAll.keep hv hq) hl⟩
theorem fil_map {α : Type} (f : α → D) (d : α) (l : List α) : fil (fun _ => true) (fun i => f (l.getD i d)) l.length = l.map f := by
  unfold fil
  rw [show (List.range l.length).filter (fun _ => true) = List.range l.length from List.filter_eq_self.mpr fun _ _ => rfl]
  apply List.ext_getElem?
  intro i
  rw [List.getElem?_map, List.getElem?_map]
  by_cases h : i < l.length
  · rw [List.getElem?_range h, List.getElem?_eq_getElem h]
    show some (f (l.getD i d)) = some (f l[i])
    rw [List.getD_eq_getElem?_getD, List.getElem?_eq_getElem h]
    rfl
  · rw [List.getElem?_eq_none (by simpa using h), List.getElem?_eq_none (by simpa using h)]
    rfl
theorem range_map {α β : Type} (f : α → β) (d : α) (l : List α) : (List.range l.length).map (fun i => f (l.getD i d)) = l.map f := by
  apply List.ext_getElem?
  intro i
  rw [List.getElem?_map, List.getElem?_map]
  by_cases h : i < l.length
  · rw [List.getElem?_range h, List.getElem?_eq_getElem h]
    show some (f (l.getD i d)) = some (f l[i])
    rw [List.getD_eq_getElem?_getD, List.getElem?_eq_getElem h]
    rfl
  · rw [List.getElem?_eq_none (by simpa using h), List.getElem?_eq_none (by simpa using h)]
    rfl
theorem dlc_Rows1 {scope : Scope} {iter elt : Expr} (C : Bd X k) {x : Str} {tp : Pos} (i0 : Nat) {n : Nat} {g : Nat → Slot X.K c} (hi : DI X G (.Name x tp) iter n g) (ok : BlkOk X.N X.env.scope scope [(x, i0)]) (f : Nat → List D) (hz : n < sizeLine)
    (he : ∀ j : BI, ∀ i, i < n → DX (c := c) (bY X scope j) ((wipeG G [i0]).set i0 (some (g i))) elt (so (f i)))
    (hl : G.length = X.N.length := by rfl) (hl0 : i0 < G.length := by exact Nat.le_of_ble_eq_true rfl) (hp : ∀ i, (g i).par = false := by exact fun _ => rfl) (hN : X.N[i0]? = some x := by rfl)
    (hx : ∀ j : BI, Loc (bY X scope j).env.scope x := by first | exact fun _ => Or.inl rfl | exact fun _ => Or.inr rfl)
    (hf : ∀ j : BI, (bY X scope j).fn x = true ∨ (bY X scope j).env.scope.names.lookup x = some .local := by first | exact fun _ => .inl rfl | exact fun _ => .inr rfl) : DLc X G elt (.Name x tp) iter [] scope (kn (kRows ((List.range n).map f))) :=
  dlc_Rows C (own := [(x, i0)]) hi ok (is := [i0]) (by simp) (fun i => (wipeG G [i0]).set i0 (some (g i))) f hz hl
    (fun j i h => dg_name (c := c) C.blk i0 (by rw [wipeG_len]; exact hl0) (hp i) hN (hx j) (hf j)) he
theorem dx_lcRows1 {scope : Scope} {iter elt : Expr} (C : Bd X k) {x : Str} {tp : Pos} (i0 : Nat) {n : Nat} {g : Nat → Slot X.K c} (hi : DI X G (.Name x tp) iter n g) (ok : BlkOk X.N X.env.scope scope [(x, i0)]) (f : Nat → List D) (hz : n < sizeLine)
    (he : ∀ j : BI, ∀ i, i < n → DX (c := c) (bY X scope j) ((wipeG G [i0]).set i0 (some (g i))) elt (so (f i)))
    (hl : G.length = X.N.length := by rfl) (hl0 : i0 < G.length := by exact Nat.le_of_ble_eq_true rfl) (hp : ∀ i, (g i).par = false := by exact fun _ => rfl) (hN : X.N[i0]? = some x := by rfl)
    (hx : ∀ j : BI, Loc (bY X scope j).env.scope x := by first | exact fun _ => Or.inl rfl | exact fun _ => Or.inr rfl)
    (hf : ∀ j : BI, (bY X scope j).fn x = true ∨ (bY X scope j).env.scope.names.lookup x = some .local := by first | exact fun _ => .inl rfl | exact fun _ => .inr rfl)
    (hs : ∀ x, foldedSetIterable iter X.env x = pure x := by intro _; rfl) : DX X G (.ListComp elt [⟨.Name x tp, iter, [], 0⟩] scope pos) (kn (kRows ((List.range n).map f))) :=
  dx_lcRows C (own := [(x, i0)]) hi ok (is := [i0]) (by simp) (fun i => (wipeG G [i0]).set i0 (some (g i))) f hz hl
    (fun j i h => dg_name (c := c) C.blk i0 (by rw [wipeG_len]; exact hl0) (hp i) hN (hx j) (hf j)) he hs
end
end Dw

namespace Dw
open PySem L2 PyProof.Rows
variable {c : Cl}
/-- * of two factors of together less than 130 million bits -/
def CMulX (i j : Int) : Prop := i.natAbs.log2 + j.natAbs.log2 < 130000000
theorem CMulX.ok {i j : Int} (h : CMulX i j) : IntMulOk i j := by
  have b : ∀ x : Int, Builtin.Int.intBits x ≤ x.natAbs.log2 + 1 := fun x => by
    unfold Builtin.Int.intBits
    split <;> omega
  have h1 := b i
  have h2 := b j
  have h3 : i.natAbs.log2 + j.natAbs.log2 < 130000000 := h
  have e : bitsLine = 134217728 := by decide
  unfold IntMulOk
  intro z
  rw [Bool.and_eq_true] at z
  have z2 := z.2
  unfold Builtin.Int.intTooBig at z2
  have z3 := of_decide_eq_true z2
  rw [e] at z3
  omega
theorem op_mulX {X : Cx} : OpR X (binaryOp .Mult) (rI CMulX fun i j => .int (i * j)) := opI fun _ _ _ _ _ _ _ hc q => mul_int q hc.ok
theorem od_mulX {X : Cx} {i j : Int} (h : CMulX i j) : OpD c X (binaryOp .Mult) (.int i) (.int j) (.int (i * j)) := opd_int op_mulX h
theorem log2_add (a b : Int) {n : Nat} (ha : a.natAbs.log2 ≤ n) (hb : b.natAbs.log2 ≤ n) : (a + b).natAbs.log2 ≤ n + 1 := by
  have h1 : a.natAbs < 2 ^ (n + 1) := Nat.lt_of_lt_of_le (Nat.lt_log2_self (n := a.natAbs)) (Nat.pow_le_pow_right (by decide) (by omega))
  have h2 : b.natAbs < 2 ^ (n + 1) := Nat.lt_of_lt_of_le (Nat.lt_log2_self (n := b.natAbs)) (Nat.pow_le_pow_right (by decide) (by omega))
  have h3 : (a + b).natAbs ≤ a.natAbs + b.natAbs := Int.natAbs_add_le a b
  have h4 : 2 ^ (n + 1 + 1) = 2 ^ (n + 1) * 2 := Nat.pow_succ ..
  by_cases z : (a + b).natAbs = 0
  · rw [z]
    exact Nat.zero_le _
  · exact Nat.le_of_lt_succ ((Nat.log2_lt z).mpr (by show _ < 2 ^ (n + 1 + 1); omega))
theorem log2_bits {z : Int} {n : Nat} (h : Builtin.Int.intBits z ≤ n) : z.natAbs.log2 ≤ n := by
  unfold Builtin.Int.intBits at h
  split at h
  · rename_i e
    have : z.natAbs = 0 := by simp_all
    rw [this]
    exact Nat.zero_le _
  · omega
def spLB (K : PySem.W.Frag) : Sp := fun vs H Q _ => ∃ (a : Addr) (ns : List Int), vs = [.ref a] ∧ SqL K H a (ns.map V.int) ∧ ns.length ≤ 63 ∧ (∀ z ∈ ns, z.natAbs.log2 ≤ 1048576) ∧ ∀ H', Q (.bl true) H'
def RLawB (K : PySem.W.Frag) (c : Cl) : List (Slot K c) → Slot K c → Prop := fun ss r => ∃ ns : List Int, ns.length ≤ 63 ∧ ss = [sb (.list (ns.map .int))] ∧ r = sd (.bool true) ∧ ∀ z ∈ ns, z.natAbs.log2 ≤ 1048576
theorem law_impB {P : Program} {w : World} {K : PySem.W.Frag} {mg : Str → Option Value} {base : Heap} {k : Nat} {f : Addr} {fd : FuncData} {ps : List Str} (F : FnOk P w K mg base CX0 k f fd ps (spS K (RLawB K c))) : FnOk P w K mg base CX0 k f fd ps (spLB K) :=
  F.imp fun vs H Q E h => by
    obtain ⟨a, ns, rfl, hS, hl, hb, q⟩ := h
    refine ⟨H, [sb (.list (ns.map .int))], sd (.bool true), Same.refl _, .cons ⟨rfl, .lst hS (tmAll_ints ns)⟩ .nil, ⟨ns, hl, rfl, rfl, hb⟩, fun v B' H' fp e p hf => ?_⟩
    obtain ⟨_, h⟩ := p H
    cases h
    exact q H'
theorem law_walkB {l : PySem.W.OpenLaw} {k : Nat} {q : Program} {loose : List Str} {XP : (Str → Option Value) → Heap → Prop} {YP : World → Heap → Prop} {d : DefRec} {K : Params → PySem.W.Frag} {x : Str} (hn : l.most = some 63) (hdf : d.params.defaults = []) (hr : Room k callerA)
    (hY : ∀ (w : World) (h : Heap), YP w h → (K w.params).In h)
    (F : ∀ (w : World) (mg : Str → Option Value) (fa : Addr) (h : Heap), (K w.params).In h → h.Ns mainGlobals mg → mg d.name = some (.ref fa) →
      ∃ fd : FuncData, (∀ (s : Shared) (u : Value), BindsTo s fd ⟨[u], []⟩ [(x, u)]) ∧ ∀ base : Heap, (K w.params).In base → base.Ns mainGlobals mg → FnOk l.prog w (K w.params) mg base CX0 k fa fd [x] (spLB (K w.params))) :
    PySem.W.WalkO q loose XP YP l.row.toRowW d [] (fun f vs => PySem.call f vs) :=
  L2.walk_ofB (n := 63) (k := k) (x := x) (CX := fun _ => CX0) (sp := fun w => spLB (K w.params)) hn (by decide) hdf hr hY F (fun _ _ a ns hl hb _ hS => ⟨a, ns, rfl, hS, hl, fun z hz => log2_bits (hb z hz), fun _ => rfl⟩) fun _ _ _ _ _ z => z
end Dw

namespace Dw
open PySem L2 PyProof.Rows
variable {c : Cl}
section
variable {X : Cx} {G : Env X.K c} {o ei : Expr} {rest : List Stmt} {Ph : Out X.K c → Prop} {pos apos p2 : Pos} {r : List D} {rs : List (List D)} {x : Str}
/-- o[i].clear(), o new rows -/
theorem de_clearR {a : Int} {m : Nat} (h : DX X G o (kn (kRows rs))) (hi : DE X G ei (.int a)) (ha : ixN rs.length a = some m) (hr : rs[m]? = some r) (hpi : PlainIx ei := by exact fun _ _ => rfl)
    (hbase : attributeBase (.Subscript o ei p2) "clear" X.env (eval (.Subscript o ei p2) X.env) = eval (.Subscript o ei p2) X.env := by rfl) (hline : (apos.endLine == pos.line) = true := by rfl) : DE X G (.Call (.Attribute (.Subscript o ei p2) "clear" apos) [] [] pos) .none := by
  obtain ⟨t, p, rd⟩ := h
  obtain ⟨ti, pi, ri⟩ := hi
  refine ⟨_, pe_bm0 PySem.F.plainAttrs_list PySem.F.slot_list_clear PySem.F.type_list_clear mt_clear (pe_ix ix_list p pi hpi) hbase hline, fun Z B H σ Q E g => rd Z B H σ _ E fun v B' H' fp e h hf => ?_⟩
  obtain ⟨⟨q0, qs, rfl, z1, z2, z3, z4⟩, z5⟩ := h B
  obtain ⟨q, vs, g1, g2, g3⟩ := z3.get hr
  have mq : q ∈ fp := by rw [z1]; exact List.mem_cons_of_mem _ (List.mem_of_getElem? g1)
  refine ri Z B' H' σ _ (E.ext e) fun w B2 H2 e2 q2 => ?_
  cases q2
  have lq : ixN (qs.map V.ref).length a = some m := by rw [List.length_map, z3.len]; exact ha
  refine ⟨q0, qs.map V.ref, a, .ref q, rfl, rfl, .inl (.inl (e2.h _ _ z2)), by rw [ixN_at lq, List.getElem?_map, g1]; rfl, ?_⟩
  have g2' := e2.h _ _ g2
  refine ⟨Or.inl ⟨rfl, _, Or.inl (Or.inl g2')⟩, q, vs, rfl, rfl, g2', g .non B2 _ (ext_over (e.trans e2) (hf q mq) (e2.new q (z5 q mq) (by rw [g2]; exact (fun z => nomatch z))) (by rw [g2']; exact (fun z => nomatch z))) .non⟩
/-- rows.clear() -/
theorem dm_clearR (i : Nat) {par : Bool} {py : Pos} (hG : G[i]? = some (some (kn (kRows rs) par)) := by rfl) (hN : X.N[i]? = some x := by rfl)
    (hv : Vis X.env.scope x := by first | exact Or.inl rfl | exact Or.inr (Or.inl rfl) | exact Or.inr (Or.inr rfl)) (hd : (x == ("__debug__" : Str)) = false := by decide)
    (hcd : (x == ("__classdict__" : Str)) = false := by decide) (hbase : attributeBase (.Name x py) "clear" X.env (eval (.Name x py) X.env) = eval (.Name x py) X.env := by rfl) (hline : (apos.endLine == pos.line) = true := by rfl) :
    DM X G (.Call (.Attribute (.Name x py) "clear" apos) [] [] pos) i (kn (kRows rs) par) (kn (kRows []) par) := by
  refine ⟨_, pe_bm0 PySem.F.plainAttrs_list PySem.F.slot_list_clear PySem.F.type_list_clear mt_clear (pv i hN hv hd hcd) hbase hline, fun F B H σ Q S _ k => ?_⟩
  obtain ⟨fps, s1, s2⟩ := S.sl
  obtain ⟨u, hσ, ⟨⟨p, qs, rfl, z1, z2, z3, z4⟩, z5⟩, z6⟩ := s1 i _ hG
  refine ⟨_, hσ, Or.inl ⟨rfl, _, Or.inl (Or.inl z2)⟩, p, qs.map V.ref, rfl, rfl, z2, k .non B _ (S.change hG rfl fun v' fp a1 a2 => ?_)⟩
  rw [hσ] at a1
  cases a1
  obtain ⟨⟨p', qs', b0, b1, b2, b3, b4⟩, b5⟩ := a2
  cases b0
  have mp : p ∈ fp := by rw [b1]; exact List.mem_cons_self
  refine ⟨[p], ⟨⟨p, [], rfl, rfl, upd_same, .nil, by simp⟩, fun a h => by rw [List.mem_singleton.mp h]; exact b5 p mp⟩, fun a h => .inl (by rw [List.mem_singleton.mp h]; exact mp), fun _ a h => by rw [List.mem_singleton.mp h]; exact mp, fun a h1 h2 => upd_ne fun z => h1 (by rw [z]; exact mp), fun a h => ?_⟩
  by_cases z : a = p
  · rw [z, upd_same]; exact fun z => nomatch z
  · rw [upd_ne z]
    rw [b1] at h
    exact b3.there a ((List.mem_cons.mp h).resolve_left z)
end
end Dw

namespace Dw
open PySem L2 PyProof.Rows
variable {c : Cl}
theorem StE.free {K : PySem.W.Frag} {F : Ent} {G : Env K c} {B H : Hp} {σ : Sg} {i : Nat} {v : Option V} (S : StE F G B H σ) (hG : ∀ s, G[i]? ≠ some (some s)) : StE F G B H (σ.set i v) := by
  obtain ⟨fps, h1, h2⟩ := S.sl
  have ne : ∀ {j : Nat} {s : Slot K c}, G[j]? = some (some s) → i ≠ j := fun q z => hG _ (z ▸ q)
  refine ⟨S.sub, S.b0, S.zf, S.h0, S.hw, S.new, by rw [List.length_set]; exact S.len, fun j s w q hq hw => S.pn j s w q hq (by rw [List.getElem?_set_ne (ne q)] at hw; exact hw), fps, fun j s q => ?_, h2⟩
  obtain ⟨u, r1, r2, r3⟩ := h1 j s q
  exact ⟨u, by rw [List.getElem?_set_ne (ne q)]; exact r1, r2, r3⟩
def put1 (rs : List (List D)) (m : Nat) (d : D) (i : Nat) : List (List D) := (rs.take i).map (fun r => r.set m d) ++ rs.drop i
theorem put1_at {rs : List (List D)} {m i : Nat} {d : D} {r : List D} (h : rs[i]? = some r) : (put1 rs m d i)[i]? = some r := by
  have hl := (List.getElem?_eq_some_iff.mp h).1
  unfold put1
  rw [List.getElem?_append_right (by rw [List.length_map, List.length_take]; exact Nat.min_le_left _ _), List.getElem?_drop]
  simp only [List.length_map, List.length_take]
  rw [show i + (i - min i rs.length) = i by omega]
  exact h
theorem put1_succ {rs : List (List D)} {m i : Nat} {d : D} {r : List D} (h : rs[i]? = some r) : (put1 rs m d i).set i (r.set m d) = put1 rs m d (i + 1) := by
  have hl := (List.getElem?_eq_some_iff.mp h).1
  unfold put1
  rw [take_at h, List.map_append, List.append_assoc, List.set_append_right _ _ (by rw [List.length_map, List.length_take]; exact Nat.min_le_left _ _)]
  congr 1
  simp only [List.length_map, List.length_take]
  rw [show i - min i rs.length = 0 by omega, List.drop_eq_getElem_cons hl]
  have : rs[i] = r := (List.getElem?_eq_some_iff.mp h).2
  rw [this]
  rfl
section
variable {X : Cx} {G : Env X.K c} {e ej : Expr} {rest : List Stmt} {Ph : Out X.K c → Prop} {pos pos2 pos3 pt pp px : Pos} {d : D} {rs : List (List D)} {x t : Str} {k : Nat}
theorem dss_fill (C : Bd X k) (ix it : Nat) {b : Int} {m : Nat} (hG : G[ix]? = some (some (kn (kRows rs)))) (hT : ∀ s, G[it]? ≠ some (some s)) (hne : ix ≠ it) (hlt0 : it < G.length)
    (he : ∀ rs', DE X (G.set ix (some (kn (kRows rs')))) e d) (hj : ∀ rs', DE X (G.set ix (some (kn (kRows rs')))) ej (.int b)) (hb : ∀ r ∈ rs, ixN r.length b = some m)
    (h : DSs X (G.set ix (some (kn (kRows (put1 rs m d rs.length))))) rest Ph)
    (hN : X.N[ix]? = some x := by rfl) (hv : Vis X.env.scope x := by first | exact Or.inl rfl | exact Or.inr (Or.inl rfl) | exact Or.inr (Or.inr rfl)) (hd : (x == ("__debug__" : Str)) = false := by decide) (hcd : (x == ("__classdict__" : Str)) = false := by decide)
    (hNt : X.N[it]? = some t := by rfl) (hvt : Vis X.env.scope t := by first | exact Or.inl rfl | exact Or.inr (Or.inl rfl) | exact Or.inr (Or.inr rfl)) (hdt : (t == ("__debug__" : Str)) = false := by decide) (hcdt : (t == ("__classdict__" : Str)) = false := by decide)
    (hxt : Loc X.env.scope t := by first | exact Or.inl rfl | exact Or.inr rfl) (hft : X.fn t = true ∨ X.env.scope.names.lookup t = some .local := by first | exact .inl rfl | exact .inr rfl)
    (has : ∀ v, assign (.Subscript (.Name t pt) ej pp) X.env v = (do
      let ov ← holding [v] (eval (.Name t pt) X.env)
      let iv ← holding [v, ov] (eval ej X.env)
      standAt pp
      holding [v, ov, iv] (setItem ov iv v)
      release [v, ov, iv] []) := by intro _; rfl)
    (hsw : swapsWithSole [.Subscript (.Name t pt) ej pp] e pos2.line X.env = pure false := by rfl) (hss : swappedStores [.Subscript (.Name t pt) ej pp] e X.env = pure none := by rfl)
    (hs1 : (assignEach [.Subscript (.Name t pt) ej pp] X.env).map (·.2) = [assign (.Subscript (.Name t pt) ej pp) X.env] := by rfl)
    (hs : ∀ v, foldedSetIterable (.Name x px) X.env v = pure v := by intro _; rfl) :
    DSs X G (.For (.Name t pos3) (.Name x px) [.Assign [.Subscript (.Name t pt) ej pp] e pos2] [] pos :: rest) Ph := fun F B H σ D S E => by
  let pes := fun (i : Nat) (σ : Sg) (H : Hp) => (put1 rs m d i)
  have pe : PE X e (fun σ H Q => ∃ rs', (he rs').choose σ H Q) := ⟨fun pins s σ H Q I h => by obtain ⟨rs', h⟩ := h; exact (he rs').choose_spec.1.run pins s σ H Q I h⟩
  have pj : PE X ej (fun σ H Q => ∃ rs', (hj rs').choose σ H Q) := ⟨fun pins s σ H Q I h => by obtain ⟨rs', h⟩ := h; exact (hj rs').choose_spec.1.run pins s σ H Q I h⟩
  refine wp_of (pss_cons (ps_for C.po C.calm (pi_list (pv ix hN hv hd hcd)) (pg_name C.nd hNt hxt hft) (pss_one (ps_asg pe (pg_sub (pv it hNt hvt hdt hcdt) pj set_list has) hsw hss hs1)) hs) pss_wp) ?_
  obtain ⟨fps, s1, s2⟩ := S.sl
  obtain ⟨u, hσ, ⟨⟨p, qs, rfl, z1, z2, z3, z4⟩, z5⟩, z6⟩ := s1 ix _ hG
  refine ⟨_, hσ, p, rfl, ⟨qs.map V.ref, .inl (.inl z2)⟩, ?_⟩
  have il : ix < G.length := (List.getElem?_eq_some_iff.mp hG).1
  have g0 : G.set ix (some (kn (kRows (put1 rs m d 0)))) = G := by
    rw [show put1 rs m d 0 = rs from rfl]
    exact List.ext_getElem? fun j => by
      by_cases z : ix = j
      · subst z; rw [List.getElem?_set_self il, hG]
      · rw [List.getElem?_set_ne z]
  refine ⟨fun i n σ H => n = rs.length - i ∧ i ≤ rs.length ∧ σ[ix]? = some (some (.ref p)) ∧ ∃ B, StE F (G.set ix (some (kn (kRows (put1 rs m d i))))) B H σ, ⟨rs.length, by simp, Nat.zero_le _, hσ, B, by rw [g0]; exact S⟩, ?_⟩
  rintro i n σ1 H1 ⟨rfl, hi, hσ1, B1, S1⟩
  have hG1 : (G.set ix (some (kn (kRows (put1 rs m d i)))))[ix]? = some (some (kn (kRows (put1 rs m d i)))) := List.getElem?_set_self il
  obtain ⟨fps1, t1, _⟩ := S1.sl
  obtain ⟨u1, hu1, ⟨⟨p1, qs1, e0, y1, y2, y3, y4⟩, y5⟩, _⟩ := t1 ix _ hG1
  subst e0
  rw [hσ1] at hu1
  cases hu1
  have lq : qs1.length = rs.length := by rw [y3.len]; unfold put1; simp; omega
  by_cases hlt : i < rs.length
  · obtain ⟨r, hr⟩ := at_some hlt
    have hr1 := put1_at (m := m) (d := d) hr
    obtain ⟨q, vs, g1, g2, g3⟩ := y3.get hr1
    have gq : (qs1.map V.ref)[i]? = some (.ref q) := by rw [List.getElem?_map, g1]; rfl
    refine .inr ⟨⟨qs1.map V.ref, .ref q, .inl (.inl y2), gq⟩, fun σ' H' => σ'[ix]? = some (some (.ref p)) ∧ ∃ B, StE F (G.set ix (some (kn (kRows (put1 rs m d (i + 1)))))) B H' σ', fun σ' H' z => ⟨rs.length - (i + 1), by omega, rfl, hlt, z⟩, fun v H' y => ?_⟩
    obtain ⟨rfl, y⟩ := y
    have ev := y _ (.inl (.inl y2))
    rw [gq] at ev
    cases ev
    have hT1 : ∀ s, (G.set ix (some (kn (kRows (put1 rs m d i)))))[it]? ≠ some (some s) := fun s => by rw [List.getElem?_set_ne hne]; exact hT s
    have S2 := S1.free (v := some (.ref q)) hT1
    refine ⟨put1 rs m d i, (he (put1 rs m d i)).choose_spec.2 F.Z B1 H' _ _ S2.env fun v B2 H2 e2 q2 => ?_⟩
    refine ⟨_, List.getElem?_set_self (by rw [S1.len, List.length_set]; exact hlt0), ?_⟩
    refine ⟨put1 rs m d i, (hj (put1 rs m d i)).choose_spec.2 F.Z B2 H2 _ _ (S2.ext e2).env fun w B3 H3 e3 q3 => ?_⟩
    cases q3
    have e23 := e2.trans e3
    have S3 := S2.ext e23
    have hb1 : ixN vs.length b = some m := by rw [g3.length]; exact hb r (List.mem_of_getElem? hr)
    refine ⟨q, vs, b, m, rfl, rfl, e23.h _ _ g2, hb1, by rw [List.getElem?_set_ne (Ne.symm hne)]; exact hσ1, B3, ?_⟩
    have SC := S3.change (s' := kn (kRows ((put1 rs m d i).set i (r.set m d)))) (H' := upd H3 q (.lst (vs.set m v))) hG1 rfl fun v' fp a1 a2 => ?_
    · rw [List.set_set, put1_succ hr] at SC
      exact SC
    · rw [List.getElem?_set_ne (Ne.symm hne), hσ1] at a1
      cases a1
      obtain ⟨⟨p', qs', b0, b1, b2, b3, b4⟩, b5⟩ := a2
      cases b0
      have e' : qs'.map V.ref = qs1.map V.ref := by
        have := (e23.h _ _ y2).symm.trans b2
        injection (Option.some.inj this) with z
        exact z.symm
      have e'' : qs' = qs1 := by
        have := congrArg (List.map fun v => match v with | V.ref a => a | _ => 0) e'
        simpa [List.map_map, Function.comp_def] using this
      subst e''
      have nd := List.nodup_cons.mp b4
      have mq := List.mem_of_getElem? g1
      have pq : p ≠ q := fun z => nd.1 (by rw [z]; exact mq)
      refine ⟨fp, ⟨⟨p, qs', rfl, b1, by rw [upd_ne pq]; exact b2, b3.set nd.2 g1 ((TpAll.mono e23.b _ _ g3).set m (Tp.mono e3.b _ _ q2)), b4⟩, b5⟩, fun a h => .inl h, fun _ a h => h, fun a h1 h2 => upd_ne fun z => h1 (by rw [b1, z]; exact List.mem_cons_of_mem _ mq), fun a h => ?_⟩
      by_cases z : a = q
      · rw [z, upd_same]; exact (fun z => nomatch z)
      · rw [upd_ne z]
        rw [b1] at h
        rcases List.mem_cons.mp h with z | z
        · rw [z, b2]; exact (fun z => nomatch z)
        · exact b3.there a z
  · have en : i = rs.length := by omega
    subst en
    exact .inl ⟨⟨qs1.map V.ref, .inl (.inl y2), by rw [List.length_map]; omega⟩, h F B1 H1 σ1 D S1 E⟩
end
end Dw

namespace Dw
open PySem L2 PyProof.Rows
variable {c : Cl}
theorem wk_drop {K : PySem.W.Frag} (G : Env K c) (i : Nat) : Wk G (G.set i none) := ⟨by simp, fun j s q => by
  rcases getset q with ⟨_, e, _⟩ | ⟨_, q⟩
  · cases e
  · exact q⟩
theorem StE.unset {K : PySem.W.Frag} {F : Ent} {G : Env K c} {B H : Hp} {σ : Sg} (S : StE F G B H σ) (i : Nat) : StE F (G.set i none) B H (σ.set i none) := (S.weak (wk_drop G i)).free fun s q => by
  rcases getset q with ⟨_, e, _⟩ | ⟨ne, _⟩
  · cases e
  · exact ne rfl
/-- a value as it stands -/
def sv {K : PySem.W.Frag} (u : V) : Slot K c where
  par := false
  P := fun _ _ _ v fp => v = u ∧ fp = []
  stb := fun h _ _ _ => h
  dom := fun ⟨_, h⟩ a ha => by rw [h] at ha; exact absurd ha List.not_mem_nil
section
variable {X : Cx} {G : Env X.K c} {a b e o : Expr} {es : List Expr} {rest body : List Stmt} {Ph : Out X.K c → Prop} {pos pos' p : Pos} {d : D} {ds : List D} {k : Nat} {x : Str} {cls : Value}
/-- e raises an exception of the class cls, which has no field -/
def DER (X : Cx) (G : Env X.K c) (e : Expr) (cls : Value) : Prop := ∀ W : WX, L2N.Takes X W → ∃ t, PE X e t ∧ ∀ Z B H σ Q, EnvE G Z B H σ → (∀ B' H', Ext B H B' H' → W cls none σ H') → t σ H Q
theorem dss_exprR (he : DER X G e cls) (h : Ph (.exc cls G)) (hs : swapsWith e none pos.line X.env = pure false := by rfl) : DSs X G (.Expr e pos :: rest) Ph := fun F B H σ D S E => by
  obtain ⟨W, tk, hw⟩ := E.ex
  obtain ⟨t, p, r⟩ := he W tk
  exact wp_of (pss_cons (ps_expr p hs) pss_wp) (r F.Z B H σ _ S.env fun B' H' e => hw cls G B' H' σ (S.ext e) h)
theorem dss_retR (he : DER X G e cls) (h : Ph (.exc cls G)) : DSs X G (.Return (some e) pos :: rest) Ph := fun F B H σ D S E => by
  obtain ⟨W, tk, hw⟩ := E.ex
  obtain ⟨t, p, r⟩ := he W tk
  exact wp_of (pss_cons (ps_ret p) pss_wp) (r F.Z B H σ _ S.env fun B' H' e => hw cls G B' H' σ (S.ext e) h)
theorem dss_setR (C : Bd X k) (i : Nat) (he : DER X G e cls) (h : Ph (.exc cls G)) (hi : X.N[i]? = some x := by rfl) (hx : Loc X.env.scope x := by first | exact Or.inl rfl | exact Or.inr rfl)
    (hs : swapsWith e (some (.Name x pos')) pos.line X.env = pure false := by rfl) (hf : X.fn x = true ∨ X.env.scope.names.lookup x = some .local := by first | exact .inl rfl | exact .inr rfl) : DSs X G (.Assign [.Name x pos'] e pos :: rest) Ph := fun F B H σ D S E => by
  obtain ⟨W, tk, hw⟩ := E.ex
  obtain ⟨t, p, r⟩ := he W tk
  exact wp_of (pss_cons (ps_set C.nd hi hx p hs hf) pss_wp) (r F.Z B H σ _ S.env fun B' H' e => hw cls G B' H' σ (S.ext e) h)
/-- what the head knows of an own class of exceptions without __init__ -/
structure ExcAt (K : PySem.W.Frag) (mg : Str → Option Value) (y : Str) (C : Addr) : Prop where
  mg : mg y = some (.ref C)
  ex : PySem.W.excIn K C [.type "ValueError", .type "Exception", .type "BaseException", .type "object"] "ValueError.__new__" = true
  kp : PySem.W.keepIn K (.ref C) = true
  sub : PySem.W.subIn K (.ref C) (.type "BaseException") = some true
  ty : PySem.W.typeIn K (.ref C) = some (.type "type")
  isC : ExcC K C
/-- raise C('..') -/
theorem dss_raise {m : Str} {j : Nat} {p2 : Pos} {y : Str} {cc : Addr} (C : Bd X k) (T : ExcAt X.K X.mg y cc) (h : Ph (.exc (.ref cc) G)) (hg : Gl X y := by rfl) (hdb : (y == ("__debug__" : Str)) = false := by decide) :
    DSs X G (.Raise (some (.Call (.Name y p) [.Constant (.str m) j p2] [] pos)) none pos' :: rest) Ph := fun F B H σ D S E => by
  obtain ⟨W, tk, hw⟩ := E.ex
  exact wp_of (pss_cons (L2N.ps_raise C.calm tk (L2N.pmk_own PySem.F.excBase_ValueError T.ex T.mg T.kp (raises_own T.sub T.ty) hg hdb)) pss_wp) (hw (.ref cc) G B H σ S h)

def suiteP (X : Cx) (i : Nat) (rest : List Stmt) (Ph : Out X.K c → Prop) : Out X.K c → Prop
  | .nx G => DSs X (G.set i none) rest Ph
  | .bk G => Ph (.bk (G.set i none))
  | .ct G => Ph (.ct (G.set i none))
  | .ret s G => Ph (.ret s G)
  | .exc _ _ => False
def tryP (X : Cx) (i : Nat) (cA : Value) (su rest : List Stmt) (Ph : Out X.K c → Prop) : Out X.K c → Prop
  | .nx G => DSs X G rest Ph
  | .bk G => Ph (.bk G)
  | .ct G => Ph (.ct G)
  | .ret s G => Ph (.ret s G)
  | .exc cls G => ∃ b, PySem.W.exmOne X.K cls cA = some b ∧
      (b = true → ∀ (a : Addr) (oe : Obj) (pn : List (Addr × Obj)), L2N.Zn cls none oe → (∃ vs, oe.data = .fields vs) → DSs (c := c) (X.suite a ((a, oe) :: pn)) (G.set i (some (sv (.ref a)))) su (suiteP X i rest Ph)) ∧ (b = false → Ph (.exc cls G))
theorem dss_try {n : Str} {cA : Value} {b₀ : Stmt} {suite : List Stmt} {np : Pos} (C : Bd X k) (i : Nat) (hc : Names X x cA)
    (hb : ∀ (pn : List (Addr × Obj)) (xe : Value → Shared → Prop), Bd (X.tr pn xe) k → DSs (c := c) (X.tr pn xe) G body (tryP X i cA (b₀ :: suite) rest Ph))
    (hN : X.N[i]? = some n := by rfl) (hln : X.env.kindOf n = some .local := by rfl) (hs : X.stack = X.env :: X.outer := by rfl) (hf : X.env.frame = some X.env.locals := by rfl) :
    DSs X G (.Try body [.ExceptHandler (some (.Name x np)) (some n) (b₀ :: suite) pos'] [] [] pos :: rest) Ph := fun F B H σ D S E => by
  obtain ⟨W, tk, hw⟩ := E.ex
  let tb : WX → TS := fun W D σ H => ∀ (pn : List (Addr × Obj)) (xe : Value → Shared → Prop), L2N.Takes (X.tr pn xe) W → PassesOwn (model X.prog X.w) X.A X.env xe → wpS (X.tr pn xe) body D σ H
  let ts : Addr → Value → Option Addr → TS := fun a cls d D σ H => ∀ (oe : Obj) (pn : List (Addr × Obj)), L2N.Zn cls d oe → (∃ vs, oe.data = .fields vs) → wpS (X.suite a ((a, oe) :: pn)) (b₀ :: suite) D σ H
  have hbp : ∀ (W : WX) (pn : List (Addr × Obj)) (xe : Value → Shared → Prop), L2N.Takes (X.tr pn xe) W → PassesOwn (model X.prog X.w) X.A X.env xe → PSs (X.tr pn xe) body (tb W) := fun W pn xe tk po => ⟨fun pins s _ _ _ I h => (h pn xe tk po).h pins s I⟩
  have hsp : ∀ (a : Addr) (oe : Obj) (cls : Value) (d : Option Addr) (pn : List (Addr × Obj)), L2N.Zn cls d oe → (∃ vs, oe.data = .fields vs) → PSs (X.suite a ((a, oe) :: pn)) (b₀ :: suite) (ts a cls d) := fun a oe cls d pn hz hf => ⟨fun pins s _ _ _ I h => (h oe pn hz hf).h pins s I⟩
  refine wp_of (pss_cons (L2N.ps_try_as hs hf C.nd hN hln hc tk hbp hsp) pss_wp) ?_
  refine (show tb _ _ σ H from fun pn xe tk' po => ?_)
  refine hb pn xe ⟨C.nd, C.calm, C.room, po⟩ F B H σ _ S ⟨fun G' B' H' σ' S' p => p F B' H' σ' D S' E, fun G' B' H' σ' S' p => E.bk G' B' H' σ' S' p, fun G' B' H' σ' S' p => E.ct G' B' H' σ' S' p, fun s G' B' H' σ' v fp S' q f p => E.rt s G' B' H' σ' v fp S' q f p, _, tk', fun cls G' B' H' σ' S' p => ?_⟩
  obtain ⟨b, hb1, hy, hn⟩ := p
  refine ⟨b, hb1, fun e a ha oe pn2 hz hf2 => ?_, fun e => hw cls G' B' H' σ' S' (hn e)⟩
  refine hy e a oe pn2 hz hf2 F B' H' _ _ (S'.set (s := sv (.ref a)) (fp := []) (Ext.refl S'.sub) ⟨rfl, rfl⟩ (fun a z => absurd z List.not_mem_nil) rfl i) ⟨fun G2 B2 H2 σ2 S2 p2 => p2 F B2 H2 _ D (S2.unset i) E, fun G2 B2 H2 σ2 S2 p2 => E.bk _ B2 H2 _ (S2.unset i) p2, fun G2 B2 H2 σ2 S2 p2 => E.ct _ B2 H2 _ (S2.unset i) p2, fun s G2 B2 H2 σ2 v fp S2 q f p2 => E.rt s G2 B2 H2 σ2 v fp S2 q f p2, _, takes0N, fun cls G2 B2 H2 σ2 S2 p2 => p2.elim⟩
end
/-- R: the arguments' slots, and what comes: a value, or an exception's class -/
def spX (K : PySem.W.Frag) (R : List (Slot K c) → Slot K c ⊕ Value → Prop) : Sp := fun vs H Q E => ∃ B ss r, Same B H ∧ SlAll H B H vs ss ∧ R ss r ∧ match r with
  | .inl s => Gs K c B H s Q
  | .inr cls => ∀ B' H', Ext B H B' H' → E cls none H'
structure DefOkX (P : Program) (w : World) (K : PySem.W.Frag) (mg : Str → Option Value) (base : Heap) (x : Str) (k : Nat) (R : List (Slot K c) → Slot K c ⊕ Value → Prop) : Prop where
  ex : ∃ f fd ps, mg x = some (.ref f) ∧ PySem.W.keepIn K (.ref f) = true ∧ Binds K fd ps [] ∧ FnOk P w K mg base (L2N.CX P w) k f fd ps (spX K R)
abbrev bxX (P : Program) (w : World) (K : PySem.W.Frag) (mg : Str → Option Value) (base : Heap) (N : List Str) (qual : Str) (st : Stmt) (f : Addr) (cdv : Value) (A : Around) (outer : List PySem.Env) (s : Shared) (H : Hp) (E : XK) : Cx :=
  cxOf (L2N.CX P w) P w K mg base N qual (defScope st) f cdv A outer s H E
section
variable {P : Program} {w : World} {K : PySem.W.Frag} {mg : Str → Option Value} {base : Heap}
theorem Fun.okN {x qual : Str} {st : Stmt} {f : Addr} {fd : FuncData} {N ps : List Str} {k : Nat} {sp : Sp} (F : Fun K x qual st f fd) (S : FnScope N ps (defScope st)) (len : ∀ vs H Q E, sp vs H Q E → vs.length = ps.length)
    (hbody : ∀ (cdv : Value) (A : Around) (outer : List PySem.Env) (s : Shared) (H : Hp) (vs : List V) (Q : VK) (E : XK), Room k (A.deeper (envOfC qual (defScope st) s.heap.objs.size f cdv)) → sp vs H Q E →
      ∃ t, PSs (bxX P w K mg base N qual st f cdv A outer s H E) (defBody st) t ∧ t { nx := fun _ H' => Q .non H', rt := Q } (L2.start N vs) H) : FnOk P w K mg base (L2N.CX P w) (k + 1) f fd ps sp := by
  obtain ⟨oc, od, kV, doc, pm, an, cdv, ct, osl, rfl, lk, hcd⟩ := F.ex
  exact fn_of lk hcd S len fun A outer s H vs Q E hr hsp => hbody cdv A outer s H vs Q E hr hsp
def defEndX (r : Slot K c ⊕ Value) : Out K c → Prop
  | .ret s _ => r = .inl s
  | .nx _ => r = .inl (sd .none)
  | .exc cls _ => r = .inr cls
  | _ => False
theorem def_fnX {x qual : Str} {st : Stmt} {f : Addr} {fd : FuncData} {N ps : List Str} {k : Nat} {R : List (Slot K c) → Slot K c ⊕ Value → Prop}
    (F : Fun K x qual st f fd) (S : FnScope N ps (defScope st)) (hR : ∀ ss r, R ss r → ss.length = ps.length)
    (body : ∀ (cdv : Value) (A : Around) (outer : List PySem.Env) (s : Shared) (H : Hp) (E : XK) (ss : List (Slot K c)) (r : Slot K c ⊕ Value), R ss r → Bd (bxX P w K mg base N qual st f cdv A outer s H E) k →
      DSs (c := c) (bxX P w K mg base N qual st f cdv A outer s H E) (G0 N ss) (defBody st) (defEndX r)) : FnOk P w K mg base (L2N.CX P w) (k + 1) f fd ps (spX K R) := by
  refine Fun.okN F S (fun vs H Q E h => ?_) fun cdv A outer s H vs Q E hr h => ?_
  · obtain ⟨B, ss, r, _, h, hq, _⟩ := h
    rw [h.length]
    exact hR ss r hq
  · obtain ⟨B, ss, r, sb, h, hq, g⟩ := h
    have hl : ss.length ≤ N.length := by
      rw [hR ss r hq]
      have := congrArg List.length S.pre
      rw [List.length_take] at this
      omega
    have S0 := ste_start sb h hl
    have ee : ∀ {G : Env K c} {B' H' : Hp} {σ : Sg}, StE ⟨fun _ => False, B, H, H, fun i => (L2.start N vs)[i]?.getD none⟩ G B' H' σ → Ext B H B' H' := fun T => ⟨T.b0, fun a o q => T.h0 a o q fun z => z, T.sub, fun a q q' => T.new a q q'⟩
    refine ⟨_, pss_wp, body cdv A outer s H E ss r hq ⟨S.nd, rfl, hr, L2.passes_of rfl⟩ _ B H _ _ S0 ⟨fun G B' H' σ T e => ?_, fun G B' H' σ T e => e.elim, fun G B' H' σ T e => e.elim, fun u G B' H' σ v fp T p hf e => ?_, _, L2N.takes_of rfl rfl rfl rfl, fun cls G B' H' σ T e => ?_⟩⟩
    · have e : r = .inl (sd .none) := e
      subst e
      exact g .non B' H' [] (ee T) (fun _ => ⟨rfl, .non⟩) fun a ha => absurd ha List.not_mem_nil
    · have e : r = .inl u := e
      subst e
      exact g v B' H' fp (ee T) p hf
    · have e : r = .inr cls := e
      subst e
      exact g B' H' (ee T)
theorem def_okX {x : Str} {st : Stmt} {N ps : List Str} {k : Nat} {R : List (Slot K c) → Slot K c ⊕ Value → Prop}
    (F : FunAt K mg x st ps) (S : FnScope N ps (defScope st)) (hR : ∀ ss r, R ss r → ss.length = ps.length)
    (body : ∀ (f : Addr) (cdv : Value) (A : Around) (outer : List PySem.Env) (s : Shared) (H : Hp) (E : XK) (ss : List (Slot K c)) (r : Slot K c ⊕ Value), R ss r → Bd (bxX P w K mg base N x st f cdv A outer s H E) k →
      DSs (c := c) (bxX P w K mg base N x st f cdv A outer s H E) (G0 N ss) (defBody st) (defEndX r)) : DefOkX P w K mg base x (k + 1) R := by
  obtain ⟨f, fd, hm, F, bn⟩ := F.ex
  exact ⟨f, fd, ps, hm, F.kp, bn, def_fnX F S hR (body f)⟩
end
section
variable {X : Cx} {G : Env X.K c} {a b e o : Expr} {es : List Expr} {pos pos' p : Pos} {d : D} {ds : List D} {k : Nat} {x : Str} {cls : Value} {ss : List (Slot X.K c)} {s : Slot X.K c} {R : List (Slot X.K c) → Slot X.K c ⊕ Value → Prop}
theorem dx_callX (F : DefOkX X.prog X.w X.K X.mg X.base x k R) (hr : Room k X.A) (ha : DAs X G (e :: es) ss) (hR : R ss (.inl s)) (hg : Gl X x := by rfl) (hdb : (x == ("__debug__" : Str)) = false := by decide)
    (he : starEach (e :: es) X.env = (false, eval e X.env) :: starEach es X.env := by rfl) (hpl : (backTo pos (starEach es X.env)).any (·.1) = false := by rfl) : DX X G (.Call (.Name x p) (e :: es) [] pos) s := by
  obtain ⟨ta, pa, ra⟩ := ha
  obtain ⟨f, fd, ps, hm, hk, hb, F⟩ := F.ex
  refine ⟨_, pe_callS F hr hg hm hk hb (fun σ => L2N.passAt takes0N σ) pa hdb he hpl, fun Z B H σ Q E g => ?_⟩
  exact ra Z B H σ _ E fun vs B1 H1 e1 h1 => ⟨B1, ss, .inl s, e1.sub, h1, hR, gs_ext e1 g⟩
theorem de_callX (F : DefOkX X.prog X.w X.K X.mg X.base x k R) (hr : Room k X.A) (ha : DAs X G (e :: es) ss) (hR : R ss (.inl (sd d))) (hg : Gl X x := by rfl) (hdb : (x == ("__debug__" : Str)) = false := by decide)
    (he : starEach (e :: es) X.env = (false, eval e X.env) :: starEach es X.env := by rfl) (hpl : (backTo pos (starEach es X.env)).any (·.1) = false := by rfl) : DE X G (.Call (.Name x p) (e :: es) [] pos) d := (dx_callX F hr ha hR hg hdb he hpl).de
theorem der_callX (F : DefOkX X.prog X.w X.K X.mg X.base x k R) (hr : Room k X.A) (ha : DAs X G (e :: es) ss) (hR : R ss (.inr cls)) (hg : Gl X x := by rfl) (hdb : (x == ("__debug__" : Str)) = false := by decide)
    (he : starEach (e :: es) X.env = (false, eval e X.env) :: starEach es X.env := by rfl) (hpl : (backTo pos (starEach es X.env)).any (·.1) = false := by rfl) : DER X G (.Call (.Name x p) (e :: es) [] pos) cls := fun W tk => by
  obtain ⟨ta, pa, ra⟩ := ha
  obtain ⟨f, fd, ps, hm, hk, hb, F⟩ := F.ex
  refine ⟨_, pe_callS F hr hg hm hk hb (fun σ => L2N.passAt tk σ) pa hdb he hpl, fun Z B H σ Q E g => ?_⟩
  exact ra Z B H σ _ E fun vs B1 H1 e1 h1 => ⟨B1, ss, .inr cls, e1.sub, h1, hR, fun B' H' e2 => g B' H' (e1.trans e2)⟩
end
section
variable {X : Cx} {CX : CXT} {k : Nat} {f C : Addr} {fd : FuncData} {ps : List Str} {sp : Sp} {E : L2.St → XK} {x : Str} {p pos : Pos} {e : Expr} {es : List Expr} {t : TA} {pins : List (Addr × Obj)} {σ : Sg} {H : Hp} {s : Shared}
theorem run_makeS {Q : VK} {us : List Value} {vs : List V} (M : Mk X.K C f) (F : FnOk X.prog X.w X.K X.mg X.base CX k f fd ps sp) (hr : Room (k + 1) X.A) (hb : Binds X.K fd ps [])
    (hx : ∀ (H : Hp) (s : Shared) (e : Value) (s' : Shared), Inv X pins σ H s → CX X.stack H s (E σ) e s' → X.xe e s') (I : Inv X pins σ H s) (r : Vals vs us)
    (h : ∀ x dx, H x = none → H dx = none → dx ≠ x → sp (.ref x :: vs) (upd (upd H dx (.own x)) x (.ins C dx [])) (fun v H2 => v = .non ∧ Q (.ref x) H2) (E σ)) :
    wpAny (model X.prog X.w) X.A (call (.ref C) us) (EP X pins σ Q) X.xe s := by
  have hq := h (s.heap.objs.size + 1) s.heap.objs.size (I.hok.fresh (Nat.le_succ _)) (I.hok.fresh (Nat.le_refl _)) (Nat.ne_of_lt (Nat.lt_succ_self _))
  have I2 := Inv.made (C := C) I
  have r2 : Vals (V.ref (s.heap.objs.size + 1) :: vs) (Value.ref (s.heap.objs.size + 1) :: us) := .cons rfl r
  have hl : (Value.ref (s.heap.objs.size + 1) :: us ++ []).length = ps.length := by
    have e := r2.length
    rw [F.len _ _ _ _ hq] at e
    rw [List.append_nil]
    exact e.symm
  have hbb := hb _ (Value.ref (s.heap.objs.size + 1) :: us) I2.kIn hl
  rw [List.append_nil] at hbb
  refine wpAny_call (make_map (f := f) I.kIn M.makes M.init (beq_iff_eq.mp M.fn) (codeAny_mono (F.run _ X.stack _ _ ⟨Value.ref (s.heap.objs.size + 1) :: us, []⟩ (Value.ref (s.heap.objs.size + 1) :: us) _ _ (E σ) (hr.make C us [])
    (I2.env0.make C us []) hbb r2 hq) fun r s' hq' => ?_))
  cases r with
  | error e => exact hx _ _ e s' I2 hq'
  | ok fl =>
    cases fl with
    | ret u =>
      obtain ⟨v, H', I3, rv, ev, q3⟩ := I2.after hq'
      subst ev
      exact ⟨rv, ⟨V.ref (s.heap.objs.size + 1), H', I3, rfl, q3⟩⟩
    | next => exact False.elim hq'
    | brk => exact False.elim hq'
    | cont => exact False.elim hq'
def tMakeS (C : Addr) (sp : Sp) (E : L2.St → XK) (t : TA) : TE := fun σ H Q => t σ H fun vs H1 => ∀ x dx, H1 x = none → H1 dx = none → dx ≠ x → sp (.ref x :: vs) (upd (upd H1 dx (.own x)) x (.ins C dx [])) (fun v H2 => v = .non ∧ Q (.ref x) H2) (E σ)
theorem pe_makeS (M : Mk X.K C f) (F : FnOk X.prog X.w X.K X.mg X.base CX k f fd ps sp) (hr : Room (k + 1) X.A) (hg : Gl X x) (hm : X.mg x = some (.ref C)) (hb : Binds X.K fd ps []) (hx : ∀ σ, PassesAt CX X σ (E σ))
    (ha : PA X (e :: es) t) (hdb : (x == ("__debug__" : Str)) = false := by decide) (he : starEach (e :: es) X.env = (false, eval e X.env) :: starEach es X.env := by rfl) (hpl : (backTo pos (starEach es X.env)).any (·.1) = false := by rfl) :
    PE X (.Call (.Name x p) (e :: es) [] pos) (tMakeS C sp E t) := by
  refine ⟨fun pins s σ H Q I h => ?_⟩
  refine wpAny_Call_Name_kw (ld_glob I hg hm ?_ hdb)
  refine PySem.W.callWith_K (h₀ := X.base) I.ok.mod.kin M.kp (thn (ha.run pos pins s σ H _ I h) fun us s1 ⟨vs, H1, I1, r, q⟩ => ⟨I1.kIn, ?_⟩) he hpl
  exact run_makeS M F hr hb (fun H s e s' I c => hx σ pins H s e s' I c) I1 r q
end
def spNX (K : PySem.W.Frag) (c : Cl) (n : Int) (R : List (Slot K c) → List (D × D) ⊕ Value → Prop) : Sp := fun vs H Q E => ∃ (B Z : Hp) (x dx C : Addr) (us : List V) (ss : List (Slot K c)) (r : List (D × D) ⊕ Value), vs = .ref x :: us ∧ c n = some C ∧ H x = some (.ins C dx []) ∧ B x = none ∧
  Same B H ∧ Same Z H ∧ Z x = none ∧ SlAll Z B H us ss ∧ R ss r ∧ match r with
  | .inl kvs => ∀ B' H' dx' fs, Same B B' → Same B' H' → (∀ a o, H a = some o → a ≠ x → H' a = some o) → (∀ a, B a = none → H a ≠ none → B' a = none) → H' x = some (.ins C dx' fs) → TpF K c B' fs kvs → Q .non H'
  | .inr cls => ∀ B' H', Same B B' → Same B' H' → (∀ a o, H a = some o → a ≠ x → H' a = some o) → (∀ a, B a = none → H a ≠ none → B' a = none) → E cls none H'
structure NewOkX (P : Program) (w : World) (K : PySem.W.Frag) (c : Cl) (mg : Str → Option Value) (base : Heap) (n : Int) (x : Str) (k : Nat) (R : List (Slot K c) → List (D × D) ⊕ Value → Prop) : Prop where
  ex : ∃ C f fd ps, c n = some C ∧ mg x = some (.ref C) ∧ Mk K C f ∧ Binds K fd ps [] ∧ FnOk P w K mg base (L2N.CX P w) k f fd ps (spNX K c n R)
def newEndX {K : PySem.W.Frag} (n : Int) (r : List (D × D) ⊕ Value) : Out K c → Prop
  | .nx G => ∃ kvs, r = .inl kvs ∧ G[0]? = some (some (kn (kIns n kvs) true))
  | .exc cls _ => r = .inr cls
  | _ => False
theorem new_fnX {P : Program} {w : World} {K : PySem.W.Frag} {mg : Str → Option Value} {base : Heap} {x qual : Str} {st : Stmt} {f : Addr} {fd : FuncData} {N ps : List Str} {k : Nat} {n : Int} {R : List (Slot K c) → List (D × D) ⊕ Value → Prop}
    (F : Fun K x qual st f fd) (S : FnScope N ps (defScope st)) (hR : ∀ ss r, R ss r → ss.length + 1 = ps.length)
    (body : ∀ (cdv : Value) (A : Around) (outer : List PySem.Env) (s : Shared) (H : Hp) (E : XK) (ss : List (Slot K c)) (r : List (D × D) ⊕ Value), R ss r → Bd (bxX P w K mg base N qual st f cdv A outer s H E) k →
      DSs (c := c) (bxX P w K mg base N qual st f cdv A outer s H E) (G0 N (kn (kIns n []) true :: ss)) (defBody st) (newEndX n r)) : FnOk P w K mg base (L2N.CX P w) (k + 1) f fd ps (spNX K c n R) := by
  refine Fun.okN F S (fun vs H Q E h => ?_) fun cdv A outer s H vs Q E hr h => ?_
  · obtain ⟨B, Z, x, dx, C, us, ss, kvs, rfl, _, _, _, _, _, _, h, hq, _⟩ := h
    rw [List.length_cons, h.length]
    exact hR ss kvs hq
  · obtain ⟨B, Z, x, dx, C, us, ss, r, rfl, hc, hx, bx', sb, sz, zx, h, hq, g⟩ := h
    have hl : ss.length + 1 ≤ N.length := by
      rw [hR ss r hq]
      have := congrArg List.length S.pre
      rw [List.length_take] at this
      omega
    have S0 := ste_new (N := N) (n := n) hc hx bx' sb sz zx h hl
    refine ⟨_, pss_wp, body cdv A outer s H E ss r hq ⟨S.nd, rfl, hr, L2.passes_of rfl⟩ _ B H _ _ S0 ⟨fun G B' H' σ T e => ?_, fun G B' H' σ T e => e.elim, fun G B' H' σ T e => e.elim, fun u G B' H' σ v fp T p hf e => e.elim, _, L2N.takes_of rfl rfl rfl rfl, fun cls G B' H' σ T e => ?_⟩⟩
    · obtain ⟨kvs, er, e⟩ := e
      subst er
      obtain ⟨fps, h1, _⟩ := T.sl
      obtain ⟨v, hv, ⟨⟨x', dx', C', fs, e0, e1, e2, e3, e4⟩, _⟩, _⟩ := h1 0 _ e
      have pv0 := T.pn 0 _ v e rfl hv
      have pv1 : (L2.start N (.ref x :: us))[0]?.getD none = some v := pv0
      unfold L2.start at pv1
      rw [List.getElem?_append_left (by simp)] at pv1
      have ev : V.ref x = v := Option.some.inj pv1
      rw [e0] at ev
      cases ev
      rw [hc] at e2
      cases e2
      exact g B' H' dx' fs T.b0 T.sub (fun a o q ne => T.h0 a o q ne) (fun a q q' => T.new a q q') e3 e4
    · have e : r = .inr cls := e
      subst e
      exact g B' H' T.b0 T.sub (fun a o q ne => T.h0 a o q ne) fun a q q' => T.new a q q'
section
variable {X : Cx} {G : Env X.K c} {a b e o : Expr} {es : List Expr} {pos pos' p apos : Pos} {d : D} {ds : List D} {k : Nat} {x m f : Str} {n : Int} {kvs : List (D × D)} {cls : Value} {R : List (Slot X.K c) → List (D × D) ⊕ Value → Prop} {ss : List (Slot X.K c)}
theorem sl_up {K : PySem.W.Frag} {Z B H H' : Hp} {vs : List V} {ss : List (Slot K c)} (h : SlAll Z B H vs ss) : SlAll Z B H' vs ss := by
  induction h with
  | nil => exact .nil
  | cons h1 _ ih => exact .cons (Slot.stb _ h1 (Same.refl _) (fun a ha => absurd ha List.not_mem_nil) fun a ha => absurd ha List.not_mem_nil) ih
theorem same_made {H' : Hp} {y dy C : Addr} (ny : H' y = none) (ndy : H' dy = none) : Same H' (upd (upd H' dy (.own y)) y (.ins C dy [])) := fun a o q => by
  rw [upd_ne (ne_of_none q ny), upd_ne (ne_of_none q ndy)]
  exact q
theorem de_newX (F : NewOkX X.prog X.w X.K c X.mg X.base n x k R) (hr : Room (k + 1) X.A) (ha : DAs X G (e :: es) ss) (hR : R ss (.inl kvs)) (hg : Gl X x := by rfl) (hdb : (x == ("__debug__" : Str)) = false := by decide)
    (he : starEach (e :: es) X.env = (false, eval e X.env) :: starEach es X.env := by rfl) (hpl : (backTo pos (starEach es X.env)).any (·.1) = false := by rfl) : DE X G (.Call (.Name x p) (e :: es) [] pos) (obD n kvs) := by
  obtain ⟨t, q, r⟩ := ha
  obtain ⟨C, f, fd, ps, h1, h2, h3, h4, h5⟩ := F.ex
  refine ⟨_, pe_makeS h3 h5 hr hg h2 h4 (fun σ => L2N.passAt takes0N σ) q hdb he hpl, fun Z B H σ Q E g => r Z B H σ _ E fun vs B' H' e h => ?_⟩
  intro y dy ny ndy ne
  have s1 := same_made (C := C) ny ndy
  refine ⟨B', H', y, dy, C, vs, ss, .inl kvs, rfl, h1, upd_same, e.sub.free ny, e.sub.trans s1, s1, ny, sl_up h, hR, fun B2 H2 dx' fs b1 b2 b3 b4 b5 b6 => ?_⟩
  have b2y : B2 y = none := b4 y (e.sub.free ny) (by rw [upd_same]; exact fun z => nomatch z)
  have sy : Same B2 (upd B2 y (.ins C dx' fs)) := same_upd b2y
  refine ⟨rfl, g _ (upd B2 y (.ins C dx' fs)) H2 ⟨e.b.trans (b1.trans sy), fun a o q => ?_, fun a o q => ?_, fun a q q' => ?_⟩ (.ob upd_same h1 (TpF.mono sy _ _ b6))⟩
  · have q2 := e.h a o q
    exact b3 a o (s1 a o q2) (ne_of_none q2 ny)
  · by_cases z : a = y
    · subst z; rw [upd_same] at q; cases q; exact b5
    · rw [upd_ne z] at q; exact b2 a o q
  · have q2 := e.new a q q'
    have q3 : H' a ≠ none := Same.some e.h q'
    have ny' : a ≠ y := fun z => q3 (z ▸ ny)
    rw [upd_ne ny']
    exact b4 a q2 (Same.some s1 q3)
theorem der_newX (F : NewOkX X.prog X.w X.K c X.mg X.base n x k R) (hr : Room (k + 1) X.A) (ha : DAs X G (e :: es) ss) (hR : R ss (.inr cls)) (hg : Gl X x := by rfl) (hdb : (x == ("__debug__" : Str)) = false := by decide)
    (he : starEach (e :: es) X.env = (false, eval e X.env) :: starEach es X.env := by rfl) (hpl : (backTo pos (starEach es X.env)).any (·.1) = false := by rfl) : DER X G (.Call (.Name x p) (e :: es) [] pos) cls := fun W tk => by
  obtain ⟨t, q, r⟩ := ha
  obtain ⟨C, f, fd, ps, h1, h2, h3, h4, h5⟩ := F.ex
  refine ⟨_, pe_makeS h3 h5 hr hg h2 h4 (fun σ => L2N.passAt tk σ) q hdb he hpl, fun Z B H σ Q E g => r Z B H σ _ E fun vs B' H' e h => ?_⟩
  intro y dy ny ndy ne
  have s1 := same_made (C := C) ny ndy
  refine ⟨B', H', y, dy, C, vs, ss, .inr cls, rfl, h1, upd_same, e.sub.free ny, e.sub.trans s1, s1, ny, sl_up h, hR, fun B2 H2 b1 b2 b3 b4 => ?_⟩
  exact g B2 H2 ⟨e.b.trans b1, fun a o q => b3 a o (s1 a o (e.h a o q)) (ne_of_none (e.h a o q) ny), b2, fun a q q' => b4 a (e.new a q q') (Same.some s1 (Same.some e.h q'))⟩
end
end Dw

namespace Dw
open PySem L2 PyProof.Rows
variable {c : Cl}
section
variable {prog : Program} {w : World} {A : Around} {E : Value → Shared → Prop} {s : Shared}
/-- the end of a list's walk where the exception at x1 is handled -/
theorem list_over_hot {it l x1 : Addr} {i : Nat} {items : Array Value} {Q : Option Value → Shared → Prop} (hot : HotX.HotAt A x1 s.heap) (st : s.heap.IsListIter it l i) (hl : s.heap.IsList l items) (hi : items[i]? = none) (ne : x1 ≠ it)
    (q : ∀ h', Heap.ExtBut it s.heap h' → Q none { s with heap := h' }) : wpAny (model prog w) A (pyNext (.ref it)) Q E s := by
  obtain ⟨hh, o1, vs1, e1, d1, c1⟩ := hot
  obtain ⟨oi, ei, ci, di⟩ := id st
  obtain ⟨ol, el, _, nl, dl⟩ := hl
  unfold pyNext
  have nz : ¬ ((Value.ref l == Value.none) = true) := Bool.false_ne_true
  apply wpAny_bind
  apply wpAny_attempt
  apply wpAny_callSpecial?_slot (name := Str.ofString "__next__") st.typeIs slot_listiter_next
  apply wpAny_call_entry slot_listiter_next st.typeIs entry_listiter_next ?_ (args_listiter_next _)
  show wpAny _ _ (field (.ref it) 0 >>= _) _ _ s
  apply wpAny_bind; apply wpAny_field ei di (x := .ref l) rfl
  show wpAny _ _ (if (Value.ref l == Value.none) = true then _ else _) _ _ s
  rw [if_neg nz]
  show wpAny _ _ (field (.ref it) 1 >>= _) _ _ s
  apply wpAny_bind; apply wpAny_field ei di (x := .int i 0) rfl
  show wpAny _ _ (seqItems? (.ref l) >>= _) _ _ s
  apply wpAny_bind; apply wpAny_seqItems el dl
  simp only [Int.toNat_natCast, hi]
  apply wpAny_bind; apply wpAny_rule
  apply wpAny_bind; apply wpAny_setField ei di (by simp)
  show wpAny _ _ (newExc (.type "StopIteration") [] >>= _) _ _ _
  apply wpAny_bind
  simp only [newExc, newTuple]
  apply wpAny_bind; refine wpAny_newObj_type ?_ (by size_fits)
  refine wpAny_bind (m := firstArgMember _ _) (wpAny_of_eq (a := Value.none) (by first | rfl | (simp only [firstArgMember]; rfl)) ?_)
  refine wpAny_newObj_type ?_ (by size_fits)
  have sb := Heap.SameBut.update it (Obj.mapFields (·.setIfInBounds 0 Value.none)) (h := s.heap)
  have ee := sb.extBut
  have g1 := Heap.get?_push_of_some { cls := .type "tuple", data := .seq ([] : List Value).toArray } (ee x1 o1 ne e1)
  refine HotX.raiseNew_hot (x1 := x1) ⟨hh, o1, vs1, Heap.get?_push_of_some _ g1, d1, c1⟩ (Nat.ne_of_lt (Heap.lt_size g1)) (Heap.get?_push_size _ rfl) rfl (by first | (simp; done) | (simp; omega)) ?_
  refine wpAny_bind (wpAny_isInstance (T := "StopIteration") (b := true) ⟨_, Heap.get?_update_self _ (Heap.get?_push_size _ rfl) rfl, rfl⟩ isSubtype_stop ?_)
  refine wpAny_pure (q _ fun b o nb eb => ?_)
  have g2 := Heap.get?_push_of_some { cls := .type "tuple", data := .seq ([] : List Value).toArray } (ee b o nb eb)
  rw [Heap.get?_update_other _ _ (Nat.ne_of_gt (Heap.lt_size g2))]
  exact Heap.get?_push_of_some _ g2
end
section
variable {X : Cx}
theorem pe_lcH {elt tg iter : Expr} {ifs : List Expr} {scope : Scope} {own : List (Str × Nat)} {pos : Pos} {tl : TE} {g : TG} {tt : TT} {te : TE} (hc : L2H.HotC X) (hN : X.N.Nodup) (hi : PE X iter tl) (ok : BlkOk X.N X.env.scope scope own)
    (hg : ∀ (s : Shared) (H : Hp) (C : Addr) (cl : List (Str × Addr)) (fp : List Addr), PG (X.blk s H scope (compEnvC scope cl C X.env) fp) tg g) (ht : ∀ (s : Shared) (H : Hp) (C : Addr) (cl : List (Str × Addr)) (fp : List Addr), PTs (X.blk s H scope (compEnvC scope cl C X.env) fp) ifs tt)
    (he : ∀ (s : Shared) (H : Hp) (C : Addr) (cl : List (Str × Addr)) (fp : List Addr), PE (X.blk s H scope (compEnvC scope cl C X.env) fp) elt te) (hs : ∀ x, foldedSetIterable iter X.env x = pure x := by intro _; rfl) :
    PE X (.ListComp elt [⟨tg, iter, ifs, 0⟩] scope pos) (tLc (iList X.K tl) g tt te (own.map (·.2))) := by
  refine ⟨fun pins s σ H Q I h => ?_⟩
  rw [eval_ListComp]
  have free : ∀ y ∈ scope.names, y.2 = .free → ∃ c, X.env.cells.lookup y.1 = some c := fun y hy e => (ok.free y hy e).elim (fun k => I.ok.has _ (.inl k)) fun k => I.ok.has _ (.inr k)
  apply wpAny_comprehension_free (use := none) rfl hs (closure_ok free) ok.kind (fun y hy e => by rw [ok.uniq y hy, e])
  apply thn (hi.run pins s σ H _ I h)
  rintro xv s1 ⟨x, H1, I1, r1, a, rfl, ⟨xs, hq⟩, q⟩
  cases r1
  obtain ⟨its, rv, pl, hz⟩ := I1.list hq
  apply wpAny_pyIter_list pl.isList
  have I2 : Inv X pins σ H1 { s1 with heap := s1.heap.push { cls := .type "list_iterator", data := .fields #[.ref a, .int 0 0] } } := I1.kept (t' := s1.toks) fun b o e => Heap.get?_push_of_some _ e
  have st2 : (s1.heap.push { cls := .type "list_iterator", data := .fields #[.ref a, .int 0 0] }).IsListIter s1.heap.objs.size a 0 := ⟨_, Heap.get?_push_size _ rfl, rfl, rfl⟩
  have f2 : FpOk X pins H1 s1.heap.objs.size := I1.fpOk (Nat.le_refl _) (I1.hok.fresh (Nat.le_refl _))
  have lt2 : s1.heap.objs.size < (s1.heap.push { cls := .type "list_iterator", data := .fields #[.ref a, .int 0 0] }).objs.size := by rw [Heap.size_push]; exact Nat.lt_succ_self _
  generalize s1.heap.objs.size = it at st2 f2 lt2 ⊢
  generalize hS2 : ({ s1 with heap := s1.heap.push { cls := .type "list_iterator", data := .fields #[.ref a, .int 0 0] } } : Shared) = s2 at I2
  have eh : s1.heap.push { cls := .type "list_iterator", data := .fields #[.ref a, .int 0 0] } = s2.heap := by rw [← hS2]
  rw [eh] at st2 lt2
  obtain ⟨p0, ⟨hh, v1, d1, c1⟩, hp0⟩ := hc
  obtain ⟨g0, n0, l0, o0, _⟩ := I2.pin p0 (List.mem_append_left _ hp0)
  have ni : p0.1 ≠ it := f2.2.2.2.2.2 p0 (List.mem_append_left _ hp0)
  have nst : p0.1 ∉ frs X.stack := fun z => (List.mem_cons.mp (I2.stkSub _ z)).elim l0 o0
  refine wpAny_newObj_type (newEnv_comp ?_) (by show 0 ≤ sizeLine; decide)
  generalize hD : s2.heap.objs.size = D
  obtain ⟨W, ⟨m0, w0⟩, turn⟩ := q D (I2.hok.fresh (Nat.le_of_eq hD))
  generalize hs3 : ({ s2 with heap := s2.heap.push { cls := .type "list", data := .seq ([] : List Value).toArray } } : Shared) = s3
  have h3 : s3.heap = s2.heap.push { cls := .type "list", data := .seq ([] : List Value).toArray } := by rw [← hs3]
  have up3 : ∀ b o, s2.heap.get? b = some o → s3.heap.get? b = some o := fun b o e => by rw [h3]; exact Heap.get?_push_of_some _ e
  have I3 : Inv X pins σ (upd H1 D (.lst [])) s3 := by
    subst hs3 hD
    exact I2.laid (t' := s2.toks) (fun b o e => Heap.get?_push_of_some _ e) (Nat.le_refl _) ⟨Nat.zero_le _, [], 0, .nil, Heap.get?_push_size _ rfl⟩
  have nD : ∀ {b : Addr}, b < s2.heap.objs.size → (upd H1 D (.lst [])) b = H1 b := fun {b} z => upd_ne (by rw [← hD]; exact Nat.ne_of_lt z)
  have f3 : ∀ b ∈ [it], FpOk X pins (upd H1 D (.lst [])) b ∧ b < s3.heap.objs.size := fun b hb => by
    rw [List.mem_singleton.mp hb]
    exact ⟨⟨by rw [nD lt2]; exact f2.1, f2.2⟩, by rw [h3, Heap.size_push]; exact Nat.lt_succ_of_lt lt2⟩
  have st3 : s3.heap.IsListIter it a 0 := st2.at fun o e => up3 it o e
  have n3 : (upd H1 D (.lst [])) p0.1 = none := by rw [nD (Heap.lt_size g0)]; exact n0
  have I4 := block_start I3 ok hN f3
  have pg := hg s3 (upd H1 D (.lst [])) s3.heap.objs.size (cellsFrom (s3.heap.objs.size + 1) scope.names (cloFrom X.env.cells scope.names [])) [it]
  have pt := ht s3 (upd H1 D (.lst [])) s3.heap.objs.size (cellsFrom (s3.heap.objs.size + 1) scope.names (cloFrom X.env.cells scope.names [])) [it]
  have pe := he s3 (upd H1 D (.lst [])) s3.heap.objs.size (cellsFrom (s3.heap.objs.size + 1) scope.names (cloFrom X.env.cells scope.names [])) [it]
  show codeAny _ _ (.compStart (.ListComp elt [⟨tg, iter, ifs, 0⟩] scope pos) 0 (.ref it) (.ref D) (compEnvC scope (cellsFrom (s3.heap.objs.size + 1) scope.names (cloFrom X.env.cells scope.names [])) s3.heap.objs.size X.env)) (compPost (model X.prog X.w) X.A X.xe none _ (.ref D) s3.heap.objs.size) { s3 with heap := pushCells (s3.heap.push { cls := .type "dict", data := .dict #[] }) scope.names }
  generalize hce : compEnvC scope (cellsFrom (s3.heap.objs.size + 1) scope.names (cloFrom X.env.cells scope.names [])) s3.heap.objs.size X.env = ce at I4 pg pt pe ⊢
  have cL : ce.locals = s3.heap.objs.size := by rw [← hce]; rfl
  have f3i := (f3 it List.mem_cons_self).1
  generalize hH3 : upd H1 D (.lst []) = H3 at I3 I4 pg pt pe w0 n3 f3i
  generalize hs4 : ({ s3 with heap := pushCells (s3.heap.push { cls := .type "dict", data := .dict #[] }) scope.names } : Shared) = s4 at I4 ⊢
  have st4 : s4.heap.IsListIter it a 0 := st3.at fun o e => by rw [← hs4]; exact pushCells_keeps _ _ _ _ (Heap.get?_push_of_some _ e)
  have g3 := up3 _ _ g0
  have stat : ∀ {σ' : L2.St} {H' : Hp} {s' : Shared}, Inv (X.blk s3 H3 scope ce [it]) [] σ' H' s' → H' it = none → FpOk (X.blk s3 H3 scope ce [it]) [] H' it := fun {σ' H' s'} I' hn =>
    ⟨hn, (I'.ok.exf it List.mem_cons_self).1, I'.ok.exfs it List.mem_cons_self, .inl List.mem_cons_self, fun x c e => (I'.ok.exf it List.mem_cons_self).2 x c e, fun p hp => absurd (show p ∈ ([] : List (Addr × Obj)) ++ [] from hp) (by simp)⟩
  have loop : codeAny (model X.prog X.w) X.A (.compLoop (.ListComp elt [⟨tg, iter, ifs, 0⟩] scope pos) 0 (.ref it) (.ref D) ce) (compPost (model X.prog X.w) X.A X.xe none (EP X pins σ Q) (.ref D) s3.heap.objs.size) s4 := by
    apply compLoop_any (fun n s' => ∃ i H', Inv (X.blk s3 H3 scope ce [it]) [] (wipe σ (own.map (·.2))) H' s' ∧ s'.heap.IsListIter it a i ∧ H' it = none ∧ W i n H') ?_ m0 ⟨0, H3, I4, st4, f3i.1, w0⟩
    rintro n s5 ⟨i, H5, I5, st5, n5, w5⟩
    obtain ⟨k0, k1, k2, k3, k4, k5⟩ := stat I5 n5
    rcases turn i n H5 w5 with ⟨⟨ys, hy, hle⟩, qq⟩ | ⟨⟨ys, y, hy, hye⟩, Nx, hNx, step⟩
    · obtain ⟨jts, rj, pj, _⟩ := I5.list hy
      have hot : HotX.HotAt X.A p0.1 s5.heap := ⟨hh, p0.2, v1, I5.base.keep p0.1 p0.2 g3 n3 nst (by simpa using ni), d1, c1⟩
      have hl := rj.length
      apply list_over_hot hot st5 pj.isList (by simp; omega) ni
      intro h' eb
      have I6 : Inv (X.blk s3 H3 scope ce [it]) [] (wipe σ (own.map (·.2))) H5 { s5 with heap := h' } := I5.turned (t' := s5.toks) (fun b o hb e => eb b o hb e) k0 k1 k3 k4 k5
      have I7 : Inv X pins σ H5 { s5 with heap := h' } := I3.call' (ch := [it]) I6.os I6.base I6.hok I6.bare fun b hb => by
        rw [List.mem_singleton.mp hb]
        exact ⟨f3i.2.2.2.1, f3i.2.1, f3i.2.2.2.2.1, f3i.2.2.2.2.2⟩
      have nC : H5 ce.locals = none := I6.free
      obtain ⟨m, hn, _⟩ := I6.loc
      have hn : h'.Ns ce.locals m := hn
      rw [cL] at hn nC
      refine ⟨m, hn, fun h'' sb => ?_⟩
      obtain ⟨z0, z1, z2, z3, z4, z5⟩ := I3.fpOk (Nat.le_refl _) nC
      exact ⟨.ref D, H5, I7.turned (t' := s5.toks) (fun b o hb e => (sb.2 b hb).trans e) z0 z1 z3 z4 z5, rfl, qq⟩
    · obtain ⟨jts, rj, pj, _⟩ := I5.list hy
      obtain ⟨u, hu, ru⟩ := rj.get hye
      apply wpAny_pyNext_list_item st5 pj.isList (x := u) (by simpa using hu)
      intro h' st' sb
      have I6 : Inv (X.blk s3 H3 scope ce [it]) [] (wipe σ (own.map (·.2))) H5 { s5 with heap := h' } := I5.turned (t' := s5.toks) (fun b o hb e => (sb.2 b hb).trans e) k0 k1 k3 k4 k5
      obtain ⟨oi, ei, ci, di⟩ := id st'
      apply go_of (s := { s5 with heap := h' }) ei ci di (by decide)
      have I7 := I6.pinned (fp := [it]) (fun b hb => by rw [List.mem_singleton.mp hb]; exact stat I6 n5) fun b hb => by
        rw [List.mem_singleton.mp hb]
        exact ⟨oi, ei, fun v z => by rw [di] at z; cases z⟩
      have yl : (Itl X.K a).yld i H5 y H5 := ⟨rfl, fun zs hz' => by rw [I5.list_inj hz' hy]; exact hye⟩
      apply thnF (pg.run _ _ _ H5 y u _ I7 ru (step y H5 yl))
      rintro _ s8 ⟨σ8, H8, I8, hw8, q8⟩
      apply thnF (pt.run _ s8 σ8 H8 _ I8 q8)
      rintro b s9 ⟨H9, I9, q9⟩
      have fin : ∀ {s' : Shared} {H' : Hp}, Inv (X.blk s3 H3 scope ce [it]) ([] ++ pinsAt [it] h') σ8 H' s' → Nx H' → ∃ m, m < n ∧ ∃ i H', Inv (X.blk s3 H3 scope ce [it]) [] (wipe σ (own.map (·.2))) H' s' ∧ s'.heap.IsListIter it a i ∧ H' it = none ∧ W i m H' := fun {s' H'} I' nx => by
        obtain ⟨m', hm, w'⟩ := hNx H' nx
        have z := I'.pin (it, oi) (List.mem_append_right _ (List.mem_append_right _ (mem_pinsAt List.mem_cons_self ei)))
        refine ⟨m', hm, i + 1, H', (I'.unpinned (pins := [])).weak (by rw [← hw8, wipe_length]) (fun j v e => ?_), st'.at fun o e => ?_, z.2.1, w'⟩
        · rw [← hw8] at e
          exact (wipe_some e).1
        · rw [ei] at e
          cases e
          exact z.1
      cases b with
      | false =>
        simp only [Bool.false_eq_true, if_false] at q9 ⊢
        exact fin I9 q9
      | true =>
        simp only [if_true] at q9 ⊢
        apply thnF (pe.run _ s9 σ8 H9 _ I9 q9)
        rintro z s10 ⟨yv, H10, I10, r10, acc, hD10, hz10, nx⟩
        exact app_ok (X := X.blk s3 H3 scope ce [it]) I10 hD10 hz10 r10 fun s11 I11 => fin I11 nx
  exact codeAny_compStart_list loop (wpAny_pyIter_listiter st4 loop)
end
end Dw

namespace Dw
open PySem L2 PyProof.Rows
variable {c : Cl}
def okd : Nat → D → Bool
  | 0, d => d.canLay0 && decide (d.depth ≤ 60)
  | n + 1, .list ds => ds.all (okd n)
  | _ + 1, .dict [] => true
  | _ + 1, d => d.canLay0 && decide (d.depth ≤ 60)
section
variable {X : Cx} {pins : List (Addr × Obj)} {σ : Sg} {H B : Hp} {s : Shared}
theorem empty_dict (I : Inv X pins σ H s) {a : Addr} (h : H a = some (.dK [])) : (a == sysModules) = false ∧ ∀ {P : Program} {w : World}, s.heap.DictOf (mixKind P w) a [] := by
  obtain ⟨_, ys, vs, rv, o, es, ep, h1, h2, h3, h4, h5, h6⟩ := (show ObjOk X.prog X.w H s.heap a (.dK []) from I.hok a _ h)
  cases rv
  have e0 : es.toList = [] := by generalize es.toList = l at h5; cases h5; rfl
  have e1 : es = #[] := by apply Array.toList_inj.mp; rw [e0]
  subst e1
  exact ⟨ys, fun {P w} => ⟨o, #[], ep, h1, h2, h3, fun e he => absurd he (by simp), .nil, by simp⟩⟩
theorem rc_empty (I : Inv X pins σ H s) {A : Around} (hu : A.units < cLine) {a b : Addr} (ha : H a = some (.dK [])) (hb : H b = some (.dK [])) : SeqAt.RcAt A s (.ref a) (.ref b) true := fun P w E Q q => by
  obtain ⟨y1, d1⟩ := empty_dict I ha
  obtain ⟨y2, d2⟩ := empty_dict I hb
  exact PySem.W.keq_eq (knd := mixKind P w) (ka := []) (kb := []) (r := true) y1 y2 d1 d2 hu (fun _ => .nil) q
theorem at_empty (I : Inv X pins σ H s) {A : Around} (hu : A.units < cLine) {a b : Addr} (ha : H a = some (.dK [])) (hb : H b = some (.dK [])) : SeqAt.EqAt A s (.ref a) (.ref b) true := by
  by_cases e : a = b
  · subst e; exact SeqAt.EqAt.same _
  · exact SeqAt.EqAt.of_refs e (rc_empty I hu ha hb)
theorem at_plain (I : Inv X pins σ H s) (sb : Same B H) {d : D} (h : (d.canLay0 && decide (d.depth ≤ 60)) = true) {A : Around} (hu : A.units + 64 < cLine) {x y : V} {v u : Value} (hx : Tp X.K c B x d) (hy : Tp X.K c B y d) (rx : RelV x v) (ry : RelV y u) : SeqAt.EqAt A s v u true := by
  simp only [Bool.and_eq_true, decide_eq_true_eq] at h
  obtain ⟨as, r1⟩ := Dp.reads I d x v (Tp.dp _ _ (Tp.mono sb _ _ hx) h.1) rx
  obtain ⟨bs, r2⟩ := Dp.reads I d y u (Tp.dp _ _ (Tp.mono sb _ _ hy) h.1) ry
  have := SeqAt.eqAt_reads d d A s v u as bs r1 r2 h.1 h.1 (by rw [Nat.min_self]; omega)
  rw [SeqAt.eqv_refl d h.1] at this
  exact this
theorem tpAll_at {ds : List D} {xs : List V} (h : TpAll X.K c B xs ds) {j : Nat} (hj : j < ds.length) : ∃ x, xs[j]? = some x ∧ Tp X.K c B x ds[j] := h.get (List.getElem?_eq_getElem hj)
theorem at_list (I : Inv X pins σ H s) (sb : Same B H) {ds : List D} {A : Around} {xs ys : List V} {us ws : List Value} (ih : ∀ d ∈ ds, ∀ x y v u, Tp X.K c B x d → Tp X.K c B y d → RelV x v → RelV y u → SeqAt.EqAt A s v u true)
    (h1 : TpAll X.K c B xs ds) (h2 : TpAll X.K c B ys ds) (r1 : Vals xs us) (r2 : Vals ys ws) (j : Nat) (j1 : j < us.toArray.size) (j2 : j < ws.toArray.size) : SeqAt.EqAt A s us.toArray[j] ws.toArray[j] true := by
  have k1 : j < us.length := by simpa using j1
  have k2 : j < ws.length := by simpa using j2
  have l1 := r1.length
  have l2 := h1.length
  have hj : j < ds.length := by omega
  obtain ⟨x, e1, t1⟩ := tpAll_at h1 hj
  obtain ⟨y, e2, t2⟩ := tpAll_at h2 hj
  obtain ⟨v, f1, g1⟩ := r1.get e1
  obtain ⟨u, f2, g2⟩ := r2.get e2
  rw [List.getElem?_eq_getElem k1] at f1
  rw [List.getElem?_eq_getElem k2] at f2
  cases f1
  cases f2
  have := ih _ (List.getElem_mem hj) x y _ _ t1 t2 g1 g2
  simpa using this
theorem at_data (I : Inv X pins σ H s) (sb : Same B H) : ∀ (n : Nat) (d : D), okd n d = true → ∀ A : Around, A.units + n + 64 < cLine → ∀ x y v u, Tp X.K c B x d → Tp X.K c B y d → RelV x v → RelV y u → SeqAt.EqAt A s v u true
  | 0, d, h, A, hu, x, y, v, u, hx, hy, rx, ry => at_plain I sb h (by omega) hx hy rx ry
  | n + 1, .list ds, h, A, hu, _, _, v, u, hx, hy, rx, ry => by
    cases hx with
    | @lst a xs _ q1 q2 =>
    cases hy with
    | @lst b ys _ p1 p2 =>
    cases (show v = Value.ref a from rx)
    cases (show u = Value.ref b from ry)
    by_cases e : a = b
    · subst e; exact SeqAt.EqAt.same _
    · obtain ⟨us, r1, l1, _⟩ := I.list (.inl (Same.rd sb q1))
      obtain ⟨ws, r2, l2, _⟩ := I.list (.inl (Same.rd sb p1))
      have hsz : us.toArray.size = ws.toArray.size := by
        rw [List.size_toArray, List.size_toArray, ← r1.length, ← r2.length, q2.length, p2.length]
      refine SeqAt.EqAt.of_refs e ?_
      have := SeqAt.RcAt.lists (A := A) (e := fun _ => true) l1.isList l2.isList hsz (by omega) fun j j1 j2 => at_list I sb (fun d hd x y v u => at_data I sb n d (List.all_eq_true.mp h d hd) A.in1 (by show A.units + 1 + n + 64 < cLine; omega) x y v u) q2 p2 r1 r2 j j1 j2
      rw [show ((List.range us.toArray.size).all fun _ => true) = true from List.all_eq_true.mpr fun _ _ => rfl] at this
      exact this
  | n + 1, .dict [], h, A, hu, _, _, v, u, hx, hy, rx, ry => by
    cases hx with
    | @dct a q1 =>
    cases hy with
    | @dct b p1 =>
    cases (show v = Value.ref a from rx)
    cases (show u = Value.ref b from ry)
    exact at_empty I (by omega) (sb _ _ q1) (sb _ _ p1)
  | n + 1, .none, h, A, hu, _, _, _, _, hx, hy, rx, ry => at_plain I sb h (by omega) hx hy rx ry
  | n + 1, .bool _, h, A, hu, _, _, _, _, hx, hy, rx, ry => at_plain I sb h (by omega) hx hy rx ry
  | n + 1, .int _, h, A, hu, _, _, _, _, hx, hy, rx, ry => at_plain I sb h (by omega) hx hy rx ry
  | n + 1, .str _, h, A, hu, _, _, _, _, hx, hy, rx, ry => at_plain I sb h (by omega) hx hy rx ry
  | n + 1, .tuple _, h, A, hu, _, _, _, _, hx, hy, rx, ry => at_plain I sb h (by omega) hx hy rx ry
  | n + 1, .dict (_ :: _), h, A, hu, _, _, _, _, hx, hy, rx, ry => at_plain I sb h (by omega) hx hy rx ry
def rNeK (K : PySem.W.Frag) (c : Cl) : R2 := fun x y H Q => ∃ B n d, Same B H ∧ n ≤ 60 ∧ okd n d = true ∧ Tp K c B x d ∧ Tp K c B y d ∧ Q (.bl false) H
theorem op_neK (hu : X.A.units + 130 < cLine) : OpR X (compareOp .NotEq) (rNeK X.K c) := by
  intro pins s σ H x y v u Q I rx ry h
  obtain ⟨B, n, d, sb, hn, hd, hx, hy, q⟩ := h
  have fin : EP X pins σ Q (.bool false) s := ⟨.bl false, H, I, rfl, q⟩
  have plain : (d.canLay0 && decide (d.depth ≤ 60)) = true → wpAny (model X.prog X.w) X.A (compareOp .NotEq v u) (EP X pins σ Q) X.xe s := fun h => by
    simp only [Bool.and_eq_true, decide_eq_true_eq] at h
    obtain ⟨as, r1⟩ := Dp.reads I d x v (Tp.dp _ _ (Tp.mono sb _ _ hx) h.1) rx
    obtain ⟨bs, r2⟩ := Dp.reads I d y u (Tp.dp _ _ (Tp.mono sb _ _ hy) h.1) ry
    refine SeqAt.compareNe_reads r1 r2 h.1 h.1 (by rw [Nat.min_self]; omega) ?_
    rw [SeqAt.eqv_refl d h.1]
    exact fin
  match n, d, hd, hx, hy, plain, hn with
  | 0, _, hd, _, _, plain, _ => exact plain hd
  | n + 1, .list ds, hd, hx, hy, _, hn =>
    cases hx with
    | @lst a xs _ q1 q2 =>
    cases hy with
    | @lst b ys _ p1 p2 =>
    cases (show v = Value.ref a from rx)
    cases (show u = Value.ref b from ry)
    obtain ⟨us, r1, l1, _⟩ := I.list (.inl (Same.rd sb q1))
    obtain ⟨ws, r2, l2, _⟩ := I.list (.inl (Same.rd sb p1))
    have hsz : us.toArray.size = ws.toArray.size := by
      rw [List.size_toArray, List.size_toArray, ← r1.length, ← r2.length, q2.length, p2.length]
    have k := SeqAt.RcNeAt.lists (A := X.A) (e := fun _ => true) l1.isList l2.isList hsz (by omega) fun j j1 j2 => at_list I sb (fun d hd' x y v u => at_data I sb n d (List.all_eq_true.mp hd d hd') X.A.in1 (by show X.A.units + 1 + n + 64 < cLine; omega) x y v u) q2 p2 r1 r2 j j1 j2
    rw [show ((List.range us.toArray.size).all fun _ => true) = true from List.all_eq_true.mpr fun _ _ => rfl] at k
    exact k X.prog X.w _ _ fin
  | n + 1, .dict [], hd, hx, hy, _, _ =>
    cases hx with
    | @dct a q1 =>
    cases hy with
    | @dct b p1 =>
    cases (show v = Value.ref a from rx)
    cases (show u = Value.ref b from ry)
    obtain ⟨y1, d1⟩ := empty_dict I (sb _ _ q1)
    obtain ⟨y2, d2⟩ := empty_dict I (sb _ _ p1)
    exact PySem.W.keq_ne (knd := mixKind X.prog X.w) (ka := []) (kb := []) (r := true) y1 y2 d1 d2 (by omega) (fun _ => .nil) fin
  | n + 1, .none, hd, _, _, plain, _ => exact plain hd
  | n + 1, .bool _, hd, _, _, plain, _ => exact plain hd
  | n + 1, .int _, hd, _, _, plain, _ => exact plain hd
  | n + 1, .str _, hd, _, _, plain, _ => exact plain hd
  | n + 1, .tuple _, hd, _, _, plain, _ => exact plain hd
  | n + 1, .dict (_ :: _), hd, _, _, plain, _ => exact plain hd
/-- a list == [] -/
def rEqNil (K : PySem.W.Frag) : R2 := fun x y H Q => ∃ a b xs, x = .ref a ∧ y = .ref b ∧ SqL K H a xs ∧ SqL K H b [] ∧ Q (.bl xs.isEmpty) H
theorem op_eqNil (hu : X.A.units + 1 < cLine) : OpR X (compareOp .Eq) (rEqNil X.K) := by
  intro pins s σ H x y v u Q I rx ry h
  obtain ⟨a, b, xs, rfl, rfl, hx, hy, q⟩ := h
  cases (show v = Value.ref a from rx)
  cases (show u = Value.ref b from ry)
  obtain ⟨us, r1, l1, _⟩ := I.list hx
  obtain ⟨ws, r2, l2, _⟩ := I.list hy
  cases r2
  have fin : EP X pins σ Q (.bool xs.isEmpty) s := ⟨.bl _, H, I, rfl, q⟩
  cases r1 with
  | nil =>
    exact SeqAt.eq_listAt (e := fun _ => true) l1.isList l2.isList rfl (by omega) (fun j j1 j2 => absurd j1 (by simp)) fin
  | cons r rr =>
    refine SeqAt.eq_list_lengthsAt l1.isList l2.isList (by simp) (by omega) fin
end
section
variable {X : Cx} {G : Env X.K c} {a b e : Expr} {es : List Expr} {pos p : Pos} {d d1 d2 : D} {ds zs : List D} {k : Nat} {x : Str}
theorem units130 (C : Bd X k) : X.A.units + 130 < cLine := by have := C.room.un; omega
theorem dt_neK {n : Nat} (C : Bd X k) (ha : DE X G a d) (hb : DE X G b d) (hd : okd n d = true) (hn : n ≤ 60 := by decide) (hm : behindInMarks .NotEq b = false := by first | exact nomark _ (by decide) (by decide) | rfl) : DT X G (.Compare a [.NotEq] [b] pos) false := by
  obtain ⟨ta, pa, ra⟩ := ha
  obtain ⟨tb, pb, rb⟩ := hb
  refine ⟨_, pt_cmpR (op_neK (c := c) (units130 C)) pa pb hm, fun Z B H σ Q E g => ?_⟩
  refine ra Z B H σ _ E fun v B1 H1 e1 h1 => rb Z B1 H1 σ _ (E.ext e1) fun u B2 H2 e2 h2 => ?_
  exact ⟨B2, n, d, e2.sub, hn, hd, Tp.mono e2.b _ _ h1, h2, false, rfl, g B2 H2 (e1.trans e2)⟩
theorem od_eqNil (hu : X.A.units + 1 < cLine) : OpD c X (compareOp .Eq) (.list ds) (.list []) (.bool ds.isEmpty) := ⟨_, op_eqNil hu, fun B H x y Q s hx hy g => by
  obtain ⟨p, xs, rfl, h1, h2⟩ := Tm.seq s hx
  obtain ⟨q, ys, rfl, h3, h4⟩ := Tm.seq s hy
  cases h4
  have : xs.isEmpty = ds.isEmpty := by cases h2 <;> rfl
  exact ⟨p, q, xs, rfl, rfl, h1, h3, by rw [this]; exact gv_of s g (.bl _)⟩⟩
/-- {} -/
theorem de_dict0 : DE X G (.Dict [] [] pos) (.dict []) := ⟨_, pe_dnewK, fun Z B H σ Q E g p hp => g _ (upd B p (.dK [])) _ (Ext.lay E.sub _ hp) (.dct upd_same)⟩
/-- xs[lo:hi] of a list that is kept, its items of any kind -/
theorem dx_sliceF {lo hi : Option Expr} {l u : Option Int} {p2 : Pos} (ha : DE X G a (.list ds)) (hl : DO X G lo l) (hu : DO X G hi u) : DX X G (.Subscript a (.Slice lo hi none p2) pos) (so (cutD ds l u)) := by
  obtain ⟨ta, pa, ra⟩ := ha
  obtain ⟨tl, pl, rl⟩ := hl
  obtain ⟨tu, pu, ru⟩ := hu
  refine ⟨_, pe_slice sl_list pa pl pu, fun Z B H σ Q E g => ?_⟩
  refine ra Z B H σ _ E fun v B1 H1 e1 h1 => rl Z B1 H1 σ _ (E.ext e1) fun B2 H2 e2 => ru Z B2 H2 σ _ (E.ext (e1.trans e2)) fun B3 H3 e3 => ?_
  have e := (e1.trans e2).trans e3
  cases h1 with
  | lst q1 q2 =>
    refine ⟨_, _, rfl, .inl (Same.rd (e1.sub.trans (e2.trans e3).h) q1), fun r hr => gs_lst e3.sub (gs_ext e g) ?_ hr⟩
    have := TpAll.mono (e2.trans e3).b _ _ q2
    unfold cutV cutD
    rw [q2.length]
    exact (this.drop _).take _
/-- xs + ys: a kept list, a new one -/
theorem dl_x (h : DX X G e (so ds)) : DL X G e ds := dl_of h.frozen
/-- tuple(xs), a list whose items may be kept -/
theorem de_tupleL (ha : DE X G a (.list ds)) (hm : X.mg "tuple" = none) (hg : Gl X "tuple" := by rfl) (he : starEach (a :: []) X.env = (false, eval a X.env) :: starEach [] X.env := by rfl) (hpl : (backTo pos (starEach [] X.env)).any (·.1) = false := by rfl) :
    DE X G (.Call (.Name "tuple" p) [a] [] pos) (.tuple ds) := by
  obtain ⟨t, pa, r⟩ := ha
  refine ⟨_, pe_callTy call_tuple_of hg hm (by decide +kernel) (pa_cons pa pa_nil he) (by decide) (by decide) he hpl, fun Z B H σ Q E g => r Z B H σ _ E fun v B' H' e h => ?_⟩
  cases h with
  | lst q1 q2 => exact ⟨_, _, rfl, .inl ⟨.inl (Same.rd e.sub q1), fun l hl => g _ (upd B' l (.tup _)) _ (e.trans (Ext.lay e.sub _ hl)) (.tup (.inl upd_same) (TpAll.mono (same_upd (e.sub.free hl)) _ _ q2))⟩⟩
/-- list(t) of a tuple -/
theorem dx_listT (ha : DE X G a (.tuple ds)) (hm : X.mg "list" = none) (hg : Gl X "list" := by rfl) (he : starEach (a :: []) X.env = (false, eval a X.env) :: starEach [] X.env := by rfl) (hpl : (backTo pos (starEach [] X.env)).any (·.1) = false := by rfl) :
    DX X G (.Call (.Name "list" p) [a] [] pos) (so ds) := by
  obtain ⟨t, pa, r⟩ := ha
  refine ⟨_, pe_callTy call_list_of hg hm (by decide +kernel) (pa_cons pa pa_nil he) (by decide) (by decide) he hpl, fun Z B H σ Q E g => r Z B H σ _ E fun v B' H' e h => ?_⟩
  cases h with
  | tup h1 h2 => exact ⟨_, _, rfl, .inr (Same.tup e.sub h1.sq), fun l hl => gs_lst e.sub (gs_ext e g) h2 hl⟩
/-- list(xs) of a kept list, its items of any kind -/
theorem dx_listF (ha : DE X G a (.list ds)) (hm : X.mg "list" = none) (hg : Gl X "list" := by rfl) (he : starEach (a :: []) X.env = (false, eval a X.env) :: starEach [] X.env := by rfl) (hpl : (backTo pos (starEach [] X.env)).any (·.1) = false := by rfl) :
    DX X G (.Call (.Name "list" p) [a] [] pos) (so ds) := by
  obtain ⟨t, pa, r⟩ := ha
  refine ⟨_, pe_callTy call_list_of hg hm (by decide +kernel) (pa_cons pa pa_nil he) (by decide) (by decide) he hpl, fun Z B H σ Q E g => r Z B H σ _ E fun v B' H' e h => ?_⟩
  cases h with
  | lst h1 h2 => exact ⟨_, _, rfl, .inl (.inl (Same.rd e.sub h1)), fun l hl => gs_lst e.sub (gs_ext e g) h2 hl⟩
/-- t + u, u not empty -/
theorem de_catT (ha : DE X G a (.tuple ds)) (hb : DE X G b (.tuple zs)) (h1 : ds ≠ []) (h2 : zs ≠ []) (hl : ds.length + zs.length ≤ sizeLine) : DE X G (.BinOp a .Add b pos) (.tuple (ds ++ zs)) := by
  obtain ⟨ta, pa, ra⟩ := ha
  obtain ⟨tb, pb, rb⟩ := hb
  refine ⟨_, pe_op op_catT pa pb, fun Z B H σ Q E g => ?_⟩
  refine ra Z B H σ _ E fun v B1 H1 e1 q1 => rb Z B1 H1 σ _ (E.ext e1) fun u B2 H2 e2 q2 => ?_
  cases q1 with
  | tup k1 k2 =>
    cases q2 with
    | tup k3 k4 =>
      refine ⟨_, _, _, _, rfl, rfl, Same.tup e2.sub (Same.tupD e2.b k1).sq, Same.tup e2.sub k3.sq, fun z => h1 ?_, by rw [k2.length, k4.length]; exact hl, fun z => absurd ?_ h2, fun _ p hp => ?_⟩
      · exact List.length_eq_zero_iff.mp (by rw [← k2.length, z]; rfl)
      · exact List.length_eq_zero_iff.mp (by rw [← k4.length, z]; rfl)
      · exact g _ (upd B2 p (.tup _)) _ ((e1.trans e2).trans (Ext.lay e2.sub _ hp)) (.tup (.inl upd_same) (TpAll.mono (same_upd (e2.sub.free hp)) _ _ ((TpAll.mono e2.b _ _ k2).append k4)))
/-- xs.index(y): the first place -/
theorem de_index {n m j : Nat} {z : D} {pa : Pos} (hu : X.A.units + 65 < cLine) (ho : DR X G a (.list ds)) (hy : DE X G b d) (h1 : ShpA n ds) (h2 : Shp m d) (hj : ds[j]? = some z) (hz : PyData.eqv z d = true) (hb : ∀ i z', i < j → ds[i]? = some z' → PyData.eqv z' d = false)
    (l1 : n + 1 ≤ 64 := by decide) (l2 : m ≤ 64 := by decide) (hs : starEach [b] X.env = (false, eval b X.env) :: starEach [] X.env := by rfl)
    (hbase : attributeBase a "index" X.env (eval a X.env) = eval a X.env := by rfl)
    (hfew : ((backTo pos (starEach (b :: []) X.env)).all (fun x => !x.1) && (backToKw pos (keywordEach [] X.env)).all (fun x => x.1.isSome)
      && decide ((b :: []).length + ([] : List Keyword).length + (if ([] : List Keyword).isEmpty then 0 else 1) < 30)) = true := by rfl)
    (hline : (pa.endLine == pos.line) = true := by rfl) (hplain : (backTo pos (starEach [] X.env)).any (·.1) = false := by rfl) : DE X G (.Call (.Attribute a "index" pa) [b] [] pos) (.int (j : Nat)) := by
  obtain ⟨ta, pa', ra⟩ := ho
  obtain ⟨tb, pb, rb⟩ := hy
  refine ⟨_, pe_bm PySem.F.plainAttrs_list PySem.F.slot_list_index PySem.F.type_list_index (mt_indexD hu) pa' (pa_cons pb pa_nil hs) hbase hfew hline hs hplain, fun Z B H σ Q E g => ?_⟩
  refine ra Z B H σ _ E fun v B1 H1 e1 q1 => ?_
  obtain ⟨p, xs, rfl, k1, k2⟩ := Tm.seq e1.sub q1
  have tv : tyV X.K "list" (.ref p) H1 := by
    rcases k1 with k1 | k1
    · exact Or.inl ⟨rfl, _, .inl k1⟩
    · exact Or.inl ⟨rfl, _, .inr k1⟩
  refine ⟨tv, rb Z B1 H1 σ _ (E.ext e1) fun u B2 H2 e2 q2 => ?_⟩
  refine ⟨p, u, d, ds, j, z, rfl, rfl, .lst (e2.h.seq k1) (TmAll.dpn e2.sub _ _ (TmAll.mono e2.h e2.b _ _ k2) h1.1), Tm.dp e2.sub (.of q2) h2, (Shp.list h1).shaped l1, h2.shaped l2, hj, hz, hb, g _ B2 H2 (e1.trans e2) (.int _)⟩
end
end Dw

namespace Dw
open PySem L2 PyProof.Rows
variable {c : Cl}
section
variable {X : Cx} {G : Env X.K c} {a b e : Expr} {es : List Expr} {pos p : Pos} {d d1 d2 : D} {ds zs : List D} {k : Nat} {x : Str}
theorem od_eqU {n m : Nat} (hu : X.A.units + 65 < cLine) (h1 : Shp n d1) (h2 : Shp m d2) (l1 : n ≤ 64 := by decide) (l2 : m ≤ 64 := by decide) : OpD c X (compareOp .Eq) d1 d2 (.bool (PyData.eqv d1 d2)) :=
  ⟨_, op_eqD (by omega), fun B H x y Q s hx hy g => ⟨d1, d2, hx.dp s h1, hy.dp s h2, h1.shaped l1, h2.shaped l2, gv_of s g (.bl _)⟩⟩
theorem od_eqEU {α : Type} [DecidableEq α] [En α] (hu : X.A.units + 65 < cLine) (x y : α) (l : En.dep α ≤ 64 := by decide) : OpD c X (compareOp .Eq) (enc x) (enc y) (.bool (decide (x = y))) := by
  rw [← En.eqv]
  exact od_eqU hu (En.shp x) (En.shp y) l l
theorem od_eqIU (hu : X.A.units + 65 < cLine) {i j : Int} : OpD c X (compareOp .Eq) (.int i) (.int j) (.bool (decide (i = j))) := od_eqEU hu i j
def Lit (X : Cx) (e : Expr) (wi : TI) : Prop := ∃ tl, PE X e tl ∧ wi = iList X.K tl
theorem dip_list (h : DE X G e (.list ds)) : DIp (Lit X e) X G ds.length (fun i => sd (K := X.K) (c := c) (ds[i]?.getD .none)) := by
  obtain ⟨t, p, r⟩ := h
  refine ⟨_, ⟨_, p, rfl⟩, fun Z B H σ R E g => r Z B H σ _ E fun v B' H' e h => ?_⟩
  cases h with
  | lst hs ha => exact ⟨_, rfl, ⟨_, .inl (Same.rd e.sub hs)⟩, g _ B' H' e (walk_list hs ha)⟩
theorem dx_lcHot {elt tg iter : Expr} {ifs : List Expr} {scope : Scope} {s : Slot X.K c} (hc : L2H.HotC X) (nd : X.N.Nodup) (h : DLcP (Lit X iter) X G elt tg ifs scope s) (hs : ∀ x, foldedSetIterable iter X.env x = pure x := by intro _; rfl) : DX X G (.ListComp elt [⟨tg, iter, ifs, 0⟩] scope pos) s := by
  obtain ⟨own, wi, g, tt, te, ⟨tl, h1, rfl⟩, h2, h3, h4, h5, h6⟩ := h
  exact ⟨_, pe_lcH hc nd h1 h2 h3 h4 h5 hs, h6⟩
end
section
variable {X : Cx} {a : Addr} {oe : Obj} {pn : List (Addr × Obj)} {D : Addr}
theorem hot_suite {cls : Value} (hz : L2N.Zn cls none oe) (hf : ∃ vs, oe.data = .fields vs) : L2H.HotC (X.suite a ((a, oe) :: pn)) := by
  obtain ⟨vs, e⟩ := hf
  exact ⟨(a, oe), ⟨rfl, vs, e, hz.2.2 vs e⟩, List.mem_cons_self⟩
/-- isinstance(e, C), C an own class -/
theorem de_isE {G : Env (X.suite a ((a, oe) :: pn)).K c} {n y : Str} {A : Addr} {b : Bool} {p q1 q2 pos : Pos} (T : ExcC X.K D) (hz : L2N.Zn (.ref D) none oe) (hf : ∃ vs, oe.data = .fields vs) (i : Nat) (hk : PySem.W.kitOne X.K (.ref D) (.ref A) = some b) (hmy : X.mg y = some (.ref A)) (hm : X.mg "isinstance" = none)
    (hG : G[i]? = some (some (sv (.ref a))) := by rfl) (hN : X.N[i]? = some n := by rfl) (hv : Vis X.env.scope n := by first | exact Or.inl rfl | exact Or.inr (Or.inl rfl) | exact Or.inr (Or.inr rfl)) (hd : (n == ("__debug__" : Str)) = false := by decide)
    (hcd : (n == ("__classdict__" : Str)) = false := by decide) (hg : Gl X "isinstance" := by rfl) (hgy : Gl X y := by rfl) (hdb : (y == ("__debug__" : Str)) = false := by decide)
    (he : starEach (.Name n q1 :: [.Name y q2]) X.env = (false, eval (.Name n q1) X.env) :: starEach [.Name y q2] X.env := by rfl) (he2 : starEach [.Name y q2] X.env = (false, eval (.Name y q2) X.env) :: starEach [] X.env := by rfl) (hpl : (backTo pos (starEach [.Name y q2] X.env)).any (·.1) = false := by rfl) :
    DE (X.suite a ((a, oe) :: pn)) G (.Call (.Name "isinstance" p) [.Name n q1, .Name y q2] [] pos) (.bool b) := by
  refine ⟨_, pe_callB (call_isE T hz.zc hf) hg hm (by decide +kernel) (pa_cons (pv (X := X.suite a ((a, oe) :: pn)) i hN hv hd hcd) (pa_cons (pe_glob (v := .ref A) hgy hmy rfl hdb) pa_nil he2) he) (by decide) (by decide) he hpl, fun Z B H σ Q E g => ?_⟩
  obtain ⟨v, fp, h1, h2, _⟩ := E.sl i _ hG
  subst h2
  exact ⟨_, h1, .ref A, .ref A, b, rfl, fun u h => h, hk, gv_of E.sub g (.bl b)⟩
/-- .. T a built-in class -/
theorem de_isET {G : Env (X.suite a ((a, oe) :: pn)).K c} {n y : Str} {b : Bool} {p q1 q2 pos : Pos} (tn : String) (T : ExcC X.K D) (hz : L2N.Zn (.ref D) none oe) (hf : ∃ vs, oe.data = .fields vs) (i : Nat) (hk : PySem.W.kitOne X.K (.ref D) (.type tn) = some b) (hmy : X.mg y = none) (hm : X.mg "isinstance" = none) (hvT : bootBuiltins y = some (.type tn) := by decide +kernel)
    (hG : G[i]? = some (some (sv (.ref a))) := by rfl) (hN : X.N[i]? = some n := by rfl) (hv : Vis X.env.scope n := by first | exact Or.inl rfl | exact Or.inr (Or.inl rfl) | exact Or.inr (Or.inr rfl)) (hd : (n == ("__debug__" : Str)) = false := by decide)
    (hcd : (n == ("__classdict__" : Str)) = false := by decide) (hg : Gl X "isinstance" := by rfl) (hgy : Gl X y := by rfl) (hdb : (y == ("__debug__" : Str)) = false := by decide) (hn : y ≠ "__name__" := by decide)
    (he : starEach (.Name n q1 :: [.Name y q2]) X.env = (false, eval (.Name n q1) X.env) :: starEach [.Name y q2] X.env := by rfl) (he2 : starEach [.Name y q2] X.env = (false, eval (.Name y q2) X.env) :: starEach [] X.env := by rfl) (hpl : (backTo pos (starEach [.Name y q2] X.env)).any (·.1) = false := by rfl) :
    DE (X.suite a ((a, oe) :: pn)) G (.Call (.Name "isinstance" p) [.Name n q1, .Name y q2] [] pos) (.bool b) := by
  refine ⟨_, pe_callB (call_isE T hz.zc hf) hg hm (by decide +kernel) (pa_cons (pv (X := X.suite a ((a, oe) :: pn)) i hN hv hd hcd) (pa_cons (pe_bltn (v := .ty tn) hgy hmy hvT rfl hn hdb) pa_nil he2) he) (by decide) (by decide) he hpl, fun Z B H σ Q E g => ?_⟩
  obtain ⟨v, fp, h1, h2, _⟩ := E.sl i _ hG
  subst h2
  exact ⟨_, h1, .ty tn, .type tn, b, rfl, fun u h => h, hk, gv_of E.sub g (.bl b)⟩
end
/-- what can't be -/
def nev {K : PySem.W.Frag} : Slot K c where
  par := false
  P := fun _ _ _ _ _ => False
  stb := fun h _ _ _ => h
  dom := fun h => h.elim
theorem dss_nev {X : Cx} {G : Env X.K c} {sts : List Stmt} {Ph : Out X.K c → Prop} (i : Nat) (hG : G[i]? = some (some nev) := by rfl) : DSs X G sts Ph := fun F B H σ D S E => by
  obtain ⟨fps, h1, _⟩ := S.sl
  obtain ⟨v, _, h, _⟩ := h1 i _ hG
  exact h.elim
end Dw

namespace Lw
open PySem L2 PyProof.Rows Dw
def topS (i : Nat) : Stmt := PySem.Challenge.pw_dustwalk_k03_floors_refused.main.body.getD i (.Pass ⟨0, 0, 0, 0⟩)
local macro_rules | `(tactic| walk_at "shp") => `(tactic| first | exact Shp.int _ _ | exact Shp.bool _ _ | exact Shp.none _ | exact Shp.str _ _ (by decide +kernel) | (refine Shp.tuple ?_; walk_at "shp") | (refine Shp.list ?_; walk_at "shp") | exact ShpA.nil _ | (refine ShpA.cons ?_ ?_ <;> walk_at "shp") | (refine Shp.mono (En.shp _) ?_; decide))
local macro_rules | `(tactic| walk_at "wk") => `(tactic| first | exact wk_nil | exact Wk.refl _ | (refine wk_same ?_; walk_at "wk") | (refine wk_none ?_; walk_at "wk"))
local macro_rules | `(tactic| walk_at "sz") => `(tactic| first | exact lt_line (Nat.le_of_ble_eq_true rfl) | exact small (Nat.le_of_ble_eq_true rfl) | (apply lt_line; simp; omega) | (apply small; simp; omega))
local macro_rules | `(tactic| walk_at "call") => `(tactic| first | exact ⟨_, rfl, rfl⟩ | exact ⟨_, _, rfl, rfl⟩ | exact ⟨_, rfl, rfl, by decide⟩ | exact ⟨_, _, rfl, rfl, by decide⟩ | exact ⟨_, _, _, rfl, rfl⟩ | exact ⟨_, _, rfl, rfl, by omega⟩)
section
variable {c : Cl} {P : Program} {w : World} {K : PySem.W.Frag} {mg : Str → Option Value} {base : Heap}
def cellAt (ns : List Int) (k : Int) : Int := ns.getD k.toNat 0
def R_cell_at : List (Slot K c) → Slot K c → Prop := fun ss r => ∃ (ns : List Int) (k : Int), ss = [sb (.list (ns.map .int)), sd (.int k)] ∧ r = sd (.int (cellAt ns k)) ∧ 0 ≤ k
theorem sc_cell_at : FnScope ["_law_script", "_law_k"] ["_law_script", "_law_k"] (defScope (topS 20)) := ⟨rfl, rfl, rfl, by decide +kernel, rfl, by decide +kernel, by decide +kernel⟩
theorem ok_cell_at (F : FunAt K mg "_law_cell_at" (topS 20) ["_law_script", "_law_k"]) (b_len : mg "len" = none) : DefOk (c := c) P w K mg base "_law_cell_at" 1 R_cell_at := by
  refine def_okF F sc_cell_at (fun ss r h => by obtain ⟨ns, k, rfl, rfl, _⟩ := h; rfl) ?_
  rintro f cdv A outer s H E ss r ⟨ns, k, rfl, rfl, hk⟩ C
  refine dss_if (dt_cmp (de_name 1).dr (de_callB cd_lenL b_len (drs_cons (dz_name 0).dr drs_nil)).dr od_lt) (fun h => ?_) (fun h => ?_)
  · have h' : k < (ns.length : Int) := by simpa using h
    refine dss_ret (dr_ix (dz_name 0).dr (de_name 1).dr (ixd_list (d := .int (cellAt ns k)) ?_)).de rfl
    refine atI_of hk ?_
    have hk : k.toNat < ns.length := by omega
    simp [cellAt, hk]
  · refine dss_nil ?_
    refine dss_ret de_int ?_
    have h' : ¬ k < (ns.length : Int) := by simpa using h
    have : cellAt ns k = 0 := getD_of_le _ _ _ (by omega)
    rw [this]
    rfl
end

section
variable {c : Cl} {P : Program} {w : World} {K : PySem.W.Frag} {mg : Str → Option Value} {base : Heap}
def isW : D → Bool
  | .int _ => true
  | _ => false
def R_is_whole : List (Slot K c) → Slot K c → Prop := fun ss r => ∃ d, ss = [sd d] ∧ r = sd (.bool (isW d)) ∧ nodict d = true
theorem sc_is_whole : FnScope ["thing"] ["thing"] (defScope (topS 3)) := ⟨rfl, rfl, rfl, by decide +kernel, rfl, by decide +kernel, by decide +kernel⟩
theorem ok_is_whole (F : FunAt K mg "is_whole" (topS 3) ["thing"]) (b_isinstance : mg "isinstance" = none) (b_int : mg "int" = none) (b_bool : mg "bool" = none) : DefOk (c := c) P w K mg base "is_whole" 1 R_is_whole := by
  refine def_okF F sc_is_whole (fun ss r h => by obtain ⟨d, rfl, rfl, _⟩ := h; rfl) ?_
  rintro f cdv A outer s H E ss r ⟨d, rfl, rfl, hd⟩ C
  refine dss_ret (de_and (de_isd "int" (de_name 0).dr b_isinstance b_int hd) (fun h => (de_one (de_not (de_isd "bool" (de_name 0).dr b_isinstance b_bool hd))))) ?_
  cases d with
  | dict kvs => cases kvs <;> rfl
  | _ => rfl
end

section
variable {c : Cl} {P : Program} {w : World} {K : PySem.W.Frag} {mg : Str → Option Value} {base : Heap}
theorem de_cast {X : Cx} {G : Dw.Env X.K c} {e : Expr} {d d' : D} (h : DE X G e d) (q : d = d') : DE X G e d' := q ▸ h
theorem dt_cast {X : Cx} {G : Dw.Env X.K c} {e : Expr} {b b' : Bool} (h : DT X G e b) (q : b = b') : DT X G e b' := q ▸ h
theorem getD_mem {α : Type} {l : List α} {i : Nat} {d : α} (h : i < l.length) : l.getD i d ∈ l := by
  rw [List.getD_eq_getElem?_getD, List.getElem?_eq_getElem h]
  exact List.getElem_mem h
theorem de_ixT {X : Cx} {G : Dw.Env X.K c} {a b : Expr} {ds : List D} {i : Int} {d : D} {pos : Pos} (ha : DE X G a (.tuple ds)) (hb : DE X G b (.int i)) (hd : atI ds i = some d) (hs : PlainIx b := by exact fun _ _ => rfl) : DE X G (.Subscript a b pos) d := by
  obtain ⟨ta, pa, ra⟩ := ha
  obtain ⟨tb, pb, rb⟩ := hb
  refine ⟨_, pe_ix ix_tup pa pb hs, fun Z B H σ Q E g => ?_⟩
  refine ra Z B H σ _ E fun v B1 H1 e1 h1 => rb Z B1 H1 σ _ (E.ext e1) fun u B2 H2 e2 h2 => ?_
  cases h2
  cases h1 with
  | tup k1 k2 =>
    have hl := k2.length
    unfold atI at hd
    cases e : ixN ds.length i with
    | none => rw [e] at hd; cases hd
    | some j =>
      rw [e] at hd
      obtain ⟨v, q1, q2⟩ := k2.get (i := j) hd
      exact ⟨_, _, _, v, rfl, rfl, Same.tup e2.sub (Same.tupD e2.b k1).sq, by unfold atI; rw [hl, e]; exact q1, g v B2 H2 (e1.trans e2) (Tp.mono e2.b _ _ q2)⟩
theorem de_ixL {X : Cx} {G : Dw.Env X.K c} {a b : Expr} {ds : List D} {i : Int} {d : D} {pos : Pos} (ha : DE X G a (.list ds)) (hb : DE X G b (.int i)) (hd : atI ds i = some d) (hs : PlainIx b := by exact fun _ _ => rfl) : DE X G (.Subscript a b pos) d := by
  obtain ⟨ta, pa, ra⟩ := ha
  obtain ⟨tb, pb, rb⟩ := hb
  refine ⟨_, pe_ix ix_list pa pb hs, fun Z B H σ Q E g => ?_⟩
  refine ra Z B H σ _ E fun v B1 H1 e1 h1 => rb Z B1 H1 σ _ (E.ext e1) fun u B2 H2 e2 h2 => ?_
  cases h2
  cases h1 with
  | lst k1 k2 =>
    have hl := k2.length
    unfold atI at hd
    cases e : ixN ds.length i with
    | none => rw [e] at hd; cases hd
    | some j =>
      rw [e] at hd
      obtain ⟨v, q1, q2⟩ := k2.get (i := j) hd
      exact ⟨_, _, _, v, rfl, rfl, .inl (Same.rd (e1.sub.trans e2.h) k1), by unfold atI; rw [hl, e]; exact q1, g v B2 H2 (e1.trans e2) (Tp.mono e2.b _ _ q2)⟩
def pairD : D → Bool
  | .tuple [a, b] => isW a && isW b
  | _ => false
/-- no object, nor an object in it -/
def okp : D → Bool
  | .tuple ds => ds.all nodict
  | d => nodict d
theorem okp_nd : ∀ {d : D}, okp d = true → nodict d = true
  | .none, _ => rfl
  | .bool _, _ => rfl
  | .int _, _ => rfl
  | .str _, _ => rfl
  | .list _, _ => rfl
  | .tuple _, _ => rfl
  | .dict [], _ => rfl
  | .dict (_ :: _), h => by cases h
def R_pairD : List (Slot K c) → Slot K c → Prop := fun ss r => ∃ d, ss = [sd d] ∧ r = sd (.bool (pairD d)) ∧ okp d = true ∧ (∀ ds, d = .tuple ds → ds.length ≤ 100)
theorem sc_is_pair : FnScope ["thing"] ["thing"] (defScope (topS 4)) := ⟨rfl, rfl, rfl, by decide +kernel, rfl, by decide +kernel, by decide +kernel⟩
theorem ok_is_pair (F : FunAt K mg "is_pair" (topS 4) ["thing"]) (F_is_whole : DefOk (c := c) P w K mg base "is_whole" 1 R_is_whole) (b_isinstance : mg "isinstance" = none) (b_tuple : mg "tuple" = none) (b_len : mg "len" = none) : DefOk (c := c) P w K mg base "is_pair" 2 R_pairD := by
  refine def_okF F sc_is_pair (fun ss r h => by obtain ⟨d, rfl, _⟩ := h; rfl) ?_
  rintro f cdv A outer s H E ss r ⟨d, rfl, rfl, hd, hz⟩ C
  by_cases ht : ∃ ds, d = .tuple ds
  · obtain ⟨ds, rfl⟩ := ht
    have h1 : ∀ x ∈ ds, nodict x = true := List.all_eq_true.mp hd
    by_cases hl : ds.length = 2
    · obtain ⟨a, b, rfl⟩ : ∃ a b, ds = [a, b] := by
        match ds, hl with
        | [a, b], _ => exact ⟨a, b, rfl⟩
      refine dss_ret (de_and (de_isd "tuple" (DE.dr (de_name 0)) b_isinstance b_tuple) (fun _ => (de_and (de_cmp (DE.dr (de_callB cd_lenT b_len (drs_cons (DE.dr (de_name 0)) drs_nil))) (DE.dr de_int) (od_eqI C)) (fun _ => (de_and (de_call F_is_whole (C.room.mono (by decide)) (das_cons (DE.da (de_ixT (de_name 0) de_int rfl)) das_nil) ⟨a, rfl, rfl, h1 a (by simp)⟩) (fun _ => (de_one (de_call F_is_whole (C.room.mono (by decide)) (das_cons (DE.da (de_ixT (de_name 0) de_int rfl)) das_nil) ⟨b, rfl, rfl, h1 b (by simp)⟩)))))))) ?_
      rfl
    · refine dss_ret (de_and (de_isd "tuple" (DE.dr (de_name 0)) b_isinstance b_tuple) (fun _ => de_and (k' := false) (de_cmp (DE.dr (de_callB cd_lenT b_len (drs_cons (DE.dr (de_name 0)) drs_nil))) (DE.dr de_int) (od_eqI C)) (fun q => absurd (of_decide_eq_true q) (by omega)))) ?_
      have : pairD (.tuple ds) = false := by
        match ds, hl with
        | [], _ => rfl
        | [_], _ => rfl
        | [_, _], h => exact absurd rfl h
        | _ :: _ :: _ :: _, _ => rfl
      rw [this]
      simp
      rfl
  · have nt : isiB (tyN d) "tuple" = false := by
      match d, ht with
      | .none, _ => rfl
      | .bool _, _ => rfl
      | .int _, _ => rfl
      | .str _, _ => rfl
      | .list _, _ => rfl
      | .tuple ds, h => exact absurd ⟨ds, rfl⟩ h
      | .dict [], _ => rfl
      | .dict (_ :: _), _ => rfl
    refine dss_ret (de_and (k' := false) (de_isd "tuple" (DE.dr (de_name 0)) b_isinstance b_tuple (okp_nd hd)) (fun q => by rw [nt] at q; cases q)) ?_
    have : pairD d = false := by
      match d, ht with
      | .none, _ => rfl
      | .bool _, _ => rfl
      | .int _, _ => rfl
      | .str _, _ => rfl
      | .list _, _ => rfl
      | .tuple ds, h => exact absurd ⟨ds, rfl⟩ h
      | .dict [], _ => rfl
      | .dict (_ :: _), _ => rfl
    rw [this, nt]
    rfl
theorem pair_is {d : D} (h : pairD d = true) : ∃ i j : Int, d = .tuple [.int i, .int j] := by
  unfold pairD at h
  split at h
  · rename_i a b
    cases a <;> simp [isW] at h
    cases b <;> simp [isW] at h
    exact ⟨_, _, rfl⟩
  · cases h
def groundD : D → Bool
  | .none => true
  | .tuple [.int k, .int _] => decide (1 ≤ k)
  | _ => false
theorem ground_no {d : D} (h1 : isN d = false) (h2 : pairD d = false) : groundD d = false := by
  unfold groundD
  split
  · cases h1
  · cases h2
  · rfl
def R_groundD : List (Slot K c) → Slot K c → Prop := fun ss r => ∃ d, ss = [sd d] ∧ r = sd (.bool (groundD d)) ∧ okp d = true ∧ (∀ ds, d = .tuple ds → ds.length ≤ 100)
theorem sc_is_ground : FnScope ["thing"] ["thing"] (defScope (topS 5)) := ⟨rfl, rfl, rfl, by decide +kernel, rfl, by decide +kernel, by decide +kernel⟩
theorem ok_is_ground (F : FunAt K mg "is_ground" (topS 5) ["thing"]) (F_is_pair : DefOk (c := c) P w K mg base "is_pair" 2 R_pairD) : DefOk (c := c) P w K mg base "is_ground" 3 R_groundD := by
  refine def_okF F sc_is_ground (fun ss r h => by obtain ⟨d, rfl, _⟩ := h; rfl) ?_
  rintro f cdv A outer s H E ss r ⟨d, rfl, rfl, hd, hz⟩ C
  by_cases hn : isN d = true
  · obtain rfl : d = .none := by
      match d, hn with
      | .none, _ => rfl
    refine dss_ret (de_or (k' := true) (de_cmp (DE.dr (de_name 0)) (DE.dr de_non) od_is) (fun q => absurd q (by decide))) ?_
    rfl
  · have hn : isN d = false := by cases h : isN d with | true => exact absurd h hn | false => rfl
    cases hp : pairD d with
    | true =>
      obtain ⟨i, j, rfl⟩ := pair_is hp
      refine dss_ret (de_or (de_cmp (DE.dr (de_name 0)) (DE.dr de_non) od_is) (fun _ => (de_one (de_and (de_call F_is_pair (C.room.mono (by decide)) (das_cons (DE.da (de_name 0)) das_nil) ⟨_, rfl, rfl, hd, hz⟩) (fun _ => (de_one (de_cmp (DE.dr (de_ixT (de_name 0) de_int rfl)) (DE.dr de_int) od_ge))))))) ?_
      simp [isN, pairD, isW, groundD]
      rfl
    | false =>
      refine dss_ret (de_or (de_cmp (DE.dr (de_name 0)) (DE.dr de_non) od_is) (fun _ => (de_one (de_and (k' := false) (de_call F_is_pair (C.room.mono (by decide)) (das_cons (DE.da (de_name 0)) das_nil) ⟨_, rfl, rfl, hd, hz⟩) (fun q => by rw [hp] at q; cases q))))) ?_
      have := ground_no hn hp
      rw [this, hn, hp]
      rfl
def lenD : D → Nat
  | .list ds => ds.length
  | _ => 0
def rowD : D → Bool
  | .list gs => !gs.isEmpty && gs.all groundD
  | _ => false
def rowsB : D → Bool
  | .list rs => !rs.isEmpty && rs.all rowD && rs.all fun r => lenD r == lenD (rs.headD .none)
  | _ => false
def few (n : Nat) : D → Bool
  | .tuple ds => decide (ds.length ≤ n)
  | .list ds => decide (ds.length ≤ n)
  | _ => true
def okg (d : D) : Bool := okp d && few 100 d
def okr : D → Bool
  | .list gs => gs.all okg && few 3000 (.list gs)
  | d => nodict d
def okrs : D → Bool
  | .list rs => rs.all okr && few 3000 (.list rs)
  | d => nodict d
theorem okr_nd : ∀ {d : D}, okr d = true → nodict d = true
  | .none, _ => rfl
  | .bool _, _ => rfl
  | .int _, _ => rfl
  | .str _, _ => rfl
  | .list _, _ => rfl
  | .tuple _, _ => rfl
  | .dict [], _ => rfl
  | .dict (_ :: _), h => by cases h
theorem okrs_nd : ∀ {d : D}, okrs d = true → nodict d = true
  | .none, _ => rfl
  | .bool _, _ => rfl
  | .int _, _ => rfl
  | .str _, _ => rfl
  | .list _, _ => rfl
  | .tuple _, _ => rfl
  | .dict [], _ => rfl
  | .dict (_ :: _), h => by cases h
theorem isL : ∀ d : D, isiB (tyN d) "list" = true → ∃ ds, d = .list ds
  | .none, h => by cases h
  | .bool _, h => by cases h
  | .int _, h => by cases h
  | .str _, h => by cases h
  | .list ds, _ => ⟨ds, rfl⟩
  | .tuple _, h => by cases h
  | .dict [], h => by cases h
  | .dict (_ :: _), h => by cases h
theorem few_le {n : Nat} {ds : List D} (h : few n (.list ds) = true) : ds.length ≤ n := of_decide_eq_true h
theorem fil_fun (f : Nat → D) (n : Nat) : fil (fun _ => true) f n = (List.range n).map f := by
  unfold fil
  rw [show (List.range n).filter (fun _ => true) = List.range n from List.filter_eq_self.mpr fun _ _ => rfl]
theorem at_D {l : List D} {i : Nat} (h : i < l.length) : l[i]?.getD .none = l.getD i .none := by rw [List.getD_eq_getElem?_getD]
theorem range_getD {β : Type} (f : D → β) (l : List D) : (List.range l.length).map (fun i => f (l.getD i .none)) = l.map f := range_map f .none l
def R_rowsB : List (Slot K c) → Slot K c → Prop := fun ss r => ∃ d, ss = [sd d] ∧ r = sd (.bool (rowsB d)) ∧ okrs d = true
abbrev n_are_rows : List Str := ["thing", "row", "ground"]
theorem sc_are_rows : FnScope n_are_rows ["thing"] (defScope (topS 17)) := ⟨rfl, rfl, rfl, by decide +kernel, rfl, by decide +kernel, by decide +kernel⟩
theorem ok_are_rows (F : FunAt K mg "are_rows" (topS 17) ["thing"]) (F_is_ground : DefOk (c := c) P w K mg base "is_ground" 3 R_groundD) (b_isinstance : mg "isinstance" = none) (b_list : mg "list" = none) (b_len : mg "len" = none) (b_all : mg "all" = none) : DefOk (c := c) P w K mg base "are_rows" 4 R_rowsB := by
  refine def_okF F sc_are_rows (fun ss r h => by obtain ⟨d, rfl, _⟩ := h; rfl) ?_
  rintro f cdv A outer s H E ss r ⟨d, rfl, rfl, hd⟩ C
  have hu : (bx P w K mg base n_are_rows "are_rows" (topS 17) f cdv A outer s H E).A.units + 1 < cLine := by have := C.room.un; omega
  cases hL : isiB (tyN d) "list" with
  | false =>
    refine dss_ifT (DW.dt (dw_or (k' := false) (dt_not (dt_val (de_isd "list" (DE.dr (de_name 0)) b_isinstance b_list (okrs_nd hd)))) (fun q => by rw [hL] at q; cases q))) (by rw [hL]; rfl) ?_
    refine dss_ret de_bl ?_
    have : rowsB d = false := by
      match d, hL with
      | .none, _ => rfl
      | .bool _, _ => rfl
      | .int _, _ => rfl
      | .str _, _ => rfl
      | .tuple _, _ => rfl
      | .dict _, _ => rfl
    rw [this]
    rfl
  | true =>
    obtain ⟨rs, rfl⟩ := isL d hL
    have hd' : rs.all okr = true ∧ few 3000 (.list rs) = true := by have : (rs.all okr && few 3000 (.list rs)) = true := hd; simpa using this
    have ok1 : ∀ r ∈ rs, okr r = true := List.all_eq_true.mp hd'.1
    have l0 := few_le hd'.2
    refine dss_if (DW.dt (dw_or (dt_not (dt_val (de_isd "list" (DE.dr (de_name 0)) b_isinstance b_list))) (fun _ => (dw_or1 (dt_cmp (DE.dr (de_name 0)) (DE.dr (de_lst des_nil)) (od_eqNil hu)))))) (fun h1 => ?_) (fun h1 => ?_)
    · have e : rs.isEmpty = true := by have : (false || rs.isEmpty) = true := h1; simpa using this
      refine dss_ret de_bl ?_
      have : rowsB (.list rs) = false := by simp [rowsB, e]
      rw [this]
      rfl
    refine dss_nil ?_
    show DSs _ _ _ _
    have ne : rs.isEmpty = false := by have : (false || rs.isEmpty) = false := h1; simpa using this
    have h0 : 0 < rs.length := by cases rs with | nil => cases ne | cons _ _ => simp
    by_cases hall : rs.all rowD = true
    · have hrow : ∀ r ∈ rs, rowD r = true := List.all_eq_true.mp hall
      refine dss_for C (di_list (de_name 0)) (fun i => [some (sd (.list rs)), none, none]) ?wk (is := [1]) (fun i hi => dg_name C 1) (fun i hi => ?turn) ?rest
      case wk => show Wk _ _; walk_at "wk"
      case turn =>
        rw [at_D hi]
        have hm : rs.getD i .none ∈ rs := getD_mem hi
        generalize rs.getD i .none = r at hm
        have hr := hrow r hm
        obtain ⟨gs, rfl⟩ : ∃ gs, r = .list gs := by
          match r, hr with
          | .list gs, _ => exact ⟨gs, rfl⟩
        have hr' : gs.isEmpty = false ∧ gs.all groundD = true := by have : (!gs.isEmpty && gs.all groundD) = true := hr; simpa using this
        have og : gs.all okg = true ∧ few 3000 (.list gs) = true := by have : (gs.all okg && few 3000 (.list gs)) = true := ok1 _ hm; simpa using this
        have og1 := List.all_eq_true.mp og.1
        have lg := few_le og.2
        refine dss_skip (DW.dt (dw_or (dt_not (dt_val (de_isd "list" (DE.dr (de_name 1)) b_isinstance b_list))) (fun _ => (dw_or (dt_cmp (DE.dr (de_name 1)) (DE.dr (de_lst des_nil)) (od_eqNil hu)) (fun _ => (dw_or1 (dt_not (dt_val (de_callB (cd_all C (gs.map groundD)) b_all (drs_cons (DE.dr (de_cast (DX.frozen (dx_lc1 C 2 (di_list (de_name 1)) (blkOk_by (N := n_are_rows) (sc := defScope (topS 17)) (by decide +kernel)) (fun _ => true) (fun i => .bool (groundD (gs.getD i .none))) (lt_line (by omega)) (fun j i hi => dts_nil) (fun j i hi hb => (de_call F_is_ground (C.room.mono (by decide)) (das_cons (DE.da (de_name 2)) das_nil) (by
          have hg := og1 _ (getD_mem (d := .none) hi)
          have hg2 : okp (gs.getD i .none) = true ∧ few 100 (gs.getD i .none) = true := by simpa [okg] using hg
          exact ⟨gs.getD i .none, by rw [at_D hi]; rfl, rfl, hg2.1, fun ds e => by rw [e] at hg2; exact of_decide_eq_true hg2.2⟩))))) (by rw [fil_fun, range_getD (fun d => PyData.bool (groundD d)) gs, List.map_map]; rfl))) drs_nil)))))))))) (by
          rw [hr'.1]
          have : (gs.map groundD).all id = true := by rw [List.all_map]; exact hr'.2
          rw [this]
          rfl) ?_
        refine dss_nil ?_
        show Wk _ _
        walk_at "wk"
      case rest =>
      have e0 : atI rs 0 = some (rs.headD .none) := by
        cases rs with
        | nil => cases ne
        | cons r rs => exact atI_of (Int.le_refl 0) rfl
      have hd0 : ∃ g0, rs.headD .none = .list g0 := by
        have hm : rs.headD .none ∈ rs := by cases rs with | nil => cases ne | cons r rs => simp
        have := hrow _ hm
        match rs.headD .none, this with
        | .list g, _ => exact ⟨g, rfl⟩
      obtain ⟨g0, eg0⟩ := hd0
      refine dss_ret (de_callB (cd_all C (rs.map fun r => decide (((lenD r : Nat) : Int) = ((lenD (rs.headD .none) : Nat) : Int)))) b_all (drs_cons (DE.dr (de_cast (DX.frozen (dx_lc1 C 1 (di_list (de_name 0)) (blkOk_by (N := n_are_rows) (sc := defScope (topS 17)) (by decide +kernel)) (fun _ => true) (fun i => .bool (decide (((lenD (rs.getD i .none) : Nat) : Int) = ((lenD (rs.headD .none) : Nat) : Int)))) (lt_line (by omega)) (fun j i hi => dts_nil) (fun j i hi hb => by
        have hm : rs.getD i .none ∈ rs := getD_mem hi
        rw [at_D hi]
        generalize rs.getD i .none = r at hm
        have hr := hrow r hm
        obtain ⟨gs, rfl⟩ : ∃ gs, r = .list gs := by
          match r, hr with
          | .list gs, _ => exact ⟨gs, rfl⟩
        rw [eg0] at e0
        rw [eg0]
        exact de_cmp (DE.dr (de_callB cd_lenL b_len (drs_cons (DE.dr (de_name 1)) drs_nil))) (DE.dr (de_callB cd_lenL b_len (drs_cons (DE.dr (de_ixL (de_name 0) de_int e0)) drs_nil))) (od_eqI C.blk)))) (by rw [fil_fun, range_getD (fun d => PyData.bool (decide (((lenD d : Nat) : Int) = ((lenD (rs.headD .none) : Nat) : Int)))) rs, List.map_map]; rfl))) drs_nil)) ?_
      have : rowsB (.list rs) = (rs.map fun r => decide (((lenD r : Nat) : Int) = ((lenD (rs.headD .none) : Nat) : Int))).all id := by
        show (!rs.isEmpty && rs.all rowD && rs.all fun r => lenD r == lenD (rs.headD .none)) = _
        rw [ne, hall, List.all_map]
        show (true && rs.all fun r => lenD r == lenD (rs.headD .none)) = _
        rw [Bool.true_and]
        congr 1
        funext r
        show (lenD r == lenD (rs.headD .none)) = decide _
        rw [Bool.eq_iff_iff, beq_iff_eq, decide_eq_true_iff]
        omega
      rw [this]
      rfl
    · have hf : rowsB (.list rs) = false := by
        show (!rs.isEmpty && rs.all rowD && _) = false
        cases h : rs.all rowD with
        | true => exact absurd h hall
        | false => simp
      rw [hf]
      refine dss_for C (di_list (de_name 0)) (fun i => if (rs.take i).all rowD = true then [some (sd (.list rs)), none, none] else [some nev, none, none]) ?wk (is := [1]) (fun i hi => dg_name C 1 (hl := by split <;> exact Nat.le_of_ble_eq_true rfl)) (fun i hi => ?turn) ?rest
      case wk => show Wk _ _; walk_at "wk"
      case turn =>
        by_cases hb : (rs.take i).all rowD = true
        · rw [if_pos hb, at_D hi]
          have hm : rs.getD i .none ∈ rs := getD_mem hi
          have et : (rs.take (i + 1)).all rowD = rowD (rs.getD i .none) := by rw [take_atD .none hi, List.all_append, hb]; simp
          have okm := ok1 _ hm
          dsimp only
          rw [et]
          clear et
          generalize rs.getD i .none = r at hm okm
          cases hrL : isiB (tyN r) "list" with
          | false =>
            refine dss_ifT (DW.dt (dw_or (k' := false) (dt_not (dt_val (de_isd "list" (DE.dr (de_name 1)) b_isinstance b_list (okr_nd okm)))) (fun q => by rw [hrL] at q; cases q))) (by rw [hrL]; rfl) ?_
            exact dss_ret de_bl rfl
          | true =>
            obtain ⟨gs, rfl⟩ := isL r hrL
            have og : gs.all okg = true ∧ few 3000 (.list gs) = true := by have : (gs.all okg && few 3000 (.list gs)) = true := okm; simpa using this
            have og1 := List.all_eq_true.mp og.1
            have lg := few_le og.2
            cases hrw : rowD (.list gs) with
            | false =>
              refine dss_ifT (b := !rowD (.list gs)) (dt_cast (DW.dt (dw_or (dt_not (dt_val (de_isd "list" (DE.dr (de_name 1)) b_isinstance b_list))) (fun _ => (dw_or (dt_cmp (DE.dr (de_name 1)) (DE.dr (de_lst des_nil)) (od_eqNil hu)) (fun _ => (dw_or1 (dt_not (dt_val (de_callB (cd_all C (gs.map groundD)) b_all (drs_cons (DE.dr (de_cast (DX.frozen (dx_lc1 C 2 (di_list (de_name 1)) (blkOk_by (N := n_are_rows) (sc := defScope (topS 17)) (by decide +kernel)) (fun _ => true) (fun i => .bool (groundD (gs.getD i .none))) (lt_line (by omega)) (fun j i hi => dts_nil) (fun j i hi hb => (de_call F_is_ground (C.room.mono (by decide)) (das_cons (DE.da (de_name 2)) das_nil) (by
                have hg := og1 _ (getD_mem (d := .none) hi)
                have hg2 : okp (gs.getD i .none) = true ∧ few 100 (gs.getD i .none) = true := by simpa [okg] using hg
                exact ⟨gs.getD i .none, by rw [at_D hi]; rfl, rfl, hg2.1, fun ds e => by rw [e] at hg2; exact of_decide_eq_true hg2.2⟩))))) (by rw [fil_fun, range_getD (fun d => PyData.bool (groundD d)) gs, List.map_map]; rfl))) drs_nil)))))))))) (by
                show (false || (gs.isEmpty || !(gs.map groundD).all id)) = !(!gs.isEmpty && gs.all groundD)
                rw [List.all_map]
                cases gs.isEmpty <;> cases h : gs.all groundD <;> simp [Function.comp_def, h])) (by rw [hrw]; rfl) ?_
              exact dss_ret de_bl rfl
            | true =>
              rw [if_pos rfl]
              refine dss_skip (b := !rowD (.list gs)) (dt_cast (DW.dt (dw_or (dt_not (dt_val (de_isd "list" (DE.dr (de_name 1)) b_isinstance b_list))) (fun _ => (dw_or (dt_cmp (DE.dr (de_name 1)) (DE.dr (de_lst des_nil)) (od_eqNil hu)) (fun _ => (dw_or1 (dt_not (dt_val (de_callB (cd_all C (gs.map groundD)) b_all (drs_cons (DE.dr (de_cast (DX.frozen (dx_lc1 C 2 (di_list (de_name 1)) (blkOk_by (N := n_are_rows) (sc := defScope (topS 17)) (by decide +kernel)) (fun _ => true) (fun i => .bool (groundD (gs.getD i .none))) (lt_line (by omega)) (fun j i hi => dts_nil) (fun j i hi hb => (de_call F_is_ground (C.room.mono (by decide)) (das_cons (DE.da (de_name 2)) das_nil) (by
                have hg := og1 _ (getD_mem (d := .none) hi)
                have hg2 : okp (gs.getD i .none) = true ∧ few 100 (gs.getD i .none) = true := by simpa [okg] using hg
                exact ⟨gs.getD i .none, by rw [at_D hi]; rfl, rfl, hg2.1, fun ds e => by rw [e] at hg2; exact of_decide_eq_true hg2.2⟩))))) (by rw [fil_fun, range_getD (fun d => PyData.bool (groundD d)) gs, List.map_map]; rfl))) drs_nil)))))))))) (by
                show (false || (gs.isEmpty || !(gs.map groundD).all id)) = !(!gs.isEmpty && gs.all groundD)
                rw [List.all_map]
                cases gs.isEmpty <;> cases h : gs.all groundD <;> simp [Function.comp_def, h])) (by rw [hrw]; rfl) ?_
              refine dss_nil ?_
              show Wk _ _
              walk_at "wk"
        · rw [if_neg hb]
          exact dss_nev 0
      case rest =>
        rw [if_neg (by rw [List.take_length]; exact hall)]
        exact dss_nev 0
end
section
variable {c : Cl} {P : Program} {w : World} {K : PySem.W.Frag} {mg : Str → Option Value} {base : Heap}
inductive Vd where | made | bad | many
  deriving DecidableEq
def itemsD : D → List D
  | .list ds => ds
  | _ => []
def inDock (rs : List D) (i j : Int) : Bool := (decide (0 ≤ i) && decide (i < (rs.length : Int))) && (decide (0 ≤ j) && decide (j < ((lenD (rs.headD .none) : Nat) : Int))) && !isN ((itemsD (rs.getD i.toNat .none)).getD j.toNat .none)
def floorV : D → D → Vd
  | .list rs, .tuple [.int i, .int j] => if rowsB (.list rs) = true ∧ inDock rs i j = true then (if 2500 < rs.length * lenD (rs.headD .none) then .many else .made) else .bad
  | _, _ => .bad
theorem floorV_bad {rows dock : D} (h : rowsB rows = false ∨ pairD dock = false) : floorV rows dock = .bad := by
  unfold floorV
  split
  · rename_i rs i j
    rcases h with h | h
    · rw [if_neg fun z => by rw [h] at z; cases z.1]
    · cases h
  · rfl
theorem rowsB_is {d : D} (h : rowsB d = true) : ∃ rs, d = .list rs ∧ 0 < rs.length ∧ (∀ r ∈ rs, ∃ gs, r = .list gs ∧ gs.length = lenD (rs.headD .none) ∧ ∀ g ∈ gs, groundD g = true) ∧ 0 < lenD (rs.headD .none) := by
  unfold rowsB at h
  split at h
  · rename_i rs
    simp only [Bool.and_eq_true] at h
    obtain ⟨⟨h1, h2⟩, h3⟩ := h
    have ne : 0 < rs.length := by cases rs with | nil => cases h1 | cons _ _ => simp
    have all : ∀ r ∈ rs, ∃ gs, r = .list gs ∧ gs.length = lenD (rs.headD .none) ∧ 0 < gs.length ∧ ∀ g ∈ gs, groundD g = true := fun r hr => by
      have q := List.all_eq_true.mp h2 r hr
      have q3 := List.all_eq_true.mp h3 r hr
      unfold rowD at q
      split at q
      · rename_i gs
        simp only [Bool.and_eq_true] at q
        refine ⟨gs, rfl, by simpa [lenD] using q3, ?_, List.all_eq_true.mp q.2⟩
        cases gs with
        | nil => cases q.1
        | cons _ _ => simp
      · cases q
    refine ⟨rs, rfl, ne, fun r hr => ?_, ?_⟩
    · obtain ⟨gs, a, b, _, d⟩ := all r hr
      exact ⟨gs, a, b, d⟩
    · obtain ⟨gs, a, b, d, _⟩ := all _ (getD_mem (d := .none) ne)
      omega
  · cases h
def floorK (rows dock : D) : List (D × D) := [(.str "grid", rows), (.str "at", dock)]
def floorR (CB CM : Addr) (rows dock : D) : List (D × D) ⊕ Value := match floorV rows dock with
  | .made => .inl (floorK rows dock)
  | .bad => .inr (.ref CB)
  | .many => .inr (.ref CM)
def okdk (d : D) : Bool := okp d && few 100 d
def R_floorX (CB CM : Addr) : List (Slot K c) → List (D × D) ⊕ Value → Prop := fun ss r => ∃ rows dock : D, ss = [sd rows, sd dock] ∧ r = floorR CB CM rows dock ∧ okrs rows = true ∧ okdk dock = true
abbrev n_init : List Str := ["self", "rows", "dock", "row", "column", "one"]
structure FloorI (K : PySem.W.Frag) (c : Cl) (mg : Str → Option Value) : Prop where
  ex : ∃ C f fd, c 5 = some C ∧ mg "Floor" = some (.ref C) ∧ Mk K C f ∧ Fun K "__init__" "Floor.__init__" (inClass (topS 18) 0) f fd ∧ Binds K fd ["self", "rows", "dock"] []
theorem sc_floor : FnScope n_init ["self", "rows", "dock"] (defScope (inClass (topS 18) 0)) := ⟨rfl, rfl, rfl, by decide +kernel, rfl, by decide +kernel, by decide +kernel⟩
theorem at_getD {l : List D} {i : Int} (h0 : 0 ≤ i) (h1 : i < l.length) : atI l i = some (l.getD i.toNat .none) := by
  have h : i.toNat < l.length := by omega
  refine atI_of h0 ?_
  rw [List.getElem?_eq_getElem h, List.getD_eq_getElem?_getD, List.getElem?_eq_getElem h]
  rfl
theorem getD_head {l : List D} (h : 0 < l.length) : l.getD 0 .none = l.headD .none := by cases l with | nil => simp at h | cons _ _ => rfl
theorem new_floorX (CB CM : Addr) (I : FloorI K c mg) (T : ClsAt K c 5 ["grid", "at"]) (XB : ExcAt K mg "BadFloor" CB) (XM : ExcAt K mg "TooMany" CM) (F_are_rows : DefOk (c := c) P w K mg base "are_rows" 4 R_rowsB) (F_is_pair : DefOk (c := c) P w K mg base "is_pair" 2 R_pairD) (g_MOST : ConstAt K c mg "MOST_GROUNDS" (.int 2500)) (b_len : mg "len" = none) (b_list : mg "list" = none) :
    NewOkX P w K c mg base 5 "Floor" 5 (R_floorX CB CM) := by
  obtain ⟨C, f, fd, h1, h2, h3, h4, h5⟩ := I.ex
  refine ⟨C, f, fd, _, h1, h2, h3, h5, new_fnX h4 sc_floor (fun ss kvs h => by obtain ⟨rows, dock, rfl, _⟩ := h; rfl) ?_⟩
  rintro cdv A outer s H E ss r ⟨rows, dock, rfl, rfl, hrs, hdk⟩ C
  have hdk' : okp dock = true ∧ few 100 dock = true := by simpa [okdk] using hdk
  have hfd : ∀ ds, dock = .tuple ds → ds.length ≤ 100 := fun ds e => by rw [e] at hdk'; exact of_decide_eq_true hdk'.2
  refine dss_if (DW.dt (dw_or (dt_not (dt_val (de_call F_are_rows (C.room.mono (by decide)) (das_cons (DE.da (de_name 1)) das_nil) ⟨rows, rfl, rfl, hrs⟩))) (fun _ => (dw_or1 (dt_not (dt_val (de_call F_is_pair (C.room.mono (by decide)) (das_cons (DE.da (de_name 2)) das_nil) ⟨dock, rfl, rfl, hdk'.1, hfd⟩))))))) (fun h => ?_) (fun h => ?_)
  · have hb : floorV rows dock = .bad := floorV_bad (by
      cases hr : rowsB rows with
      | false => exact .inl rfl
      | true => exact .inr (by rw [hr] at h; simpa using h))
    refine dss_raise C XB ?_
    show floorR CB CM rows dock = .inr (.ref CB)
    rw [floorR, hb]
  refine dss_nil ?_
  show DSs _ _ _ _
  have h' : rowsB rows = true ∧ pairD dock = true := by simpa using h
  obtain ⟨rs, rfl, h0, hw, hwp⟩ := rowsB_is h'.1
  obtain ⟨i, j, rfl⟩ := pair_is h'.2
  have hrs' : rs.all okr = true ∧ few 3000 (.list rs) = true := by have : (rs.all okr && few 3000 (.list rs)) = true := hrs; simpa using this
  have l0 := few_le hrs'.2
  have lw : lenD (rs.headD .none) ≤ 3000 := by
    have hm := getD_mem (d := .none) h0
    obtain ⟨gs, a, b, _⟩ := hw _ hm
    have := List.all_eq_true.mp hrs'.1 _ hm
    rw [a] at this
    have : gs.all okg = true ∧ few 3000 (.list gs) = true := by have q : (gs.all okg && few 3000 (.list gs)) = true := this; simpa using q
    have := few_le this.2
    omega
  obtain ⟨g0, eg0, lg0, _⟩ := hw _ (getD_mem (d := .none) h0)
  have e0 : atI rs 0 = some (.list g0) := by rw [at_getD (Int.le_refl 0) (by omega)]; show some (rs.getD 0 .none) = _; rw [eg0]
  refine dss_asg C (de_name 2) (dg_tup C (dgs_cons (dg_name C 3) (dgs_cons (dg_name C 4) dgs_nil))) ?_
  have fv : floorV (.list rs) (.tuple [.int i, .int j]) = if inDock rs i j = true then (if 2500 < rs.length * lenD (rs.headD .none) then .many else .made) else .bad := by
    show (if rowsB (.list rs) = true ∧ inDock rs i j = true then _ else _) = _
    rw [h'.1]
    simp
  have ir : ∀ q : (0 ≤ i ∧ i < (rs.length : Int)), ∃ gs, rs.getD i.toNat .none = .list gs ∧ gs.length = lenD (rs.headD .none) ∧ atI rs i = some (.list gs) := fun q => by
    obtain ⟨gs, a, b, _⟩ := hw _ (getD_mem (d := .none) (show i.toNat < rs.length by omega))
    exact ⟨gs, a, b, by rw [at_getD q.1 q.2, a]⟩
  refine dss_if (b := !inDock rs i j) (dt_cast (DW.dt (dw_or (dt_not (dt_chain (DE.dr de_int) (DE.dr (de_name 3)) od_le (fun _ => (DE.dr (de_callB cd_lenL b_len (drs_cons (DE.dr (de_name 1)) drs_nil)))) (fun _ => od_lt))) (fun q1 => (dw_or (dt_not (dt_chain (DE.dr de_int) (DE.dr (de_name 4)) od_le (fun _ => (DE.dr (de_callB cd_lenL b_len (drs_cons (DE.dr (de_ixL (de_name 1) de_int e0)) drs_nil)))) (fun _ => od_lt))) (fun q2 => (dw_or1 (by
    have q1' : 0 ≤ i ∧ i < (rs.length : Int) := by simpa using q1
    have q2' : 0 ≤ j ∧ j < (g0.length : Int) := by simpa using q2
    obtain ⟨gs, a, b, ei⟩ := ir q1'
    have ej : atI gs j = some (gs.getD j.toNat .none) := at_getD q2'.1 (by omega)
    exact dt_cast (b' := isN ((itemsD (rs.getD i.toNat .none)).getD j.toNat .none)) (dt_cmp (DE.dr (de_ixL (de_ixL (de_name 1) (de_name 3) ei) (de_name 4) ej)) (DE.dr de_non) od_is) (by rw [a]; rfl)))))))) (by
    show (!(decide (0 ≤ i) && decide (i < (rs.length : Int))) || (!(decide (0 ≤ j) && decide (j < (g0.length : Int))) || isN ((itemsD (rs.getD i.toNat .none)).getD j.toNat .none))) = !inDock rs i j
    rw [lg0]
    unfold inDock
    cases (decide (0 ≤ i) && decide (i < (rs.length : Int))) <;> cases (decide (0 ≤ j) && decide (j < ((lenD (rs.headD .none) : Nat) : Int))) <;> simp)) (fun h => ?_) (fun h => ?_)
  · have hb : inDock rs i j = false := by simpa using h
    refine dss_raise C XB ?_
    show floorR CB CM _ _ = .inr (.ref CB)
    rw [floorR, fv, hb]
    rfl
  refine dss_nil ?_
  show DSs _ _ _ _
  have hin : inDock rs i j = true := by simpa using h
  rw [hin, if_pos rfl] at fv
  have em : ((rs.length : Int) * (g0.length : Int)) = ((rs.length * lenD (rs.headD .none) : Nat) : Int) := by rw [lg0]; simp
  refine dss_if (b := decide (2500 < rs.length * lenD (rs.headD .none))) (dt_cast (dt_cmp (DE.dr (de_bin (DE.dr (de_callB cd_lenL b_len (drs_cons (DE.dr (de_name 1)) drs_nil))) (DE.dr (de_callB cd_lenL b_len (drs_cons (DE.dr (de_ixL (de_name 1) de_int e0)) drs_nil))) (od_mulS (.inl ⟨by omega, by omega⟩)))) (DE.dr (de_const g_MOST)) od_gt) (by rw [em, decide_eq_decide]; omega)) (fun h => ?_) (fun h => ?_)
  · have hb : 2500 < rs.length * lenD (rs.headD .none) := of_decide_eq_true h
    refine dss_raise C XM ?_
    show floorR CB CM _ _ = .inr (.ref CM)
    rw [floorR, fv, if_pos hb]
  refine dss_nil ?_
  show DSs _ _ _ _
  have hb : ¬ 2500 < rs.length * lenD (rs.headD .none) := of_decide_eq_false h
  rw [if_neg hb] at fv
  refine dss_fld T 0 (de_cast (DX.frozen (dx_lc1 C 5 (di_list (de_name 1)) (blkOk_by (N := n_init) (sc := defScope (inClass (topS 18) 0)) (by decide +kernel)) (fun _ => true) (fun n => rs.getD n .none) (lt_line (by omega)) (fun j i hi => dts_nil) (fun j i hi hb => by
    obtain ⟨gs, a, _⟩ := hw _ (getD_mem (d := .none) hi)
    rw [at_D hi, a]
    exact DX.frozen (dx_listF (de_name 5) b_list)))) (d' := .list rs) (by rw [fil_fun, range_getD (fun d => d) rs, List.map_id'])) ?_
  refine dss_fld T 0 (de_name 2) ?_
  refine dss_nil ⟨floorK (.list rs) (.tuple [.int i, .int j]), ?_, rfl⟩
  rw [floorR, fv]
end

section
variable {c : Cl} {P : Program} {w : World} {K : PySem.W.Frag} {mg : Str → Option Value} {base : Heap}
structure Errs (K : PySem.W.Frag) (mg : Str → Option Value) (CB CM CD : Addr) : Prop where
  bad : ExcAt K mg "BadFloor" CB
  many : ExcAt K mg "TooMany" CM
  gD : mg "DustError" = some (.ref CD)
  cB : PySem.W.exmOne K (.ref CB) (.ref CD) = some true
  cM : PySem.W.exmOne K (.ref CM) (.ref CD) = some true
  bb : PySem.W.kitOne K (.ref CB) (.ref CB) = some true
  bm : PySem.W.kitOne K (.ref CB) (.ref CM) = some false
  mb : PySem.W.kitOne K (.ref CM) (.ref CB) = some false
  mm : PySem.W.kitOne K (.ref CM) (.ref CM) = some true
  oC : ∃ A, mg "Clash" = some (.ref A) ∧ PySem.W.kitOne K (.ref CB) (.ref A) = some false ∧ PySem.W.kitOne K (.ref CM) (.ref A) = some false
  oD : ∃ A, mg "NoDock" = some (.ref A) ∧ PySem.W.kitOne K (.ref CB) (.ref A) = some false ∧ PySem.W.kitOne K (.ref CM) (.ref A) = some false
  oR : ∃ A, mg "NoRow" = some (.ref A) ∧ PySem.W.kitOne K (.ref CB) (.ref A) = some false ∧ PySem.W.kitOne K (.ref CM) (.ref A) = some false
  oT : ∃ A, mg "NoText" = some (.ref A) ∧ PySem.W.kitOne K (.ref CB) (.ref A) = some false ∧ PySem.W.kitOne K (.ref CM) (.ref A) = some false
  vB : PySem.W.kitOne K (.ref CB) (.type "ValueError") = some true
  vM : PySem.W.kitOne K (.ref CM) (.type "ValueError") = some true
def wordV : Vd → Str
  | .made => "made"
  | .bad => "bad"
  | .many => "many"
theorem six_at (k : Nat) {i : Nat} (h : i < 6) : [PyData.bool (0 == k), .bool (1 == k), .bool (2 == k), .bool (3 == k), .bool (4 == k), .bool (5 == k)][i]?.getD .none = .bool (i == k) := by
  match i, h with
  | 0, _ => rfl
  | 1, _ => rfl
  | 2, _ => rfl
  | 3, _ => rfl
  | 4, _ => rfl
  | 5, _ => rfl
def R_said : List (Slot K c) → Slot K c → Prop := fun ss r => ∃ rows dock : D, ss = [sd rows, sd dock] ∧ r = sd (.str (wordV (floorV rows dock))) ∧ okrs rows = true ∧ okdk dock = true
abbrev n_said : List Str := ["_law_rows_here", "_law_dock", "_law_word", "e", "_law_some", "_law_one"]
theorem sc_said : FnScope n_said ["_law_rows_here", "_law_dock"] (defScope (topS 21)) := ⟨rfl, rfl, rfl, by decide +kernel, rfl, by decide +kernel, by decide +kernel⟩
theorem ok_said {CB CM CD : Addr} (F : FunAt K mg "_law_said" (topS 21) ["_law_rows_here", "_law_dock"]) (Z : Errs K mg CB CM CD) (N_floor : NewOkX P w K c mg base 5 "Floor" 5 (R_floorX CB CM)) (b_isinstance : mg "isinstance" = none) (b_len : mg "len" = none) (b_VE : mg "ValueError" = none) : DefOk (c := c) P w K mg base "_law_said" 7 R_said := by
  refine def_okF F sc_said (fun ss r h => by obtain ⟨rows, dock, rfl, _⟩ := h; rfl) ?_
  rintro f cdv A outer s H E ss r ⟨rows, dock, rfl, rfl, hrs, hdk⟩ C
  refine dss_set C 2 de_str ?_
  refine dss_try (cA := .ref CD) C 3 ⟨rfl, by decide, .inl Z.gD⟩ (fun pn xe C' => ?_)
  cases hv : floorV rows dock with
  | made =>
    refine dss_expr (de_newX N_floor (C.room.mono (by decide)) (das_cons (DE.da (de_name 0)) (das_cons (DE.da (de_name 1)) das_nil)) ⟨rows, dock, rfl, by rw [floorR, hv], hrs, hdk⟩) ?_
    refine dss_nil ?_
    show DSs _ _ _ _
    exact dss_ret (de_name 2) rfl
  | bad =>
    refine dss_exprR (cls := .ref CB) (der_newX N_floor (C.room.mono (by decide)) (das_cons (DE.da (de_name 0)) (das_cons (DE.da (de_name 1)) das_nil)) ⟨rows, dock, rfl, by rw [floorR, hv], hrs, hdk⟩) ?_
    refine ⟨true, Z.cB, fun _ a oe pn2 hz hf => ?_, fun q => by cases q⟩
    have hot := hot_suite (X := bx P w K mg base n_said "_law_said" (topS 21) f cdv A outer s H E) (a := a) (pn := pn2) hz hf
    have hu : (bx P w K mg base n_said "_law_said" (topS 21) f cdv A outer s H E).A.units + 65 < cLine := units65 C
    have nd : ((bx P w K mg base n_said "_law_said" (topS 21) f cdv A outer s H E).suite a ((a, oe) :: pn2)).N.Nodup := C.nd
    have hu2 : ((bx P w K mg base n_said "_law_said" (topS 21) f cdv A outer s H E).suite a ((a, oe) :: pn2)).A.units + 65 < cLine := hu
    obtain ⟨aC, mC, kC, _⟩ := Z.oC
    obtain ⟨aD, mD, kD, _⟩ := Z.oD
    obtain ⟨aR, mR, kR, _⟩ := Z.oR
    obtain ⟨aT, mT, kT, _⟩ := Z.oT
    refine dss_setXN nd 4 (dx_lst (des_cons (de_isE Z.bad.isC hz hf 3 Z.bb Z.bad.mg b_isinstance) (des_cons (de_isE Z.bad.isC hz hf 3 Z.bm Z.many.mg b_isinstance) (des_cons (de_isE Z.bad.isC hz hf 3 kC mC b_isinstance) (des_cons (de_isE Z.bad.isC hz hf 3 kD mD b_isinstance) des_nil))))) ?_
    refine dss_setXN nd 4 (dx_cat (dl_own 4) (dl_of (de_lst (des_cons (de_isE Z.bad.isC hz hf 3 kR mR b_isinstance) (des_cons (de_isE Z.bad.isC hz hf 3 kT mT b_isinstance) des_nil)))) (by walk_at "sz")) ?_
    refine dss_freeze 4 ?_
    refine dss_setN nd 2 de_str ?_
    refine dss_ifT (b := true) (dt_cast (DW.dt (dw_and (dt_val (de_isET "ValueError" Z.bad.isC hz hf 3 Z.vB b_VE b_isinstance)) (fun _ => dw_and1 (dt_cmp (DE.dr (de_callB cd_lenL b_len (drs_cons (DE.dr (DX.frozen (dx_lcHot hot nd (dlc_1P 5 nd (dip_list (de_name 4)) (blkOk_by (N := n_said) (sc := defScope (topS 21)) (by decide +kernel)) (fun i => i == 0) (fun i => .bool (i == 0)) (by walk_at "sz") (fun jj i hi => by exact dts_one (dt_val (de_cast (de_name 5) (six_at 0 hi)))) (fun jj i hi hb => by exact de_cast (de_name 5) (six_at 0 hi)))))) drs_nil))) (DE.dr de_int) (od_eqIU hu2))))) (by rfl)) rfl ?_
    refine dss_setN nd 2 (DR.de (dr_ix (DE.dr (de_lst (des_cons de_str (des_cons de_str (des_cons de_str (des_cons de_str (des_cons de_str (des_cons de_str des_nil)))))))) (DE.dr (de_index (n := 0) (m := 0) (j := 0) (z := .bool true) hu2 (DE.dr (de_name 4)) de_bl (by walk_at "shp") (by walk_at "shp") rfl rfl (fun i z' h1 h2 => ?_))) (ixd_list rfl))) ?_
    · exact absurd h1 (by omega)
    refine dss_nil ?_
    show DSs _ _ _ _
    refine dss_nil ?_
    show DSs _ _ _ _
    exact dss_ret (de_name 2) rfl
  | many =>
    refine dss_exprR (cls := .ref CM) (der_newX N_floor (C.room.mono (by decide)) (das_cons (DE.da (de_name 0)) (das_cons (DE.da (de_name 1)) das_nil)) ⟨rows, dock, rfl, by rw [floorR, hv], hrs, hdk⟩) ?_
    refine ⟨true, Z.cM, fun _ a oe pn2 hz hf => ?_, fun q => by cases q⟩
    have hot := hot_suite (X := bx P w K mg base n_said "_law_said" (topS 21) f cdv A outer s H E) (a := a) (pn := pn2) hz hf
    have hu : (bx P w K mg base n_said "_law_said" (topS 21) f cdv A outer s H E).A.units + 65 < cLine := units65 C
    have nd : ((bx P w K mg base n_said "_law_said" (topS 21) f cdv A outer s H E).suite a ((a, oe) :: pn2)).N.Nodup := C.nd
    have hu2 : ((bx P w K mg base n_said "_law_said" (topS 21) f cdv A outer s H E).suite a ((a, oe) :: pn2)).A.units + 65 < cLine := hu
    obtain ⟨aC, mC, _, kC⟩ := Z.oC
    obtain ⟨aD, mD, _, kD⟩ := Z.oD
    obtain ⟨aR, mR, _, kR⟩ := Z.oR
    obtain ⟨aT, mT, _, kT⟩ := Z.oT
    refine dss_setXN nd 4 (dx_lst (des_cons (de_isE Z.many.isC hz hf 3 Z.mb Z.bad.mg b_isinstance) (des_cons (de_isE Z.many.isC hz hf 3 Z.mm Z.many.mg b_isinstance) (des_cons (de_isE Z.many.isC hz hf 3 kC mC b_isinstance) (des_cons (de_isE Z.many.isC hz hf 3 kD mD b_isinstance) des_nil))))) ?_
    refine dss_setXN nd 4 (dx_cat (dl_own 4) (dl_of (de_lst (des_cons (de_isE Z.many.isC hz hf 3 kR mR b_isinstance) (des_cons (de_isE Z.many.isC hz hf 3 kT mT b_isinstance) des_nil)))) (by walk_at "sz")) ?_
    refine dss_freeze 4 ?_
    refine dss_setN nd 2 de_str ?_
    refine dss_ifT (b := true) (dt_cast (DW.dt (dw_and (dt_val (de_isET "ValueError" Z.many.isC hz hf 3 Z.vM b_VE b_isinstance)) (fun _ => dw_and1 (dt_cmp (DE.dr (de_callB cd_lenL b_len (drs_cons (DE.dr (DX.frozen (dx_lcHot hot nd (dlc_1P 5 nd (dip_list (de_name 4)) (blkOk_by (N := n_said) (sc := defScope (topS 21)) (by decide +kernel)) (fun i => i == 1) (fun i => .bool (i == 1)) (by walk_at "sz") (fun jj i hi => by exact dts_one (dt_val (de_cast (de_name 5) (six_at 1 hi)))) (fun jj i hi hb => by exact de_cast (de_name 5) (six_at 1 hi)))))) drs_nil))) (DE.dr de_int) (od_eqIU hu2))))) (by rfl)) rfl ?_
    refine dss_setN nd 2 (DR.de (dr_ix (DE.dr (de_lst (des_cons de_str (des_cons de_str (des_cons de_str (des_cons de_str (des_cons de_str (des_cons de_str des_nil)))))))) (DE.dr (de_index (n := 0) (m := 0) (j := 1) (z := .bool true) hu2 (DE.dr (de_name 4)) de_bl (by walk_at "shp") (by walk_at "shp") rfl rfl (fun i z' h1 h2 => ?_))) (ixd_list rfl))) ?_
    · (obtain rfl : i = 0 := by omega); cases h2; rfl
    refine dss_nil ?_
    show DSs _ _ _ _
    refine dss_nil ?_
    show DSs _ _ _ _
    exact dss_ret (de_name 2) rfl
end
section
variable {c : Cl} {P : Program} {w : World} {K : PySem.W.Frag} {mg : Str → Option Value} {base : Heap}
def rowsD (rs : List (List Gd)) : List (List D) := rs.map fun r => r.map fun g => enc g
theorem rowsD_enc (rs : List (List Gd)) : (.list ((rowsD rs).map PyData.list) : D) = enc rs := by
  unfold rowsD
  rw [List.map_map]
  rfl
def nstep (n k : Int) : Int := (n * n + 48271 * n + k) % 2147483647
def NumOk (n : Int) : Prop := 0 ≤ n ∧ n < 2147533647
theorem nstep_ok (n k : Int) : NumOk (nstep n k) := ⟨Int.emod_nonneg _ (by decide), by have := Int.emod_lt_of_pos (n * n + 48271 * n + k) (show (0 : Int) < 2147483647 by decide); unfold nstep; omega⟩
def gd3 (n : Int) : Gd := if n % 3 = 0 then .wall else if n % 3 = 1 then .gr (1 + n / 3 % 9) (n / 27 % 5 - 2) else .gr 1 0
def gok : Gd → Prop
  | .wall => True
  | .gr k _ => 1 ≤ k
theorem gd3_ok (n : Int) : gok (gd3 n) := by
  unfold gd3
  split
  · trivial
  · split
    · show 1 ≤ 1 + n / 3 % 9; omega
    · exact Int.le_refl 1
def lst (n0 : Int) : Nat → Int × List Gd
  | 0 => (n0, [])
  | k + 1 => (nstep (lst n0 k).1 k, (lst n0 k).2 ++ [gd3 (nstep (lst n0 k).1 k)])
def lrows (wd : Nat) (n0 : Int) : Nat → Int × List (List Gd)
  | 0 => (n0, [])
  | r + 1 => ((lst (lrows wd n0 r).1 wd).1, (lrows wd n0 r).2 ++ [(lst (lrows wd n0 r).1 wd).2])
theorem lst_ok {n0 : Int} (h : NumOk n0) : ∀ k, NumOk (lst n0 k).1 ∧ (lst n0 k).2.length = k ∧ ∀ g ∈ (lst n0 k).2, gok g
  | 0 => ⟨h, rfl, fun _ z => absurd z List.not_mem_nil⟩
  | k + 1 => by
    obtain ⟨h1, h2, h3⟩ := lst_ok h k
    refine ⟨nstep_ok _ _, by simp [lst, h2], fun g hg => ?_⟩
    rcases List.mem_append.mp (show g ∈ (lst n0 k).2 ++ [_] from hg) with z | z
    · exact h3 g z
    · rw [List.mem_singleton.mp z]
      exact gd3_ok _
theorem lrows_ok (wd : Nat) {n0 : Int} (h : NumOk n0) : ∀ k, NumOk (lrows wd n0 k).1 ∧ (lrows wd n0 k).2.length = k ∧ ∀ r ∈ (lrows wd n0 k).2, r.length = wd ∧ ∀ g ∈ r, gok g
  | 0 => ⟨h, rfl, fun _ z => absurd z List.not_mem_nil⟩
  | k + 1 => by
    obtain ⟨h1, h2, h3⟩ := lrows_ok wd h k
    have q := lst_ok h1 wd
    refine ⟨q.1, by simp [lrows, h2], fun r hr => ?_⟩
    rcases List.mem_append.mp (show r ∈ (lrows wd n0 k).2 ++ [_] from hr) with z | z
    · exact h3 r z
    · rw [List.mem_singleton.mp z]
      exact q.2
def R_lrows : List (Slot K c) → Slot K c → Prop := fun ss r => ∃ (n : Int) (many wd : Nat), ss = [sd (.int n), sd (.int many), sd (.int wd)] ∧ r = kn (kRows (rowsD (lrows wd (n % 2147483647 + 48271) many).2)) ∧ many ≤ 100 ∧ wd ≤ 100
abbrev n_lrows : List Str := ["_law_cell", "_law_many", "_law_wide", "_law_number", "_law_rows_here", "_law_r", "_law_row", "_law_c"]
theorem sc_lrows : FnScope n_lrows ["_law_cell", "_law_many", "_law_wide"] (defScope (topS 22)) := ⟨rfl, rfl, rfl, by decide +kernel, rfl, by decide +kernel, by decide +kernel⟩
theorem ok_lrows (F : FunAt K mg "_law_rows" (topS 22) ["_law_cell", "_law_many", "_law_wide"]) (b_range : mg "range" = none) : DefOk (c := c) P w K mg base "_law_rows" 1 R_lrows := by
  refine def_okF F sc_lrows (fun ss r h => by obtain ⟨n, m, wd, rfl, _⟩ := h; rfl) ?_
  rintro f cdv A outer s H E ss r ⟨n, many, wd, rfl, rfl, m1, m2⟩ C
  refine dss_set C 3 (d := .int (n % 2147483647 + 48271)) (de_bin (DE.dr (de_bin (DE.dr (de_name 0)) (DE.dr de_int) (od_mod (by decide)))) (DE.dr de_int) od_add) ?_
  have h0 : NumOk (n % 2147483647 + 48271) := by unfold NumOk; omega
  generalize n % 2147483647 + 48271 = n0 at h0
  refine dss_setX C 4 (dx_lst des_nil) ?_
  refine dss_cast 4 rows_nil ?_
  refine dss_for C (di_range1 (de_name 1) (by omega) (by omega) b_range) (fun i => [none, none, some (sd (.int (wd : Nat))), some (sd (.int (lrows wd n0 i).1)), some (kn (kRows (rowsD (lrows wd n0 i).2))), none, none, none]) ?wk (is := [5]) (fun i hi => dg_name C 5) (fun i hi => ?turn) ?rest
  case wk => show Wk _ _; walk_at "wk"
  case turn =>
    have hi : i < many := by omega
    have q := lrows_ok wd h0 i
    have en : (lrows wd n0 (i + 1)).1 = (lst (lrows wd n0 i).1 wd).1 := rfl
    have er : rowsD (lrows wd n0 (i + 1)).2 = rowsD (lrows wd n0 i).2 ++ [(lst (lrows wd n0 i).1 wd).2.map fun g => enc g] := List.map_append
    rw [en, er]
    have ln : (rowsD (lrows wd n0 i).2).length = i := by rw [rowsD, List.length_map]; exact q.2.1
    generalize rowsD (lrows wd n0 i).2 = rr at ln
    have qn := q.1
    generalize (lrows wd n0 i).1 = n1 at qn
    refine dss_setX C 6 (dx_lst des_nil) ?_
    refine dss_for C (di_range1 (de_name 2) (by omega) (by omega) b_range) (fun k => [none, none, some (sd (.int (wd : Nat))), some (sd (.int (lst n1 k).1)), some (kn (kRows rr)), some (sd (.int i)), some (so ((lst n1 k).2.map fun g => enc g)), none]) ?wk2 (is := [7]) (fun k hk => dg_name C 7) (fun k hk => ?turn2) ?rest2
    case wk2 => show Wk _ _; walk_at "wk"
    case turn2 =>
      have hk : k < wd := by omega
      have p := lst_ok qn k
      have e2 : (lst n1 (k + 1)).2.map (fun g => (enc g : D)) = (lst n1 k).2.map (fun g => enc g) ++ [enc (gd3 (nstep (lst n1 k).1 k))] := List.map_append
      have e1 : (lst n1 (k + 1)).1 = nstep (lst n1 k).1 k := rfl
      rw [e1, e2]
      have pl := p.2.1
      have pn := p.1
      generalize (lst n1 k).2 = row at pl
      generalize (lst n1 k).1 = n2 at pn
      refine dss_set C 3 (d := .int (nstep n2 k)) (de_bin (DE.dr (de_bin (DE.dr (de_bin (DE.dr (de_bin (DE.dr (de_name 3)) (DE.dr (de_name 3)) (od_mulS (.inl ⟨by have := pn.1; omega, by have := pn.2; omega⟩)))) (DE.dr (de_bin (DE.dr de_int) (DE.dr (de_name 3)) (od_mulS (.inl ⟨by decide, by decide⟩)))) od_add)) (DE.dr (de_name 7)) od_add)) (DE.dr de_int) (od_mod (by decide))) ?_
      generalize nstep n2 k = z
      have ex : atI [PyData.none, .tuple [.int (1 + z / 3 % 9), .int (z / 27 % 5 - 2)], .tuple [.int 1, .int 0]] (z % 3) = some (enc (gd3 z)) := by
        have : z % 3 = 0 ∨ z % 3 = 1 ∨ z % 3 = 2 := by omega
        rcases this with q | q | q <;> simp only [gd3, q] <;> rfl
      refine dss_mut 6 (dm_append 6 (DR.de (dr_ix (DE.dr (de_lst (des_cons de_non (des_cons (de_tup (des_cons (de_bin (DE.dr de_int) (DE.dr (de_bin (DE.dr (de_bin (DE.dr (de_name 3)) (DE.dr de_int) (od_fdivS ⟨by decide, by decide⟩))) (DE.dr de_int) (od_mod (by decide)))) od_add) (des_cons (de_bin (DE.dr (de_bin (DE.dr (de_bin (DE.dr (de_name 3)) (DE.dr de_int) (od_fdivS ⟨by decide, by decide⟩))) (DE.dr de_int) (od_mod (by decide)))) (DE.dr de_int) od_sub) des_nil))) (des_cons (de_tup (des_cons de_int (des_cons de_int des_nil))) des_nil))))) (DE.dr (de_bin (DE.dr (de_name 3)) (DE.dr de_int) (od_mod (by decide)))) (ixd_list ex)) (gd_nodictL _)) (hl := lt_line (by rw [List.length_map, pl]; omega))) ?_
      refine dss_nil ?_
      show Wk _ _
      walk_at "wk"
    case rest2 =>
    refine dss_rowIn 4 6 ?_ (hl := lt_line (by rw [ln]; omega))
    refine dss_nil ?_
    show Wk _ _
    walk_at "wk"
  case rest =>
  exact dss_retO 4 rfl
def noGs (n : Int) : List D := [.list [.int 1, .int 0], .tuple [.int 1], .tuple [.int 1, .int 0, .int 0], .tuple [.int 0, .int 0], .tuple [.int (-1 - n % 100000000000000000000), .int 0],
  .tuple [.bool true, .int 0], .tuple [.int 1, .bool false], .tuple [.none, .int 0], .tuple [.int 1, .none],
  .str "#", .str "?", .int 0, .int 5, .tuple [], .tuple [.str "1", .int 0], .tuple [.int 1, .str "0"], .tuple [.int 1, .tuple [.int 0]], .dict [], .bool true]
def noG (n : Int) : D := (noGs n).getD (n % 19).toNat .none
structure NoG (d : D) : Prop where
  no : groundD d = false
  ok : okg d = true
  eq : okd 2 d = true
theorem nog_all (n : Int) : ∀ d ∈ noGs n, NoG d := by
  intro d h
  unfold noGs at h
  simp only [List.mem_cons, List.not_mem_nil, or_false] at h
  have h5 : groundD (.tuple [.int (-1 - n % 100000000000000000000), .int 0]) = false := decide_eq_false (by omega)
  rcases h with h | h | h | h | h | h | h | h | h | h | h | h | h | h | h | h | h | h | h <;> subst h
  all_goals first
    | exact ⟨h5, rfl, rfl⟩
    | exact ⟨rfl, rfl, by decide +kernel⟩
    | exact ⟨by decide +kernel, by decide +kernel, by decide +kernel⟩
theorem nog_ok (n : Int) : NoG (noG n) := nog_all n _ (getD_mem (show (n % 19).toNat < 19 by omega))
def R_nog : List (Slot K c) → Slot K c → Prop := fun ss r => ∃ n : Int, ss = [sd (.int n)] ∧ r = sd (noG n)
abbrev n_nog : List Str := ["_law_cell", "_law_some"]
theorem sc_nog : FnScope n_nog ["_law_cell"] (defScope (topS 23)) := ⟨rfl, rfl, rfl, by decide +kernel, rfl, by decide +kernel, by decide +kernel⟩
theorem ok_nog (F : FunAt K mg "_law_no_ground" (topS 23) ["_law_cell"]) (b_len : mg "len" = none) : DefOk (c := c) P w K mg base "_law_no_ground" 1 R_nog := by
  refine def_okF F sc_nog (fun ss r h => by obtain ⟨n, rfl, _⟩ := h; rfl) ?_
  rintro f cdv A outer s H E ss r ⟨n, rfl, rfl⟩ C
  refine dss_set C 1 (de_lst (des_cons (de_lst (des_cons de_int (des_cons de_int des_nil))) (des_cons (de_tup (des_cons de_int des_nil)) (des_cons (de_tup (des_cons de_int (des_cons de_int (des_cons de_int des_nil)))) (des_cons (de_tup (des_cons de_int (des_cons de_int des_nil))) (des_cons (de_tup (des_cons (de_bin (DE.dr (de_lit (-1) (de_bin (DE.dr de_int) (DE.dr de_int) od_sub) (by decide +kernel))) (DE.dr (de_bin (DE.dr (de_name 0)) (DE.dr (de_lit (100000000000000000000) (de_bin (DE.dr de_int) (DE.dr de_int) od_powC) (by decide +kernel))) (od_mod (by decide)))) od_sub) (des_cons de_int des_nil))) des_nil)))))) ?_
  refine dss_set C 1 (DX.frozen (dx_cat (dl_of (de_name 1)) (dl_of (de_lst (des_cons (de_tup (des_cons de_bl (des_cons de_int des_nil))) (des_cons (de_tup (des_cons de_int (des_cons de_bl des_nil))) (des_cons (de_tup (des_cons de_non (des_cons de_int des_nil))) (des_cons (de_tup (des_cons de_int (des_cons de_non des_nil))) des_nil)))))) (by walk_at "sz"))) ?_
  refine dss_set C 1 (DX.frozen (dx_cat (dl_of (de_name 1)) (dl_of (de_lst (des_cons de_str (des_cons de_str (des_cons de_int (des_cons de_int (des_cons (de_tup des_nil) (des_cons (de_tup (des_cons de_str (des_cons de_int des_nil))) (des_cons (de_tup (des_cons de_int (des_cons de_str des_nil))) (des_cons (de_tup (des_cons de_int (des_cons (de_tup (des_cons de_int des_nil)) des_nil))) (des_cons de_dict0 (des_cons de_bl des_nil)))))))))))) (by walk_at "sz"))) ?_
  have hn0 : 0 ≤ n % 19 := Int.emod_nonneg _ (by decide)
  have hn1 : n % 19 < 19 := Int.emod_lt_of_pos _ (by decide)
  refine dss_ret (d := noG n) (de_ixL (de_name 1) (de_bin (DE.dr (de_name 0)) (DE.dr (de_lit 19 (de_callB cd_lenL b_len (drs_cons (DE.dr (de_name 1)) drs_nil)) rfl)) (od_mod (by decide))) ?_) ?_
  · exact at_getD (l := noGs n) hn0 hn1
  · show sd _ = sd _
    rfl
theorem ixN_nn {n : Nat} {i : Int} (h0 : 0 ≤ i) (h1 : i < n) : ixN n i = some i.toNat := by
  have e : atI (List.range n) i = some i.toNat := atI_of h0 (by rw [List.getElem?_range (by omega)])
  unfold atI at e
  rw [List.length_range] at e
  cases q : ixN n i with
  | none => rw [q] at e; cases e
  | some j =>
    rw [q] at e
    have e : (List.range n)[j]? = some i.toNat := e
    have hj : j < n := by have := (List.getElem?_eq_some_iff.mp e).1; simpa using this
    rw [List.getElem?_range hj] at e
    rw [Option.some.inj e]
def okk : D → Bool
  | .list ds => ds.all nodict && few 3000 (.list ds)
  | d => nodict d
def R_kept : List (Slot K c) → Slot K c → Prop := fun ss r => ∃ d : D, ss = [sd d] ∧ r = sd d ∧ okk d = true
abbrev n_kept : List Str := ["_law_rows_here", "_law_row"]
theorem sc_kept : FnScope n_kept ["_law_rows_here"] (defScope (topS 25)) := ⟨rfl, rfl, rfl, by decide +kernel, rfl, by decide +kernel, by decide +kernel⟩
theorem okk_nd : ∀ {d : D}, okk d = true → nodict d = true
  | .none, _ => rfl
  | .bool _, _ => rfl
  | .int _, _ => rfl
  | .str _, _ => rfl
  | .list _, _ => rfl
  | .tuple _, _ => rfl
  | .dict [], _ => rfl
  | .dict (_ :: _), h => by cases h
theorem ok_kept (F : FunAt K mg "_law_kept" (topS 25) ["_law_rows_here"]) (b_isinstance : mg "isinstance" = none) (b_list : mg "list" = none) : DefOk (c := c) P w K mg base "_law_kept" 1 R_kept := by
  refine def_okF F sc_kept (fun ss r h => by obtain ⟨d, rfl, _⟩ := h; rfl) ?_
  rintro f cdv A outer s H E ss r ⟨d, rfl, rfl, hd⟩ C
  cases hL : isiB (tyN d) "list" with
  | false =>
    refine dss_ifT (dt_not (dt_val (de_isd "list" (DE.dr (de_name 0)) b_isinstance b_list (okk_nd hd)))) (by rw [hL]; rfl) ?_
    exact dss_ret (de_name 0) rfl
  | true =>
    obtain ⟨ds, rfl⟩ := isL d hL
    have hd' : ds.all nodict = true ∧ few 3000 (.list ds) = true := by have : (ds.all nodict && few 3000 (.list ds)) = true := hd; simpa using this
    have nd := List.all_eq_true.mp hd'.1
    have l0 := few_le hd'.2
    refine dss_skip (dt_not (dt_val (de_isd "list" (DE.dr (de_name 0)) b_isinstance b_list))) rfl ?_
    refine dss_ret (de_cast (DX.frozen (dx_lc1 C 1 (di_list (de_name 0)) (blkOk_by (N := n_kept) (sc := defScope (topS 25)) (by decide +kernel)) (fun _ => true) (fun i => ds.getD i .none) (lt_line (by omega)) (fun j i hi => dts_nil) (fun j i hi hb => by
      have hm : ds.getD i .none ∈ ds := getD_mem hi
      rw [at_D hi]
      have hn := nd _ hm
      generalize ds.getD i .none = r at hn
      cases hr : isiB (tyN r) "list" with
      | false => exact de_cast (de_ifExp (d1 := r) (dt_val (de_isd "list" (DE.dr (de_name 1)) b_isinstance b_list hn)) (fun q => by rw [hr] at q; cases q) (fun _ => de_name 1)) (by rw [hr]; rfl)
      | true =>
        obtain ⟨gs, rfl⟩ := isL r hr
        exact de_cast (de_ifExp (d2 := .list gs) (dt_val (de_isd "list" (DE.dr (de_name 1)) b_isinstance b_list)) (fun _ => DX.frozen (dx_listF (de_name 1) b_list)) (fun q => by cases q)) rfl))) (d' := .list ds) (by rw [fil_fun, range_getD (fun d => d) ds, List.map_id'])) rfl
end
section
variable {c : Cl} {P : Program} {w : World} {K : PySem.W.Frag} {mg : Str → Option Value} {base : Heap}
def repl (l : List D) (k : Nat) (d : D) : List D := l.take k ++ [d] ++ l.drop (k + 1)
theorem repl_eq {l : List D} {k : Nat} {d : D} (h : k < l.length) : repl l k d = l.set k d := by
  unfold repl
  rw [List.append_assoc, List.set_eq_take_append_cons_drop, if_pos h]
  rfl
structure G3 (rs : List (List Gd)) (wd : Nat) (i j : Int) : Prop where
  r0 : 0 < rs.length
  r1 : rs.length ≤ 6
  wl : ∀ r ∈ rs, r.length = wd
  w0 : 0 < wd
  w1 : wd ≤ 6
  ok : ∀ r ∈ rs, ∀ g ∈ r, gok g
  i0 : 0 ≤ i
  i1 : i < rs.length
  j0 : 0 ≤ j
  j1 : j < wd
  dk : (rs.getD i.toNat []).getD j.toNat .wall ≠ .wall
def rowE (r : List Gd) : D := enc r
def atOf (rs : List (List Gd)) (n : Int) : Nat := (n / 7 % (rs.length : Nat)).toNat
def rowOf (rs : List (List Gd)) (n : Int) : List Gd := rs.getD (atOf rs n) []
def tupIf (b : Bool) (d : D) : D := if (b && isiB (tyN d) "list") = true then .tuple (itemsD d) else d
def wr2 (r : List D) : List D := [.list (r ++ [.none]), .list (r ++ [.tuple [.int 1, .int 0]]), .tuple r, .none, .dict [], .str "row"]
def wr3 (rs : List (List Gd)) : List D := [.list [], .none, .tuple (rs.map rowE), .dict [], .list [.list []], .list [.list [], .list []], rowE (rs.getD 0 []), .str "rows"]
def wr4 (i j : Int) : List D := [.list [.int i, .int j], .tuple [.int i], .tuple [.int i, .int j, .int 0], .none, .tuple [.bool true, .int j], .tuple [.int i, .none], .int 0, .str "dock"]
def wr5 (rs : List (List Gd)) (wd : Nat) (i j : Int) : List D := [.tuple [.int (-1), .int j], .tuple [.int i, .int (-1)], .tuple [.int (rs.length : Nat), .int j], .tuple [.int i, .int (wd : Nat)]]
def pick (l : List D) (n : Int) (k : Nat) : D := l.getD (n / 49 % (k : Nat)).toNat .none
def spoilR (rs : List (List Gd)) (i j : Int) (n : Int) : D :=
  if n % 7 < 2 then .list (repl (rs.map rowE) (atOf rs n) (.list (repl ((rowOf rs n).map fun g => enc g) (n / 49 % ((rowOf rs n).length : Nat)).toNat (noG (n / 343)))))
  else if n % 7 = 2 then .list (repl (rs.map rowE) (atOf rs n) (tupIf (decide (((rs.length : Nat) : Int) = 1)) (pick (wr2 ((rowOf rs n).map fun g => enc g)) n 6)))
  else if n % 7 = 3 then pick (wr3 rs) n 8
  else if n % 7 = 4 then enc rs
  else if n % 7 = 5 then enc rs
  else enc (rs.set i.toNat ((rs.getD i.toNat []).set j.toNat .wall))
def spoilK (rs : List (List Gd)) (wd : Nat) (i j : Int) (n : Int) : D :=
  if n % 7 = 4 then pick (wr4 i j) n 8 else if n % 7 = 5 then pick (wr5 rs wd i j) n 4 else .tuple [.int i, .int j]
theorem pick_mem {l : List D} {n : Int} {k : Nat} (h : 0 < k) (hk : l.length = k) : pick l n k ∈ l := getD_mem (by
  have := Int.emod_lt_of_pos (n / 49) (show (0 : Int) < (k : Nat) by omega)
  have := Int.emod_nonneg (n / 49) (show ((k : Nat) : Int) ≠ 0 by omega)
  omega)
theorem pick_at {l : List D} {n : Int} {k : Nat} (h : 0 < k) (hk : l.length = k) : atI l (n / 49 % (k : Nat)) = some (pick l n k) := by
  have h1 := Int.emod_lt_of_pos (n / 49) (show (0 : Int) < (k : Nat) by omega)
  have h2 := Int.emod_nonneg (n / 49) (show ((k : Nat) : Int) ≠ 0 by omega)
  exact at_getD h2 (by rw [hk]; exact h1)
theorem cut_lo {ds : List D} {k : Nat} (h : k ≤ ds.length) : Dw.cutD ds none (some (k : Int)) = ds.take k := by
  unfold Dw.cutD
  rw [HT.sIx_nat, Nat.min_eq_left h]
  rfl
theorem cut_hi {ds : List D} {k : Nat} (h : k ≤ ds.length) : Dw.cutD ds (some (k : Int)) none = ds.drop k := by
  unfold Dw.cutD
  rw [HT.sIx_nat, Nat.min_eq_left h]
  show (ds.drop k).take (ds.length - k) = ds.drop k
  exact List.take_of_length_le (by rw [List.length_drop]; omega)
/-- l[:k] + [d] + l[k + 1:] -/
theorem dx_repl {X : Cx} {G : Dw.Env X.K c} {l1 l2 k1 k2 e : Expr} {sl1 sl2 p1 p2 p3 p4 p5 : Pos} {ds : List D} {k : Nat} {d : D} {i i' : Int} (h1 : DE X G l1 (.list ds)) (h2 : DE X G l2 (.list ds)) (hk : DE X G k1 (.int i)) (hk2 : DE X G k2 (.int i')) (he : DE X G e d) (ei : i = k) (ei' : i' = ((k + 1 : Nat) : Int)) (hl : k < ds.length) (hz : ds.length ≤ 1000)
    (hs : starEach [e] X.env = (false, eval e X.env) :: starEach [] X.env := by rfl) :
    DE X G (.BinOp (.BinOp (.Subscript l1 (.Slice none (some k1) none sl1) p1) .Add (.List [e] p2) p3) .Add (.Subscript l2 (.Slice (some k2) none none sl2) p4) p5) (.list (repl ds k d)) := by
  subst ei ei'
  have a := dx_sliceF (p2 := sl1) (pos := p1) h1 do_none (do_some hk)
  rw [cut_lo (by omega)] at a
  have b := dx_sliceF (p2 := sl2) (pos := p4) h2 (do_some hk2) do_none
  rw [cut_hi (by omega)] at b
  refine DX.frozen (dx_cat (dl_x (dx_cat (dl_x a) (dl_of (de_lst (des_cons he des_nil hs))) (small ?_))) (dl_x b) (small ?_))
  · rw [List.length_take]; simp; omega
  · rw [List.length_append, List.length_take, List.length_drop]; simp; omega
def R_spoilt : List (Slot K c) → Slot K c → Prop := fun ss r => ∃ rs wd i j n, ss = [sd (enc rs), sd (.tuple [.int i, .int j]), sd (.int n)] ∧ r = sd (.tuple [spoilR rs i j n, spoilK rs wd i j n]) ∧ G3 rs wd i j
abbrev n_spoilt : List Str := ["_law_rows_here", "_law_dock", "_law_cell", "_law_at", "_law_row", "_law_way", "_law_spot", "_law_wrong", "_law_shut", "_law_one"]
theorem sc_spoilt : FnScope n_spoilt ["_law_rows_here", "_law_dock", "_law_cell"] (defScope (topS 24)) := ⟨rfl, rfl, rfl, by decide +kernel, rfl, by decide +kernel, by decide +kernel⟩
theorem wr2_nd (r : List D) : ∀ d ∈ wr2 r, nodict d = true := by
  intro d h
  unfold wr2 at h
  simp only [List.mem_cons, List.not_mem_nil, or_false] at h
  rcases h with h | h | h | h | h | h <;> subst h <;> rfl
theorem ok_spoilt (F : FunAt K mg "_law_spoilt" (topS 24) ["_law_rows_here", "_law_dock", "_law_cell"]) (F_nog : DefOk (c := c) P w K mg base "_law_no_ground" 1 R_nog) (b_isinstance : mg "isinstance" = none) (b_list : mg "list" = none) (b_tuple : mg "tuple" = none) (b_len : mg "len" = none) : DefOk (c := c) P w K mg base "_law_spoilt" 2 R_spoilt := by
  refine def_okF F sc_spoilt (fun ss r h => by obtain ⟨rs, wd, i, j, n, rfl, _⟩ := h; rfl) ?_
  rintro f cdv A outer s H E ss r ⟨rs, wd, i, j, n, rfl, rfl, g3⟩ C
  obtain ⟨r0, r1, wl, w0, w1, ok, i0, i1, j0, j1, dk⟩ := g3
  have eq : (enc rs : D) = .list (rs.map rowE) := rfl
  have lrs : (rs.map rowE).length = rs.length := List.length_map ..
  have a0 : 0 ≤ n / 7 % (rs.length : Nat) := Int.emod_nonneg _ (by omega)
  have a1 : n / 7 % (rs.length : Nat) < rs.length := Int.emod_lt_of_pos _ (by omega)
  have ha : n / 7 % (rs.length : Nat) = (atOf rs n : Nat) := by unfold atOf; omega
  have hat : atOf rs n < rs.length := by unfold atOf; omega
  have hrow : rowOf rs n ∈ rs := getD_mem hat
  have lrow := wl _ hrow
  have erow : atI (rs.map rowE) (atOf rs n : Nat) = some (.list ((rowOf rs n).map fun g => enc g)) := by
    rw [at_getD (by omega) (by rw [lrs]; omega)]
    show some ((rs.map rowE).getD (atOf rs n) .none) = _
    rw [List.getD_eq_getElem?_getD, List.getElem?_map, rowOf, List.getD_eq_getElem?_getD, List.getElem?_eq_getElem hat]
    rfl
  rw [eq]
  refine dss_set C 3 (d := .int (atOf rs n : Nat)) (de_cast (de_bin (DE.dr (de_bin (DE.dr (de_name 2)) (DE.dr de_int) (od_fdivS ⟨by decide, by decide⟩))) (DE.dr (de_lit (rs.length : Nat) (de_callB cd_lenL b_len (drs_cons (DE.dr (de_name 0)) drs_nil)) (by rw [lrs]))) (od_mod (by omega))) (by rw [ha])) ?_
  refine dss_set C 4 (de_ixL (de_name 0) (de_name 3) erow) ?_
  have lrd : ((rowOf rs n).map fun g => (enc g : D)).length = wd := by rw [List.length_map, lrow]
  have srd : spoilR rs i j n = if n % 7 < 2 then .list (repl (rs.map rowE) (atOf rs n) (.list (repl ((rowOf rs n).map fun g => enc g) (n / 49 % (wd : Nat)).toNat (noG (n / 343)))))
    else if n % 7 = 2 then .list (repl (rs.map rowE) (atOf rs n) (tupIf (decide (((rs.length : Nat) : Int) = 1)) (pick (wr2 ((rowOf rs n).map fun g => enc g)) n 6)))
    else if n % 7 = 3 then pick (wr3 rs) n 8 else if n % 7 = 4 then enc rs else if n % 7 = 5 then enc rs else enc (rs.set i.toNat ((rs.getD i.toNat []).set j.toNat .wall)) := by unfold spoilR; rw [lrow]
  rw [srd]
  generalize (rowOf rs n).map (fun g => (enc g : D)) = rd at lrd
  generalize atOf rs n = at_ at hat
  refine dss_set C 5 (de_bin (DE.dr (de_name 2)) (DE.dr de_int) (od_mod (by decide))) ?_
  have z0 : 0 ≤ n / 49 % (wd : Nat) := Int.emod_nonneg _ (by omega)
  have z1 : n / 49 % (wd : Nat) < wd := Int.emod_lt_of_pos _ (by omega)
  refine dss_if (dt_cmp (DE.dr (de_name 5)) (DE.dr de_int) od_lt) (fun h1 => ?_) (fun h1 => ?_)
  · have h1 : n % 7 < 2 := of_decide_eq_true h1
    refine dss_set C 6 (d := .int (n / 49 % (wd : Nat))) (de_bin (DE.dr (de_bin (DE.dr (de_name 2)) (DE.dr de_int) (od_fdivS ⟨by decide, by decide⟩))) (DE.dr (de_lit (wd : Nat) (de_callB cd_lenL b_len (drs_cons (DE.dr (de_name 4)) drs_nil)) (by rw [lrd]))) (od_mod (by omega))) ?_
    refine dss_set C 7 (dx_repl (de_name 4) (de_name 4) (de_name 6) (de_bin (DE.dr (de_name 6)) (DE.dr de_int) od_add) (de_call F_nog (C.room.mono (by decide)) (das_cons (DE.da (de_bin (DE.dr (de_name 2)) (DE.dr de_int) (od_fdivS ⟨by decide, by decide⟩))) das_nil) ⟨_, rfl, rfl⟩) (k := (n / 49 % (wd : Nat)).toNat) (by omega) (by omega) (by omega) (by omega)) ?_
    refine dss_ret (de_tup (des_cons (dx_repl (de_name 0) (de_name 0) (de_name 3) (de_bin (DE.dr (de_name 3)) (DE.dr de_int) od_add) (de_name 7) (k := at_) rfl (by omega) (by rw [lrs]; omega) (by rw [lrs]; omega)) (des_cons (de_name 1) des_nil))) ?_
    have k4 : ¬ n % 7 = 4 := by omega
    have k5 : ¬ n % 7 = 5 := by omega
    rw [if_pos h1, spoilK, if_neg k4, if_neg k5]
    rfl
  refine dss_nil ?_
  show DSs _ _ _ _
  have h1 : ¬ n % 7 < 2 := of_decide_eq_false h1
  rw [if_neg h1]
  refine dss_if (dt_cmp (DE.dr (de_name 5)) (DE.dr de_int) (od_eqI C)) (fun h2 => ?_) (fun h2 => ?_)
  · have h2 : n % 7 = 2 := of_decide_eq_true h2
    have pm := pick_mem (l := wr2 rd) (n := n) (k := 6) (by decide) rfl
    have pa := pick_at (l := wr2 rd) (n := n) (k := 6) (by decide) rfl
    refine dss_set C 7 (d := pick (wr2 rd) n 6) (de_ixL (de_lst (des_cons (DX.frozen (dx_cat (dl_of (de_name 4)) (dl_of (de_lst (des_cons de_non des_nil))) (small (by simp; omega)))) (des_cons (DX.frozen (dx_cat (dl_of (de_name 4)) (dl_of (de_lst (des_cons (de_tup (des_cons de_int (des_cons de_int des_nil))) des_nil))) (small (by simp; omega)))) (des_cons (de_tupleL (de_name 4) b_tuple) (des_cons de_non (des_cons de_dict0 (des_cons de_str des_nil))))))) (de_bin (DE.dr (de_bin (DE.dr (de_name 2)) (DE.dr de_int) (od_fdivS ⟨by decide, by decide⟩))) (DE.dr de_int) (od_mod (by decide))) pa) ?_
    have hnd := wr2_nd rd _ pm
    generalize pick (wr2 rd) n 6 = wrg at hnd
    refine dss_ifJ [some (sd (.list (rs.map rowE))), some (sd (.tuple [.int i, .int j])), some (sd (.int n)), some (sd (.int (at_ : Nat))), none, none, none, some (sd (tupIf (decide (((rs.length : Nat) : Int) = 1)) wrg)), none, none] (DW.dt (dw_and (dt_cmp (DE.dr (de_lit (rs.length : Nat) (de_callB cd_lenL b_len (drs_cons (DE.dr (de_name 0)) drs_nil)) (by rw [lrs]))) (DE.dr de_int) (od_eqI C)) (fun h3 => (dw_and1 (dt_val (de_isd "list" (DE.dr (de_name 7)) b_isinstance b_list hnd)))))) (fun h4 => ?_) (fun h4 => ?_) ?_
    · have hl : isiB (tyN wrg) "list" = true := by
        simp only [Bool.and_eq_true] at h4
        exact h4.2
      obtain ⟨ds, rfl⟩ := isL wrg hl
      rw [tupIf, if_pos h4]
      refine dss_set C 7 (de_tupleL (de_name 7) b_tuple) ?_
      refine dss_nil ?_
      show Wk _ _
      walk_at "wk"
    · rw [tupIf, if_neg (by rw [h4]; decide)]
      refine dss_nil ?_
      show Wk _ _
      walk_at "wk"
    refine dss_ret (de_tup (des_cons (dx_repl (de_name 0) (de_name 0) (de_name 3) (de_bin (DE.dr (de_name 3)) (DE.dr de_int) od_add) (de_name 7) (k := at_) rfl (by omega) (by rw [lrs]; omega) (by rw [lrs]; omega)) (des_cons (de_name 1) des_nil))) ?_
    have k4 : ¬ n % 7 = 4 := by omega
    have k5 : ¬ n % 7 = 5 := by omega
    rw [if_pos h2, spoilK, if_neg k4, if_neg k5]
    rfl
  refine dss_nil ?_
  show DSs _ _ _ _
  have h2 : ¬ n % 7 = 2 := of_decide_eq_false h2
  rw [if_neg h2]
  have e0 : atI (rs.map rowE) 0 = some (rowE (rs.getD 0 [])) := by
    rw [at_getD (Int.le_refl 0) (by rw [lrs]; omega)]
    show some ((rs.map rowE).getD 0 .none) = _
    rw [List.getD_eq_getElem?_getD, List.getElem?_map, List.getD_eq_getElem?_getD, List.getElem?_eq_getElem r0]
    rfl
  refine dss_if (dt_cmp (DE.dr (de_name 5)) (DE.dr de_int) (od_eqI C)) (fun h3 => ?_) (fun h3 => ?_)
  · have h3 : n % 7 = 3 := of_decide_eq_true h3
    have pa := pick_at (l := wr3 rs) (n := n) (k := 8) (by decide) rfl
    refine dss_ret (de_tup (des_cons (d := pick (wr3 rs) n 8) (de_ixL (de_lst (des_cons (de_lst des_nil) (des_cons de_non (des_cons (de_tupleL (de_name 0) b_tuple) (des_cons de_dict0 (des_cons (de_lst (des_cons (de_lst des_nil) des_nil)) (des_cons (de_lst (des_cons (de_lst des_nil) (des_cons (de_lst des_nil) des_nil))) (des_cons (de_ixL (de_name 0) de_int e0) (des_cons de_str des_nil))))))))) (de_bin (DE.dr (de_bin (DE.dr (de_name 2)) (DE.dr de_int) (od_fdivS ⟨by decide, by decide⟩))) (DE.dr de_int) (od_mod (by decide))) pa) (des_cons (de_name 1) des_nil))) ?_
    have k4 : ¬ n % 7 = 4 := by omega
    have k5 : ¬ n % 7 = 5 := by omega
    rw [if_pos h3, spoilK, if_neg k4, if_neg k5]
    rfl
  refine dss_nil ?_
  show DSs _ _ _ _
  have h3 : ¬ n % 7 = 3 := of_decide_eq_false h3
  rw [if_neg h3]
  refine dss_if (dt_cmp (DE.dr (de_name 5)) (DE.dr de_int) (od_eqI C)) (fun h4 => ?_) (fun h4 => ?_)
  · have h4 : n % 7 = 4 := of_decide_eq_true h4
    have pa := pick_at (l := wr4 i j) (n := n) (k := 8) (by decide) rfl
    refine dss_set C 7 (d := pick (wr4 i j) n 8) (de_ixL (de_lst (des_cons (DX.frozen (dx_listT (ds := [.int i, .int j]) (de_name 1) b_list)) (des_cons (de_tup (des_cons (de_ixT (d := .int i) (de_name 1) de_int rfl) des_nil)) (des_cons (de_catT (ds := [.int i, .int j]) (de_name 1) (de_tup (des_cons de_int des_nil)) (by simp) (by simp) (by walk_at "sz")) (des_cons de_non (des_cons (de_tup (des_cons de_bl (des_cons (de_ixT (d := .int j) (de_name 1) de_int rfl) des_nil))) (des_cons (de_tup (des_cons (de_ixT (d := .int i) (de_name 1) de_int rfl) (des_cons de_non des_nil))) (des_cons de_int (des_cons de_str des_nil))))))))) (de_bin (DE.dr (de_bin (DE.dr (de_name 2)) (DE.dr de_int) (od_fdivS ⟨by decide, by decide⟩))) (DE.dr de_int) (od_mod (by decide))) pa) ?_
    refine dss_ret (de_tup (des_cons (de_name 0) (des_cons (de_name 7) des_nil))) ?_
    rw [if_pos h4, spoilK, if_pos h4]
    rfl
  refine dss_nil ?_
  show DSs _ _ _ _
  have h4 : ¬ n % 7 = 4 := of_decide_eq_false h4
  rw [if_neg h4]
  refine dss_if (dt_cmp (DE.dr (de_name 5)) (DE.dr de_int) (od_eqI C)) (fun h5 => ?_) (fun h5 => ?_)
  · have h5 : n % 7 = 5 := of_decide_eq_true h5
    have pa := pick_at (l := wr5 rs wd i j) (n := n) (k := 4) (by decide) rfl
    refine dss_set C 7 (d := pick (wr5 rs wd i j) n 4) (de_ixL (de_lst (des_cons (de_tup (des_cons (de_lit (-1) (de_bin (DE.dr de_int) (DE.dr de_int) od_sub) (by decide +kernel)) (des_cons (de_ixT (d := .int j) (de_name 1) de_int rfl) des_nil))) (des_cons (de_tup (des_cons (de_ixT (d := .int i) (de_name 1) de_int rfl) (des_cons (de_lit (-1) (de_bin (DE.dr de_int) (DE.dr de_int) od_sub) (by decide +kernel)) des_nil))) (des_cons (de_tup (des_cons (de_lit (rs.length : Nat) (de_callB cd_lenL b_len (drs_cons (DE.dr (de_name 0)) drs_nil)) (by rw [lrs])) (des_cons (de_ixT (d := .int j) (de_name 1) de_int rfl) des_nil))) (des_cons (de_tup (des_cons (de_ixT (d := .int i) (de_name 1) de_int rfl) (des_cons (de_lit (wd : Nat) (de_callB cd_lenL b_len (drs_cons (DE.dr (de_name 4)) drs_nil)) (by rw [lrd])) des_nil))) des_nil))))) (de_bin (DE.dr (de_bin (DE.dr (de_name 2)) (DE.dr de_int) (od_fdivS ⟨by decide, by decide⟩))) (DE.dr de_int) (od_mod (by decide))) pa) ?_
    refine dss_ret (de_tup (des_cons (de_name 0) (des_cons (de_name 7) des_nil))) ?_
    rw [if_pos h5, spoilK, if_neg h4, if_pos h5]
    rfl
  refine dss_nil ?_
  show DSs _ _ _ _
  have h5 : ¬ n % 7 = 5 := of_decide_eq_false h5
  rw [if_neg h5, spoilK, if_neg h4, if_neg h5]
  refine dss_setLc C 8 (dlc_Rows1 C 9 (di_list (de_name 0)) (blkOk_by (N := n_spoilt) (sc := defScope (topS 24)) (by decide +kernel)) (fun n => (rs.getD n []).map fun g => (enc g : D)) (lt_line (by rw [lrs]; omega)) (fun jj n hn => by
    have hn' : n < rs.length := by rw [lrs] at hn; exact hn
    rw [map_atD rowE [] hn']
    exact dx_listF (de_name 9) b_list)) ?_
  rw [lrs, range_map (fun r : List Gd => r.map fun g => (enc g : D)) [] rs, show (rs.map fun r : List Gd => r.map fun g => (enc g : D)) = rowsD rs from rfl]
  have hi : i.toNat < rs.length := by omega
  have ri : (rs.getD i.toNat []).length = wd := wl _ (getD_mem hi)
  have hr : (rowsD rs)[i.toNat]? = some ((rs.getD i.toNat []).map fun g => (enc g : D)) := by
    rw [rowsD, List.getElem?_map, List.getElem?_eq_getElem hi, List.getD_eq_getElem?_getD, List.getElem?_eq_getElem hi]
    rfl
  refine dss_cell 8 de_non (de_ixT (d := .int i) (de_name 1) de_int rfl) (de_ixT (d := .int j) (de_name 1) de_int rfl) (ixN_nn i0 (by rw [rowsD, List.length_map]; exact i1)) hr (ixN_nn j0 (by rw [List.length_map, ri]; exact j1)) ?_
  have er : (rowsD rs).set i.toNat (((rs.getD i.toNat []).map fun g => (enc g : D)).set j.toNat .none) = rowsD (rs.set i.toNat ((rs.getD i.toNat []).set j.toNat .wall)) := by
    rw [rowsD, rowsD, List.map_set, List.map_set]
    rfl
  rw [er]
  refine dss_freezeK 8 frz_rows ?_
  rw [rowsD_enc]
  refine dss_ret (de_tup (des_cons (de_name 8) (des_cons (de_name 1) des_nil))) ?_
  rfl
end
theorem grd_ok {g : Gd} (h : gok g) : groundD (enc g) = true := by
  cases g with
  | wall => rfl
  | gr k z => exact decide_eq_true h
theorem okg_enc (g : Gd) : okg (enc g) = true := by cases g <;> rfl
theorem okd_enc (g : Gd) : okd 2 (enc g) = true := by cases g <;> rfl
theorem rowD_enc (g : Gd) : rowD (enc g) = false := by cases g <;> rfl
structure RowOk (d : D) (wd : Nat) : Prop where
  r : rowD d = true
  l : lenD d = wd
  o : okr d = true
  q : okd 3 d = true
  n : nodict d = true
theorem rowE_ok {r : List Gd} {wd : Nat} (hl : r.length = wd) (h0 : 0 < wd) (h1 : wd ≤ 3000) (h : ∀ g ∈ r, gok g) : RowOk (rowE r) wd := by
  have lm : (r.map fun g => (enc g : D)).length = wd := by rw [List.length_map, hl]
  have all : ∀ (p : D → Bool), (∀ g ∈ r, p (enc g) = true) → (r.map fun g => (enc g : D)).all p = true := fun p hp => by
    rw [List.all_map]
    exact List.all_eq_true.mpr fun g hg => hp g hg
  have ne : (r.map fun g => (enc g : D)).isEmpty = false := by
    cases r with
    | nil => simp at hl; omega
    | cons _ _ => rfl
  refine ⟨?_, lm, ?_, ?_, rfl⟩
  · show (!(r.map fun g => (enc g : D)).isEmpty && (r.map fun g => (enc g : D)).all groundD) = true
    rw [ne, all _ fun g hg => grd_ok (h g hg)]
    rfl
  · show ((r.map fun g => (enc g : D)).all okg && decide ((r.map fun g => (enc g : D)).length ≤ 3000)) = true
    rw [all _ fun g _ => okg_enc g, lm, decide_eq_true (show wd ≤ 3000 by omega)]
    rfl
  · exact all _ fun g _ => okd_enc g
theorem rowsB_no1 {ds : List D} {r : D} (h : r ∈ ds) (hr : rowD r = false) : rowsB (.list ds) = false := by
  have : ds.all rowD = false := by
    cases q : ds.all rowD with
    | false => rfl
    | true => rw [List.all_eq_true.mp q r h] at hr; cases hr
  show (!ds.isEmpty && ds.all rowD && _) = false
  rw [this]
  simp
theorem rowsB_no2 {ds : List D} {r : D} (h : r ∈ ds) (hr : lenD r ≠ lenD (ds.headD .none)) : rowsB (.list ds) = false := by
  have : (ds.all fun r => lenD r == lenD (ds.headD .none)) = false := by
    cases q : ds.all (fun r => lenD r == lenD (ds.headD .none)) with
    | false => rfl
    | true => exact absurd (beq_iff_eq.mp (List.all_eq_true.mp q r h)) hr
  show (!ds.isEmpty && ds.all rowD && ds.all fun r => lenD r == lenD (ds.headD .none)) = false
  rw [this]
  simp
theorem rowsB_yes {ds : List D} {wd : Nat} (h0 : 0 < ds.length) (h : ∀ r ∈ ds, RowOk r wd) : rowsB (.list ds) = true := by
  have ne : ds.isEmpty = false := by cases ds with | nil => simp at h0 | cons _ _ => rfl
  have hh : lenD (ds.headD .none) = wd := by
    cases ds with
    | nil => simp at h0
    | cons d _ => exact (h d List.mem_cons_self).l
  show (!ds.isEmpty && ds.all rowD && ds.all fun r => lenD r == lenD (ds.headD .none)) = true
  rw [ne, List.all_eq_true.mpr fun r hr => (h r hr).r, hh, List.all_eq_true.mpr fun r hr => beq_iff_eq.mpr (h r hr).l]
  rfl
theorem okrs_of {ds : List D} (hl : ds.length ≤ 3000) (h : ∀ r ∈ ds, okr r = true) : okrs (.list ds) = true := by
  show (ds.all okr && decide (ds.length ≤ 3000)) = true
  rw [List.all_eq_true.mpr h, decide_eq_true hl]
  rfl
theorem okk_of : ∀ {d : D}, okrs d = true → okk d = true
  | .list ds, h => by
    have q : (ds.all okr && decide (ds.length ≤ 3000)) = true := h
    simp only [Bool.and_eq_true] at q
    show (ds.all nodict && decide (ds.length ≤ 3000)) = true
    rw [List.all_eq_true.mpr fun r hr => okr_nd (List.all_eq_true.mp q.1 r hr), q.2]
    rfl
  | .none, h => h
  | .bool _, h => h
  | .int _, h => h
  | .str _, h => h
  | .tuple _, h => h
  | .dict _, h => h
structure Spo (R Kd : D) : Prop where
  bad : floorV R Kd = .bad
  rs : okrs R = true
  dk : okdk Kd = true
  eq : okd 4 R = true
section
variable {rs : List (List Gd)} {wd : Nat} {i j : Int}
theorem G3.rows (g : G3 rs wd i j) : ∀ r ∈ rs.map rowE, RowOk r wd := fun d hd => by
  obtain ⟨r, hr, rfl⟩ := List.mem_map.mp hd
  exact rowE_ok (g.wl r hr) g.w0 (by have := g.w1; omega) (g.ok r hr)
theorem dk_ok (i j : Int) : okdk (.tuple [.int i, .int j]) = true := rfl
theorem mem_repl {l : List D} {k : Nat} {d e : D} (h : k < l.length) (he : e ∈ repl l k d) : e ∈ l ∨ e = d := by
  rw [repl_eq h] at he
  exact List.mem_or_eq_of_mem_set he
theorem in_repl {l : List D} {k : Nat} {d : D} : d ∈ repl l k d := List.mem_append_left _ (List.mem_append_right _ (List.mem_singleton.mpr rfl))
theorem len_repl {l : List D} {k : Nat} {d : D} (h : k < l.length) : (repl l k d).length = l.length := by rw [repl_eq h, List.length_set]
theorem spo_one (g : G3 rs wd i j) {k : Nat} (hk : k < rs.length) {d : D} (h1 : rowD d = false) (h2 : okr d = true) (h3 : okd 3 d = true) : Spo (.list (repl (rs.map rowE) k d)) (.tuple [.int i, .int j]) := by
  have hk' : k < (rs.map rowE).length := by rw [List.length_map]; exact hk
  refine ⟨floorV_bad (.inl (rowsB_no1 in_repl h1)), okrs_of (by rw [len_repl hk', List.length_map]; have := g.r1; omega) fun r hr => ?_, dk_ok i j, List.all_eq_true.mpr fun r hr => ?_⟩
  · rcases mem_repl hk' hr with z | z
    · exact (g.rows r z).o
    · rw [z]; exact h2
  · rcases mem_repl hk' hr with z | z
    · exact (g.rows r z).q
    · rw [z]; exact h3
theorem inDock_no1 {ds : List D} {wd : Nat} (hl : lenD (ds.headD .none) = wd) (h : ¬ ((0 ≤ i ∧ i < (ds.length : Int)) ∧ (0 ≤ j ∧ j < (wd : Int)))) : inDock ds i j = false := by
  unfold inDock
  rw [hl]
  cases q : ((decide (0 ≤ i) && decide (i < (ds.length : Int))) && (decide (0 ≤ j) && decide (j < (wd : Int)))) with
  | false => rfl
  | true => exact absurd (by simpa using q) h
theorem floorV_no {ds : List D} (h : inDock ds i j = false) : floorV (.list ds) (.tuple [.int i, .int j]) = .bad := by
  show (if rowsB (.list ds) = true ∧ inDock ds i j = true then _ else _) = _
  rw [if_neg fun z => by rw [h] at z; cases z.2]
theorem G3.head (g : G3 rs wd i j) : lenD ((rs.map rowE).headD .none) = wd := by
  have h0 := g.r0
  cases rs with
  | nil => simp at h0
  | cons r rs => exact (g.rows _ List.mem_cons_self).l
theorem okrs_enc (g : G3 rs wd i j) : okrs (.list (rs.map rowE)) = true := okrs_of (by rw [List.length_map]; have := g.r1; omega) fun r hr => (g.rows r hr).o
theorem okd_rows (g : G3 rs wd i j) : okd 4 (.list (rs.map rowE)) = true := List.all_eq_true.mpr fun r hr => (g.rows r hr).q
theorem cell_at2 {rs : List (List Gd)} {i j : Nat} (hi : i < rs.length) (hj : j < (rs.getD i []).length) : (itemsD ((rs.map rowE).getD i .none)).getD j .none = enc ((rs.getD i []).getD j .wall) := by
  have e1 : (rs.map rowE).getD i .none = rowE (rs.getD i []) := by
    rw [List.getD_eq_getElem?_getD, List.getElem?_map, List.getD_eq_getElem?_getD, List.getElem?_eq_getElem hi]
    rfl
  rw [e1]
  clear e1
  generalize rs.getD i [] = r at hj
  show (r.map fun g => (enc g : D)).getD j .none = _
  rw [List.getD_eq_getElem?_getD, List.getElem?_map, List.getD_eq_getElem?_getD, List.getElem?_eq_getElem hj]
  rfl
theorem floor_made (g : G3 rs wd i j) : floorV (.list (rs.map rowE)) (.tuple [.int i, .int j]) = .made := by
  have hi : i.toNat < rs.length := by have := g.i0; have := g.i1; omega
  have hj : j.toNat < (rs.getD i.toNat []).length := by rw [g.wl _ (getD_mem hi)]; have := g.j0; have := g.j1; omega
  have hin : inDock (rs.map rowE) i j = true := by
    unfold inDock
    rw [g.head, List.length_map, cell_at2 hi hj, decide_eq_true g.i0, decide_eq_true g.i1, decide_eq_true g.j0, decide_eq_true g.j1]
    have := g.dk
    cases h : (rs.getD i.toNat []).getD j.toNat .wall with
    | wall => exact absurd h this
    | gr _ _ => rfl
  show (if rowsB (.list (rs.map rowE)) = true ∧ inDock (rs.map rowE) i j = true then _ else _) = _
  rw [if_pos ⟨rowsB_yes (by rw [List.length_map]; exact g.r0) g.rows, hin⟩, g.head, List.length_map]
  have := Nat.mul_le_mul g.r1 g.w1
  rw [if_neg (by omega)]
theorem spoilt_ok (g : G3 rs wd i j) (n : Int) : Spo (spoilR rs i j n) (spoilK rs wd i j n) := by
  have r0 := g.r0
  have hat : atOf rs n < rs.length := by
    have := Int.emod_lt_of_pos (n / 7) (show (0 : Int) < (rs.length : Nat) by omega)
    have := Int.emod_nonneg (n / 7) (show ((rs.length : Nat) : Int) ≠ 0 by omega)
    unfold atOf
    omega
  have hrow : rowOf rs n ∈ rs := getD_mem hat
  have lrow := g.wl _ hrow
  have w0 := g.w0
  have w1 := g.w1
  have r1 := g.r1
  have dk0 := dk_ok i j
  have dki : ∀ a b : Int, okdk (.tuple [.int a, .int b]) = true := fun _ _ => rfl
  unfold spoilR spoilK
  by_cases h1 : n % 7 < 2
  · rw [if_pos h1, if_neg (by omega), if_neg (by omega), lrow]
    have hk : (n / 49 % (wd : Nat)).toNat < ((rowOf rs n).map fun g => (enc g : D)).length := by
      rw [List.length_map, lrow]
      have := Int.emod_lt_of_pos (n / 49) (show (0 : Int) < (wd : Nat) by omega)
      have := Int.emod_nonneg (n / 49) (show ((wd : Nat) : Int) ≠ 0 by omega)
      omega
    have ng := nog_ok (n / 343)
    have R := rowE_ok lrow w0 (by omega) (g.ok _ hrow)
    have oo : ((rowOf rs n).map fun g => (enc g : D)).all okg = true := by rw [List.all_map]; exact List.all_eq_true.mpr fun g _ => okg_enc g
    refine spo_one g hat ?_ ?_ ?_
    · show (!(repl _ _ _).isEmpty && (repl _ _ _).all groundD) = false
      have : (repl ((rowOf rs n).map fun g => (enc g : D)) (n / 49 % (wd : Nat)).toNat (noG (n / 343))).all groundD = false := by
        cases q : (repl ((rowOf rs n).map fun g => (enc g : D)) (n / 49 % (wd : Nat)).toNat (noG (n / 343))).all groundD with
        | false => rfl
        | true => have z := List.all_eq_true.mp q _ in_repl; rw [ng.no] at z; cases z
      rw [this, Bool.and_false]
    · show ((repl _ _ _).all okg && decide ((repl _ _ _).length ≤ 3000)) = true
      rw [len_repl hk, List.length_map, lrow, decide_eq_true (show wd ≤ 3000 by omega), Bool.and_true]
      refine List.all_eq_true.mpr fun e he => ?_
      rcases mem_repl hk he with z | z
      · exact List.all_eq_true.mp oo e z
      · rw [z]; exact ng.ok
    · refine List.all_eq_true.mpr fun e he => ?_
      rcases mem_repl hk he with z | z
      · obtain ⟨x, _, rfl⟩ := List.mem_map.mp z
        exact okd_enc x
      · rw [z]; exact ng.eq
  rw [if_neg h1]
  by_cases h2 : n % 7 = 2
  · rw [if_pos h2, if_neg (by omega), if_neg (by omega)]
    have pm := pick_mem (l := wr2 ((rowOf rs n).map fun g => enc g)) (n := n) (k := 6) (by decide) rfl
    generalize pick (wr2 ((rowOf rs n).map fun g => enc g)) n 6 = w at pm
    have R := rowE_ok lrow w0 (by omega) (g.ok _ hrow)
    have canr : (rowE (rowOf rs n)).canLay0 = true ∧ (rowE (rowOf rs n)).depth ≤ 2 := En.shp (rowOf rs n)
    have oo : ((rowOf rs n).map fun g => (enc g : D)).all okg = true := by rw [List.all_map]; exact List.all_eq_true.mpr fun g _ => okg_enc g
    have od : ((rowOf rs n).map fun g => (enc g : D)).all (okd 2) = true := by rw [List.all_map]; exact List.all_eq_true.mpr fun g _ => okd_enc g
    have lr : ((rowOf rs n).map fun g => (enc g : D)).length = wd := by rw [List.length_map, lrow]
    have okd3t : ∀ ds : List D, (PyData.list ds).canLay0 = true → (PyData.list ds).depth ≤ 50 → okd 3 (.tuple ds) = true := fun ds a b => by
      have e1 : (PyData.tuple ds).canLay0 = (PyData.list ds).canLay0 := by simp only [PyData.canLay0]
      have e2 : (PyData.tuple ds).depth = (PyData.list ds).depth := by simp only [PyData.depth]
      show ((PyData.tuple ds).canLay0 && decide ((PyData.tuple ds).depth ≤ 60)) = true
      rw [e1, e2, a, decide_eq_true (show (PyData.list ds).depth ≤ 60 by omega)]
      rfl
    have more : ∀ x : D, okg x = true → okd 2 x = true → Shp 1 x → Spo (.list (repl (rs.map rowE) (atOf rs n) (tupIf (decide (((rs.length : Nat) : Int) = 1)) (.list (((rowOf rs n).map fun g => enc g) ++ [x]))))) (.tuple [.int i, .int j]) := fun x hx hx2 hs => by
      have sh : Shp 2 (PyData.list (((rowOf rs n).map fun g => (enc g : D)) ++ [x])) := Shp.list (ShpA.of fun a ha => by
        rcases List.mem_append.mp ha with z | z
        · obtain ⟨y, _, rfl⟩ := List.mem_map.mp z
          exact En.shp y
        · rw [List.mem_singleton.mp z]; exact hs)
      by_cases hl : rs.length = 1
      · have : tupIf (decide (((rs.length : Nat) : Int) = 1)) (.list (((rowOf rs n).map fun g => enc g) ++ [x])) = .tuple (((rowOf rs n).map fun g => enc g) ++ [x]) := by
          rw [tupIf, hl]
          rfl
        rw [this]
        exact spo_one g hat rfl rfl (okd3t _ sh.1 (Nat.le_trans sh.2 (by decide)))
      · have : tupIf (decide (((rs.length : Nat) : Int) = 1)) (.list (((rowOf rs n).map fun g => enc g) ++ [x])) = .list (((rowOf rs n).map fun g => enc g) ++ [x]) := by
          rw [tupIf, decide_eq_false (by omega)]
          rfl
        rw [this]
        have hk' : atOf rs n < (rs.map rowE).length := by rw [List.length_map]; exact hat
        have bl : (((rowOf rs n).map fun g => (enc g : D)) ++ [x]).length = wd + 1 := by rw [List.length_append, lr]; rfl
        refine ⟨floorV_bad (.inl ?_), okrs_of (by rw [len_repl hk', List.length_map]; omega) fun r hr => ?_, dk0, List.all_eq_true.mpr fun r hr => ?_⟩
        · by_cases h0 : atOf rs n = 0
          · -- the first row is the long one: the second has another length
            refine rowsB_no2 (r := (rs.map rowE).getD 1 .none) ?_ ?_
            · rw [h0, repl]
              refine List.mem_append_right _ ?_
              rw [List.getD_eq_getElem?_getD, List.getElem?_eq_getElem (by rw [List.length_map]; omega)]
              exact List.mem_drop_iff_getElem.mpr ⟨0, by rw [List.length_map]; omega, rfl⟩
            · rw [h0]
              have e : lenD ((repl (rs.map rowE) 0 (.list (((rowOf rs n).map fun g => enc g) ++ [x]))).headD .none) = wd + 1 := by
                rw [repl]
                exact bl
              rw [e, (g.rows _ (getD_mem (by rw [List.length_map]; omega))).l]
              omega
          · refine rowsB_no2 in_repl ?_
            have e : lenD ((repl (rs.map rowE) (atOf rs n) (.list (((rowOf rs n).map fun g => enc g) ++ [x]))).headD .none) = wd := by
              rw [repl_eq hk']
              cases q : rs.map rowE with
              | nil => rw [q] at hk'; simp at hk'
              | cons a l =>
                cases hz : atOf rs n with
                | zero => exact absurd hz h0
                | succ m => exact (g.rows a (by rw [q]; exact List.mem_cons_self)).l
            rw [e]
            show (((rowOf rs n).map fun g => (enc g : D)) ++ [x]).length ≠ wd
            omega
        · rcases mem_repl hk' hr with z | z
          · exact (g.rows r z).o
          · rw [z]
            show ((((rowOf rs n).map fun g => (enc g : D)) ++ [x]).all okg && decide ((((rowOf rs n).map fun g => (enc g : D)) ++ [x]).length ≤ 3000)) = true
            rw [List.all_append, oo, bl, decide_eq_true (show wd + 1 ≤ 3000 by omega)]
            simp [hx]
        · rcases mem_repl hk' hr with z | z
          · exact (g.rows r z).q
          · rw [z]
            show (((rowOf rs n).map fun g => (enc g : D)) ++ [x]).all (okd 2) = true
            rw [List.all_append, od]
            simp [hx2]
    have other : ∀ (b : Bool) (w : D), isiB (tyN w) "list" = false → rowD w = false → okr w = true → okd 3 w = true → Spo (.list (repl (rs.map rowE) (atOf rs n) (tupIf b w))) (.tuple [.int i, .int j]) := fun b w a1 a2 a3 a4 => by
      have : tupIf b w = w := by rw [tupIf, a1, Bool.and_false]; rfl
      rw [this]
      exact spo_one g hat a2 a3 a4
    unfold wr2 at pm
    simp only [List.mem_cons, List.not_mem_nil, or_false] at pm
    rcases pm with h | h | h | h | h | h <;> subst h
    · exact more _ rfl rfl (Shp.none _)
    · exact more _ rfl rfl (Shp.tuple (ShpA.cons (Shp.int _ _) (ShpA.cons (Shp.int _ _) (ShpA.nil _))))
    · exact other _ _ rfl rfl rfl (okd3t _ canr.1 (Nat.le_trans canr.2 (by decide)))
    · exact other _ _ rfl rfl rfl rfl
    · exact other _ _ rfl rfl rfl rfl
    · exact other _ _ rfl rfl rfl (by decide +kernel)
  rw [if_neg h2]
  by_cases h3 : n % 7 = 3
  · rw [if_pos h3, if_neg (by omega), if_neg (by omega)]
    have pm := pick_mem (l := wr3 rs) (n := n) (k := 8) (by decide) rfl
    generalize pick (wr3 rs) n 8 = w at pm
    have canrs : (enc rs : D).canLay0 = true ∧ (enc rs : D).depth ≤ 3 := En.shp rs
    have g0 : rs.getD 0 [] ∈ rs := getD_mem r0
    have R0 := rowE_ok (g.wl _ g0) w0 (by omega) (g.ok _ g0)
    unfold wr3 at pm
    simp only [List.mem_cons, List.not_mem_nil, or_false] at pm
    rcases pm with h | h | h | h | h | h | h | h <;> subst h
    · exact ⟨rfl, rfl, dk0, rfl⟩
    · exact ⟨rfl, rfl, dk0, rfl⟩
    · refine ⟨rfl, rfl, dk0, ?_⟩
      have e1 : (PyData.tuple (rs.map rowE)).canLay0 = (PyData.list (rs.map rowE)).canLay0 := by simp only [PyData.canLay0]
      have e2 : (PyData.tuple (rs.map rowE)).depth = (PyData.list (rs.map rowE)).depth := by simp only [PyData.depth]
      show ((PyData.tuple (rs.map rowE)).canLay0 && decide ((PyData.tuple (rs.map rowE)).depth ≤ 60)) = true
      rw [e1, e2]
      have q1 : (PyData.list (rs.map rowE)).canLay0 = true := canrs.1
      have q2 : (PyData.list (rs.map rowE)).depth ≤ 3 := canrs.2
      rw [q1, decide_eq_true (show (PyData.list (rs.map rowE)).depth ≤ 60 by omega)]
      rfl
    · exact ⟨rfl, rfl, dk0, rfl⟩
    · exact ⟨rfl, rfl, dk0, rfl⟩
    · exact ⟨rfl, rfl, dk0, rfl⟩
    · have l0 : (rs.getD 0 []).length = wd := g.wl _ g0
      cases hr : rs.getD 0 [] with
      | nil => rw [hr] at l0; simp at l0; omega
      | cons x xs =>
        rw [hr] at R0 l0
        refine ⟨floorV_bad (.inl (rowsB_no1 (r := enc x) List.mem_cons_self (rowD_enc x))), okrs_of (by show ((x :: xs).map _).length ≤ 3000; rw [List.length_map, l0]; omega) fun r hr => ?_, dk0, List.all_eq_true.mpr fun r hr => ?_⟩
        · obtain ⟨y, _, rfl⟩ := List.mem_map.mp hr
          cases y <;> rfl
        · obtain ⟨y, _, rfl⟩ := List.mem_map.mp hr
          cases y <;> rfl
    · exact ⟨rfl, rfl, dk0, by decide +kernel⟩
  rw [if_neg h3]
  by_cases h4 : n % 7 = 4
  · rw [if_pos h4, if_pos h4]
    have pm := pick_mem (l := wr4 i j) (n := n) (k := 8) (by decide) rfl
    generalize pick (wr4 i j) n 8 = w at pm
    have q1 := okrs_enc g
    have q2 := okd_rows g
    unfold wr4 at pm
    simp only [List.mem_cons, List.not_mem_nil, or_false] at pm
    rcases pm with h | h | h | h | h | h | h | h <;> subst h <;> exact ⟨floorV_bad (.inr rfl), q1, rfl, q2⟩
  rw [if_neg h4, if_neg h4]
  by_cases h5 : n % 7 = 5
  · rw [if_pos h5, if_pos h5]
    have pm := pick_mem (l := wr5 rs wd i j) (n := n) (k := 4) (by decide) rfl
    generalize pick (wr5 rs wd i j) n 4 = w at pm
    have q1 := okrs_enc g
    have q2 := okd_rows g
    have hd := g.head
    have lm : (rs.map rowE).length = rs.length := List.length_map ..
    unfold wr5 at pm
    simp only [List.mem_cons, List.not_mem_nil, or_false] at pm
    rcases pm with h | h | h | h <;> subst h <;> exact (show Spo (.list (rs.map rowE)) _ from ⟨floorV_no (inDock_no1 hd (by rw [lm]; omega)), q1, rfl, q2⟩)
  rw [if_neg h5, if_neg h5]
  have hi : i.toNat < rs.length := by have := g.i0; have := g.i1; omega
  have lri := g.wl _ (getD_mem (d := []) hi)
  have hj : j.toNat < (rs.getD i.toNat []).length := by rw [lri]; have := g.j0; have := g.j1; omega
  have rw' : ∀ r ∈ rs.set i.toNat ((rs.getD i.toNat []).set j.toNat .wall), r.length = wd ∧ ∀ x ∈ r, gok x := fun r hr => by
    rcases List.mem_or_eq_of_mem_set hr with z | z
    · exact ⟨g.wl r z, g.ok r z⟩
    · rw [z]
      refine ⟨by rw [List.length_set]; exact lri, fun x hx => ?_⟩
      rcases List.mem_or_eq_of_mem_set hx with y | y
      · exact g.ok _ (getD_mem (d := []) hi) x y
      · rw [y]; trivial
  have RR : ∀ d ∈ (rs.set i.toNat ((rs.getD i.toNat []).set j.toNat .wall)).map rowE, RowOk d wd := fun d hd => by
    obtain ⟨r, hr, rfl⟩ := List.mem_map.mp hd
    exact rowE_ok (rw' r hr).1 w0 (by omega) (rw' r hr).2
  have ls : (rs.set i.toNat ((rs.getD i.toNat []).set j.toNat .wall)).length = rs.length := List.length_set ..
  refine ⟨floorV_no ?_, okrs_of (by rw [List.length_map, ls]; omega) fun r hr => (RR r hr).o, dk0, List.all_eq_true.mpr fun r hr => (RR r hr).q⟩
  show inDock ((rs.set i.toNat ((rs.getD i.toNat []).set j.toNat .wall)).map rowE) i j = false
  unfold inDock
  have gg : (rs.set i.toNat ((rs.getD i.toNat []).set j.toNat .wall)).getD i.toNat [] = (rs.getD i.toNat []).set j.toNat .wall := by
    rw [List.getD_eq_getElem?_getD, List.getElem?_set_self hi]
    rfl
  have cc := cell_at2 (rs := rs.set i.toNat ((rs.getD i.toNat []).set j.toNat .wall)) (i := i.toNat) (j := j.toNat) (by rw [ls]; exact hi) (by rw [gg, List.length_set]; exact hj)
  have ww : ((rs.getD i.toNat []).set j.toNat Gd.wall).getD j.toNat .wall = .wall := by
    rw [List.getD_eq_getElem?_getD, List.getElem?_set_self hj]
    rfl
  rw [gg, ww] at cc
  rw [cc]
  exact Bool.and_false _
end
def grt (a b : Nat) : List (List Gd) := List.replicate a (List.replicate b (.gr 1 0))
def grtX (a b : Nat) (n : Int) : List (List D) := (rowsD (grt a b)).set (a - 1) (((List.replicate b (Gd.gr 1 0)).map fun g => (enc g : D)).set (b - 1) (noG n))
theorem grt_rows {a b : Nat} (hb : 0 < b) (hb2 : b ≤ 3000) : ∀ r ∈ (grt a b).map rowE, RowOk r b := fun d hd => by
  obtain ⟨r, hr, rfl⟩ := List.mem_map.mp hd
  have er : r = List.replicate b (.gr 1 0) := List.eq_of_mem_replicate hr
  subst er
  exact rowE_ok (by simp) hb hb2 fun g hg => by rw [List.eq_of_mem_replicate hg]; exact Int.le_refl 1
theorem grt_V {a b : Nat} (ha : 0 < a) (ha2 : a ≤ 3000) (hb : 0 < b) (hb2 : b ≤ 3000) : floorV (enc (grt a b)) (.tuple [.int 0, .int 0]) = if 2500 < a * b then .many else .made := by
  have R := grt_rows (a := a) hb hb2
  have hl : ((grt a b).map rowE).length = a := by simp [grt]
  have hh : lenD (((grt a b).map rowE).headD .none) = b := by
    have : ((grt a b).map rowE).headD .none ∈ (grt a b).map rowE := by
      cases q : (grt a b).map rowE with
      | nil => rw [q] at hl; simp at hl; omega
      | cons x xs => exact List.mem_cons_self
    exact (R _ this).l
  have hg : 0 < (grt a b).length := by simp [grt]; exact ha
  have g0 : (grt a b).getD 0 [] = List.replicate b (.gr 1 0) := List.eq_of_mem_replicate (getD_mem (d := []) hg)
  have cc := cell_at2 (rs := grt a b) (i := 0) (j := 0) hg (by rw [g0]; simp; exact hb)
  rw [g0] at cc
  have w0 : (List.replicate b (Gd.gr 1 0)).getD 0 .wall = .gr 1 0 := List.eq_of_mem_replicate (getD_mem (d := Gd.wall) (by rw [List.length_replicate]; exact hb))
  rw [w0] at cc
  have hin : inDock ((grt a b).map rowE) 0 0 = true := by
    show (decide ((0 : Int) ≤ 0) && decide ((0 : Int) < (((grt a b).map rowE).length : Int)) && (decide ((0 : Int) ≤ 0) && decide ((0 : Int) < ((lenD (((grt a b).map rowE).headD .none) : Nat) : Int))) && !isN ((itemsD (((grt a b).map rowE).getD 0 .none)).getD 0 .none)) = true
    rw [cc, hl, hh, decide_eq_true (show (0 : Int) < (a : Int) by omega), decide_eq_true (show (0 : Int) < (b : Int) by omega)]
    rfl
  show (if rowsB (.list ((grt a b).map rowE)) = true ∧ inDock ((grt a b).map rowE) 0 0 = true then (if 2500 < ((grt a b).map rowE).length * lenD (((grt a b).map rowE).headD .none) then Vd.many else Vd.made) else _) = _
  rw [if_pos ⟨rowsB_yes (by rw [hl]; exact ha) R, hin⟩, hh, hl]
theorem grt_ok {a b : Nat} (ha2 : a ≤ 3000) (hb : 0 < b) (hb2 : b ≤ 3000) : okrs (enc (grt a b)) = true := okrs_of (ds := (grt a b).map rowE) (by simp [grt]; exact ha2) fun r hr => (grt_rows hb hb2 r hr).o
theorem grtX_list (a b : Nat) (n : Int) : (grtX a b n).map PyData.list = ((grt a b).map rowE).set (a - 1) (.list (((List.replicate b (Gd.gr 1 0)).map fun g => (enc g : D)).set (b - 1) (noG n))) := by
  unfold grtX rowsD
  rw [List.map_set, List.map_map]
  rfl
theorem grtX_V {a b : Nat} (ha : 0 < a) (hb : 0 < b) (n : Int) : floorV (.list ((grtX a b n).map .list)) (.tuple [.int 0, .int 0]) = .bad := by
  refine floorV_bad (.inl ?_)
  rw [grtX_list]
  have lg : ((grt a b).map rowE).length = a := by simp [grt]
  have lr : ((List.replicate b (Gd.gr 1 0)).map fun g => (enc g : D)).length = b := by simp
  refine rowsB_no1 (r := .list (((List.replicate b (Gd.gr 1 0)).map fun g => (enc g : D)).set (b - 1) (noG n))) (List.mem_iff_getElem.mpr ⟨a - 1, by rw [List.length_set, lg]; omega, by rw [List.getElem_set_self]⟩) ?_
  have ng := (nog_ok n).no
  have mm : noG n ∈ ((List.replicate b (Gd.gr 1 0)).map fun g => (enc g : D)).set (b - 1) (noG n) := List.mem_iff_getElem.mpr ⟨b - 1, by rw [List.length_set, lr]; omega, by rw [List.getElem_set_self]⟩
  show (!(((List.replicate b (Gd.gr 1 0)).map fun g => (enc g : D)).set (b - 1) (noG n)).isEmpty && (((List.replicate b (Gd.gr 1 0)).map fun g => (enc g : D)).set (b - 1) (noG n)).all groundD) = false
  have : (((List.replicate b (Gd.gr 1 0)).map fun g => (enc g : D)).set (b - 1) (noG n)).all groundD = false := by
    cases q : (((List.replicate b (Gd.gr 1 0)).map fun g => (enc g : D)).set (b - 1) (noG n)).all groundD with
    | false => rfl
    | true => have z := List.all_eq_true.mp q _ mm; rw [ng] at z; cases z
  rw [this, Bool.and_false]
theorem grtX_ok {a b : Nat} (ha2 : a ≤ 3000) (hb : 0 < b) (hb2 : b ≤ 3000) (n : Int) : okrs (.list ((grtX a b n).map .list)) = true := by
  have lg : ((grt a b).map rowE).length = a := by simp [grt]
  have lr : ((List.replicate b (Gd.gr 1 0)).map fun g => (enc g : D)).length = b := by simp
  rw [grtX_list]
  refine okrs_of (by rw [List.length_set, lg]; exact ha2) fun r hr => ?_
  rcases List.mem_or_eq_of_mem_set hr with z | z
  · exact (grt_rows hb hb2 r z).o
  · rw [z]
    show (_ && decide _) = true
    rw [List.length_set, lr, decide_eq_true hb2, Bool.and_true]
    refine List.all_eq_true.mpr fun e he => ?_
    rcases List.mem_or_eq_of_mem_set he with y | y
    · obtain ⟨x, _, rfl⟩ := List.mem_map.mp y
      exact okg_enc x
    · rw [y]; exact (nog_ok n).ok
theorem word_ok (v : Vd) : PyData.strOk (wordV v) = true := by cases v <;> decide +kernel
theorem ixN_last {n : Nat} (h : 0 < n) : ixN n (-1) = some (n - 1) := by
  unfold ixN
  rw [if_neg (by decide), if_pos (by omega)]
  congr 1
  omega
def dims (k : Nat) : Nat × Nat := [(50, 50), (1, 2500), (2500, 1), (25, 100), (2501, 1), (1, 2501), (51, 50), (2, 1251)].getD k (1, 1)
theorem dims_ok : ∀ k, k < 8 → 0 < (dims k).1 ∧ (dims k).1 ≤ 3000 ∧ 0 < (dims k).2 ∧ (dims k).2 ≤ 3000 ∧ (2500 < (dims k).1 * (dims k).2 ↔ 4 ≤ k) := by decide
section
variable {c : Cl} {P : Program} {w : World} {K : PySem.W.Frag} {mg : Str → Option Value} {base : Heap}
abbrev n_law : List Str := ["_law_script", "_law_many", "_law_wide", "_law_rows_here", "_law_dock", "_law_wrong", "_law_spot", "_law_handed", "_law_k", "_law_cell", "_law_size", "_law_great", "_law_r", "_law_due"]
theorem sc_law : FnScope n_law ["_law_script"] (defScope (topS 26)) := ⟨rfl, rfl, rfl, by decide +kernel, rfl, by decide +kernel, by decide +kernel⟩
theorem fn_law {f : Addr} {fd : FuncData} (F : Fun K "law" "law" (topS 26) f fd) (F__law_cell_at : DefOk (c := c) P w K mg base "_law_cell_at" 1 R_cell_at) (F_lrows : DefOk (c := c) P w K mg base "_law_rows" 1 R_lrows) (F_spoilt : DefOk (c := c) P w K mg base "_law_spoilt" 2 R_spoilt) (F_kept : DefOk (c := c) P w K mg base "_law_kept" 1 R_kept) (F_said : DefOk (c := c) P w K mg base "_law_said" 7 R_said) (F_nog : DefOk (c := c) P w K mg base "_law_no_ground" 1 R_nog)
    (b_range : mg "range" = none) : FnOk P w K mg base CX0 8 f fd ["_law_script"] (spS K (RLaw K c)) := by
  refine def_fn F sc_law (fun ss r h => by obtain ⟨ns, _, rfl, rfl⟩ := h; rfl) ?_
  rintro cdv A outer s H E ss r ⟨ns, hns, rfl, rfl⟩ C
  generalize hc0 : cellAt ns 0 = c0
  generalize hc1 : cellAt ns 1 = c1
  generalize hc2 : cellAt ns 2 = c2
  refine dss_set C 1 (d := .int ((1 + c0 % 6).toNat : Nat)) (de_cast (de_bin (DE.dr de_int) (DE.dr (de_bin (DE.dr (de_call F__law_cell_at (C.room.mono (by decide)) (das_cons (DR.da (DZ.dr (dz_name 0))) (das_cons (DE.da de_int) das_nil)) (by walk_at "call"))) (DE.dr de_int) (od_mod (by decide)))) od_add) (by rw [hc0]; congr 1; omega)) ?_
  refine dss_set C 2 (d := .int ((1 + c0 / 6 % 6).toNat : Nat)) (de_cast (de_bin (DE.dr de_int) (DE.dr (de_bin (DE.dr (de_bin (DE.dr (de_call F__law_cell_at (C.room.mono (by decide)) (das_cons (DR.da (DZ.dr (dz_name 0))) (das_cons (DE.da de_int) das_nil)) (by walk_at "call"))) (DE.dr de_int) (od_fdivS ⟨by decide, by decide⟩))) (DE.dr de_int) (od_mod (by decide)))) od_add) (by rw [hc0]; congr 1; omega)) ?_
  have m0 : 0 < (1 + c0 % 6).toNat := by omega
  have m1 : (1 + c0 % 6).toNat ≤ 6 := by omega
  have d0 : 0 < (1 + c0 / 6 % 6).toNat := by omega
  have d1 : (1 + c0 / 6 % 6).toNat ≤ 6 := by omega
  generalize (1 + c0 % 6).toNat = many at m0 m1
  generalize (1 + c0 / 6 % 6).toNat = wd at d0 d1
  refine dss_setX C 3 (s := kn (kRows (rowsD (lrows wd (c1 % 2147483647 + 48271) many).2))) (dx_call F_lrows (C.room.mono (by decide)) (das_cons (DE.da (de_call F__law_cell_at (C.room.mono (by decide)) (das_cons (DR.da (DZ.dr (dz_name 0))) (das_cons (DE.da de_int) das_nil)) (by walk_at "call"))) (das_cons (DE.da (de_name 1)) (das_cons (DE.da (de_name 2)) das_nil))) ⟨c1, many, wd, by rw [← hc1]; rfl, rfl, by omega, by omega⟩) ?_
  have q := lrows_ok wd (show NumOk (c1 % 2147483647 + 48271) by unfold NumOk; omega) many
  have ql := q.2.1
  have qr := q.2.2
  generalize (lrows wd (c1 % 2147483647 + 48271) many).2 = rs0 at ql qr
  have i0 : 0 ≤ c2 % (many : Nat) := Int.emod_nonneg _ (by omega)
  have i1 : c2 % (many : Nat) < many := Int.emod_lt_of_pos _ (by omega)
  have j0 : 0 ≤ c2 / 6 % (wd : Nat) := Int.emod_nonneg _ (by omega)
  have j1 : c2 / 6 % (wd : Nat) < wd := Int.emod_lt_of_pos _ (by omega)
  refine dss_set C 4 (d := .tuple [.int (c2 % (many : Nat)), .int (c2 / 6 % (wd : Nat))]) (de_cast (de_tup (des_cons (de_bin (DE.dr (de_call F__law_cell_at (C.room.mono (by decide)) (das_cons (DR.da (DZ.dr (dz_name 0))) (das_cons (DE.da de_int) das_nil)) (by walk_at "call"))) (DE.dr (de_name 1)) (od_mod (by omega))) (des_cons (de_bin (DE.dr (de_bin (DE.dr (de_call F__law_cell_at (C.room.mono (by decide)) (das_cons (DR.da (DZ.dr (dz_name 0))) (das_cons (DE.da de_int) das_nil)) (by walk_at "call"))) (DE.dr de_int) (od_fdivS ⟨by decide, by decide⟩))) (DE.dr (de_name 2)) (od_mod (by omega))) des_nil))) (by rw [hc2])) ?_
  generalize c2 % (many : Nat) = i at i0 i1
  generalize c2 / 6 % (wd : Nat) = j at j0 j1
  have hi : i.toNat < rs0.length := by omega
  have ri : (rs0.getD i.toNat []).length = wd := (qr _ (getD_mem hi)).1
  have hr : (rowsD rs0)[i.toNat]? = some ((rs0.getD i.toNat []).map fun g => (enc g : D)) := by
    rw [rowsD, List.getElem?_map, List.getElem?_eq_getElem hi, List.getD_eq_getElem?_getD, List.getElem?_eq_getElem hi]
    rfl
  refine dss_cell 3 (de_tup (des_cons (de_bin (DE.dr de_int) (DE.dr (de_bin (DE.dr (de_bin (DE.dr (de_call F__law_cell_at (C.room.mono (by decide)) (das_cons (DR.da (DZ.dr (dz_name 0))) (das_cons (DE.da de_int) das_nil)) (by walk_at "call"))) (DE.dr de_int) (od_fdivS ⟨by decide, by decide⟩))) (DE.dr (de_lit (1000000000000000000000000000000) (de_bin (DE.dr de_int) (DE.dr de_int) od_powC) (by decide +kernel))) (od_mod (by decide)))) od_add) (des_cons de_int des_nil))) (de_ixT (d := .int i) (de_name 4) de_int rfl) (de_ixT (d := .int j) (de_name 4) de_int rfl) (ixN_nn i0 (by rw [rowsD, List.length_map]; omega)) hr (ixN_nn j0 (by rw [List.length_map, ri]; exact j1)) ?_
  have cp : 1 ≤ 1 + cellAt ns 2 / 36 % 1000000000000000000000000000000 := by omega
  generalize 1 + cellAt ns 2 / 36 % 1000000000000000000000000000000 = cst at cp
  have er : (rowsD rs0).set i.toNat (((rs0.getD i.toNat []).map fun g => (enc g : D)).set j.toNat (.tuple [.int cst, .int 0])) = rowsD (rs0.set i.toNat ((rs0.getD i.toNat []).set j.toNat (.gr cst 0))) := by
    rw [rowsD, rowsD, List.map_set, List.map_set]
    rfl
  rw [er]
  have g3 : G3 (rs0.set i.toNat ((rs0.getD i.toNat []).set j.toNat (.gr cst 0))) wd i j := by
    have gg : (rs0.set i.toNat ((rs0.getD i.toNat []).set j.toNat (.gr cst 0))).getD i.toNat [] = (rs0.getD i.toNat []).set j.toNat (.gr cst 0) := by
      rw [List.getD_eq_getElem?_getD, List.getElem?_set_self hi]
      rfl
    have mm : ∀ r ∈ rs0.set i.toNat ((rs0.getD i.toNat []).set j.toNat (.gr cst 0)), r.length = wd ∧ ∀ g ∈ r, gok g := fun r hr => by
      rcases List.mem_or_eq_of_mem_set hr with z | z
      · exact qr r z
      · rw [z]
        refine ⟨by rw [List.length_set]; exact ri, fun x hx => ?_⟩
        rcases List.mem_or_eq_of_mem_set hx with y | y
        · exact (qr _ (getD_mem (d := []) hi)).2 x y
        · rw [y]; exact cp
    refine ⟨by rw [List.length_set]; omega, by rw [List.length_set]; omega, fun r hr => (mm r hr).1, d0, d1, fun r hr => (mm r hr).2, i0, by rw [List.length_set]; omega, j0, j1, ?_⟩
    rw [gg, List.getD_eq_getElem?_getD, List.getElem?_set_self (by rw [ri]; omega)]
    exact fun z => nomatch z
  generalize rs0.set i.toNat ((rs0.getD i.toNat []).set j.toNat (.gr cst 0)) = rs at g3
  refine dss_freezeK 3 frz_rows ?_
  rw [rowsD_enc]
  refine dss_asg C (de_call F_spoilt (C.room.mono (by decide)) (das_cons (DE.da (de_name 3)) (das_cons (DE.da (de_name 4)) (das_cons (DE.da (de_call F__law_cell_at (C.room.mono (by decide)) (das_cons (DR.da (DZ.dr (dz_name 0))) (das_cons (DE.da de_int) das_nil)) (by walk_at "call"))) das_nil))) ⟨rs, wd, i, j, _, rfl, rfl, g3⟩) (dg_tup C (dgs_cons (dg_name C 5) (dgs_cons (dg_name C 6) dgs_nil))) ?_
  have sp := spoilt_ok g3 (cellAt ns 3)
  generalize spoilR rs i j (cellAt ns 3) = RR at sp
  generalize spoilK rs wd i j (cellAt ns 3) = KK at sp
  have kk := okk_of sp.rs
  refine dss_set C 7 (de_call F_kept (C.room.mono (by decide)) (das_cons (DE.da (de_name 5)) das_nil) ⟨RR, rfl, rfl, kk⟩) ?_
  have made := floor_made g3
  have orow := okrs_enc g3
  refine dss_for C (di_range1 de_int (by decide) (by decide) b_range) (fun i' => [some (sb (.list (ns.map .int))), none, none, some (sd (enc rs)), some (sd (.tuple [.int i, .int j])), some (sd RR), some (sd KK), some (sd RR), none, none, none, none, none, none]) ?wk (is := [8]) (fun i' hi' => dg_name C 8) (fun i' hi' => ?turn) ?rest
  case wk => show Wk _ _; walk_at "wk"
  case turn =>
    refine dss_skip (b := false) (dt_cast (DW.dt (dw_or (dt_cmp (DE.dr (de_cast (d' := .str "bad") (de_call F_said (C.room.mono (by decide)) (das_cons (DE.da (de_name 7)) (das_cons (DE.da (de_name 6)) das_nil)) ⟨RR, KK, rfl, rfl, sp.rs, sp.dk⟩) (by rw [sp.bad]; rfl))) (DE.dr de_str) (od_neS C)) (fun h2 => (dw_or (dt_neK (n := 4) C (de_call F_kept (C.room.mono (by decide)) (das_cons (DE.da (de_name 7)) das_nil) ⟨RR, rfl, rfl, kk⟩) (de_name 5) sp.eq) (fun h1 => (dw_or1 (dt_cmp (DE.dr (de_cast (d' := .str "made") (de_call F_said (C.room.mono (by decide)) (das_cons (DE.da (de_name 3)) (das_cons (DE.da (de_name 4)) das_nil)) ⟨_, _, rfl, rfl, orow, rfl⟩) (by show PyData.str (wordV (floorV (.list (rs.map rowE)) (.tuple [.int i, .int j]))) = _; rw [made]; rfl))) (DE.dr de_str) (od_neS C)))))))) (by decide)) rfl ?_
    refine dss_nil ?_
    show Wk _ _
    walk_at "wk"
  case rest =>
  refine dss_set C 9 (de_call F__law_cell_at (C.room.mono (by decide)) (das_cons (DR.da (DZ.dr (dz_name 0))) (das_cons (DE.da de_int) das_nil)) (by walk_at "call")) ?_
  generalize cellAt ns 4 = c4
  have k0 : 0 ≤ c4 % 8 := Int.emod_nonneg _ (by decide)
  have k1 : c4 % 8 < 8 := Int.emod_lt_of_pos _ (by decide)
  have hk : (c4 % 8).toNat < 8 := by omega
  have ex : atI [PyData.tuple [.int 50, .int 50], .tuple [.int 1, .int 2500], .tuple [.int 2500, .int 1], .tuple [.int 25, .int 100], .tuple [.int 2501, .int 1], .tuple [.int 1, .int 2501], .tuple [.int 51, .int 50], .tuple [.int 2, .int 1251]] (c4 % 8) = some (.tuple [.int ((dims (c4 % 8).toNat).1 : Nat), .int ((dims (c4 % 8).toNat).2 : Nat)]) := by
    have : c4 % 8 = 0 ∨ c4 % 8 = 1 ∨ c4 % 8 = 2 ∨ c4 % 8 = 3 ∨ c4 % 8 = 4 ∨ c4 % 8 = 5 ∨ c4 % 8 = 6 ∨ c4 % 8 = 7 := by omega
    rcases this with q | q | q | q | q | q | q | q <;> rw [q] <;> rfl
  obtain ⟨a0, a1, b0, b1, mn⟩ := dims_ok _ hk
  refine dss_set C 10 (de_ixL (de_lst (des_cons (de_tup (des_cons de_int (des_cons de_int des_nil))) (des_cons (de_tup (des_cons de_int (des_cons de_int des_nil))) (des_cons (de_tup (des_cons de_int (des_cons de_int des_nil))) (des_cons (de_tup (des_cons de_int (des_cons de_int des_nil))) (des_cons (de_tup (des_cons de_int (des_cons de_int des_nil))) (des_cons (de_tup (des_cons de_int (des_cons de_int des_nil))) (des_cons (de_tup (des_cons de_int (des_cons de_int des_nil))) (des_cons (de_tup (des_cons de_int (des_cons de_int des_nil))) des_nil))))))))) (de_bin (DE.dr (de_name 9)) (DE.dr de_int) (od_mod (by decide))) ex) ?_
  generalize (dims (c4 % 8).toNat).1 = a at a0 a1 mn
  generalize (dims (c4 % 8).toNat).2 = b at b0 b1 mn
  have rep1 : (List.replicate ((b : Nat) : Int).toNat [PyData.tuple [.int 1, .int 0]]).flatten = (List.replicate b (Gd.gr 1 0)).map fun g => (enc g : D) := by
    rw [show ((b : Nat) : Int).toNat = b from by omega, List.map_replicate, List.flatten_replicate_singleton]
    rfl
  refine dss_setLc C 11 (dlc_Rows1 C 12 (di_range1 (de_ixT (de_name 10) de_int rfl) (by omega) (by omega) b_range) (blkOk_by (N := n_law) (sc := defScope (topS 26)) (by decide +kernel)) (fun _ => (List.replicate b (Gd.gr 1 0)).map fun g => (enc g : D)) (lt_line (by omega)) (fun jj n hn => by
    show DX _ _ _ (so ((List.replicate b (Gd.gr 1 0)).map fun g => (enc g : D)))
    rw [← rep1]
    exact dx_rep (dx_lst (des_cons (de_tup (des_cons de_int (des_cons de_int des_nil))) des_nil)) (de_ixT (d := .int (b : Nat)) (de_name 10) de_int rfl) (by omega) (by omega) (small (by simp; omega)))) ?_
  have eg : (List.range ((a : Nat) : Int).toNat).map (fun _ => (List.replicate b (Gd.gr 1 0)).map fun g => (enc g : D)) = rowsD (grt a b) := by
    rw [show ((a : Nat) : Int).toNat = a from by omega, rowsD, grt, List.map_const', List.length_range]
    simp only [List.map_replicate]
  rw [eg]
  have h40 : 0 ≤ c4 % 8 / 4 := by omega
  have h41 : c4 % 8 / 4 < 2 := by omega
  have ew : atI [PyData.str "made", .str "many"] (c4 % 8 / 4) = some (.str (wordV (if 2500 < a * b then .many else .made))) := by
    have : c4 % 8 / 4 = 0 ∨ c4 % 8 / 4 = 1 := by omega
    rcases this with q | q
    · rw [q, if_neg (by omega)]; rfl
    · rw [q, if_pos (by omega)]; rfl
  have hgV := grt_V (a := a) (b := b) a0 a1 b0 b1
  have hgO := grt_ok (a := a) (b := b) a1 b0 b1
  generalize (if 2500 < a * b then Vd.many else Vd.made) = vd at ew hgV
  refine dss_set C 13 (de_ixL (de_lst (des_cons de_str (des_cons de_str des_nil))) (de_bin (DE.dr (de_bin (DE.dr (de_name 9)) (DE.dr de_int) (od_mod (by decide)))) (DE.dr de_int) (od_fdivS ⟨by decide, by decide⟩)) ew) ?_
  refine dss_if (dt_cmp (DE.dr (de_bin (DE.dr (de_bin (DE.dr (de_name 9)) (DE.dr de_int) (od_fdivS ⟨by decide, by decide⟩))) (DE.dr de_int) (od_mod (by decide)))) (DE.dr de_int) (od_eqI C)) (fun h => ?_) (fun h => ?_)
  · have lg : (rowsD (grt a b)).length = a := by rw [rowsD, grt, List.length_map, List.length_replicate]
    have hr : (rowsD (grt a b))[a - 1]? = some ((List.replicate b (Gd.gr 1 0)).map fun g => (enc g : D)) := by
      rw [rowsD, grt, List.map_replicate, List.getElem?_replicate, if_pos (by omega)]
    refine dss_cell 11 (d := noG (c4 / 24)) (de_call F_nog (C.room.mono (by decide)) (das_cons (DE.da (de_bin (DE.dr (de_name 9)) (DE.dr de_int) (od_fdivS ⟨by decide, by decide⟩))) das_nil) ⟨_, rfl, rfl⟩) (de_lit (-1) (de_un (DE.dr de_int) od_neg) (by decide +kernel)) (de_lit (-1) (de_un (DE.dr de_int) od_neg) (by decide +kernel)) (m := a - 1) (n := b - 1) (by rw [lg]; exact ixN_last a0) hr (by rw [List.length_map, List.length_replicate]; exact ixN_last b0) ?_
    refine dss_set C 13 (d := .str (wordV .bad)) de_str ?_
    refine dss_nil ?_
    show DSs _ _ _ _
    refine dss_freezeK 11 frz_rows ?_
    exact dss_ret (de_cmp (DE.dr (de_cast (d' := .str (wordV .bad)) (de_call F_said (C.room.mono (by decide)) (das_cons (DE.da (de_name 11)) (das_cons (DE.da (de_tup (des_cons de_int (des_cons de_int des_nil)))) das_nil)) ⟨_, _, rfl, rfl, grtX_ok a1 b0 b1 _, rfl⟩) (by show PyData.str (wordV (floorV (.list ((grtX a b (c4 / 24)).map .list)) (.tuple [.int 0, .int 0]))) = _; rw [grtX_V a0 b0]))) (DE.dr (de_name 13)) (od_eqS C (word_ok _) (word_ok _))) (by rw [decide_eq_true rfl]; rfl)
  · refine dss_nil ?_
    show DSs _ _ _ _
    refine dss_freezeK 11 frz_rows ?_
    rw [rowsD_enc]
    exact dss_ret (de_cmp (DE.dr (de_cast (d' := .str (wordV vd)) (de_call F_said (C.room.mono (by decide)) (das_cons (DE.da (de_name 11)) (das_cons (DE.da (de_tup (des_cons de_int (des_cons de_int des_nil)))) das_nil)) ⟨_, _, rfl, rfl, hgO, rfl⟩) (by show PyData.str (wordV (floorV (enc (grt a b)) (.tuple [.int 0, .int 0]))) = _; rw [hgV]))) (DE.dr (de_name 13)) (od_eqS C (word_ok _) (word_ok _))) (by rw [decide_eq_true rfl]; rfl)
end

theorem all_mk {l : PySem.W.OpenLaw} {w : World} {K : PySem.W.Frag} {h : Heap} {mg : Str → Option Value} {fa : Addr} (X : K.In h) (G : h.Ns mainGlobals mg) (hfa : mg "law" = some (.ref fa))
    {f0 : Addr} {oc0 kV0 dc0 pm0 cd0 ct0 : Value} {od0 an0 : Option Addr} {sl0 : Array (Option Value)}
    {f1 : Addr} {oc1 kV1 dc1 pm1 cd1 ct1 : Value} {od1 an1 : Option Addr} {sl1 : Array (Option Value)}
    {f2 : Addr} {oc2 kV2 dc2 pm2 cd2 ct2 : Value} {od2 an2 : Option Addr} {sl2 : Array (Option Value)}
    {f3 : Addr} {oc3 kV3 dc3 pm3 cd3 ct3 : Value} {od3 an3 : Option Addr} {sl3 : Array (Option Value)}
    {f4 : Addr} {oc4 kV4 dc4 pm4 cd4 ct4 : Value} {od4 an4 : Option Addr} {sl4 : Array (Option Value)}
    {f5 : Addr} {oc5 kV5 dc5 pm5 cd5 ct5 : Value} {od5 an5 : Option Addr} {sl5 : Array (Option Value)}
    {f6 : Addr} {oc6 kV6 dc6 pm6 cd6 ct6 : Value} {od6 an6 : Option Addr} {sl6 : Array (Option Value)}
    {f7 : Addr} {oc7 kV7 dc7 pm7 cd7 ct7 : Value} {od7 an7 : Option Addr} {sl7 : Array (Option Value)}
    {f8 : Addr} {oc8 kV8 dc8 pm8 cd8 ct8 : Value} {od8 an8 : Option Addr} {sl8 : Array (Option Value)}
    {f9 : Addr} {oc9 kV9 dc9 pm9 cd9 ct9 : Value} {od9 an9 : Option Addr} {sl9 : Array (Option Value)}
    {f10 : Addr} {oc10 kV10 dc10 pm10 cd10 ct10 : Value} {od10 an10 : Option Addr} {sl10 : Array (Option Value)}
    {f11 : Addr} {oc11 kV11 dc11 pm11 cd11 ct11 : Value} {od11 an11 : Option Addr} {sl11 : Array (Option Value)}
    {gS : Addr} {gSd : Option Addr} {gSn : Nat} {gSs : Array (Option Value)} {gS0 gS1 gS2 gS3 : Tok}
    {gM p0 p1 p2 p3 : Addr} {gMe : Array DictEntry} {gMn m0 m1 m2 m3 : Nat} {q0 q1 q2 q3 : Option Addr} {r0 r1 r2 r3 : Array (Option Value)} {t0 u0 t1 u1 t2 u2 t3 u3 : Tok}
    {gO : Tok}
    {C_Floor : Addr}
    {f_Floor_init : Addr} {oc_Floor_init kV_Floor_init dc_Floor_init pm_Floor_init cd_Floor_init ct_Floor_init : Value} {od_Floor_init an_Floor_init : Option Addr} {sl_Floor_init : Array (Option Value)}
    {f_Floor_rows : Addr} {oc_Floor_rows kV_Floor_rows dc_Floor_rows pm_Floor_rows cd_Floor_rows ct_Floor_rows : Value} {od_Floor_rows an_Floor_rows : Option Addr} {sl_Floor_rows : Array (Option Value)}
    {f_Floor_dock : Addr} {oc_Floor_dock kV_Floor_dock dc_Floor_dock pm_Floor_dock cd_Floor_dock ct_Floor_dock : Value} {od_Floor_dock an_Floor_dock : Option Addr} {sl_Floor_dock : Array (Option Value)}
    {f_Floor_ground : Addr} {oc_Floor_ground kV_Floor_ground dc_Floor_ground pm_Floor_ground cd_Floor_ground ct_Floor_ground : Value} {od_Floor_ground an_Floor_ground : Option Addr} {sl_Floor_ground : Array (Option Value)}
    {f_Floor_cells : Addr} {oc_Floor_cells kV_Floor_cells dc_Floor_cells pm_Floor_cells cd_Floor_cells ct_Floor_cells : Value} {od_Floor_cells an_Floor_cells : Option Addr} {sl_Floor_cells : Array (Option Value)}
    {f_Floor_felt : Addr} {oc_Floor_felt kV_Floor_felt dc_Floor_felt pm_Floor_felt cd_Floor_felt ct_Floor_felt : Value} {od_Floor_felt an_Floor_felt : Option Addr} {sl_Floor_felt : Array (Option Value)}
    {C_DustError : Addr}
    {C_BadFloor : Addr}
    {C_TooMany : Addr}
    {C_Clash : Addr}
    {C_NoDock : Addr}
    {C_NoText : Addr}
    {C_NoRow : Addr}
    (a0 : PySem.W.nsIn K mainGlobals "is_whole" = some (some (.ref f0)))
    (l0 : K.lookup f0 = some ⟨oc0, od0, .func (PySem.W.fnOf "is_whole" "is_whole" (defArgs (topS 3)) (defBody (topS 3)) (defScope (topS 3)) .none kV0 dc0 pm0 an0 cd0 ct0), sl0⟩)
    (c0 : PySem.W.codeIn K cd0 "is_whole" = true)
    (k0 : PySem.W.keepIn K (.ref f0) = true)
    (a1 : PySem.W.nsIn K mainGlobals "is_pair" = some (some (.ref f1)))
    (l1 : K.lookup f1 = some ⟨oc1, od1, .func (PySem.W.fnOf "is_pair" "is_pair" (defArgs (topS 4)) (defBody (topS 4)) (defScope (topS 4)) .none kV1 dc1 pm1 an1 cd1 ct1), sl1⟩)
    (c1 : PySem.W.codeIn K cd1 "is_pair" = true)
    (k1 : PySem.W.keepIn K (.ref f1) = true)
    (a2 : PySem.W.nsIn K mainGlobals "is_ground" = some (some (.ref f2)))
    (l2 : K.lookup f2 = some ⟨oc2, od2, .func (PySem.W.fnOf "is_ground" "is_ground" (defArgs (topS 5)) (defBody (topS 5)) (defScope (topS 5)) .none kV2 dc2 pm2 an2 cd2 ct2), sl2⟩)
    (c2 : PySem.W.codeIn K cd2 "is_ground" = true)
    (k2 : PySem.W.keepIn K (.ref f2) = true)
    (a3 : PySem.W.nsIn K mainGlobals "beside" = some (some (.ref f3)))
    (l3 : K.lookup f3 = some ⟨oc3, od3, .func (PySem.W.fnOf "beside" "beside" (defArgs (topS 6)) (defBody (topS 6)) (defScope (topS 6)) .none kV3 dc3 pm3 an3 cd3 ct3), sl3⟩)
    (c3 : PySem.W.codeIn K cd3 "beside" = true)
    (k3 : PySem.W.keepIn K (.ref f3) = true)
    (a4 : PySem.W.nsIn K mainGlobals "are_rows" = some (some (.ref f4)))
    (l4 : K.lookup f4 = some ⟨oc4, od4, .func (PySem.W.fnOf "are_rows" "are_rows" (defArgs (topS 17)) (defBody (topS 17)) (defScope (topS 17)) .none kV4 dc4 pm4 an4 cd4 ct4), sl4⟩)
    (c4 : PySem.W.codeIn K cd4 "are_rows" = true)
    (k4 : PySem.W.keepIn K (.ref f4) = true)
    (a5 : PySem.W.nsIn K mainGlobals "_law_cell_at" = some (some (.ref f5)))
    (l5 : K.lookup f5 = some ⟨oc5, od5, .func (PySem.W.fnOf "_law_cell_at" "_law_cell_at" (defArgs (topS 20)) (defBody (topS 20)) (defScope (topS 20)) .none kV5 dc5 pm5 an5 cd5 ct5), sl5⟩)
    (c5 : PySem.W.codeIn K cd5 "_law_cell_at" = true)
    (k5 : PySem.W.keepIn K (.ref f5) = true)
    (a6 : PySem.W.nsIn K mainGlobals "_law_said" = some (some (.ref f6)))
    (l6 : K.lookup f6 = some ⟨oc6, od6, .func (PySem.W.fnOf "_law_said" "_law_said" (defArgs (topS 21)) (defBody (topS 21)) (defScope (topS 21)) .none kV6 dc6 pm6 an6 cd6 ct6), sl6⟩)
    (c6 : PySem.W.codeIn K cd6 "_law_said" = true)
    (k6 : PySem.W.keepIn K (.ref f6) = true)
    (a7 : PySem.W.nsIn K mainGlobals "_law_rows" = some (some (.ref f7)))
    (l7 : K.lookup f7 = some ⟨oc7, od7, .func (PySem.W.fnOf "_law_rows" "_law_rows" (defArgs (topS 22)) (defBody (topS 22)) (defScope (topS 22)) .none kV7 dc7 pm7 an7 cd7 ct7), sl7⟩)
    (c7 : PySem.W.codeIn K cd7 "_law_rows" = true)
    (k7 : PySem.W.keepIn K (.ref f7) = true)
    (a8 : PySem.W.nsIn K mainGlobals "_law_no_ground" = some (some (.ref f8)))
    (l8 : K.lookup f8 = some ⟨oc8, od8, .func (PySem.W.fnOf "_law_no_ground" "_law_no_ground" (defArgs (topS 23)) (defBody (topS 23)) (defScope (topS 23)) .none kV8 dc8 pm8 an8 cd8 ct8), sl8⟩)
    (c8 : PySem.W.codeIn K cd8 "_law_no_ground" = true)
    (k8 : PySem.W.keepIn K (.ref f8) = true)
    (a9 : PySem.W.nsIn K mainGlobals "_law_spoilt" = some (some (.ref f9)))
    (l9 : K.lookup f9 = some ⟨oc9, od9, .func (PySem.W.fnOf "_law_spoilt" "_law_spoilt" (defArgs (topS 24)) (defBody (topS 24)) (defScope (topS 24)) .none kV9 dc9 pm9 an9 cd9 ct9), sl9⟩)
    (c9 : PySem.W.codeIn K cd9 "_law_spoilt" = true)
    (k9 : PySem.W.keepIn K (.ref f9) = true)
    (a10 : PySem.W.nsIn K mainGlobals "_law_kept" = some (some (.ref f10)))
    (l10 : K.lookup f10 = some ⟨oc10, od10, .func (PySem.W.fnOf "_law_kept" "_law_kept" (defArgs (topS 25)) (defBody (topS 25)) (defScope (topS 25)) .none kV10 dc10 pm10 an10 cd10 ct10), sl10⟩)
    (c10 : PySem.W.codeIn K cd10 "_law_kept" = true)
    (k10 : PySem.W.keepIn K (.ref f10) = true)
    (a11 : PySem.W.nsIn K mainGlobals "law" = some (some (.ref f11)))
    (l11 : K.lookup f11 = some ⟨oc11, od11, .func (PySem.W.fnOf "law" "law" (defArgs (topS 26)) (defBody (topS 26)) (defScope (topS 26)) .none kV11 dc11 pm11 an11 cd11 ct11), sl11⟩)
    (c11 : PySem.W.codeIn K cd11 "law" = true)
    (k11 : PySem.W.keepIn K (.ref f11) = true)
    (z_ValueError : PySem.W.nsIn K mainGlobals "ValueError" = some none)
    (z_all : PySem.W.nsIn K mainGlobals "all" = some none)
    (z_bool : PySem.W.nsIn K mainGlobals "bool" = some none)
    (z_int : PySem.W.nsIn K mainGlobals "int" = some none)
    (z_isinstance : PySem.W.nsIn K mainGlobals "isinstance" = some none)
    (z_len : PySem.W.nsIn K mainGlobals "len" = some none)
    (z_list : PySem.W.nsIn K mainGlobals "list" = some none)
    (z_range : PySem.W.nsIn K mainGlobals "range" = some none)
    (z_tuple : PySem.W.nsIn K mainGlobals "tuple" = some none)
    (aS : PySem.W.nsIn K mainGlobals "SIDES" = some (some (.ref gS)))
    (lS : K.lookup gS = some ⟨.type "tuple", gSd, .seq #[.str "n" gS0, .str "e" gS1, .str "s" gS2, .str "w" gS3] gSn, gSs⟩)
    (aM : PySem.W.nsIn K mainGlobals "MOVES" = some (some (.ref gM)))
    (lM : K.lookup gM = some ⟨.type "dict", none, .dict gMe gMn, #[]⟩)
    (kM : PySem.W.KeysLit w.params gMe.toList)
    (aM0 : PySem.W.nsIn K gM "n" = some (some (.ref p0)))
    (aM1 : PySem.W.nsIn K gM "e" = some (some (.ref p1)))
    (aM2 : PySem.W.nsIn K gM "s" = some (some (.ref p2)))
    (aM3 : PySem.W.nsIn K gM "w" = some (some (.ref p3)))
    (lM0 : K.lookup p0 = some ⟨.type "tuple", q0, .seq #[.int (-1) t0, .int (0) u0] m0, r0⟩)
    (lM1 : K.lookup p1 = some ⟨.type "tuple", q1, .seq #[.int (0) t1, .int (1) u1] m1, r1⟩)
    (lM2 : K.lookup p2 = some ⟨.type "tuple", q2, .seq #[.int (1) t2, .int (0) u2] m2, r2⟩)
    (lM3 : K.lookup p3 = some ⟨.type "tuple", q3, .seq #[.int (0) t3, .int (-1) u3] m3, r3⟩)
    (aO : PySem.W.nsIn K mainGlobals "MOST_GROUNDS" = some (some (.int 2500 gO)))
    (aC_Floor : PySem.W.nsIn K mainGlobals "Floor" = some (some (.ref C_Floor)))
    (pg_Floor : PySem.W.plainGet K C_Floor Str.empty = true)
    (hd_Floor : PySem.W.hasDictIn K C_Floor = true)
    (po_Floor : PySem.W.plainOver K C_Floor = true)
    (sa_Floor : PySem.W.findIn K (.ref C_Floor) "__setattr__" = some (some (.builtin "object.__setattr__")))
    (mk_Floor : PySem.W.makesIn K C_Floor = true)
    (kc_Floor : PySem.W.keepIn K (.ref C_Floor) = true)
    (n_Floor_grid : PySem.W.findIn K (.ref C_Floor) "grid" = some none)
    (n_Floor_at : PySem.W.findIn K (.ref C_Floor) "at" = some none)
    (a_Floor_init : PySem.W.findIn K (.ref C_Floor) "__init__" = some (some (.ref f_Floor_init)))
    (i_Floor_init : PySem.W.isFn K (.ref f_Floor_init) = true)
    (l_Floor_init : K.lookup f_Floor_init = some ⟨oc_Floor_init, od_Floor_init, .func (PySem.W.fnOf "__init__" "Floor.__init__" (defArgs (inClass (topS 18) 0)) (defBody (inClass (topS 18) 0)) (defScope (inClass (topS 18) 0)) .none kV_Floor_init dc_Floor_init pm_Floor_init an_Floor_init cd_Floor_init ct_Floor_init), sl_Floor_init⟩)
    (c_Floor_init : PySem.W.codeIn K cd_Floor_init "Floor.__init__" = true)
    (k_Floor_init : PySem.W.keepIn K (.ref f_Floor_init) = true)
    (a_Floor_rows : PySem.W.findIn K (.ref C_Floor) "rows" = some (some (.ref f_Floor_rows)))
    (i_Floor_rows : PySem.W.isFn K (.ref f_Floor_rows) = true)
    (l_Floor_rows : K.lookup f_Floor_rows = some ⟨oc_Floor_rows, od_Floor_rows, .func (PySem.W.fnOf "rows" "Floor.rows" (defArgs (inClass (topS 18) 1)) (defBody (inClass (topS 18) 1)) (defScope (inClass (topS 18) 1)) .none kV_Floor_rows dc_Floor_rows pm_Floor_rows an_Floor_rows cd_Floor_rows ct_Floor_rows), sl_Floor_rows⟩)
    (c_Floor_rows : PySem.W.codeIn K cd_Floor_rows "Floor.rows" = true)
    (k_Floor_rows : PySem.W.keepIn K (.ref f_Floor_rows) = true)
    (a_Floor_dock : PySem.W.findIn K (.ref C_Floor) "dock" = some (some (.ref f_Floor_dock)))
    (i_Floor_dock : PySem.W.isFn K (.ref f_Floor_dock) = true)
    (l_Floor_dock : K.lookup f_Floor_dock = some ⟨oc_Floor_dock, od_Floor_dock, .func (PySem.W.fnOf "dock" "Floor.dock" (defArgs (inClass (topS 18) 2)) (defBody (inClass (topS 18) 2)) (defScope (inClass (topS 18) 2)) .none kV_Floor_dock dc_Floor_dock pm_Floor_dock an_Floor_dock cd_Floor_dock ct_Floor_dock), sl_Floor_dock⟩)
    (c_Floor_dock : PySem.W.codeIn K cd_Floor_dock "Floor.dock" = true)
    (k_Floor_dock : PySem.W.keepIn K (.ref f_Floor_dock) = true)
    (a_Floor_ground : PySem.W.findIn K (.ref C_Floor) "ground" = some (some (.ref f_Floor_ground)))
    (i_Floor_ground : PySem.W.isFn K (.ref f_Floor_ground) = true)
    (l_Floor_ground : K.lookup f_Floor_ground = some ⟨oc_Floor_ground, od_Floor_ground, .func (PySem.W.fnOf "ground" "Floor.ground" (defArgs (inClass (topS 18) 3)) (defBody (inClass (topS 18) 3)) (defScope (inClass (topS 18) 3)) .none kV_Floor_ground dc_Floor_ground pm_Floor_ground an_Floor_ground cd_Floor_ground ct_Floor_ground), sl_Floor_ground⟩)
    (c_Floor_ground : PySem.W.codeIn K cd_Floor_ground "Floor.ground" = true)
    (k_Floor_ground : PySem.W.keepIn K (.ref f_Floor_ground) = true)
    (a_Floor_cells : PySem.W.findIn K (.ref C_Floor) "cells" = some (some (.ref f_Floor_cells)))
    (i_Floor_cells : PySem.W.isFn K (.ref f_Floor_cells) = true)
    (l_Floor_cells : K.lookup f_Floor_cells = some ⟨oc_Floor_cells, od_Floor_cells, .func (PySem.W.fnOf "cells" "Floor.cells" (defArgs (inClass (topS 18) 4)) (defBody (inClass (topS 18) 4)) (defScope (inClass (topS 18) 4)) .none kV_Floor_cells dc_Floor_cells pm_Floor_cells an_Floor_cells cd_Floor_cells ct_Floor_cells), sl_Floor_cells⟩)
    (c_Floor_cells : PySem.W.codeIn K cd_Floor_cells "Floor.cells" = true)
    (k_Floor_cells : PySem.W.keepIn K (.ref f_Floor_cells) = true)
    (a_Floor_felt : PySem.W.findIn K (.ref C_Floor) "felt" = some (some (.ref f_Floor_felt)))
    (i_Floor_felt : PySem.W.isFn K (.ref f_Floor_felt) = true)
    (l_Floor_felt : K.lookup f_Floor_felt = some ⟨oc_Floor_felt, od_Floor_felt, .func (PySem.W.fnOf "felt" "Floor.felt" (defArgs (inClass (topS 18) 5)) (defBody (inClass (topS 18) 5)) (defScope (inClass (topS 18) 5)) .none kV_Floor_felt dc_Floor_felt pm_Floor_felt an_Floor_felt cd_Floor_felt ct_Floor_felt), sl_Floor_felt⟩)
    (c_Floor_felt : PySem.W.codeIn K cd_Floor_felt "Floor.felt" = true)
    (k_Floor_felt : PySem.W.keepIn K (.ref f_Floor_felt) = true)
    (aC_DustError : PySem.W.nsIn K mainGlobals "DustError" = some (some (.ref C_DustError)))
    (aC_BadFloor : PySem.W.nsIn K mainGlobals "BadFloor" = some (some (.ref C_BadFloor)))
    (aC_TooMany : PySem.W.nsIn K mainGlobals "TooMany" = some (some (.ref C_TooMany)))
    (aC_Clash : PySem.W.nsIn K mainGlobals "Clash" = some (some (.ref C_Clash)))
    (aC_NoDock : PySem.W.nsIn K mainGlobals "NoDock" = some (some (.ref C_NoDock)))
    (aC_NoText : PySem.W.nsIn K mainGlobals "NoText" = some (some (.ref C_NoText)))
    (aC_NoRow : PySem.W.nsIn K mainGlobals "NoRow" = some (some (.ref C_NoRow)))
    (xe_BadFloor : PySem.W.excIn K C_BadFloor [.type "ValueError", .type "Exception", .type "BaseException", .type "object"] "ValueError.__new__" = true)
    (xk_BadFloor : PySem.W.keepIn K (.ref C_BadFloor) = true)
    (xs_BadFloor : PySem.W.subIn K (.ref C_BadFloor) (.type "BaseException") = some true)
    (xt_BadFloor : PySem.W.typeIn K (.ref C_BadFloor) = some (.type "type"))
    (xg_BadFloor : PySem.W.findIn K (.ref C_BadFloor) "__getattribute__" = some (some (.builtin "BaseException.__getattribute__")))
    (xa_BadFloor : PySem.W.findIn K (.ref C_BadFloor) "__getattr__" = some none)
    (xd_BadFloor : PySem.W.hasDictIn K C_BadFloor = true)
    (xc_BadFloor : PySem.W.findIn K (.ref C_BadFloor) "__class__" = some (some (.builtin "object.__class__")))
    (xm_BadFloor : PySem.W.mroIn K C_BadFloor (.type "object") = some true)
    (xe_TooMany : PySem.W.excIn K C_TooMany [.type "ValueError", .type "Exception", .type "BaseException", .type "object"] "ValueError.__new__" = true)
    (xk_TooMany : PySem.W.keepIn K (.ref C_TooMany) = true)
    (xs_TooMany : PySem.W.subIn K (.ref C_TooMany) (.type "BaseException") = some true)
    (xt_TooMany : PySem.W.typeIn K (.ref C_TooMany) = some (.type "type"))
    (xg_TooMany : PySem.W.findIn K (.ref C_TooMany) "__getattribute__" = some (some (.builtin "BaseException.__getattribute__")))
    (xa_TooMany : PySem.W.findIn K (.ref C_TooMany) "__getattr__" = some none)
    (xd_TooMany : PySem.W.hasDictIn K C_TooMany = true)
    (xc_TooMany : PySem.W.findIn K (.ref C_TooMany) "__class__" = some (some (.builtin "object.__class__")))
    (xm_TooMany : PySem.W.mroIn K C_TooMany (.type "object") = some true)
    (xn_ : PySem.W.specialIn K (.builtin "object.__class__") "__get__" = some (some (.builtin "getset_descriptor.__get__")))
    (xo_ : PySem.W.takesIn K (.builtin "object.__class__") = some true)
    (ys_DustError : PySem.W.subIn K (.ref C_DustError) (.type "BaseException") = some true)
    (yd_DustError : PySem.W.hasDictIn K C_DustError = true)
    (yt_DustError : PySem.W.typeIn K (.ref C_DustError) = some (.type "type"))
    (yx_BadFloor_DustError : PySem.W.subIn K (.ref C_BadFloor) (.ref C_DustError) = some true)
    (yx_TooMany_DustError : PySem.W.subIn K (.ref C_TooMany) (.ref C_DustError) = some true)
    (ck_x_BadFloor_BadFloor : PySem.W.kitOne K (.ref C_BadFloor) (.ref C_BadFloor) = some true)
    (ck_x_BadFloor_TooMany : PySem.W.kitOne K (.ref C_BadFloor) (.ref C_TooMany) = some false)
    (ck_x_BadFloor_Clash : PySem.W.kitOne K (.ref C_BadFloor) (.ref C_Clash) = some false)
    (ck_x_BadFloor_NoDock : PySem.W.kitOne K (.ref C_BadFloor) (.ref C_NoDock) = some false)
    (ck_x_BadFloor_NoRow : PySem.W.kitOne K (.ref C_BadFloor) (.ref C_NoRow) = some false)
    (ck_x_BadFloor_NoText : PySem.W.kitOne K (.ref C_BadFloor) (.ref C_NoText) = some false)
    (ck_x_BadFloor_ValueError : PySem.W.kitOne K (.ref C_BadFloor) (.type "ValueError") = some true)
    (ck_x_TooMany_BadFloor : PySem.W.kitOne K (.ref C_TooMany) (.ref C_BadFloor) = some false)
    (ck_x_TooMany_TooMany : PySem.W.kitOne K (.ref C_TooMany) (.ref C_TooMany) = some true)
    (ck_x_TooMany_Clash : PySem.W.kitOne K (.ref C_TooMany) (.ref C_Clash) = some false)
    (ck_x_TooMany_NoDock : PySem.W.kitOne K (.ref C_TooMany) (.ref C_NoDock) = some false)
    (ck_x_TooMany_NoRow : PySem.W.kitOne K (.ref C_TooMany) (.ref C_NoRow) = some false)
    (ck_x_TooMany_NoText : PySem.W.kitOne K (.ref C_TooMany) (.ref C_NoText) = some false)
    (ck_x_TooMany_ValueError : PySem.W.kitOne K (.ref C_TooMany) (.type "ValueError") = some true) :
    ∃ fd : FuncData, (∀ (s : Shared) (v : Value), BindsTo s fd ⟨[v], []⟩ [("_law_script", v)]) ∧ ∀ base : Heap, K.In base → base.Ns mainGlobals mg → FnOk l.prog w K mg base CX0 8 fa fd ["_law_script"] (spL K) := by
  have e := hfa.symm.trans (PySem.W.mg_of X G a11)
  cases e
  obtain ⟨c, hc_Floor⟩ : ∃ c : Cl, c 5 = some C_Floor := ⟨fun n => if n = 5 then some C_Floor else none, rfl⟩
  have K_Floor : Cls K C_Floor := ⟨pg_Floor, hd_Floor, po_Floor, sa_Floor⟩
  have m_Floor := PySem.W.mg_of X G aC_Floor
  have T_Floor : ClsAt K c 5 ["grid", "at"] := ⟨C_Floor, hc_Floor, K_Floor, (allNo_cons n_Floor_grid (allNo_cons n_Floor_at allNo_nil))⟩
  have F_Floor_init := fun_mk (st := (inClass (topS 18) 0)) l_Floor_init c_Floor_init k_Floor_init
  have b_Floor_init := F_Floor_init.binds (ps := ["self", "rows", "dock"]) fun _ _ _ _ _ _ us hl => match us, hl with | [_, _, _], _ => rfl
  have I_Floor : ∃ C f fd, c 5 = some C ∧ mg "Floor" = some (.ref C) ∧ Mk K C f ∧ Fun K "__init__" "Floor.__init__" (inClass (topS 18) 0) f fd ∧ Binds K fd ["self", "rows", "dock"] [] := ⟨C_Floor, f_Floor_init, _, hc_Floor, m_Floor, ⟨mk_Floor, a_Floor_init, i_Floor_init, kc_Floor⟩, F_Floor_init, b_Floor_init⟩
  have F_Floor_rows := fun_mk (st := (inClass (topS 18) 1)) l_Floor_rows c_Floor_rows k_Floor_rows
  have b_Floor_rows := F_Floor_rows.binds (ps := ["self"]) fun _ _ _ _ _ _ us hl => match us, hl with | [_], _ => rfl
  have M_Floor_rows : MethAt K c 5 "rows" "Floor.rows" (inClass (topS 18) 1) ["self"] := ⟨C_Floor, f_Floor_rows, _, hc_Floor, K_Floor, ⟨a_Floor_rows, i_Floor_rows, k_Floor_rows⟩, F_Floor_rows, b_Floor_rows⟩
  have F_Floor_dock := fun_mk (st := (inClass (topS 18) 2)) l_Floor_dock c_Floor_dock k_Floor_dock
  have b_Floor_dock := F_Floor_dock.binds (ps := ["self"]) fun _ _ _ _ _ _ us hl => match us, hl with | [_], _ => rfl
  have M_Floor_dock : MethAt K c 5 "dock" "Floor.dock" (inClass (topS 18) 2) ["self"] := ⟨C_Floor, f_Floor_dock, _, hc_Floor, K_Floor, ⟨a_Floor_dock, i_Floor_dock, k_Floor_dock⟩, F_Floor_dock, b_Floor_dock⟩
  have F_Floor_ground := fun_mk (st := (inClass (topS 18) 3)) l_Floor_ground c_Floor_ground k_Floor_ground
  have b_Floor_ground := F_Floor_ground.binds (ps := ["self", "cell"]) fun _ _ _ _ _ _ us hl => match us, hl with | [_, _], _ => rfl
  have M_Floor_ground : MethAt K c 5 "ground" "Floor.ground" (inClass (topS 18) 3) ["self", "cell"] := ⟨C_Floor, f_Floor_ground, _, hc_Floor, K_Floor, ⟨a_Floor_ground, i_Floor_ground, k_Floor_ground⟩, F_Floor_ground, b_Floor_ground⟩
  have F_Floor_cells := fun_mk (st := (inClass (topS 18) 4)) l_Floor_cells c_Floor_cells k_Floor_cells
  have b_Floor_cells := F_Floor_cells.binds (ps := ["self"]) fun _ _ _ _ _ _ us hl => match us, hl with | [_], _ => rfl
  have M_Floor_cells : MethAt K c 5 "cells" "Floor.cells" (inClass (topS 18) 4) ["self"] := ⟨C_Floor, f_Floor_cells, _, hc_Floor, K_Floor, ⟨a_Floor_cells, i_Floor_cells, k_Floor_cells⟩, F_Floor_cells, b_Floor_cells⟩
  have F_Floor_felt := fun_mk (st := (inClass (topS 18) 5)) l_Floor_felt c_Floor_felt k_Floor_felt
  have b_Floor_felt := F_Floor_felt.binds (ps := ["self", "cell"]) fun _ _ _ _ _ _ us hl => match us, hl with | [_, _], _ => rfl
  have M_Floor_felt : MethAt K c 5 "felt" "Floor.felt" (inClass (topS 18) 5) ["self", "cell"] := ⟨C_Floor, f_Floor_felt, _, hc_Floor, K_Floor, ⟨a_Floor_felt, i_Floor_felt, k_Floor_felt⟩, F_Floor_felt, b_Floor_felt⟩
  have m_DustError := PySem.W.mg_of X G aC_DustError
  have m_BadFloor := PySem.W.mg_of X G aC_BadFloor
  have m_TooMany := PySem.W.mg_of X G aC_TooMany
  have m_Clash := PySem.W.mg_of X G aC_Clash
  have m_NoDock := PySem.W.mg_of X G aC_NoDock
  have m_NoText := PySem.W.mg_of X G aC_NoText
  have m_NoRow := PySem.W.mg_of X G aC_NoRow
  have X_BadFloor : ExcAt K mg "BadFloor" C_BadFloor := ⟨m_BadFloor, xe_BadFloor, xk_BadFloor, xs_BadFloor, xt_BadFloor, ⟨xg_BadFloor, xa_BadFloor, xs_BadFloor, xd_BadFloor, xc_BadFloor, xn_, xo_, xm_BadFloor⟩⟩
  have X_TooMany : ExcAt K mg "TooMany" C_TooMany := ⟨m_TooMany, xe_TooMany, xk_TooMany, xs_TooMany, xt_TooMany, ⟨xg_TooMany, xa_TooMany, xs_TooMany, xd_TooMany, xc_TooMany, xn_, xo_, xm_TooMany⟩⟩
  have y_BadFloor_DustError := PySem.W.exm_ref ys_DustError yd_DustError yt_DustError yx_BadFloor_DustError
  have y_TooMany_DustError := PySem.W.exm_ref ys_DustError yd_DustError yt_DustError yx_TooMany_DustError
  have F_is_whole := funAt (ps := ["thing"]) X G a0 l0 c0 k0 (fun _ _ _ _ _ _ us hl => match us, hl with | [_], _ => rfl)
  have F_is_pair := funAt (ps := ["thing"]) X G a1 l1 c1 k1 (fun _ _ _ _ _ _ us hl => match us, hl with | [_], _ => rfl)
  have F_is_ground := funAt (ps := ["thing"]) X G a2 l2 c2 k2 (fun _ _ _ _ _ _ us hl => match us, hl with | [_], _ => rfl)
  have F_beside := funAt (ps := ["cell", "side"]) X G a3 l3 c3 k3 (fun _ _ _ _ _ _ us hl => match us, hl with | [_, _], _ => rfl)
  have F_are_rows := funAt (ps := ["thing"]) X G a4 l4 c4 k4 (fun _ _ _ _ _ _ us hl => match us, hl with | [_], _ => rfl)
  have F__law_cell_at := funAt (ps := ["_law_script", "_law_k"]) X G a5 l5 c5 k5 (fun _ _ _ _ _ _ us hl => match us, hl with | [_, _], _ => rfl)
  have F__law_said := funAt (ps := ["_law_rows_here", "_law_dock"]) X G a6 l6 c6 k6 (fun _ _ _ _ _ _ us hl => match us, hl with | [_, _], _ => rfl)
  have F__law_rows := funAt (ps := ["_law_cell", "_law_many", "_law_wide"]) X G a7 l7 c7 k7 (fun _ _ _ _ _ _ us hl => match us, hl with | [_, _, _], _ => rfl)
  have F__law_no_ground := funAt (ps := ["_law_cell"]) X G a8 l8 c8 k8 (fun _ _ _ _ _ _ us hl => match us, hl with | [_], _ => rfl)
  have F__law_spoilt := funAt (ps := ["_law_rows_here", "_law_dock", "_law_cell"]) X G a9 l9 c9 k9 (fun _ _ _ _ _ _ us hl => match us, hl with | [_, _, _], _ => rfl)
  have F__law_kept := funAt (ps := ["_law_rows_here"]) X G a10 l10 c10 k10 (fun _ _ _ _ _ _ us hl => match us, hl with | [_], _ => rfl)
  have F_law := fun_mk (st := topS 26) l11 c11 k11
  have b_ValueError := PySem.W.mg_none_of X G z_ValueError
  have b_all := PySem.W.mg_none_of X G z_all
  have b_bool := PySem.W.mg_none_of X G z_bool
  have b_int := PySem.W.mg_none_of X G z_int
  have b_isinstance := PySem.W.mg_none_of X G z_isinstance
  have b_len := PySem.W.mg_none_of X G z_len
  have b_list := PySem.W.mg_none_of X G z_list
  have b_range := PySem.W.mg_none_of X G z_range
  have b_tuple := PySem.W.mg_none_of X G z_tuple
  have g_SIDES : ConstAt K c mg "SIDES" _ := const_s4 (PySem.W.mg_of X G aS) lS
  have M : MovesAt K c w mg := moves_at (PySem.W.mg_of X G aM) lM kM aM0 aM1 aM2 aM3 lM0 lM1 lM2 lM3
  have g_MOST_GROUNDS : ConstAt K c mg "MOST_GROUNDS" (.int 2500) := ⟨_, .int 2500, PySem.W.mg_of X G aO, ⟨_, rfl⟩, fun B => .int _⟩
  have Z : Errs K mg C_BadFloor C_TooMany C_DustError := ⟨X_BadFloor, X_TooMany, m_DustError, y_BadFloor_DustError, y_TooMany_DustError, ck_x_BadFloor_BadFloor, ck_x_BadFloor_TooMany, ck_x_TooMany_BadFloor, ck_x_TooMany_TooMany, ⟨_, m_Clash, ck_x_BadFloor_Clash, ck_x_TooMany_Clash⟩, ⟨_, m_NoDock, ck_x_BadFloor_NoDock, ck_x_TooMany_NoDock⟩, ⟨_, m_NoRow, ck_x_BadFloor_NoRow, ck_x_TooMany_NoRow⟩, ⟨_, m_NoText, ck_x_BadFloor_NoText, ck_x_TooMany_NoText⟩, ck_x_BadFloor_ValueError, ck_x_TooMany_ValueError⟩
  refine ⟨PySem.W.fnOf "law" "law" (defArgs (topS 26)) (defBody (topS 26)) (defScope (topS 26)) .none kV11 dc11 pm11 an11 cd11 ct11, fun s v => .of_eq rfl, fun base _ _ => ?_⟩
  have D_cell_at := ok_cell_at (P := l.prog) (w := w) (base := base) (c := c) F__law_cell_at b_len
  have D_is_whole := ok_is_whole (P := l.prog) (w := w) (base := base) (c := c) F_is_whole b_isinstance b_int b_bool
  have D_is_pair := ok_is_pair (c := c) F_is_pair D_is_whole b_isinstance b_tuple b_len
  have D_is_ground := ok_is_ground (c := c) F_is_ground D_is_pair
  have D_are_rows := ok_are_rows (c := c) F_are_rows D_is_ground b_isinstance b_list b_len b_all
  have D_floor := new_floorX (c := c) C_BadFloor C_TooMany ⟨I_Floor⟩ T_Floor X_BadFloor X_TooMany D_are_rows D_is_pair g_MOST_GROUNDS b_len b_list
  have D_said := ok_said F__law_said Z D_floor b_isinstance b_len b_ValueError
  have D_lrows := ok_lrows (P := l.prog) (w := w) (base := base) (c := c) F__law_rows b_range
  have D_nog := ok_nog (P := l.prog) (w := w) (base := base) (c := c) F__law_no_ground b_len
  have D_kept := ok_kept (P := l.prog) (w := w) (base := base) (c := c) F__law_kept b_isinstance b_list
  have D_spoilt := ok_spoilt F__law_spoilt D_nog b_isinstance b_list b_tuple b_len
  exact law_imp (fn_law F_law D_cell_at D_lrows D_spoilt D_kept D_said D_nog b_range)
end Lw
open PySem PySem.W PyProof.Rows
set_option maxRecDepth 100000 in
set_option maxHeartbeats 0 in
theorem PySem.Challenge.cw_dustwalk_k03_floors_refused_holds : PySem.Challenge.rw_dustwalk_k03_floors_refused.Holds := by
  w_on; o_law; k_head; (case hw => w_witness2)
  k_fill
  refine Dw.law_walk (l := PySem.Challenge.rw_dustwalk_k03_floors_refused) (k := 8) (x := "_law_script") rfl rfl ⟨rfl, by decide, by decide⟩ (fun w h Y => PySem.W.kIn_of Y) ?F
  case F =>
    intro w mg fa h KX G hmg
    refine' Lw.all_mk KX G hmg ?a0 ?l0 ?c0 ?k0 ?a1 ?l1 ?c1 ?k1 ?a2 ?l2 ?c2 ?k2 ?a3 ?l3 ?c3 ?k3 ?a4 ?l4 ?c4 ?k4 ?a5 ?l5 ?c5 ?k5 ?a6 ?l6 ?c6 ?k6 ?a7 ?l7 ?c7 ?k7 ?a8 ?l8 ?c8 ?k8 ?a9 ?l9 ?c9 ?k9 ?a10 ?l10 ?c10 ?k10 ?a11 ?l11 ?c11 ?k11 ?z_ValueError ?z_all ?z_bool ?z_int ?z_isinstance ?z_len ?z_list ?z_range ?z_tuple ?aS ?lS ?aM ?lM ?kM ?aM0 ?aM1 ?aM2 ?aM3 ?lM0 ?lM1 ?lM2 ?lM3 ?aO ?aC_Floor ?pg_Floor ?hd_Floor ?po_Floor ?sa_Floor ?mk_Floor ?kc_Floor ?n_Floor_grid ?n_Floor_at ?a_Floor_init ?i_Floor_init ?l_Floor_init ?c_Floor_init ?k_Floor_init ?a_Floor_rows ?i_Floor_rows ?l_Floor_rows ?c_Floor_rows ?k_Floor_rows ?a_Floor_dock ?i_Floor_dock ?l_Floor_dock ?c_Floor_dock ?k_Floor_dock ?a_Floor_ground ?i_Floor_ground ?l_Floor_ground ?c_Floor_ground ?k_Floor_ground ?a_Floor_cells ?i_Floor_cells ?l_Floor_cells ?c_Floor_cells ?k_Floor_cells ?a_Floor_felt ?i_Floor_felt ?l_Floor_felt ?c_Floor_felt ?k_Floor_felt ?aC_DustError ?aC_BadFloor ?aC_TooMany ?aC_Clash ?aC_NoDock ?aC_NoText ?aC_NoRow ?xe_BadFloor ?xk_BadFloor ?xs_BadFloor ?xt_BadFloor ?xg_BadFloor ?xa_BadFloor ?xd_BadFloor ?xc_BadFloor ?xm_BadFloor ?xe_TooMany ?xk_TooMany ?xs_TooMany ?xt_TooMany ?xg_TooMany ?xa_TooMany ?xd_TooMany ?xc_TooMany ?xm_TooMany ?xn_ ?xo_ ?ys_DustError ?yd_DustError ?yt_DustError ?yx_BadFloor_DustError ?yx_TooMany_DustError ?ck_x_BadFloor_BadFloor ?ck_x_BadFloor_TooMany ?ck_x_BadFloor_Clash ?ck_x_BadFloor_NoDock ?ck_x_BadFloor_NoRow ?ck_x_BadFloor_NoText ?ck_x_BadFloor_ValueError ?ck_x_TooMany_BadFloor ?ck_x_TooMany_TooMany ?ck_x_TooMany_Clash ?ck_x_TooMany_NoDock ?ck_x_TooMany_NoRow ?ck_x_TooMany_NoText ?ck_x_TooMany_ValueError
    (case a0 => k_is)
    (case l0 => k_is)
    (case c0 => k_is)
    (case k0 => k_is)
    (case a1 => k_is)
    (case l1 => k_is)
    (case c1 => k_is)
    (case k1 => k_is)
    (case a2 => k_is)
    (case l2 => k_is)
    (case c2 => k_is)
    (case k2 => k_is)
    (case a3 => k_is)
    (case l3 => k_is)
    (case c3 => k_is)
    (case k3 => k_is)
    (case a4 => k_is)
    (case l4 => k_is)
    (case c4 => k_is)
    (case k4 => k_is)
    (case a5 => k_is)
    (case l5 => k_is)
    (case c5 => k_is)
    (case k5 => k_is)
    (case a6 => k_is)
    (case l6 => k_is)
    (case c6 => k_is)
    (case k6 => k_is)
    (case a7 => k_is)
    (case l7 => k_is)
    (case c7 => k_is)
    (case k7 => k_is)
    (case a8 => k_is)
    (case l8 => k_is)
    (case c8 => k_is)
    (case k8 => k_is)
    (case a9 => k_is)
    (case l9 => k_is)
    (case c9 => k_is)
    (case k9 => k_is)
    (case a10 => k_is)
    (case l10 => k_is)
    (case c10 => k_is)
    (case k10 => k_is)
    (case a11 => k_is)
    (case l11 => k_is)
    (case c11 => k_is)
    (case k11 => k_is)
    (case z_ValueError => k_is)
    (case z_all => k_is)
    (case z_bool => k_is)
    (case z_int => k_is)
    (case z_isinstance => k_is)
    (case z_len => k_is)
    (case z_list => k_is)
    (case z_range => k_is)
    (case z_tuple => k_is)
    (case aS => k_is)
    (case lS => k_is)
    (case aM => k_is)
    (case lM => k_is)
    (case kM => k_keys)
    (case aM0 => k_is)
    (case aM1 => k_is)
    (case aM2 => k_is)
    (case aM3 => k_is)
    (case lM0 => k_is)
    (case lM1 => k_is)
    (case lM2 => k_is)
    (case lM3 => k_is)
    (case aO => k_is)
    (case aC_Floor => k_is)
    (case pg_Floor => k_is)
    (case hd_Floor => k_is)
    (case po_Floor => k_is)
    (case sa_Floor => k_is)
    (case mk_Floor => k_is)
    (case kc_Floor => k_is)
    (case n_Floor_grid => k_is)
    (case n_Floor_at => k_is)
    (case a_Floor_init => k_is)
    (case i_Floor_init => k_is)
    (case l_Floor_init => k_is)
    (case c_Floor_init => k_is)
    (case k_Floor_init => k_is)
    (case a_Floor_rows => k_is)
    (case i_Floor_rows => k_is)
    (case l_Floor_rows => k_is)
    (case c_Floor_rows => k_is)
    (case k_Floor_rows => k_is)
    (case a_Floor_dock => k_is)
    (case i_Floor_dock => k_is)
    (case l_Floor_dock => k_is)
    (case c_Floor_dock => k_is)
    (case k_Floor_dock => k_is)
    (case a_Floor_ground => k_is)
    (case i_Floor_ground => k_is)
    (case l_Floor_ground => k_is)
    (case c_Floor_ground => k_is)
    (case k_Floor_ground => k_is)
    (case a_Floor_cells => k_is)
    (case i_Floor_cells => k_is)
    (case l_Floor_cells => k_is)
    (case c_Floor_cells => k_is)
    (case k_Floor_cells => k_is)
    (case a_Floor_felt => k_is)
    (case i_Floor_felt => k_is)
    (case l_Floor_felt => k_is)
    (case c_Floor_felt => k_is)
    (case k_Floor_felt => k_is)
    (case aC_DustError => k_is)
    (case aC_BadFloor => k_is)
    (case aC_TooMany => k_is)
    (case aC_Clash => k_is)
    (case aC_NoDock => k_is)
    (case aC_NoText => k_is)
    (case aC_NoRow => k_is)
    (case xe_BadFloor => k_exc)
    (case xk_BadFloor => k_is)
    (case xs_BadFloor => k_is)
    (case xt_BadFloor => k_is)
    (case xg_BadFloor => k_is)
    (case xa_BadFloor => k_is)
    (case xd_BadFloor => k_is)
    (case xc_BadFloor => k_is)
    (case xm_BadFloor => k_is)
    (case xe_TooMany => k_exc)
    (case xk_TooMany => k_is)
    (case xs_TooMany => k_is)
    (case xt_TooMany => k_is)
    (case xg_TooMany => k_is)
    (case xa_TooMany => k_is)
    (case xd_TooMany => k_is)
    (case xc_TooMany => k_is)
    (case xm_TooMany => k_is)
    (case xn_ => k_is)
    (case xo_ => k_is)
    (case ys_DustError => k_is)
    (case yd_DustError => k_is)
    (case yt_DustError => k_is)
    (case yx_BadFloor_DustError => k_is)
    (case yx_TooMany_DustError => k_is)
    (case ck_x_BadFloor_BadFloor => kit_is)
    (case ck_x_BadFloor_TooMany => kit_is)
    (case ck_x_BadFloor_Clash => kit_is)
    (case ck_x_BadFloor_NoDock => kit_is)
    (case ck_x_BadFloor_NoRow => kit_is)
    (case ck_x_BadFloor_NoText => kit_is)
    (case ck_x_BadFloor_ValueError => kit_is)
    (case ck_x_TooMany_BadFloor => kit_is)
    (case ck_x_TooMany_TooMany => kit_is)
    (case ck_x_TooMany_Clash => kit_is)
    (case ck_x_TooMany_NoDock => kit_is)
    (case ck_x_TooMany_NoRow => kit_is)
    (case ck_x_TooMany_NoText => kit_is)
    (case ck_x_TooMany_ValueError => kit_is)
#print axioms PySem.Challenge.cw_dustwalk_k03_floors_refused_holds
