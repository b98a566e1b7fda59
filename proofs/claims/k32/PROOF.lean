import PyProof.Rows.All
import HandS.Nested
import Wide.All
import OpenK.AllK
import Wide.FinOn
import HandS.ForMost
import HandS.IsInst
import HandS.Wide
import HandS.Flow
import HandS.ExcCtx
import HandS.Deep
import HandS.More
import HandS.EndBits
import HandS.ExcIs
import HandS.WordsExc
import HandS.HotCalls
import KE.KEqDict
import HandS.DictTup
import PyProof.DictMoreH
import HandS.Iter
import HandS.SortOrd
import HandS.Keys
import KE.KDictSum
import KE.KDictCopyH
import KE.KDictDisplayH
import KE.DataMinKey
import KE.KDictWalk
import KE.LtSeq
import KE.GoesZip
import KE.GoesMore
import KE.KTurns
import HandS.EndTab
import KE.KNestM
import PySem.Challenge.RW_dustwalk_k32_whole_never_stranded
set_option Elab.async false
set_option linter.all false
set_option maxRecDepth 100000
set_option maxHeartbeats 4000000
namespace Dw
open PySem
def nmG (l : Nat) (_ : Nat) : Str := if l = 45 then "least_of.<locals>.<lambda>" else "_law_costs.<locals>.<lambda>"
end Dw

namespace Dw
open PySem L2 PyProof.Rows
abbrev D := PyData
abbrev Sg := L2.St
/-- which class stands where; the tables of the defs that make lambdas -/
structure Cl where
  cls : Int → Option Addr
  tabs : List (Addr × Str) := []
instance : CoeFun Cl (fun _ => Int → Option Addr) := ⟨Cl.cls⟩

/-- no table of code objects -/
def nt : HO → Bool
  | .tbl _ => false
  | _ => true
/-- .. and no code object -/
def NT (u : HO) : Prop := (∀ ps, u ≠ .tbl ps) ∧ ∀ c q, u ≠ LamX.CodeO c q
theorem NT.nt {u : HO} (h : NT u) : nt u = true := by
  cases u <;> first | rfl | exact absurd rfl (h.1 _)
theorem nt_lst (xs : List V) : NT (.lst xs) := ⟨(fun _ z => nomatch z), fun _ _ z => by unfold LamX.CodeO at z; cases z⟩
theorem nt_ins (C dx : Addr) (fs : List (Str × V)) : NT (.ins C dx fs) := ⟨(fun _ z => nomatch z), fun _ _ z => by unfold LamX.CodeO at z; cases z⟩
theorem nt_own (x : Addr) : NT (.own x) := ⟨(fun _ z => nomatch z), fun _ _ z => by unfold LamX.CodeO at z; cases z⟩
/-- something stands there, and no code -/
def Nt (o : Option HO) : Prop := ∃ u, o = some u ∧ NT u
theorem Nt.ne {o : Option HO} (h : Nt o) : o ≠ none := by obtain ⟨u, rfl, _⟩ := h; exact fun z => nomatch z
theorem Nt.lst {H : Hp} {a : Addr} {xs : List V} (h : H a = some (.lst xs)) : Nt (H a) := ⟨_, h, nt_lst _⟩
/-- the table of code objects at P: each code object that it tells bears the name that its place has (q is not looked at) -/
def TabS (H : Hp) (P : Addr) (_ : Str) : Prop := NdefX.TabN H P nmG
def Tabs (T : List (Addr × Str)) (H : Hp) : Prop := ∀ p ∈ T, TabS H p.1 p.2
theorem TabS.ext {H H' : Hp} {P : Addr} {q : Str} (t : TabS H P q) (e : ∀ b o, H b = some o → H' b = some o) : TabS H' P q := NdefX.TabN.ext t e
theorem Tabs.ext {T : List (Addr × Str)} {H H' : Hp} (t : Tabs T H) (e : ∀ b o, H b = some o → H' b = some o) : Tabs T H' := fun p hp => (t p hp).ext e
/-- all is kept; tables may grow -/
structure Kp (H H' : Hp) : Prop where
  at' : ∀ a o, H a = some o → nt o = true → H' a = some o
  th : ∀ a, H a ≠ none → H' a ≠ none
  tb : ∀ P q, Dw.TabS H P q → Dw.TabS H' P q
section
variable {H H' H1 : Hp} {a p : Addr} {o u : HO} {xs : List V} {K : PySem.W.Frag}
theorem Kp.of (h : ∀ b o, H b = some o → H' b = some o) : Kp H H' := by
  refine ⟨fun a o q _ => h a o q, fun a q => ?_, fun P q t => t.ext h⟩
  cases z : H a with
  | none => exact absurd z q
  | some o => rw [h a o z]; exact fun z => nomatch z
theorem Same.kp (h : Same H H') : Kp H H' := .of h
theorem Kp.at (e : Kp H H') (q : H a = some o) (n : nt o = true := by rfl) : H' a = some o := e.at' a o q n
theorem Kp.refl (H : Hp) : Kp H H := .of fun _ _ h => h
theorem Kp.trans (e : Kp H H') (f : Kp H' H1) : Kp H H1 := ⟨fun a o q n => f.at' a o (e.at' a o q n) n, fun a q => f.th a (e.th a q), fun P q t => f.tb P q (e.tb P q t)⟩
theorem Kp.free (e : Kp H H') (h : H' a = none) : H a = none := by
  cases q : H a with
  | none => rfl
  | some o => exact absurd h (e.th a (by rw [q]; exact fun z => nomatch z))
theorem Kp.ne (e : Kp H H') (h : Nt (H a)) : H' a = H a := by
  obtain ⟨o, q, n⟩ := h
  rw [q]
  exact e.at q n.nt
theorem Kp.tabs (e : Kp H H') {T : List (Addr × Str)} (h : Dw.Tabs T H) : Dw.Tabs T H' := fun p hp => e.tb _ _ (h p hp)
theorem Kp.rd (e : Kp H H') (h : Rd H a o) (n : nt o = true := by rfl) : Rd H' a o := h.elim (fun q => .inl (e.at q n)) fun ⟨u, q⟩ => .inr ⟨u, e.at q⟩
theorem Kp.seq (e : Kp H H') (h : SqL K H a xs) : SqL K H' a xs := by
  rcases h with h | h
  · exact .inl (e.rd h)
  · exact .inr h
theorem Kp.tup (e : Kp H H') (h : SqT K H a xs) : SqT K H' a xs := by
  rcases h with h | h
  · exact .inl (e.rd h)
  · exact .inr h
theorem Same.ne {H H' : Hp} (e : Same H H') {a : Addr} (h : H a ≠ none) : H' a = H a := by
  cases q : H a with
  | none => exact absurd q h
  | some o => exact e a o q
theorem same_upd {H : Hp} {p : Addr} {o : HO} (h : H p = none) : Same H (upd H p o) := fun b u q => by
  rw [upd_ne (ne_of_none q h)]; exact q
/-- what is new since H is written -/
theorem Kp.over (e : Kp H H') (h : H p = none) (n : Nt (H' p)) : Kp H (upd H' p o) := by
  obtain ⟨u, hu, n1, n2⟩ := n
  refine ⟨fun a o q n => by rw [upd_ne (ne_of_none q h)]; exact e.at q n, fun a q => ?_, fun P q t => ?_⟩
  · rw [upd_ne (fun z => q (by rw [z]; exact h))]; exact e.th a q
  · obtain ⟨ps, h1, h2, h3⟩ := e.tb P q t
    refine ⟨ps, by rw [upd_ne (fun z => n1 ps (Option.some.inj (by rw [← hu, ← z]; exact h1)))]; exact h1, h2, fun pos cv hc => ?_⟩
    obtain ⟨c, e1, e2⟩ := h3 pos cv hc
    exact ⟨c, e1, by rw [upd_ne (fun z => n2 c _ (Option.some.inj (by rw [← hu, ← z]; exact e2)))]; exact e2⟩
end
structure Ext (B H B' H' : Hp) : Prop where
  b : Same B B'
  h : Kp H H'
  sub : Same B' H'
  new : ∀ a, B a = none → H a ≠ none → B' a = none
theorem Ext.refl {B H : Hp} (s : Same B H) : Ext B H B H := ⟨Same.refl _, Kp.refl _, s, fun _ h _ => h⟩
theorem TabS.ne {H : Hp} {P : Addr} {q : Str} (t : TabS H P q) : H P ≠ none := by obtain ⟨ps, h, _⟩ := t; rw [h]; exact fun z => nomatch z
/-- the tables, none of them kept in B -/
structure TabsB (T : List (Addr × Str)) (B H : Hp) : Prop where
  t : Tabs T H
  nb : ∀ p ∈ T, B p.1 = none
theorem TabsB.ext {T : List (Addr × Str)} {B H H' : Hp} (h : TabsB T B H) (e : ∀ b o, H b = some o → H' b = some o) : TabsB T B H' := ⟨h.t.ext e, h.nb⟩
theorem TabsB.re {T : List (Addr × Str)} {B B' H : Hp} (h : TabsB T B H) (g : ∀ a ps, H a = some (.tbl ps) → B a = none → B' a = none) : TabsB T B' H := ⟨h.t, fun p hp => by obtain ⟨ps, q, _⟩ := h.t p hp; exact g _ ps q (h.nb p hp)⟩
theorem Ext.tabs {T : List (Addr × Str)} {B H B' H' : Hp} (e : Ext B H B' H') (h : TabsB T B H) : TabsB T B' H' := ⟨e.h.tabs h.t, fun p hp => e.new _ (h.nb p hp) (h.t p hp).ne⟩
theorem Ext.trans {B H B1 H1 B2 H2 : Hp} (e : Ext B H B1 H1) (f : Ext B1 H1 B2 H2) : Ext B H B2 H2 :=
  ⟨e.b.trans f.b, e.h.trans f.h, f.sub, fun a h1 h2 => f.new a (e.new a h1 h2) (e.h.th a h2)⟩
theorem Ext.lay {B H : Hp} (s : Same B H) {p : Addr} (o : HO) (h : H p = none) : Ext B H (upd B p o) (upd H p o) := by
  have hb : B p = none := s.free h
  refine ⟨same_upd hb, Kp.of (same_upd h), fun b u q => ?_, fun a h1 h2 => ?_⟩
  · by_cases e : b = p
    · subst e; rw [upd_same] at q ⊢; exact q
    · rw [upd_ne e] at q ⊢; exact s b u q
  · by_cases e : a = p
    · subst e; exact absurd h h2
    · rw [upd_ne e]; exact h1
theorem Ext.layH {B H : Hp} (s : Same B H) {p : Addr} (o : HO) (h : H p = none) : Ext B H B (upd H p o) :=
  ⟨Same.refl _, Kp.of (same_upd h), s.trans (same_upd h), fun _ h _ => h⟩
/-- what is new and one's own is laid down for good -/
theorem Ext.freeze {B H B' H' : Hp} (e : Ext B H B' H') {p : Addr} {o : HO} (h : H p = none) (hb : B' p = none) (hp : H' p = some o) : Ext B H (upd B' p o) H' :=
  ⟨e.b.trans (same_upd hb), e.h, fun b u q => by
    by_cases z : b = p
    · subst z; rw [upd_same] at q; cases q; exact hp
    · rw [upd_ne z] at q; exact e.sub b u q, fun a h1 h2 => by
    by_cases z : a = p
    · subst z; exact absurd h h2
    · rw [upd_ne z]; exact e.new a h1 h2⟩

/-- a tuple that is laid for good, or an object of the module -/
def TupD (K : PySem.W.Frag) (B : Hp) (a : Addr) (xs : List V) : Prop :=
  B a = some (.tup xs) ∨ ∃ (o : Obj) (its : Array Value) (n : Nat), K.lookup a = some o ∧ o.cls = .type "tuple" ∧ o.data = .seq its n ∧ its.size ≤ sizeLine ∧ Vals xs its.toList
theorem TupD.sq {K : PySem.W.Frag} {B : Hp} {a : Addr} {xs : List V} (h : TupD K B a xs) : SqT K B a xs := h.imp Or.inl id
theorem Same.tupD {K : PySem.W.Frag} {H H' : Hp} {a : Addr} {xs : List V} (e : Same H H') (h : TupD K H a xs) : TupD K H' a xs := h.imp (e _ _) id
mutual
inductive Tp (K : PySem.W.Frag) (c : Cl) (B : Hp) : V → PyData → Prop
  | non : Tp K c B .non .none
  | bl (b : Bool) : Tp K c B (.bl b) (.bool b)
  | int (i : Int) : Tp K c B (.int i) (.int i)
  | str (x : Str) : Tp K c B (.str x) (.str x)
  | lst {a : Addr} {xs : List V} {ds : List PyData} : Rd B a (.lst xs) → TpAll K c B xs ds → Tp K c B (.ref a) (.list ds)
  | tup {a : Addr} {xs : List V} {ds : List PyData} : TupD K B a xs → TpAll K c B xs ds → Tp K c B (.ref a) (.tuple ds)
  | dct {a : Addr} : B a = some (.dK []) → Tp K c B (.ref a) (.dict [])
  | ob {x dx C : Addr} {n : Int} {fs : List (Str × V)} {kvs : List (PyData × PyData)} : B x = some (.ins C dx fs) → c n = some C → TpF K c B fs kvs → Tp K c B (.ref x) (.dict ((.int n, .none) :: kvs))
inductive TpAll (K : PySem.W.Frag) (c : Cl) (B : Hp) : List V → List PyData → Prop
  | nil : TpAll K c B [] []
  | cons {v : V} {vs : List V} {d : PyData} {ds : List PyData} : Tp K c B v d → TpAll K c B vs ds → TpAll K c B (v :: vs) (d :: ds)
inductive TpF (K : PySem.W.Frag) (c : Cl) (B : Hp) : List (Str × V) → List (PyData × PyData) → Prop
  | nil : TpF K c B [] []
  | cons {f : Str} {v : V} {fs : List (Str × V)} {d : PyData} {kvs : List (PyData × PyData)} : Tp K c B v d → TpF K c B fs kvs → TpF K c B ((f, v) :: fs) ((.str f, d) :: kvs)
end
section
variable {K : PySem.W.Frag} {c : Cl} {H H' : Hp}
theorem Same.tup {a : Addr} {xs : List V} (e : Same H H') (h : SqT K H a xs) : SqT K H' a xs := by
  rcases h with (h | ⟨o, h⟩) | h
  · exact .inl (.inl (e _ _ h))
  · exact .inl (.inr ⟨o, e _ _ h⟩)
  · exact .inr h
theorem Same.rd {a : Addr} {o : HO} (e : Same H H') (h : Rd H a o) : Rd H' a o := h.elim (fun q => .inl (e _ _ q)) fun ⟨u, q⟩ => .inr ⟨u, e _ _ q⟩
mutual
theorem Tp.mono (e : Same H H') : ∀ (d : PyData) (v : V), Tp K c H v d → Tp K c H' v d
  | .none, _, h => by cases h; exact .non
  | .bool b, _, h => by cases h; exact .bl b
  | .int i, _, h => by cases h; exact .int i
  | .str i, _, h => by cases h; exact .str i
  | .list ds, _, h => by
    cases h with
    | lst hs ha => exact .lst (Same.rd e hs) (TpAll.mono e ds _ ha)
  | .tuple ds, _, h => by
    cases h with
    | tup hs ha => exact .tup (Same.tupD e hs) (TpAll.mono e ds _ ha)
  | .dict kvs, _, h => by
    cases h with
    | dct hd => exact .dct (e _ _ hd)
    | ob hx hc hf => exact .ob (e _ _ hx) hc (TpF.mono e _ _ hf)
theorem TpAll.mono (e : Same H H') : ∀ (ds : List PyData) (vs : List V), TpAll K c H vs ds → TpAll K c H' vs ds
  | [], _, h => by cases h; exact .nil
  | d :: ds, _, h => by
    cases h with
    | cons h1 h2 => exact .cons (Tp.mono e d _ h1) (TpAll.mono e ds _ h2)
theorem TpF.mono (e : Same H H') : ∀ (ds : List (PyData × PyData)) (vs : List (Str × V)), TpF K c H vs ds → TpF K c H' vs ds
  | [], _, h => by cases h; exact .nil
  | (k, d) :: ds, _, h => by
    cases h with
    | cons h1 h2 => exact .cons (Tp.mono e d _ h1) (TpF.mono e ds _ h2)
end
theorem TpAll.length : ∀ {ds : List PyData} {vs : List V}, TpAll K c H vs ds → vs.length = ds.length
  | _, _, .nil => rfl
  | _, _, .cons _ h => by simp [TpAll.length h]
theorem TpAll.get : ∀ {ds : List PyData} {vs : List V} {i : Nat} {d : PyData}, TpAll K c H vs ds → ds[i]? = some d → ∃ v, vs[i]? = some v ∧ Tp K c H v d
  | _, _, _, _, .nil, h => by simp at h
  | _, _, 0, _, .cons h _, e => by simp at e; subst e; exact ⟨_, rfl, h⟩
  | _, _, i + 1, _, .cons _ h, e => by simpa using TpAll.get (i := i) h (by simpa using e)
theorem TpAll.getV : ∀ {ds : List PyData} {vs : List V} {i : Nat} {v : V}, TpAll K c H vs ds → vs[i]? = some v → ∃ d, ds[i]? = some d ∧ Tp K c H v d
  | _, _, _, _, .nil, h => by simp at h
  | _, _, 0, _, .cons h _, e => by simp at e; subst e; exact ⟨_, rfl, h⟩
  | _, _, i + 1, _, .cons _ h, e => by simpa using TpAll.getV (i := i) h (by simpa using e)
theorem TpAll.append : ∀ {ds es : List PyData} {vs us : List V}, TpAll K c H vs ds → TpAll K c H us es → TpAll K c H (vs ++ us) (ds ++ es)
  | _, _, _, _, .nil, h => h
  | _, _, _, _, .cons h t, u => .cons h (TpAll.append t u)
theorem TpAll.take : ∀ {ds : List PyData} {vs : List V} (n : Nat), TpAll K c H vs ds → TpAll K c H (vs.take n) (ds.take n)
  | _, _, 0, _ => .nil
  | _, _, _ + 1, .nil => .nil
  | _, _, n + 1, .cons h t => .cons h (TpAll.take n t)
theorem TpAll.drop : ∀ {ds : List PyData} {vs : List V} (n : Nat), TpAll K c H vs ds → TpAll K c H (vs.drop n) (ds.drop n)
  | _, _, 0, r => r
  | _, _, _ + 1, .nil => .nil
  | _, _, n + 1, .cons _ t => TpAll.drop n t
theorem TpAll.set : ∀ {ds : List PyData} {vs : List V} {d : PyData} {v : V} (n : Nat), TpAll K c H vs ds → Tp K c H v d → TpAll K c H (vs.set n v) (ds.set n d)
  | _, _, _, _, _, .nil, _ => .nil
  | _, _, _, _, 0, .cons _ t, h => .cons h t
  | _, _, _, _, n + 1, .cons h t, r => .cons h (TpAll.set n t r)
mutual
theorem Tp.dp : ∀ (d : PyData) (v : V), Tp K c H v d → d.canLay0 = true → Dp K H v d
  | .none, _, h, _ => by cases h; exact .non
  | .bool b, _, h, _ => by cases h; exact .bl b
  | .int i, _, h, _ => by cases h; exact .int i
  | .str i, _, h, _ => by cases h; exact .str i
  | .list ds, _, h, s => by
    cases h with
    | lst hs ha => exact .lst (.inl hs) (TpAll.dp ds _ ha (by simpa [PyData.canLay0] using s))
  | .tuple ds, _, h, s => by
    cases h with
    | tup hs ha => exact .tup hs.sq (TpAll.dp ds _ ha (by simpa [PyData.canLay0] using s))
  | .dict kvs, _, h, s => by simp [PyData.canLay0] at s
theorem TpAll.dp : ∀ (ds : List PyData) (vs : List V), TpAll K c H vs ds → PyData.canLayAll0 ds = true → DpAll K H vs ds
  | [], _, h, _ => by cases h; exact .nil
  | d :: ds, _, h, s => by
    cases h with
    | cons h1 h2 =>
      have s' : d.canLay0 = true ∧ PyData.canLayAll0 ds = true := by simpa [PyData.canLayAll0] using s
      exact .cons (Tp.dp d _ h1 s'.1) (TpAll.dp ds _ h2 s'.2)
end
end
mutual
inductive Tm (K : PySem.W.Frag) (c : Cl) (Z B : Hp) : V → PyData → Prop
  | of {v : V} {d : PyData} : Tp K c B v d → Tm K c Z B v d
  | lst {a : Addr} {xs : List V} {ds : List PyData} : SqL K Z a xs → TmAll K c Z B xs ds → Tm K c Z B (.ref a) (.list ds)
inductive TmAll (K : PySem.W.Frag) (c : Cl) (Z B : Hp) : List V → List PyData → Prop
  | nil : TmAll K c Z B [] []
  | cons {v : V} {vs : List V} {d : PyData} {ds : List PyData} : Tm K c Z B v d → TmAll K c Z B vs ds → TmAll K c Z B (v :: vs) (d :: ds)
end
section
variable {K : PySem.W.Frag} {c : Cl} {Z Z' B B' : Hp}
mutual
theorem Tm.mono (z : Kp Z Z') (e : Same B B') : ∀ (d : PyData) (v : V), Tm K c Z B v d → Tm K c Z' B' v d
  | .list ds, _, h => by
    cases h with
    | of h => exact .of (Tp.mono e _ _ h)
    | lst hs ha => exact .lst (z.seq hs) (TmAll.mono z e ds _ ha)
  | .none, _, h => by cases h with | of h => exact .of (Tp.mono e _ _ h)
  | .bool _, _, h => by cases h with | of h => exact .of (Tp.mono e _ _ h)
  | .int _, _, h => by cases h with | of h => exact .of (Tp.mono e _ _ h)
  | .str _, _, h => by cases h with | of h => exact .of (Tp.mono e _ _ h)
  | .tuple _, _, h => by cases h with | of h => exact .of (Tp.mono e _ _ h)
  | .dict _, _, h => by cases h with | of h => exact .of (Tp.mono e _ _ h)
theorem TmAll.mono (z : Kp Z Z') (e : Same B B') : ∀ (ds : List PyData) (vs : List V), TmAll K c Z B vs ds → TmAll K c Z' B' vs ds
  | [], _, h => by cases h; exact .nil
  | d :: ds, _, h => by
    cases h with
    | cons h1 h2 => exact .cons (Tm.mono z e d _ h1) (TmAll.mono z e ds _ h2)
end
mutual
theorem Tm.dpn (s : Same B Z) : ∀ (d : PyData) (v : V), Tm K c Z B v d → d.canLay0 = true → Dp K Z v d
  | .list ds, _, h, l => by
    cases h with
    | of h => exact Tp.dp _ _ (Tp.mono s _ _ h) l
    | lst hs ha => exact .lst hs (TmAll.dpn s ds _ ha (by simpa [PyData.canLay0] using l))
  | .none, _, h, l => by cases h with | of h => exact Tp.dp _ _ (Tp.mono s _ _ h) l
  | .bool _, _, h, l => by cases h with | of h => exact Tp.dp _ _ (Tp.mono s _ _ h) l
  | .int _, _, h, l => by cases h with | of h => exact Tp.dp _ _ (Tp.mono s _ _ h) l
  | .str _, _, h, l => by cases h with | of h => exact Tp.dp _ _ (Tp.mono s _ _ h) l
  | .tuple _, _, h, l => by cases h with | of h => exact Tp.dp _ _ (Tp.mono s _ _ h) l
  | .dict _, _, h, l => by cases h with | of h => exact Tp.dp _ _ (Tp.mono s _ _ h) l
theorem TmAll.dpn (s : Same B Z) : ∀ (ds : List PyData) (vs : List V), TmAll K c Z B vs ds → PyData.canLayAll0 ds = true → DpAll K Z vs ds
  | [], _, h, _ => by cases h; exact .nil
  | d :: ds, _, h, l => by
    have l' : d.canLay0 = true ∧ PyData.canLayAll0 ds = true := by simpa [PyData.canLayAll0] using l
    cases h with
    | cons h1 h2 => exact .cons (Tm.dpn s d _ h1 l'.1) (TmAll.dpn s ds _ h2 l'.2)
end
theorem TmAll.of : ∀ {ds : List PyData} {vs : List V}, TpAll K c B vs ds → TmAll K c Z B vs ds
  | _, _, .nil => .nil
  | _, _, .cons h t => .cons (.of h) (TmAll.of t)
theorem TmAll.length : ∀ {ds : List PyData} {vs : List V}, TmAll K c Z B vs ds → vs.length = ds.length
  | _, _, .nil => rfl
  | _, _, .cons _ h => by simp [TmAll.length h]
theorem TmAll.get : ∀ {ds : List PyData} {vs : List V} {i : Nat} {d : PyData}, TmAll K c Z B vs ds → ds[i]? = some d → ∃ v, vs[i]? = some v ∧ Tm K c Z B v d
  | _, _, _, _, .nil, h => by simp at h
  | _, _, 0, _, .cons h _, e => by simp at e; subst e; exact ⟨_, rfl, h⟩
  | _, _, i + 1, _, .cons _ h, e => by simpa using TmAll.get (i := i) h (by simpa using e)
theorem TmAll.getV : ∀ {ds : List PyData} {vs : List V} {i : Nat} {v : V}, TmAll K c Z B vs ds → vs[i]? = some v → ∃ d, ds[i]? = some d ∧ Tm K c Z B v d
  | _, _, _, _, .nil, h => by simp at h
  | _, _, 0, _, .cons h _, e => by simp at e; subst e; exact ⟨_, rfl, h⟩
  | _, _, i + 1, _, .cons _ h, e => by simpa using TmAll.getV (i := i) h (by simpa using e)
/-- a list, however it lies -/
theorem Tm.seq (s : Same B Z) {v : V} {ds : List PyData} (h : Tm K c Z B v (.list ds)) : ∃ a xs, v = .ref a ∧ SqL K Z a xs ∧ TmAll K c Z B xs ds := by
  cases h with
  | of h =>
    cases h with
    | lst hs ha => exact ⟨_, _, rfl, .inl (Same.rd s hs), TmAll.of ha⟩
  | lst hs ha => exact ⟨_, _, rfl, hs, ha⟩
/-- no list at the top: it may be kept -/
def nolist : PyData → Bool
  | .list _ => false
  | _ => true
theorem Tm.kept {v : V} {d : PyData} (h : Tm K c Z B v d) (n : nolist d = true) : Tp K c B v d := by
  cases h with
  | of h => exact h
  | lst _ _ => cases n
end

structure Slot (K : PySem.W.Frag) (c : Cl) where
  /-- handed in, and to be changed here -/
  par : Bool
  P : Hp → Hp → Hp → V → List Addr → Prop
  stb : ∀ {Z B H B' H' : Hp} {v : V} {fp : List Addr}, P Z B H v fp → Same B B' → (∀ a ∈ fp, B' a = none) → (∀ a ∈ fp, H' a = H a) → P Z B' H' v fp
  dom : ∀ {Z B H : Hp} {v : V} {fp : List Addr}, P Z B H v fp → ∀ a ∈ fp, B a = none ∧ Nt (H a)
section
variable {K : PySem.W.Frag} {c : Cl}
/-- plain data that may be kept -/
def sd (d : D) : Slot K c where
  par := false
  P := fun _ B _ v fp => fp = [] ∧ Tp K c B v d
  stb := fun ⟨h1, h3⟩ e _ _ => ⟨h1, Tp.mono e _ _ h3⟩
  dom := fun ⟨h1, _⟩ a h => absurd (h1 ▸ h) (List.not_mem_nil)
/-- data that is only read here -/
def sb (d : D) : Slot K c where
  par := false
  P := fun Z B _ v fp => fp = [] ∧ Tm K c Z B v d
  stb := fun ⟨h1, h3⟩ e _ _ => ⟨h1, Tm.mono (Kp.refl _) e _ _ h3⟩
  dom := fun ⟨h1, _⟩ a h => absurd (h1 ▸ h) (List.not_mem_nil)
/-- a list of one's own, its items plain data -/
def so (ds : List D) (par : Bool := false) : Slot K c where
  par := par
  P := fun _ B H v fp => ∃ p vs, v = .ref p ∧ fp = [p] ∧ B p = none ∧ H p = some (.lst vs) ∧ TpAll K c B vs ds
  stb := fun ⟨p, vs, h0, h1, h3, h4, h5⟩ e f g => ⟨p, vs, h0, h1, f p (by rw [h1]; exact List.mem_cons_self), by rw [g p (by rw [h1]; exact List.mem_cons_self)]; exact h4, TpAll.mono e _ _ h5⟩
  dom := fun ⟨p, vs, h0, h1, h3, h4, h5⟩ a h => by
    have e : a = p := List.mem_singleton.mp (h1 ▸ h)
    subst e
    exact ⟨h3, .lst h4⟩
end
abbrev Env (K : PySem.W.Frag) (c : Cl) := List (Option (Slot K c))
/-- what an expression may lean on -/
structure EnvE {K : PySem.W.Frag} {c : Cl} (G : Env K c) (Z B H : Hp) (σ : Sg) : Prop where
  sub : Same B H
  z : Kp Z H
  tb : Dw.TabsB c.tabs B H
  sl : ∀ (i : Nat) (s : Slot K c), G[i]? = some (some s) → ∃ v fp, σ[i]? = some (some v) ∧ s.P Z B H v fp
theorem EnvE.ext {K : PySem.W.Frag} {c : Cl} {G : Env K c} {Z B H B' H' : Hp} {σ : Sg} (h : EnvE G Z B H σ) (e : Ext B H B' H') : EnvE G Z B' H' σ :=
  ⟨e.sub, h.z.trans e.h, e.tabs h.tb, fun i s q => by
    obtain ⟨v, fp, h1, h2⟩ := h.sl i s q
    have d1 := s.dom h2
    exact ⟨v, fp, h1, s.stb h2 e.b (fun a ha => e.new a (d1 a ha).1 (d1 a ha).2.ne) fun a ha => e.h.ne (d1 a ha).2⟩⟩

/-- what is wanted of a value that is plain data -/
def Gv (K : PySem.W.Frag) (c : Cl) (B H : Hp) (d : D) (Q : VK) : Prop := ∀ v B' H', Ext B H B' H' → Tp K c B' v d → Q v H'
/-- .. of what is new and one's own -/
def Gs (K : PySem.W.Frag) (c : Cl) (B H : Hp) (s : Slot K c) (Q : VK) : Prop := ∀ v B' H' fp, Ext B H B' H' → (∀ Z, s.P Z B' H' v fp) → (∀ a ∈ fp, H a = none) → Q v H'
section
variable {c : Cl}
/-- it is data that may be kept -/
def DE (X : Cx) (G : Env X.K c) (e : Expr) (d : D) : Prop :=
  ∃ t, PE X e t ∧ ∀ Z B H σ Q, EnvE G Z B H σ → Gv X.K c B H d Q → t σ H Q
/-- it is data, to be read -/
def DR (X : Cx) (G : Env X.K c) (e : Expr) (d : D) : Prop :=
  ∃ t, PE X e t ∧ ∀ Z B H σ Q, EnvE G Z B H σ → (∀ v B' H', Ext B H B' H' → Tm X.K c H' B' v d → Q v H') → t σ H Q
/-- it is new -/
def DX (X : Cx) (G : Env X.K c) (e : Expr) (s : Slot X.K c) : Prop :=
  ∃ t, PE X e t ∧ ∀ Z B H σ Q, EnvE G Z B H σ → Gs X.K c B H s Q → t σ H Q
/-- as an argument: s is what the callee may lean on -/
def DA (X : Cx) (G : Env X.K c) (e : Expr) (s : Slot X.K c) : Prop :=
  ∃ t, PE X e t ∧ ∀ Z B H σ Q, EnvE G Z B H σ → (∀ v B' H', Ext B H B' H' → s.P H' B' H' v [] → (∀ B2 H2, Ext B' H' B2 H2 → s.P H2 B2 H2 v []) → Q v H') → t σ H Q
def DT (X : Cx) (G : Env X.K c) (e : Expr) (b : Bool) : Prop :=
  ∃ t, PT X e t ∧ ∀ Z B H σ Q, EnvE G Z B H σ → (∀ B' H', Ext B H B' H' → Q b H') → t σ H Q
def DW (X : Cx) (G : Env X.K c) (e : Expr) (b : Bool) : Prop :=
  ∃ t, PW X e t ∧ ∀ Z B H σ Q, EnvE G Z B H σ → (∀ B' H', Ext B H B' H' → Q b H') → t σ H Q
def DEs (X : Cx) (G : Env X.K c) (es : List Expr) (ds : List D) : Prop :=
  ∃ t, PA X es t ∧ ∀ Z B H σ Q, EnvE G Z B H σ → (∀ vs B' H', Ext B H B' H' → TpAll X.K c B' vs ds → Q vs H') → t σ H Q
def DRs (X : Cx) (G : Env X.K c) (es : List Expr) (ds : List D) : Prop :=
  ∃ t, PA X es t ∧ ∀ Z B H σ Q, EnvE G Z B H σ → (∀ vs B' H', Ext B H B' H' → TmAll X.K c H' B' vs ds → Q vs H') → t σ H Q
inductive SlAll {K : PySem.W.Frag} (Z B H : Hp) : List V → List (Slot K c) → Prop
  | nil : SlAll Z B H [] []
  | cons {v : V} {vs : List V} {s : Slot K c} {ss : List (Slot K c)} : s.P Z B H v [] → SlAll Z B H vs ss → SlAll Z B H (v :: vs) (s :: ss)
def DAs (X : Cx) (G : Env X.K c) (es : List Expr) (ss : List (Slot X.K c)) : Prop :=
  ∃ t, PA X es t ∧ ∀ Z B H σ Q, EnvE G Z B H σ → (∀ vs B' H', Ext B H B' H' → SlAll H' B' H' vs ss → Q vs H') → t σ H Q
/-- an operation of two data that are read; its value is kept -/
def OpD (c : Cl) (X : Cx) (f : Value → Value → Sem Value) (d1 d2 d : D) : Prop :=
  ∃ r, OpR X f r ∧ ∀ B H x y Q, Same B H → Tm X.K c H B x d1 → Tm X.K c H B y d2 → Gv X.K c B H d Q → r x y H Q
/-- .. of kept ones -/
def OpB (c : Cl) (X : Cx) (f : Value → Value → Sem Value) (d1 d2 d : D) : Prop :=
  ∃ r, OpR X f r ∧ ∀ B H x y Q, Same B H → Tp X.K c B x d1 → Tp X.K c B y d2 → Gv X.K c B H d Q → r x y H Q
def UnD (c : Cl) (X : Cx) (f : Value → Sem Value) (d1 d : D) : Prop :=
  ∃ r, UnR X f r ∧ ∀ B H x Q, Same B H → Tm X.K c H B x d1 → Gv X.K c B H d Q → r x H Q
def CallD (c : Cl) (X : Cx) (f : Value) (ds : List D) (d : D) : Prop :=
  ∃ r, CallR X f r ∧ ∀ B H xs Q, Same B H → TmAll X.K c H B xs ds → Gv X.K c B H d Q → r xs H Q
def CallB (c : Cl) (X : Cx) (f : Value) (ds : List D) (s : Slot X.K c) : Prop :=
  ∃ r, CallR X f r ∧ ∀ B H xs Q, Same B H → TpAll X.K c B xs ds → Gs X.K c B H s Q → r xs H Q
/-- an item: it lies as its whole does -/
def IxD (c : Cl) (X : Cx) (d1 d2 d : D) : Prop :=
  ∃ r, IxR X r ∧ ∀ Z B H x y Q, Same B H → Kp Z H → Tm X.K c Z B x d1 → Tm X.K c Z B y d2 → (∀ v, Tm X.K c Z B v d → Q v H) → r x y H Q
/-- it is data that stands still -/
def DZ (X : Cx) (G : Env X.K c) (e : Expr) (d : D) : Prop :=
  ∃ t, PE X e t ∧ ∀ Z B H σ Q, EnvE G Z B H σ → (∀ v B' H', Ext B H B' H' → Tm X.K c Z B' v d → Q v H') → t σ H Q

variable {X : Cx} {G : Env X.K c} {a b e f : Expr} {es : List Expr} {ds : List D} {pos : Pos} {d d1 d2 d3 : D} {x : Str} {i : Nat}
theorem gv_of {K : PySem.W.Frag} {B H : Hp} {d : D} {Q : VK} (s : Same B H) (g : Gv K c B H d Q) {v : V} (h : Tp K c B v d) : Q v H := g v B H (Ext.refl s) h

theorem DE.dz (h : DE X G e d) : DZ X G e d := by
  obtain ⟨t, p, r⟩ := h
  exact ⟨t, p, fun Z B H σ Q E g => r Z B H σ Q E fun v B' H' e h => g v B' H' e (.of h)⟩
theorem DZ.dr (h : DZ X G e d) : DR X G e d := by
  obtain ⟨t, p, r⟩ := h
  exact ⟨t, p, fun Z B H σ Q E g => r Z B H σ Q E fun v B' H' e h => g v B' H' e (Tm.mono (E.z.trans e.h) (Same.refl _) _ _ h)⟩
theorem DE.dr (h : DE X G e d) : DR X G e d := by
  obtain ⟨t, p, r⟩ := h
  exact ⟨t, p, fun Z B H σ Q E g => r Z B H σ Q E fun v B' H' e h => g v B' H' e (.of h)⟩
theorem DR.de (h : DR X G e d) (n : nolist d = true := by rfl) : DE X G e d := by
  obtain ⟨t, p, r⟩ := h
  exact ⟨t, p, fun Z B H σ Q E g => r Z B H σ Q E fun v B' H' e h => g v B' H' e (h.kept n)⟩
theorem DE.dx (h : DE X G e d) : DX X G e (sd d) := by
  obtain ⟨t, p, r⟩ := h
  exact ⟨t, p, fun Z B H σ Q E g => r Z B H σ Q E fun v B' H' e h => g v B' H' [] e (fun _ => ⟨rfl, h⟩) fun a z => absurd z List.not_mem_nil⟩
theorem DX.de (h : DX X G e (sd d)) : DE X G e d := by
  obtain ⟨t, p, r⟩ := h
  exact ⟨t, p, fun Z B H σ Q E g => r Z B H σ Q E fun v B' H' fp e h _ => g v B' H' e (h B).2⟩
/-- a new list laid down for good -/
theorem DX.frozen (h : DX X G e (so ds)) : DE X G e (.list ds) := by
  obtain ⟨t, p, r⟩ := h
  refine ⟨t, p, fun Z B H σ Q E g => r Z B H σ Q E fun v B' H' fp e h hf => ?_⟩
  obtain ⟨q, vs, h0, h1, h3, h4, h5⟩ := h B
  subst h0
  have hq := hf q (by rw [h1]; exact List.mem_cons_self)
  have e2 := e.freeze hq h3 h4
  exact g _ (upd B' q (.lst vs)) H' e2 (.lst (Rd.of upd_same) (TpAll.mono (same_upd h3) _ _ h5))
theorem DE.da (h : DE X G e d) : DA X G e (sd d) := by
  obtain ⟨t, p, r⟩ := h
  exact ⟨t, p, fun Z B H σ Q E g => r Z B H σ Q E fun v B' H' e h => g v B' H' e ⟨rfl, h⟩ fun B2 H2 e2 => ⟨rfl, Tp.mono e2.b _ _ h⟩⟩
theorem DR.da (h : DR X G e d) : DA X G e (sb d) := by
  obtain ⟨t, p, r⟩ := h
  exact ⟨t, p, fun Z B H σ Q E g => r Z B H σ Q E fun v B' H' e h => g v B' H' e ⟨rfl, h⟩ fun B2 H2 e2 => ⟨rfl, Tm.mono e2.h e2.b _ _ h⟩⟩

theorem de_name (i : Nat) {d : D} (hG : G[i]? = some (some (sd d)) := by rfl) (hN : X.N[i]? = some x := by rfl)
    (hv : Vis X.env.scope x := by first | exact Or.inl rfl | exact Or.inr (Or.inl rfl) | exact Or.inr (Or.inr rfl)) (hd : (x == ("__debug__" : Str)) = false := by decide)
    (hcd : (x == ("__classdict__" : Str)) = false := by decide) : DE X G (.Name x pos) d :=
  ⟨_, pv i hN hv hd hcd, fun Z B H σ Q E g => by
    obtain ⟨v, fp, h1, _, h3⟩ := E.sl i _ hG
    exact ⟨v, h1, gv_of E.sub g h3⟩⟩
theorem dz_name (i : Nat) {d : D} (hG : G[i]? = some (some (sb d)) := by rfl) (hN : X.N[i]? = some x := by rfl)
    (hv : Vis X.env.scope x := by first | exact Or.inl rfl | exact Or.inr (Or.inl rfl) | exact Or.inr (Or.inr rfl)) (hd : (x == ("__debug__" : Str)) = false := by decide)
    (hcd : (x == ("__classdict__" : Str)) = false := by decide) : DZ X G (.Name x pos) d :=
  ⟨_, pv i hN hv hd hcd, fun Z B H σ Q E g => by
    obtain ⟨v, fp, h1, _, h3⟩ := E.sl i _ hG
    exact ⟨v, h1, g v B H (Ext.refl E.sub) h3⟩⟩
theorem dr_nameO (i : Nat) {ds : List D} {par : Bool} (hG : G[i]? = some (some (so ds par)) := by rfl) (hN : X.N[i]? = some x := by rfl)
    (hv : Vis X.env.scope x := by first | exact Or.inl rfl | exact Or.inr (Or.inl rfl) | exact Or.inr (Or.inr rfl)) (hd : (x == ("__debug__" : Str)) = false := by decide)
    (hcd : (x == ("__classdict__" : Str)) = false := by decide) : DR X G (.Name x pos) (.list ds) :=
  ⟨_, pv i hN hv hd hcd, fun Z B H σ Q E g => by
    obtain ⟨v, fp, h1, p, vs, h0, _, h3, h4, h5⟩ := E.sl i _ hG
    exact ⟨v, h1, g v B H (Ext.refl E.sub) (by rw [h0]; exact .lst (SqL.of h4) (TmAll.of h5))⟩⟩
theorem de_int {z : Int} {j} : DE X G (.Constant (.int z) j pos) (.int z) := ⟨_, pe_int, fun Z B H σ Q E g => gv_of E.sub g (.int z)⟩
theorem de_bl {z : Bool} {j} : DE X G (.Constant (.bool z) j pos) (.bool z) := ⟨_, pe_bl, fun Z B H σ Q E g => gv_of E.sub g (.bl z)⟩
theorem de_non {j} : DE X G (.Constant .none j pos) .none := ⟨_, pe_non, fun Z B H σ Q E g => gv_of E.sub g .non⟩
theorem de_str {z : Str} {j} : DE X G (.Constant (.str z) j pos) (.str z) := ⟨_, pe_str, fun Z B H σ Q E g => gv_of E.sub g (.str z)⟩
/-- a constant of the module -/
theorem de_glob {u : Value} {v : V} (hg : Gl X x) (hm : X.mg x = some u) (r : RelV v u) (h : ∀ B, Tp X.K c B v d) (hd : (x == ("__debug__" : Str)) = false := by decide) : DE X G (.Name x pos) d :=
  ⟨_, pe_glob hg hm r hd, fun Z B H σ Q E g => gv_of E.sub g (h B)⟩

theorem de_bin {op : Operator} (ha : DR X G a d1) (hb : DR X G b d2) (ho : OpD c X (binaryOp op) d1 d2 d) : DE X G (.BinOp a op b pos) d := by
  obtain ⟨ta, pa, ra⟩ := ha
  obtain ⟨tb, pb, rb⟩ := hb
  obtain ⟨r, hr, q⟩ := ho
  refine ⟨_, pe_op hr pa pb, fun Z B H σ Q E g => ?_⟩
  refine ra Z B H σ _ E fun v B1 H1 e1 h1 => rb Z B1 H1 σ _ (E.ext e1) fun u B2 H2 e2 h2 => ?_
  exact q B2 H2 v u Q e2.sub (Tm.mono e2.h e2.b _ _ h1) h2 fun w B3 H3 e3 h3 => g w B3 H3 ((e1.trans e2).trans e3) h3
theorem de_un {op : UnaryOp} (ha : DR X G a d1) (ho : UnD c X (unaryOp op) d1 d) : DE X G (.UnaryOp op a pos) d := by
  obtain ⟨ta, pa, ra⟩ := ha
  obtain ⟨r, hr, q⟩ := ho
  refine ⟨_, pe_un hr pa, fun Z B H σ Q E g => ?_⟩
  exact ra Z B H σ _ E fun v B1 H1 e1 h1 => q B1 H1 v Q e1.sub h1 fun w B3 H3 e3 h3 => g w B3 H3 (e1.trans e3) h3
theorem de_cmp {op : CmpOp} (ha : DR X G a d1) (hb : DR X G b d2) (ho : OpD c X (compareOp op) d1 d2 d) (hm : behindInMarks op b = false := by first | exact nomark _ (by decide) (by decide) | rfl) : DE X G (.Compare a [op] [b] pos) d := by
  obtain ⟨ta, pa, ra⟩ := ha
  obtain ⟨tb, pb, rb⟩ := hb
  obtain ⟨r, hr, q⟩ := ho
  refine ⟨_, pe_cmpR hr pa pb hm, fun Z B H σ Q E g => ?_⟩
  refine ra Z B H σ _ E fun v B1 H1 e1 h1 => rb Z B1 H1 σ _ (E.ext e1) fun u B2 H2 e2 h2 => ?_
  exact q B2 H2 v u Q e2.sub (Tm.mono e2.h e2.b _ _ h1) h2 fun w B3 H3 e3 h3 => g w B3 H3 ((e1.trans e2).trans e3) h3
theorem dt_cmp {op : CmpOp} {k : Bool} (ha : DR X G a d1) (hb : DR X G b d2) (ho : OpD c X (compareOp op) d1 d2 (.bool k)) (hm : behindInMarks op b = false := by first | exact nomark _ (by decide) (by decide) | rfl) : DT X G (.Compare a [op] [b] pos) k := by
  obtain ⟨ta, pa, ra⟩ := ha
  obtain ⟨tb, pb, rb⟩ := hb
  obtain ⟨r, hr, q⟩ := ho
  refine ⟨_, pt_cmpR hr pa pb hm, fun Z B H σ Q E g => ?_⟩
  refine ra Z B H σ _ E fun v B1 H1 e1 h1 => rb Z B1 H1 σ _ (E.ext e1) fun u B2 H2 e2 h2 => ?_
  refine q B2 H2 v u _ e2.sub (Tm.mono e2.h e2.b _ _ h1) h2 fun w B3 H3 e3 h3 => ?_
  cases h3
  exact ⟨k, rfl, g B3 H3 ((e1.trans e2).trans e3)⟩
theorem pe_never {X : Cx} {e : Expr} : PE X e (fun _ _ _ => False) := ⟨fun _ _ _ _ _ _ h => False.elim h⟩
theorem pw_never {X : Cx} {e : Expr} : PW X e (fun _ _ _ => False) := ⟨fun _ _ _ _ _ _ _ h => False.elim h⟩
theorem pt_never {X : Cx} {e : Expr} : PT X e (fun _ _ _ => False) := ⟨fun _ _ _ _ _ _ h => False.elim h⟩
theorem opr_never {X : Cx} {f : Value → Value → Sem Value} : OpR X f (fun _ _ _ _ => False) := fun _ _ _ _ _ _ _ _ _ _ _ _ h => False.elim h
/-- a reading that is only asked where p holds -/
theorem DE.ifp {p : Prop} (h : p → DE X G e d) : ∃ t, PE X e t ∧ (p → ∀ Z B H σ Q, EnvE G Z B H σ → Gv X.K c B H d Q → t σ H Q) := by
  by_cases hp : p
  · obtain ⟨t, a, b⟩ := h hp
    exact ⟨t, a, fun _ => b⟩
  · exact ⟨_, pe_never, fun q => absurd q hp⟩
theorem DR.ifp {p : Prop} (h : p → DR X G e d) : ∃ t, PE X e t ∧ (p → ∀ Z B H σ Q, EnvE G Z B H σ → (∀ v B' H', Ext B H B' H' → Tm X.K c H' B' v d → Q v H') → t σ H Q) := by
  by_cases hp : p
  · obtain ⟨t, a, b⟩ := h hp
    exact ⟨t, a, fun _ => b⟩
  · exact ⟨_, pe_never, fun q => absurd q hp⟩
theorem DW.ifp {p : Prop} {k : Bool} (h : p → DW X G e k) : ∃ t, PW X e t ∧ (p → ∀ Z B H σ Q, EnvE G Z B H σ → (∀ B' H', Ext B H B' H' → Q k H') → t σ H Q) := by
  by_cases hp : p
  · obtain ⟨t, a, b⟩ := h hp
    exact ⟨t, a, fun _ => b⟩
  · exact ⟨_, pw_never, fun q => absurd q hp⟩
theorem OpD.ifp {p : Prop} {f : Value → Value → Sem Value} (h : p → OpD c X f d1 d2 d) : ∃ r, OpR X f r ∧ (p → ∀ B H x y Q, Same B H → Tm X.K c H B x d1 → Tm X.K c H B y d2 → Gv X.K c B H d Q → r x y H Q) := by
  by_cases hp : p
  · obtain ⟨t, a, b⟩ := h hp
    exact ⟨t, a, fun _ => b⟩
  · exact ⟨_, opr_never, fun q => absurd q hp⟩
theorem de_chain {op op' : CmpOp} {k k' : Bool} (ha : DR X G a d1) (hb : DR X G b d2) (ho : OpD c X (compareOp op) d1 d2 (.bool k)) (hc : k = true → DR X G f d3) (ho' : k = true → OpD c X (compareOp op') d2 d3 (.bool k'))
    (hm : lastMarks [op, op'] [b, f] = false := by with_unfolding_all rfl) : DE X G (.Compare a [op, op'] [b, f] pos) (.bool (k && k')) := by
  obtain ⟨ta, pa, ra⟩ := ha
  obtain ⟨tb, pb, rb⟩ := hb
  obtain ⟨r, hr, q⟩ := ho
  obtain ⟨tc, pc, rc⟩ := DR.ifp hc
  obtain ⟨r', hr', q'⟩ := OpD.ifp ho'
  refine ⟨_, pe_chain hr hr' pa pb pc hm, fun Z B H σ Q E g => ?_⟩
  refine ra Z B H σ _ E fun v B1 H1 e1 h1 => rb Z B1 H1 σ _ (E.ext e1) fun u B2 H2 e2 h2 => ?_
  refine q B2 H2 v u _ e2.sub (Tm.mono e2.h e2.b _ _ h1) h2 fun w B3 H3 e3 h3 => ?_
  cases h3
  refine ⟨k, rfl, ?_⟩
  cases k with
  | true =>
    refine iteT ?_
    refine rc rfl Z B3 H3 σ _ (E.ext ((e1.trans e2).trans e3)) fun z B4 H4 e4 h4 => ?_
    exact q' rfl B4 H4 u z Q e4.sub (Tm.mono (e3.h.trans e4.h) (e3.b.trans e4.b) _ _ h2) h4 fun y B5 H5 e5 h5 => g y B5 H5 ((((e1.trans e2).trans e3).trans e4).trans e5) h5
  | false => exact iteF (g _ B3 H3 ((e1.trans e2).trans e3) (.bl _))
theorem dt_chain {op op' : CmpOp} {k k' : Bool} (ha : DR X G a d1) (hb : DR X G b d2) (ho : OpD c X (compareOp op) d1 d2 (.bool k)) (hc : k = true → DR X G f d3) (ho' : k = true → OpD c X (compareOp op') d2 d3 (.bool k'))
    (hm : lastMarks [op, op'] [b, f] = false := by with_unfolding_all rfl) : DT X G (.Compare a [op, op'] [b, f] pos) (k && k') := by
  obtain ⟨ta, pa, ra⟩ := ha
  obtain ⟨tb, pb, rb⟩ := hb
  obtain ⟨r, hr, q⟩ := ho
  obtain ⟨tc, pc, rc⟩ := DR.ifp hc
  obtain ⟨r', hr', q'⟩ := OpD.ifp ho'
  refine ⟨_, pt_chain hr hr' pa pb pc hm, fun Z B H σ Q E g => ?_⟩
  refine ra Z B H σ _ E fun v B1 H1 e1 h1 => rb Z B1 H1 σ _ (E.ext e1) fun u B2 H2 e2 h2 => ?_
  refine q B2 H2 v u _ e2.sub (Tm.mono e2.h e2.b _ _ h1) h2 fun w B3 H3 e3 h3 => ?_
  cases h3
  refine ⟨k, rfl, ?_⟩
  cases k with
  | true =>
    refine iteT ?_
    refine rc rfl Z B3 H3 σ _ (E.ext ((e1.trans e2).trans e3)) fun z B4 H4 e4 h4 => ?_
    refine q' rfl B4 H4 u z _ e4.sub (Tm.mono (e3.h.trans e4.h) (e3.b.trans e4.b) _ _ h2) h4 fun y B5 H5 e5 h5 => ?_
    cases h5
    exact ⟨k', rfl, g B5 H5 ((((e1.trans e2).trans e3).trans e4).trans e5)⟩
  | false => exact iteF ⟨_, rfl, g B3 H3 ((e1.trans e2).trans e3)⟩

theorem dt_val {k : Bool} (h : DE X G e (.bool k)) (he : ∀ whole, isTrue e X.env whole = (do let v ← whole; standAt e.pos; holding [v] (truthy v)) := by intro _; rfl) : DT X G e k := by
  obtain ⟨t, p, r⟩ := h
  refine ⟨_, pt_val p he, fun Z B H σ Q E g => r Z B H σ _ E fun v B' H' e h => ?_⟩
  cases h
  exact ⟨k, rfl, g B' H' e⟩
theorem DW.dt {k : Bool} (h : DW X G e k) : DT X G e k := by
  obtain ⟨t, p, r⟩ := h
  exact ⟨_, p.pt, r⟩
theorem dt_not {k : Bool} (h : DT X G e k) : DT X G (.UnaryOp .Not e pos) (!k) := by
  obtain ⟨t, p, r⟩ := h
  exact ⟨_, pt_not p, fun Z B H σ Q E g => r Z B H σ _ E fun B' H' e => g B' H' e⟩
theorem dw_and1 {k : Bool} (h : DT X G e k) : DW X G (.BoolOp .And [e] pos) k := by
  obtain ⟨t, p, r⟩ := h
  exact ⟨_, pw_and1 p, r⟩
theorem dw_or1 {k : Bool} (h : DT X G e k) : DW X G (.BoolOp .Or [e] pos) k := by
  obtain ⟨t, p, r⟩ := h
  exact ⟨_, pw_or1 p, r⟩
theorem dw_and {k k' : Bool} (h : DT X G a k) (h' : k = true → DW X G (.BoolOp .And (b :: es) pos) k') : DW X G (.BoolOp .And (a :: b :: es) pos) (k && k') := by
  obtain ⟨t, p, r⟩ := h
  obtain ⟨t', p', r'⟩ := DW.ifp h'
  refine ⟨_, pw_and p p', fun Z B H σ Q E g => r Z B H σ _ E fun B' H' e => ?_⟩
  cases k with
  | true => exact iteT (r' rfl Z B' H' σ _ (E.ext e) fun B2 H2 e2 => g B2 H2 (e.trans e2))
  | false => exact iteF (g B' H' e)
theorem dw_or {k k' : Bool} (h : DT X G a k) (h' : k = false → DW X G (.BoolOp .Or (b :: es) pos) k') : DW X G (.BoolOp .Or (a :: b :: es) pos) (k || k') := by
  obtain ⟨t, p, r⟩ := h
  obtain ⟨t', p', r'⟩ := DW.ifp h'
  refine ⟨_, pw_or p p', fun Z B H σ Q E g => r Z B H σ _ E fun B' H' e => ?_⟩
  cases k with
  | true => exact iteT (g B' H' e)
  | false => exact iteF (r' rfl Z B' H' σ _ (E.ext e) fun B2 H2 e2 => g B2 H2 (e.trans e2))
theorem de_one {op} (h : DE X G e d) : DE X G (.BoolOp op [e] pos) d := by
  obtain ⟨t, p, r⟩ := h
  exact ⟨_, pe_one p, r⟩
theorem de_and {k k' : Bool} (h : DE X G a (.bool k)) (h' : k = true → DE X G (.BoolOp .And (b :: es) pos) (.bool k')) : DE X G (.BoolOp .And (a :: b :: es) pos) (.bool (k && k')) := by
  obtain ⟨t, p, r⟩ := h
  obtain ⟨t', p', r'⟩ := DE.ifp h'
  refine ⟨_, pe_and p p', fun Z B H σ Q E g => r Z B H σ _ E fun v B' H' e h => ?_⟩
  cases h
  refine ⟨k, rfl, ?_⟩
  cases k with
  | true => exact iteT (r' rfl Z B' H' σ _ (E.ext e) fun v B2 H2 e2 h2 => g v B2 H2 (e.trans e2) h2)
  | false => exact iteF (g _ B' H' e (.bl _))
theorem de_or {k k' : Bool} (h : DE X G a (.bool k)) (h' : k = false → DE X G (.BoolOp .Or (b :: es) pos) (.bool k')) : DE X G (.BoolOp .Or (a :: b :: es) pos) (.bool (k || k')) := by
  obtain ⟨t, p, r⟩ := h
  obtain ⟨t', p', r'⟩ := DE.ifp h'
  refine ⟨_, pe_or p p', fun Z B H σ Q E g => r Z B H σ _ E fun v B' H' e h => ?_⟩
  cases h
  refine ⟨k, rfl, ?_⟩
  cases k with
  | true => exact iteT (g _ B' H' e (.bl _))
  | false => exact iteF (r' rfl Z B' H' σ _ (E.ext e) fun v B2 H2 e2 h2 => g v B2 H2 (e.trans e2) h2)
theorem de_not {k : Bool} (h : DE X G e (.bool k)) : DE X G (.UnaryOp .Not e pos) (.bool (!k)) := by
  obtain ⟨t, p, r⟩ := h
  refine ⟨_, pe_not p, fun Z B H σ Q E g => r Z B H σ _ E fun v B' H' e h => ?_⟩
  cases h
  exact ⟨k, rfl, g _ B' H' e (.bl _)⟩
theorem de_ifExp {k : Bool} (h : DT X G e k) (h1 : k = true → DE X G a d1) (h2 : k = false → DE X G b d2) : DE X G (.IfExp e a b pos) (if k = true then d1 else d2) := by
  obtain ⟨t, p, r⟩ := h
  obtain ⟨t1, p1, r1⟩ := DE.ifp h1
  obtain ⟨t2, p2, r2⟩ := DE.ifp h2
  refine ⟨_, pe_ifExp p p1 p2, fun Z B H σ Q E g => r Z B H σ _ E fun B' H' e => ?_⟩
  cases k with
  | true => exact iteT (r1 rfl Z B' H' σ _ (E.ext e) fun v B2 H2 e2 h2 => g v B2 H2 (e.trans e2) h2)
  | false => exact iteF (r2 rfl Z B' H' σ _ (E.ext e) fun v B2 H2 e2 h2 => g v B2 H2 (e.trans e2) h2)

theorem des_nil : DEs X G [] [] := ⟨_, pa_nil, fun Z B H σ Q E g => g [] B H (Ext.refl E.sub) .nil⟩
theorem des_cons (h : DE X G e d) (h' : DEs X G es ds) (hs : starEach (e :: es) X.env = (false, eval e X.env) :: starEach es X.env := by rfl) : DEs X G (e :: es) (d :: ds) := by
  obtain ⟨t, p, r⟩ := h
  obtain ⟨t', p', r'⟩ := h'
  refine ⟨_, pa_cons p p' hs, fun Z B H σ Q E g => r Z B H σ _ E fun v B' H' e h => r' Z B' H' σ _ (E.ext e) fun vs B2 H2 e2 h2 => ?_⟩
  exact g (v :: vs) B2 H2 (e.trans e2) (.cons (Tp.mono e2.b _ _ h) h2)
theorem drs_nil : DRs X G [] [] := ⟨_, pa_nil, fun Z B H σ Q E g => g [] B H (Ext.refl E.sub) .nil⟩
theorem drs_cons (h : DR X G e d) (h' : DRs X G es ds) (hs : starEach (e :: es) X.env = (false, eval e X.env) :: starEach es X.env := by rfl) : DRs X G (e :: es) (d :: ds) := by
  obtain ⟨t, p, r⟩ := h
  obtain ⟨t', p', r'⟩ := h'
  refine ⟨_, pa_cons p p' hs, fun Z B H σ Q E g => r Z B H σ _ E fun v B' H' e h => r' Z B' H' σ _ (E.ext e) fun vs B2 H2 e2 h2 => ?_⟩
  exact g (v :: vs) B2 H2 (e.trans e2) (.cons (Tm.mono e2.h e2.b _ _ h) h2)
theorem das_nil : DAs (c := c) X G [] [] := ⟨_, pa_nil, fun Z B H σ Q E g => g [] B H (Ext.refl E.sub) .nil⟩
theorem das_cons {s : Slot X.K c} {ss : List (Slot X.K c)} (h : DA X G e s) (h' : DAs X G es ss) (hs : starEach (e :: es) X.env = (false, eval e X.env) :: starEach es X.env := by rfl) : DAs X G (e :: es) (s :: ss) := by
  obtain ⟨t, p, r⟩ := h
  obtain ⟨t', p', r'⟩ := h'
  refine ⟨_, pa_cons p p' hs, fun Z B H σ Q E g => r Z B H σ _ E fun v B' H' e h hn => r' Z B' H' σ _ (E.ext e) fun vs B2 H2 e2 h2 => ?_⟩
  exact g (v :: vs) B2 H2 (e.trans e2) (.cons (hn B2 H2 e2) h2)
theorem small {n : Nat} (h : n ≤ 1000000) : n ≤ sizeLine := by rw [sizeLine_eq]; omega
theorem de_tup {k} (h : DEs X G es ds) (hl : ds.length ≤ sizeLine := by first | (show _ ≤ sizeLine; decide) | (apply small; simp; done) | (apply small; simp; omega)) : DE X G (.Tuple es k pos) (.tuple ds) := by
  obtain ⟨t, p, r⟩ := h
  refine ⟨_, pe_tup p, fun Z B H σ Q E g => r Z B H σ _ E fun vs B' H' e h => ⟨by rw [h.length]; exact hl, fun q hq => ?_⟩⟩
  exact g _ (upd B' q (.tup vs)) _ (e.trans (Ext.lay e.sub _ hq)) (.tup (Or.inl upd_same) (TpAll.mono (same_upd (e.sub.free hq)) _ _ h))
theorem dx_lst (h : DEs X G es ds) (hl : ds.length ≤ sizeLine := by first | (show _ ≤ sizeLine; decide) | (apply small; simp; done) | (apply small; simp; omega)) : DX X G (.List es pos) (so ds) := by
  obtain ⟨t, p, r⟩ := h
  refine ⟨_, pe_lst p, fun Z B H σ Q E g => r Z B H σ _ E fun vs B' H' e h => ⟨by rw [h.length]; exact hl, fun q hq => ?_⟩⟩
  refine g _ B' _ [q] (e.trans (Ext.layH e.sub _ hq)) (fun _ => ⟨q, vs, rfl, rfl, e.sub.free hq, upd_same, h⟩) fun a ha => ?_
  rw [List.mem_singleton.mp ha]
  exact e.h.free hq
theorem de_lst (h : DEs X G es ds) (hl : ds.length ≤ sizeLine := by first | (show _ ≤ sizeLine; decide) | (apply small; simp; done) | (apply small; simp; omega)) : DE X G (.List es pos) (.list ds) := (dx_lst h hl).frozen
theorem dr_ix (ha : DR X G a d1) (hb : DR X G b d2) (ho : IxD c X d1 d2 d) (hs : PlainIx b := by exact fun _ _ => rfl) : DR X G (.Subscript a b pos) d := by
  obtain ⟨ta, pa, ra⟩ := ha
  obtain ⟨tb, pb, rb⟩ := hb
  obtain ⟨r, hr, q⟩ := ho
  refine ⟨_, pe_ix hr pa pb hs, fun Z B H σ Q E g => ?_⟩
  refine ra Z B H σ _ E fun v B1 H1 e1 h1 => rb Z B1 H1 σ _ (E.ext e1) fun u B2 H2 e2 h2 => ?_
  exact q H2 B2 H2 v u Q e2.sub (Kp.refl _) (Tm.mono e2.h e2.b _ _ h1) h2 fun w hw => g w B2 H2 (e1.trans e2) hw
theorem dz_ix (ha : DZ X G a d1) (hb : DZ X G b d2) (ho : IxD c X d1 d2 d) (hs : PlainIx b := by exact fun _ _ => rfl) : DZ X G (.Subscript a b pos) d := by
  obtain ⟨ta, pa, ra⟩ := ha
  obtain ⟨tb, pb, rb⟩ := hb
  obtain ⟨r, hr, q⟩ := ho
  refine ⟨_, pe_ix hr pa pb hs, fun Z B H σ Q E g => ?_⟩
  refine ra Z B H σ _ E fun v B1 H1 e1 h1 => rb Z B1 H1 σ _ (E.ext e1) fun u B2 H2 e2 h2 => ?_
  exact q Z B2 H2 v u Q e2.sub (E.z.trans (e1.trans e2).h) (Tm.mono (Kp.refl _) e2.b _ _ h1) h2 fun w hw => g w B2 H2 (e1.trans e2) hw
theorem de_callB {id : String} {p : Pos} (hc : CallD c X (.builtin id) ds d) (hm : X.mg x = none) (ha : DRs X G (e :: es) ds) (hg : Gl X x := by rfl) (hv : bootBuiltins x = some (.builtin id) := by decide +kernel) (hn : x ≠ "__name__" := by decide) (hdb : (x == ("__debug__" : Str)) = false := by decide)
    (he : starEach (e :: es) X.env = (false, eval e X.env) :: starEach es X.env := by rfl) (hpl : (backTo pos (starEach es X.env)).any (·.1) = false := by rfl) : DE X G (.Call (.Name x p) (e :: es) [] pos) d := by
  obtain ⟨ta, pa, ra⟩ := ha
  obtain ⟨r, hr, q⟩ := hc
  refine ⟨_, pe_callB hr hg hm hv pa hn hdb he hpl, fun Z B H σ Q E g => ?_⟩
  exact ra Z B H σ _ E fun vs B1 H1 e1 h1 => q B1 H1 vs Q e1.sub h1 fun w B3 H3 e3 h3 => g w B3 H3 (e1.trans e3) h3
theorem de_callT {id : String} {p : Pos} (hc : CallD c X (.type id) ds d) (hm : X.mg x = none) (ha : DRs X G (e :: es) ds) (hg : Gl X x := by rfl) (hv : bootBuiltins x = some (.type id) := by decide +kernel) (hn : x ≠ "__name__" := by decide) (hdb : (x == ("__debug__" : Str)) = false := by decide)
    (he : starEach (e :: es) X.env = (false, eval e X.env) :: starEach es X.env := by rfl) (hpl : (backTo pos (starEach es X.env)).any (·.1) = false := by rfl) : DE X G (.Call (.Name x p) (e :: es) [] pos) d := by
  obtain ⟨ta, pa, ra⟩ := ha
  obtain ⟨r, hr, q⟩ := hc
  refine ⟨_, pe_callTy hr hg hm hv pa hn hdb he hpl, fun Z B H σ Q E g => ?_⟩
  exact ra Z B H σ _ E fun vs B1 H1 e1 h1 => q B1 H1 vs Q e1.sub h1 fun w B3 H3 e3 h3 => g w B3 H3 (e1.trans e3) h3
theorem gs_ext {K : PySem.W.Frag} {B H B1 H1 : Hp} {s : Slot K c} {Q : VK} (e : Ext B H B1 H1) (g : Gs K c B H s Q) : Gs K c B1 H1 s Q := fun v B' H' fp e' h hf =>
  g v B' H' fp (e.trans e') h fun a ha => e.h.free (hf a ha)
theorem dx_callB {id : String} {p : Pos} {s : Slot X.K c} (hc : CallB c X (.builtin id) ds s) (hm : X.mg x = none) (ha : DEs X G (e :: es) ds) (hg : Gl X x := by rfl) (hv : bootBuiltins x = some (.builtin id) := by decide +kernel) (hn : x ≠ "__name__" := by decide) (hdb : (x == ("__debug__" : Str)) = false := by decide)
    (he : starEach (e :: es) X.env = (false, eval e X.env) :: starEach es X.env := by rfl) (hpl : (backTo pos (starEach es X.env)).any (·.1) = false := by rfl) : DX X G (.Call (.Name x p) (e :: es) [] pos) s := by
  obtain ⟨ta, pa, ra⟩ := ha
  obtain ⟨r, hr, q⟩ := hc
  refine ⟨_, pe_callB hr hg hm hv pa hn hdb he hpl, fun Z B H σ Q E g => ?_⟩
  exact ra Z B H σ _ E fun vs B1 H1 e1 h1 => q B1 H1 vs Q e1.sub h1 (gs_ext e1 g)
theorem dx_callT {id : String} {p : Pos} {s : Slot X.K c} (hc : CallB c X (.type id) ds s) (hm : X.mg x = none) (ha : DEs X G (e :: es) ds) (hg : Gl X x := by rfl) (hv : bootBuiltins x = some (.type id) := by decide +kernel) (hn : x ≠ "__name__" := by decide) (hdb : (x == ("__debug__" : Str)) = false := by decide)
    (he : starEach (e :: es) X.env = (false, eval e X.env) :: starEach es X.env := by rfl) (hpl : (backTo pos (starEach es X.env)).any (·.1) = false := by rfl) : DX X G (.Call (.Name x p) (e :: es) [] pos) s := by
  obtain ⟨ta, pa, ra⟩ := ha
  obtain ⟨r, hr, q⟩ := hc
  refine ⟨_, pe_callTy hr hg hm hv pa hn hdb he hpl, fun Z B H σ Q E g => ?_⟩
  exact ra Z B H σ _ E fun vs B1 H1 e1 h1 => q B1 H1 vs Q e1.sub h1 (gs_ext e1 g)

/-- a def's promise: R: which slots may be handed in, and what comes of them -/
def spS (K : PySem.W.Frag) (R : List (Slot K c) → Slot K c → Prop) : Sp := fun vs H Q _ => ∃ B ss r, Same B H ∧ Dw.TabsB c.tabs B H ∧ SlAll H B H vs ss ∧ R ss r ∧ Gs K c B H r Q
structure DefOk (P : Program) (w : World) (K : PySem.W.Frag) (mg : Str → Option Value) (base : Heap) (x : Str) (k : Nat) (R : List (Slot K c) → Slot K c → Prop) : Prop where
  ex : ∃ f fd ps, mg x = some (.ref f) ∧ PySem.W.keepIn K (.ref f) = true ∧ Binds K fd ps [] ∧ FnOk P w K mg base CX0 k f fd ps (spS K R)
theorem dx_call {k : Nat} {R : List (Slot X.K c) → Slot X.K c → Prop} {p : Pos} {ss : List (Slot X.K c)} {s : Slot X.K c} (F : DefOk X.prog X.w X.K X.mg X.base x k R) (hr : Room k X.A) (ha : DAs X G (e :: es) ss) (hR : R ss s) (hg : Gl X x := by rfl) (hdb : (x == ("__debug__" : Str)) = false := by decide)
    (he : starEach (e :: es) X.env = (false, eval e X.env) :: starEach es X.env := by rfl) (hpl : (backTo pos (starEach es X.env)).any (·.1) = false := by rfl) : DX X G (.Call (.Name x p) (e :: es) [] pos) s := by
  obtain ⟨ta, pa, ra⟩ := ha
  obtain ⟨f, fd, ps, hm, hk, hb, F⟩ := F.ex
  refine ⟨_, pe_call F hr hg hm hk hb .nil pass0 pa hdb he hpl, fun Z B H σ Q E g => ?_⟩
  refine ra Z B H σ _ E fun vs B1 H1 e1 h1 => ?_
  refine ⟨B1, ss, s, e1.sub, e1.tabs E.tb, ?_, hR, gs_ext e1 g⟩
  rw [List.append_nil]
  exact h1
theorem de_call {k : Nat} {R : List (Slot X.K c) → Slot X.K c → Prop} {p : Pos} {ss : List (Slot X.K c)} (F : DefOk X.prog X.w X.K X.mg X.base x k R) (hr : Room k X.A) (ha : DAs X G (e :: es) ss) (hR : R ss (sd d)) (hg : Gl X x := by rfl) (hdb : (x == ("__debug__" : Str)) = false := by decide)
    (he : starEach (e :: es) X.env = (false, eval e X.env) :: starEach es X.env := by rfl) (hpl : (backTo pos (starEach es X.env)).any (·.1) = false := by rfl) : DE X G (.Call (.Name x p) (e :: es) [] pos) d := (dx_call F hr ha hR hg hdb he hpl).de
end
end Dw

namespace Dw
open PySem L2 PyProof.Rows

/-- the weakest reading -/
structure wpS (X : Cx) (sts : List Stmt) (D : Ends) (σ : Sg) (H : Hp) : Prop where
  h : ∀ (pins : List (Addr × Obj)) (s : Shared), Inv X pins σ H s → wpAny (model X.prog X.w) X.A (execs sts X.env) (SP X pins D) X.xe s
theorem pss_wp {X : Cx} {sts : List Stmt} : PSs X sts (wpS X sts) := ⟨fun pins s _ _ _ I h => h.h pins s I⟩
theorem wp_of {X : Cx} {sts : List Stmt} {t : TS} (h : PSs X sts t) {D : Ends} {σ : Sg} {H : Hp} (q : t D σ H) : wpS X sts D σ H := ⟨fun pins s I => h.run pins s σ H D I q⟩

/-- a def's entry: what it may write, what was kept and what there was then, what stands still -/
structure Ent where
  W : Addr → Prop
  B0 : Hp
  H0 : Hp
  Z : Hp
  /-- what the names that were handed in to be changed hold -/
  pv : Nat → Option V
variable {K : PySem.W.Frag} {c : Cl}
structure StE (F : Ent) (G : Env K c) (B H : Hp) (σ : Sg) : Prop where
  sub : Same B H
  b0 : Same F.B0 B
  zf : ∀ a o, F.Z a = some o → F.H0 a = some o ∧ ¬ F.W a
  h0 : ∀ a o, F.H0 a = some o → nt o = true → ¬ F.W a → H a = some o
  hw : ∀ a, F.W a → H a ≠ none
  th : ∀ a, F.H0 a ≠ none → H a ≠ none
  tb : ∀ P q, Dw.TabS F.H0 P q → Dw.TabS H P q
  tt : Dw.TabsB c.tabs B H
  new : ∀ a, F.B0 a = none → F.H0 a ≠ none → B a = none
  len : σ.length = G.length
  pn : ∀ i s v, G[i]? = some (some s) → s.par = true → σ[i]? = some (some v) → F.pv i = some v
  sl : ∃ fps : Nat → List Addr, (∀ i s, G[i]? = some (some s) → ∃ v, σ[i]? = some (some v) ∧ s.P F.Z B H v (fps i) ∧ ∀ a ∈ fps i, if s.par = true then F.W a ∨ F.H0 a = none else F.H0 a = none) ∧
    ∀ i j s s', i ≠ j → G[i]? = some (some s) → G[j]? = some (some s') → ∀ a ∈ fps i, a ∉ fps j
theorem StE.z {F : Ent} {G : Env K c} {B H : Hp} {σ : Sg} (h : StE F G B H σ) : Kp F.Z H :=
  ⟨fun a o q n => h.h0 a o (h.zf a o q).1 n (h.zf a o q).2, fun a q => h.th a (by
    cases z : F.Z a with
    | none => exact absurd z q
    | some o => rw [(h.zf a o z).1]; exact fun z => nomatch z), fun P q t => h.tb P q (t.ext fun a o q => (h.zf a o q).1)⟩
theorem StE.env {F : Ent} {G : Env K c} {B H : Hp} {σ : Sg} (h : StE F G B H σ) : EnvE G F.Z B H σ :=
  ⟨h.sub, h.z, h.tt, fun i s q => by
    obtain ⟨fps, h1, _⟩ := h.sl
    obtain ⟨v, h2, h3, _⟩ := h1 i s q
    exact ⟨v, fps i, h2, h3⟩⟩
theorem StE.there {F : Ent} {G : Env K c} {B H : Hp} {σ : Sg} (h : StE F G B H σ) {a : Addr} (e : F.H0 a ≠ none) : H a ≠ none := h.th a e
theorem StE.ext {F : Ent} {G : Env K c} {B H B' H' : Hp} {σ : Sg} (h : StE F G B H σ) (e : Ext B H B' H') : StE F G B' H' σ := by
  obtain ⟨fps, h1, h2⟩ := h.sl
  refine ⟨e.sub, h.b0.trans e.b, h.zf, fun a o q n w => e.h.at (h.h0 a o q n w) n, fun a w => e.h.th a (h.hw a w), fun a q => e.h.th a (h.th a q), fun P q t => e.h.tb P q (h.tb P q t), e.tabs h.tt, fun a q r => e.new a (h.new a q r) (h.there r), h.len, h.pn, fps, fun i s q => ?_, h2⟩
  obtain ⟨v, h3, h4, h5⟩ := h1 i s q
  have d := s.dom h4
  exact ⟨v, h3, s.stb h4 e.b (fun a ha => e.new a (d a ha).1 (d a ha).2.ne) fun a ha => e.h.ne (d a ha).2, h5⟩
theorem getset {α : Type} {l : List α} {i j : Nat} {x y : α} (h : (l.set i x)[j]? = some y) : (i = j ∧ x = y ∧ i < l.length) ∨ (i ≠ j ∧ l[j]? = some y) := by
  by_cases e : i = j
  · subst e
    by_cases hl : i < l.length
    · rw [List.getElem?_set_self hl] at h
      exact .inl ⟨rfl, Option.some.inj h, hl⟩
    · rw [List.getElem?_eq_none (by simpa using hl)] at h
      cases h
  · rw [List.getElem?_set_ne e] at h
    exact .inr ⟨e, h⟩
def fset (fps : Nat → List Addr) (i : Nat) (fp : List Addr) : Nat → List Addr := fun j => if j = i then fp else fps j
theorem fset_same {fps : Nat → List Addr} {i : Nat} {fp : List Addr} : fset fps i fp i = fp := by simp [fset]
theorem fset_ne {fps : Nat → List Addr} {i j : Nat} {fp : List Addr} (h : i ≠ j) : fset fps i fp j = fps j := by simp [fset, Ne.symm h]
/-- a name takes a value that is new (or plain data) -/
theorem StE.set {F : Ent} {G : Env K c} {B H B' H' : Hp} {σ : Sg} {s : Slot K c} {v : V} {fp : List Addr} (h : StE F G B H σ) (e : Ext B H B' H') (p : s.P F.Z B' H' v fp) (hf : ∀ a ∈ fp, H a = none) (hp : s.par = false) (i : Nat) :
    StE F (G.set i (some s)) B' H' (σ.set i (some v)) := by
  have h' := h.ext e
  obtain ⟨fps, h1, h2⟩ := h.sl
  refine ⟨h'.sub, h'.b0, h'.zf, h'.h0, h'.hw, h'.th, h'.tb, h'.tt, h'.new, by simp [h.len], fun j s' w q hq hw => ?_, fset fps i fp, fun j s' q => ?_, fun j k s1 s2 ne q1 q2 a ha hb => ?_⟩
  · rcases getset q with ⟨rfl, e1, hl⟩ | ⟨ne, q⟩
    · cases e1
      rw [hp] at hq
      cases hq
    · rw [List.getElem?_set_ne ne] at hw
      exact h.pn j s' w q hq hw
  · rcases getset q with ⟨rfl, e1, hl⟩ | ⟨ne, q⟩
    · cases e1
      refine ⟨v, by rw [List.getElem?_set_self (by rw [h.len]; exact hl)], by rw [fset_same]; exact p, fun a ha => ?_⟩
      have ha : a ∈ fp := by rw [fset_same] at ha; exact ha
      rw [hp]
      simp only [Bool.false_eq_true, if_false]
      cases q : F.H0 a with
      | none => rfl
      | some o => exact absurd (hf a ha) (h.there (by rw [q]; exact fun z => nomatch z))
    · obtain ⟨u, h3, h4, h5⟩ := h1 j s' q
      have d := s'.dom h4
      refine ⟨u, by rw [List.getElem?_set_ne ne]; exact h3, ?_, fun a ha => ?_⟩
      · rw [fset_ne ne]
        exact s'.stb h4 e.b (fun a ha => e.new a (d a ha).1 (d a ha).2.ne) fun a ha => e.h.ne (d a ha).2
      · rw [fset_ne ne] at ha
        exact h5 a ha
  · have old : ∀ {k : Nat} {s' : Slot K c}, G[k]? = some (some s') → ∀ b ∈ fps k, H b ≠ none := fun {k s'} q b hb => by
      obtain ⟨u, _, h4, _⟩ := h1 k s' q
      exact (s'.dom h4 b hb).2.ne
    rcases getset q1 with ⟨rfl, _, _⟩ | ⟨n1, r1⟩
    · rcases getset q2 with ⟨rfl, _, _⟩ | ⟨n2, r2⟩
      · exact ne rfl
      · have ha : a ∈ fp := by rw [fset_same] at ha; exact ha
        rw [fset_ne n2] at hb
        exact old r2 a hb (hf a ha)
    · rw [fset_ne n1] at ha
      rcases getset q2 with ⟨rfl, _, _⟩ | ⟨n2, r2⟩
      · have hb : a ∈ fp := by rw [fset_same] at hb; exact hb
        exact old r1 a ha (hf a hb)
      · rw [fset_ne n2] at hb
        exact h2 j k s1 s2 ne r1 r2 a ha hb
/-- a weaker environment -/
def Wk (G G' : Env K c) : Prop := G.length = G'.length ∧ ∀ (i : Nat) (s : Slot K c), G'[i]? = some (some s) → G[i]? = some (some s)
theorem Wk.refl (G : Env K c) : Wk G G := ⟨rfl, fun _ _ h => h⟩
theorem StE.weak {F : Ent} {G G' : Env K c} {B H : Hp} {σ : Sg} (h : StE F G B H σ) (w : Wk G G') : StE F G' B H σ := by
  obtain ⟨fps, h1, h2⟩ := h.sl
  exact ⟨h.sub, h.b0, h.zf, h.h0, h.hw, h.th, h.tb, h.tt, h.new, h.len.trans w.1, fun i s v q => h.pn i s v (w.2 i s q), fps, fun i s q => h1 i s (w.2 i s q), fun i j s s' ne q r => h2 i j s s' ne (w.2 i s q) (w.2 j s' r)⟩
/-- what a slot's name holds is changed in place -/
theorem StE.grow {F : Ent} {G : Env K c} {B H H' : Hp} {σ : Sg} {i : Nat} {s s' : Slot K c} (h : StE F G B H σ) (hi : G[i]? = some (some s)) (hp : s'.par = s.par)
    (step : ∀ v fp, σ[i]? = some (some v) → s.P F.Z B H v fp → ∃ fp', s'.P F.Z B H' v fp' ∧ (∀ a ∈ fp', a ∈ fp ∨ (H a = none)) ∧ (∀ a, a ∉ fp → H a ≠ none → H' a = H a) ∧ (∀ a ∈ fp, H' a ≠ none)) : StE F (G.set i (some s')) B H' σ := by
  obtain ⟨fps, h1, h2⟩ := h.sl
  obtain ⟨v, hv, p, hw⟩ := h1 i s hi
  obtain ⟨fp', p', hsub, keep, there⟩ := step v (fps i) hv p
  have dm := s.dom p
  have il : i < G.length := (List.getElem?_eq_some_iff.mp hi).1
  have nb : ∀ a ∈ fps i, B a = none := fun a ha => (dm a ha).1
  have kp : ∀ a o, H a = some o → a ∉ fps i → H' a = some o := fun a o q n => by rw [keep a n (by rw [q]; exact fun z => nomatch z)]; exact q
  have th' : ∀ a, H a ≠ none → H' a ≠ none := fun a q => by
    by_cases z : a ∈ fps i
    · exact there a z
    · rw [keep a z q]; exact q
  have tb' : ∀ P q, Dw.TabS H P q → Dw.TabS H' P q := fun P q ⟨ps, t1, t2, t3⟩ => by
    refine ⟨ps, kp P _ t1 fun z => ?_, t2, fun pos cv hc => ?_⟩
    · obtain ⟨u, hu, n1, _⟩ := (dm P z).2
      exact n1 ps (Option.some.inj (hu.symm.trans t1))
    · obtain ⟨c', e1, e2⟩ := t3 pos cv hc
      refine ⟨c', e1, kp c' _ e2 fun z => ?_⟩
      obtain ⟨u, hu, _, n2⟩ := (dm c' z).2
      exact n2 c' _ (Option.some.inj (hu.symm.trans e2))
  refine ⟨fun a o q => kp a o (h.sub a o q) fun z => ?_, h.b0, h.zf, fun a o q n w => kp a o (h.h0 a o q n w) fun z => ?_, fun a w => ?_, fun a q => th' a (h.th a q), fun P q t => tb' P q (h.tb P q t), ⟨fun p hp => tb' _ _ (h.tt.t p hp), h.tt.nb⟩, h.new, by rw [List.length_set]; exact h.len, fun j u w q hq hw' => ?_,
    fset fps i fp', fun j u q => ?_, fun j k s1 s2 ne q1 q2 a ha hb => ?_⟩
  · rw [nb a z] at q; cases q
  · have := hw a z
    cases hs : s.par with
    | true => rw [hs, if_pos rfl] at this; exact this.elim w fun z => (by rw [z] at q; cases q)
    | false => rw [hs] at this; simp only [Bool.false_eq_true, if_false] at this; rw [this] at q; cases q
  · by_cases z : a ∈ fps i
    · exact there a z
    · have := h.hw a w
      rw [keep a z this]; exact this
  · rcases getset q with ⟨rfl, e1, hl⟩ | ⟨ne, q⟩
    · cases e1
      exact h.pn _ _ w hi (hp ▸ hq) hw'
    · exact h.pn j u w q hq hw'
  · rcases getset q with ⟨rfl, e1, hl⟩ | ⟨ne, q⟩
    · cases e1
      refine ⟨v, hv, by rw [fset_same]; exact p', fun a ha => ?_⟩
      have ha : a ∈ fp' := by rw [fset_same] at ha; exact ha
      rw [hp]
      rcases hsub a ha with z | z
      · exact hw a z
      · have n0 : F.H0 a = none := by
          cases q : F.H0 a with
          | none => rfl
          | some o => exact absurd z (h.there (by rw [q]; exact fun z => nomatch z))
        cases hs : s.par with
        | true => exact .inr n0
        | false => exact n0
    · obtain ⟨u', h3, h4, h5⟩ := h1 j u q
      refine ⟨u', h3, ?_, fun a ha => ?_⟩
      · rw [fset_ne ne]
        refine u.stb h4 (Same.refl _) (fun a ha => (u.dom h4 a ha).1) fun a ha => keep a (fun z => h2 i j s u ne hi q a z ha) (u.dom h4 a ha).2.ne
      · rw [fset_ne ne] at ha
        exact h5 a ha
  · have old : ∀ {k : Nat} {s' : Slot K c}, G[k]? = some (some s') → ∀ b ∈ fps k, H b ≠ none := fun {k s'} q b hb => by
      obtain ⟨u, _, h4, _⟩ := h1 k s' q
      exact (s'.dom h4 b hb).2.ne
    rcases getset q1 with ⟨rfl, _, _⟩ | ⟨n1, r1⟩
    · rcases getset q2 with ⟨rfl, _, _⟩ | ⟨n2, r2⟩
      · exact ne rfl
      · have ha : a ∈ fp' := by rw [fset_same] at ha; exact ha
        rw [fset_ne n2] at hb
        rcases hsub a ha with z | z
        · exact h2 i k s s2 n2 hi r2 a z hb
        · exact old r2 a hb z
    · rw [fset_ne n1] at ha
      rcases getset q2 with ⟨rfl, _, _⟩ | ⟨n2, r2⟩
      · have hb : a ∈ fp' := by rw [fset_same] at hb; exact hb
        rcases hsub a hb with z | z
        · exact h2 j i s1 s (Ne.symm n1) r1 hi a ha z
        · exact old r1 a ha z
      · rw [fset_ne n2] at hb
        exact h2 j k s1 s2 ne r1 r2 a ha hb

theorem StE.change {F : Ent} {G : Env K c} {B H H' : Hp} {σ : Sg} {i : Nat} {s s' : Slot K c} (h : StE F G B H σ) (hi : G[i]? = some (some s)) (hp : s'.par = s.par)
    (step : ∀ v fp, σ[i]? = some (some v) → s.P F.Z B H v fp → ∃ fp', s'.P F.Z B H' v fp' ∧ (∀ a ∈ fp', a ∈ fp ∨ (H a = none)) ∧ (s.par = true → ∀ a ∈ fp', a ∈ fp) ∧ (∀ a, a ∉ fp → H a ≠ none → H' a = H a) ∧ (∀ a ∈ fp, H' a ≠ none)) : StE F (G.set i (some s')) B H' σ :=
  h.grow hi hp fun v fp a b => let ⟨fp', x1, x2, _, x3, x4⟩ := step v fp a b; ⟨fp', x1, x2, x3, x4⟩

inductive Out (K : PySem.W.Frag) (c : Cl) where
  | nx (G : Env K c) | bk (G : Env K c) | ct (G : Env K c) | ret (s : Slot K c) (G : Env K c) | exc (cls : Value) (G : Env K c)
structure EndsOk (X : Cx) (F : Ent) (Ph : Out X.K c → Prop) (D : Ends) : Prop where
  nx : ∀ G B H σ, StE F G B H σ → Ph (.nx G) → D.nx σ H
  bk : ∀ G B H σ, StE F G B H σ → Ph (.bk G) → D.bk σ H
  ct : ∀ G B H σ, StE F G B H σ → Ph (.ct G) → D.ct σ H
  rt : ∀ s G B H σ v fp, StE F G B H σ → (∀ Z, s.P Z B H v fp) → (∀ a ∈ fp, F.H0 a = none) → Ph (.ret s G) → D.rt v H
  ex : ∃ W : WX, L2N.Takes X W ∧ ∀ cls G B H σ, StE F G B H σ → Ph (.exc cls G) → W cls none σ H
theorem takes0N {X : Cx} : L2N.Takes X (fun _ _ _ _ => False) := fun _ _ x => by
  obtain ⟨_, _, _, _, _, _, _, _, _, _, _, _, _, _, _, _, z⟩ := x
  exact z.elim
def DSs (X : Cx) (G : Env X.K c) (sts : List Stmt) (Ph : Out X.K c → Prop) : Prop :=
  ∀ F B H σ D, StE F G B H σ → EndsOk X F Ph D → wpS X sts D σ H
/-- what a statement in the middle is to reach -/
def sq (X : Cx) (rest : List Stmt) (Ph : Out X.K c → Prop) : Out X.K c → Prop
  | .nx G => DSs X G rest Ph
  | o => Ph o
theorem EndsOk.sq {X : Cx} {F : Ent} {Ph : Out X.K c → Prop} {D : Ends} {rest : List Stmt} (h : EndsOk X F Ph D) : EndsOk X F (sq X rest Ph) { D with nx := wpS X rest D } :=
  ⟨fun G B H σ S p => p F B H σ D S h, h.bk, h.ct, h.rt, h.ex⟩
section
variable {X : Cx} {G : Env X.K c} {a b e : Expr} {es : List Expr} {st : Stmt} {rest body orelse : List Stmt} {Ph Ps : Out X.K c → Prop} {ds : List D} {pos pos' : Pos} {d d1 d2 d3 : D} {x : Str} {k : Nat}
theorem DSs.imp (h : DSs X G rest Ps) (k : ∀ o, Ps o → Ph o) : DSs X G rest Ph := fun F B H σ D S E => h F B H σ D S
  ⟨fun G B H σ S p => E.nx G B H σ S (k _ p), fun G B H σ S p => E.bk G B H σ S (k _ p), fun G B H σ S p => E.ct G B H σ S (k _ p), fun s G B H σ v fp S q f p => E.rt s G B H σ v fp S q f (k _ p), E.ex.elim fun W hw => ⟨W, hw.1, fun cls G B H σ S p => hw.2 cls G B H σ S (k _ p)⟩⟩
theorem DSs.weak {G' : Env X.K c} (w : Wk G G') (h : DSs X G' rest Ph) : DSs X G rest Ph := fun F B H σ D S E => h F B H σ D (S.weak w) E
theorem dss_nil (h : Ph (.nx G)) : DSs X G [] Ph := fun F B H σ D S E => wp_of pss_nil (E.nx G B H σ S h)
theorem dss_pass (h : DSs X G rest Ph) : DSs X G (.Pass pos :: rest) Ph := fun F B H σ D S E => wp_of (pss_cons ps_pass pss_wp) (h F B H σ D S E)
theorem dss_doc {z j} (h : DSs X G rest Ph) : DSs X G (.Expr (.Constant (.str z) j pos) pos' :: rest) Ph := fun F B H σ D S E => wp_of (pss_cons ps_doc pss_wp) (h F B H σ D S E)
theorem dss_break (h : Ph (.bk G)) : DSs X G (.Break pos :: rest) Ph := fun F B H σ D S E => wp_of (pss_cons ps_break pss_wp) (E.bk G B H σ S h)
theorem dss_cont (h : Ph (.ct G)) : DSs X G (.Continue pos :: rest) Ph := fun F B H σ D S E => wp_of (pss_cons ps_continue pss_wp) (E.ct G B H σ S h)
theorem dss_retN (h : Ph (.ret (sd .none) G)) : DSs X G (.Return none pos :: rest) Ph := fun F B H σ D S E => wp_of (pss_cons ps_retN pss_wp) (E.rt (sd .none) G B H σ .non [] S (fun _ => ⟨rfl, .non⟩) (fun a h => absurd h List.not_mem_nil) h)
theorem dss_retX {s : Slot X.K c} (he : DX X G e s) (h : Ph (.ret s G)) : DSs X G (.Return (some e) pos :: rest) Ph := fun F B H σ D S E => by
  obtain ⟨t, p, r⟩ := he
  refine wp_of (pss_cons (ps_ret p) pss_wp) (r F.Z B H σ _ S.env fun v B' H' fp e q hf => ?_)
  refine E.rt s G B' H' σ v fp (S.ext e) q (fun a ha => ?_) h
  cases z : F.H0 a with
  | none => rfl
  | some o => exact absurd (hf a ha) (S.there (by rw [z]; exact fun z => nomatch z))
theorem dss_ret (he : DE X G e d) (h : Ph (.ret (sd d) G)) : DSs X G (.Return (some e) pos :: rest) Ph := fun F B H σ D S E => by
  obtain ⟨t, p, r⟩ := he
  refine wp_of (pss_cons (ps_ret p) pss_wp) (r F.Z B H σ _ S.env fun v B' H' e q => ?_)
  exact E.rt (sd d) G B' H' σ v [] (S.ext e) (fun _ => ⟨rfl, q⟩) (fun a h => absurd h List.not_mem_nil) h
/-- a name that holds a list of one's own is handed back -/
theorem dss_retO (i : Nat) {s : Slot X.K c} (h : Ph (.ret s G)) (hG : G[i]? = some (some s) := by rfl) (hp : s.par = false := by rfl) (hz : ∀ Z Z' B H v fp, s.P Z B H v fp → s.P Z' B H v fp := by exact fun _ _ _ _ _ _ h => h) (hN : X.N[i]? = some x := by rfl)
    (hv : Vis X.env.scope x := by first | exact Or.inl rfl | exact Or.inr (Or.inl rfl) | exact Or.inr (Or.inr rfl)) (hd : (x == ("__debug__" : Str)) = false := by decide)
    (hcd : (x == ("__classdict__" : Str)) = false := by decide) : DSs X G (.Return (some (.Name x pos')) pos :: rest) Ph := fun F B H σ D S E => by
  obtain ⟨fps, h1, _⟩ := S.sl
  obtain ⟨v, h2, h3, h4⟩ := h1 i s hG
  refine wp_of (pss_cons (ps_ret (pv i hN hv hd hcd)) pss_wp) ⟨v, h2, E.rt s G B H σ v (fps i) S (fun _ => hz _ _ _ _ _ _ h3) (fun a ha => ?_) h⟩
  have := h4 a ha
  rw [hp] at this
  simpa using this
/-- the body's own facts -/
structure Bd (X : Cx) (k : Nat) : Prop where
  nd : X.N.Nodup
  calm : X.calm = true
  room : Room k X.A
  po : PassesOwn (model X.prog X.w) X.A X.env X.xe
theorem dss_setN (nd : X.N.Nodup) (i : Nat) (he : DE X G e d) (h : DSs X (G.set i (some (sd d))) rest Ph) (hi : X.N[i]? = some x := by rfl) (hx : Loc X.env.scope x := by first | exact Or.inl rfl | exact Or.inr rfl)
    (hs : swapsWith e (some (.Name x pos')) pos.line X.env = pure false := by rfl) (hf : X.fn x = true ∨ X.env.scope.names.lookup x = some .local := by first | exact .inl rfl | exact .inr rfl) : DSs X G (.Assign [.Name x pos'] e pos :: rest) Ph := fun F B H σ D S E => by
  obtain ⟨t, p, r⟩ := he
  refine wp_of (pss_cons (ps_set nd hi hx p hs hf) pss_wp) (r F.Z B H σ _ S.env fun v B' H' e q => ?_)
  exact h F B' H' _ D (S.set (s := sd d) (fp := []) e ⟨rfl, q⟩ (fun a z => absurd z List.not_mem_nil) rfl i) E
theorem dss_set (C : Bd X k) (i : Nat) (he : DE X G e d) (h : DSs X (G.set i (some (sd d))) rest Ph) (hi : X.N[i]? = some x := by rfl) (hx : Loc X.env.scope x := by first | exact Or.inl rfl | exact Or.inr rfl)
    (hs : swapsWith e (some (.Name x pos')) pos.line X.env = pure false := by rfl) (hf : X.fn x = true ∨ X.env.scope.names.lookup x = some .local := by first | exact .inl rfl | exact .inr rfl) : DSs X G (.Assign [.Name x pos'] e pos :: rest) Ph := dss_setN C.nd i he h hi hx hs hf
theorem dss_setXN {s : Slot X.K c} (nd : X.N.Nodup) (i : Nat) (he : DX X G e s) (h : DSs X (G.set i (some s)) rest Ph) (hp : s.par = false := by rfl) (hi : X.N[i]? = some x := by rfl) (hx : Loc X.env.scope x := by first | exact Or.inl rfl | exact Or.inr rfl)
    (hs : swapsWith e (some (.Name x pos')) pos.line X.env = pure false := by rfl) (hf : X.fn x = true ∨ X.env.scope.names.lookup x = some .local := by first | exact .inl rfl | exact .inr rfl) : DSs X G (.Assign [.Name x pos'] e pos :: rest) Ph := fun F B H σ D S E => by
  obtain ⟨t, p, r⟩ := he
  refine wp_of (pss_cons (ps_set nd hi hx p hs hf) pss_wp) (r F.Z B H σ _ S.env fun v B' H' fp e q hf => ?_)
  exact h F B' H' _ D (S.set e (q _) hf hp i) E
theorem dss_setX {s : Slot X.K c} (C : Bd X k) (i : Nat) (he : DX X G e s) (h : DSs X (G.set i (some s)) rest Ph) (hp : s.par = false := by rfl) (hi : X.N[i]? = some x := by rfl) (hx : Loc X.env.scope x := by first | exact Or.inl rfl | exact Or.inr rfl)
    (hs : swapsWith e (some (.Name x pos')) pos.line X.env = pure false := by rfl) (hf : X.fn x = true ∨ X.env.scope.names.lookup x = some .local := by first | exact .inl rfl | exact .inr rfl) : DSs X G (.Assign [.Name x pos'] e pos :: rest) Ph := dss_setXN C.nd i he h hp hi hx hs hf
theorem dss_if {b : Bool} (hc : DT X G e b) (h1 : b = true → DSs X G body (sq X rest Ph)) (h2 : b = false → DSs X G orelse (sq X rest Ph)) : DSs X G (.If e body orelse pos :: rest) Ph := fun F B H σ D S E => by
  obtain ⟨t, p, r⟩ := hc
  refine wp_of (pss_cons (ps_if p pss_wp pss_wp) pss_wp) (r F.Z B H σ _ S.env fun B' H' e => ?_)
  cases b with
  | true => exact iteT (h1 rfl F B' H' σ _ (S.ext e) E.sq)
  | false => exact iteF (h2 rfl F B' H' σ _ (S.ext e) E.sq)
/-- an expression for its own sake -/
theorem dss_expr (he : DE X G e d) (h : DSs X G rest Ph) (hs : swapsWith e none pos.line X.env = pure false := by rfl) : DSs X G (.Expr e pos :: rest) Ph := fun F B H σ D S E => by
  obtain ⟨t, p, r⟩ := he
  refine wp_of (pss_cons (ps_expr p hs) pss_wp) (r F.Z B H σ _ S.env fun v B' H' e q => ?_)
  exact h F B' H' σ D (S.ext e) E
/-- a list of one's own is changed by an expression: the slot's new content -/
def DM (X : Cx) (G : Env X.K c) (e : Expr) (i : Nat) (s s' : Slot X.K c) : Prop :=
  ∃ t, PE X e t ∧ ∀ F B H σ Q, StE F G B H σ → G[i]? = some (some s) → (∀ v B' H', StE F (G.set i (some s')) B' H' σ → Q v H') → t σ H Q
theorem dss_mut {s s' : Slot X.K c} (i : Nat) (he : DM X G e i s s') (h : DSs X (G.set i (some s')) rest Ph) (hG : G[i]? = some (some s) := by rfl) (hs : swapsWith e none pos.line X.env = pure false := by rfl) : DSs X G (.Expr e pos :: rest) Ph := fun F B H σ D S E => by
  obtain ⟨t, p, r⟩ := he
  refine wp_of (pss_cons (ps_expr p hs) pss_wp) (r F B H σ _ S hG fun v B' H' S' => ?_)
  exact h F B' H' σ D S' E
theorem wk_of {F : Ent} {B H : Hp} {σ : Sg} {i : Nat} {ds ds' : List D} {par : Bool} {vs' : List V} (S : StE F G B H σ) (hG : G[i]? = some (some (so ds par))) {p : Addr} {vs : List V} (hv : σ[i]? = some (some (.ref p))) (hp : H p = some (.lst vs)) (hd : TpAll X.K c B vs' ds') :
    StE F (G.set i (some (so ds' par))) B (upd H p (.lst vs')) σ := by
  refine S.change hG rfl fun v fp h1 ⟨q, us, h2, h3, h4, h5, h6⟩ => ?_
  rw [hv] at h1
  cases h1
  cases h2
  refine ⟨[p], ⟨p, vs', rfl, rfl, h4, upd_same, hd⟩, fun a ha => .inl (h3 ▸ ha), fun _ a ha => h3 ▸ ha, fun a ha _ => ?_, fun a ha => ?_⟩
  · rw [upd_ne]
    rw [h3] at ha
    exact fun z => ha (List.mem_singleton.mpr z)
  · rw [h3] at ha
    rw [List.mem_singleton.mp ha, upd_same]
    exact fun z => nomatch z
theorem so_at {F : Ent} {B H : Hp} {σ : Sg} {i : Nat} {ds : List D} {par : Bool} (S : StE F G B H σ) (hG : G[i]? = some (some (so ds par))) : ∃ p vs, σ[i]? = some (some (.ref p)) ∧ H p = some (.lst vs) ∧ TpAll X.K c B vs ds := by
  obtain ⟨fps, h1, _⟩ := S.sl
  obtain ⟨v, h2, ⟨p, vs, h3, h4, h5, h6, h7⟩, _⟩ := h1 i _ hG
  subst h3
  exact ⟨p, vs, h2, h6, h7⟩
/-- xs.append(e) -/
theorem dm_append (i : Nat) {par : Bool} {py pa pc : Pos} (he : DE X G e d) (hG : G[i]? = some (some (so ds par)) := by rfl) (hl : ds.length < sizeLine) (hN : X.N[i]? = some x := by rfl)
    (hv : Vis X.env.scope x := by first | exact Or.inl rfl | exact Or.inr (Or.inl rfl) | exact Or.inr (Or.inr rfl)) (hd : (x == ("__debug__" : Str)) = false := by decide)
    (hcd : (x == ("__classdict__" : Str)) = false := by decide) (hs : starEach [e] X.env = (false, eval e X.env) :: starEach [] X.env := by rfl)
    (hbase : attributeBase (.Name x py) "append" X.env (eval (.Name x py) X.env) = eval (.Name x py) X.env := by rfl)
    (hfew : ((backTo pc (starEach (e :: []) X.env)).all (fun x => !x.1) && (backToKw pc (keywordEach [] X.env)).all (fun x => x.1.isSome)
      && decide ((e :: []).length + ([] : List Keyword).length + (if ([] : List Keyword).isEmpty then 0 else 1) < 30)) = true := by rfl)
    (hline : (pa.endLine == pc.line) = true := by rfl) (hplain : (backTo pc (starEach [] X.env)).any (·.1) = false := by rfl) : DM X G (.Call (.Attribute (.Name x py) "append" pa) [e] [] pc) i (so ds par) (so (ds ++ [d]) par) := by
  obtain ⟨t, p, r⟩ := he
  refine ⟨_, pe_bm PySem.F.plainAttrs_list PySem.F.slot_list_append PySem.F.type_list_append mt_append (pv i hN hv hd hcd) (pa_cons p pa_nil hs) hbase hfew hline hs hplain, fun F B H σ Q S _ k => ?_⟩
  obtain ⟨q, vs, h1, h2, h3⟩ := so_at S hG
  refine ⟨_, h1, Or.inl ⟨rfl, _, Or.inl (Or.inl h2)⟩, r F.Z B H σ _ S.env fun v B' H' e hv' => ?_⟩
  have S' := S.ext e
  have h2' := e.h.at h2
  refine ⟨q, vs, v, rfl, rfl, h2', by rw [h3.length]; exact hl, ?_⟩
  exact k _ B' _ (wk_of S' hG h1 h2' ((TpAll.mono e.b _ _ h3).append (.cons hv' .nil)))
end
end Dw

namespace Dw
open PySem L2 PyProof.Rows
variable {c : Cl}
structure Bound {K : PySem.W.Frag} (is : List Nat) (G G' : Env K c) (Z B H : Hp) (σ σ' : Sg) : Prop where
  lg : G'.length = G.length
  ls : σ'.length = σ.length
  un : ∀ j, j ∉ is → G'[j]? = G[j]? ∧ σ'[j]? = σ[j]?
  at_ : ∀ j ∈ is, ∃ s' v', G'[j]? = some (some s') ∧ s'.par = false ∧ σ'[j]? = some (some v') ∧ s'.P Z B H v' []
def DG (X : Cx) (tg : Expr) (is : List Nat) (s : Slot X.K c) (G G' : Env X.K c) : Prop :=
  ∃ gt, PG X tg gt ∧ ∀ Z B H σ v Q, Same B H → Kp Z H → σ.length = G.length → s.P Z B H v [] → (∀ σ', Bound is G G' Z B H σ σ' → Q σ' H) → gt v σ H Q
section
variable {X : Cx} {G G' G1 G2 : Env X.K c} {e : Expr} {es : List Expr} {pos : Pos} {d : D} {ds : List D} {x : Str} {k : Nat} {s : Slot X.K c}
theorem dg_nameN (nd : X.N.Nodup) (i : Nat) (hl : i < G.length := by exact Nat.le_of_ble_eq_true rfl) (hp : s.par = false := by rfl) (hi : X.N[i]? = some x := by rfl) (hx : Loc X.env.scope x := by first | exact Or.inl rfl | exact Or.inr rfl)
    (hf : X.fn x = true ∨ X.env.scope.names.lookup x = some .local := by first | exact .inl rfl | exact .inr rfl) : DG X (.Name x pos) [i] s G (G.set i (some s)) := by
  refine ⟨_, pg_name nd hi hx hf, fun Z B H σ v Q sb sz ln p h => h _ ⟨by simp, by simp, fun j hj => ?_, fun j hj => ?_⟩⟩
  · have ne : i ≠ j := fun z => hj (List.mem_singleton.mpr z.symm)
    rw [List.getElem?_set_ne ne, List.getElem?_set_ne ne]
    exact ⟨rfl, rfl⟩
  · rw [List.mem_singleton.mp hj]
    exact ⟨s, v, by rw [List.getElem?_set_self hl], hp, by rw [List.getElem?_set_self (by rw [ln]; exact hl)], p⟩
theorem dg_name (C : Bd X k) (i : Nat) (hl : i < G.length := by exact Nat.le_of_ble_eq_true rfl) (hp : s.par = false := by rfl) (hi : X.N[i]? = some x := by rfl) (hx : Loc X.env.scope x := by first | exact Or.inl rfl | exact Or.inr rfl)
    (hf : X.fn x = true ∨ X.env.scope.names.lookup x = some .local := by first | exact .inl rfl | exact .inr rfl) : DG X (.Name x pos) [i] s G (G.set i (some s)) := dg_nameN C.nd i hl hp hi hx hf
/-- a row of targets, for a row of plain data -/
def DGs (X : Cx) (tgs : List Expr) (is : List Nat) (ds : List D) (G G' : Env X.K c) : Prop :=
  ∃ gt, PGs X tgs gt ∧ ∀ Z B H σ vs Q, Same B H → Kp Z H → σ.length = G.length → TpAll X.K c B vs ds → (∀ σ', Bound is G G' Z B H σ σ' → Q σ' H) → gt vs σ H Q
theorem dgs_nil : DGs X [] [] [] G G := by
  refine ⟨_, pgs_nil, fun Z B H σ vs Q sb sz ln p h => ?_⟩
  cases p
  exact ⟨rfl, h σ ⟨rfl, rfl, fun j _ => ⟨rfl, rfl⟩, fun j hj => absurd hj List.not_mem_nil⟩⟩
theorem Bound.trans {K : PySem.W.Frag} {G G1 G2 : Env K c} {is js : List Nat} {Z B H : Hp} {σ σ1 σ2 : Sg} (a : Bound is G G1 Z B H σ σ1) (b : Bound js G1 G2 Z B H σ1 σ2) : Bound (is ++ js) G G2 Z B H σ σ2 := by
  refine ⟨b.lg.trans a.lg, b.ls.trans a.ls, fun j hj => ?_, fun j hj => ?_⟩
  · have h1 := b.un j fun z => hj (List.mem_append_right _ z)
    have h2 := a.un j fun z => hj (List.mem_append_left _ z)
    exact ⟨h1.1.trans h2.1, h1.2.trans h2.2⟩
  · by_cases z : j ∈ js
    · exact b.at_ j z
    · have h1 := b.un j z
      obtain ⟨s', v', q1, q2, q3, q4⟩ := a.at_ j ((List.mem_append.mp hj).resolve_right z)
      exact ⟨s', v', h1.1.trans q1, q2, h1.2.trans q3, q4⟩
theorem dgs_cons {is js : List Nat} (h : DG X e is (sd d) G G1) (h' : DGs X es js ds G1 G2) (hs : (assignEach (e :: es) X.env).map (·.2) = assign e X.env :: (assignEach es X.env).map (·.2) := by rfl) : DGs X (e :: es) (is ++ js) (d :: ds) G G2 := by
  obtain ⟨g1, p1, r1⟩ := h
  obtain ⟨g2, p2, r2⟩ := h'
  refine ⟨_, pgs_cons p1 p2 hs, fun Z B H σ vs Q sb sz ln p h => ?_⟩
  cases p with
  | cons q1 q2 =>
    refine ⟨_, _, rfl, r1 Z B H σ _ _ sb sz ln ⟨rfl, q1⟩ fun σ1 b1 => r2 Z B H σ1 _ Q sb sz (by rw [b1.ls, b1.lg]; exact ln) q2 fun σ2 b2 => h σ2 (b1.trans b2)⟩
theorem dg_tup (C : Bd X k) {is : List Nat} {kk : Nat} (h : DGs X es is ds G G') (hn : (assignEach es X.env).length = ds.length := by rfl) (hst : (assignEach es X.env).findIdx? (·.1) = none := by rfl) : DG X (.Tuple es kk pos) is (sd (.tuple ds)) G G' := by
  obtain ⟨g, p, r⟩ := h
  refine ⟨_, pg_tup C.calm p hn hst, fun Z B H σ v Q sb sz ln p h => ?_⟩
  cases p.2 with
  | tup hs ha => exact ⟨_, _, rfl, Same.tup sb hs.sq, by rw [ha.length], r Z B H σ _ Q sb sz ln ha h⟩
end
def fdrop (fps : Nat → List Addr) (is : List Nat) : Nat → List Addr := fun j => if j ∈ is then [] else fps j
theorem fdrop_in {fps : Nat → List Addr} {is : List Nat} {j : Nat} (h : j ∈ is) : fdrop fps is j = [] := by simp [fdrop, h]
theorem fdrop_out {fps : Nat → List Addr} {is : List Nat} {j : Nat} (h : j ∉ is) : fdrop fps is j = fps j := by simp [fdrop, h]
theorem StE.bound {K : PySem.W.Frag} {F : Ent} {is : List Nat} {G G' : Env K c} {B H : Hp} {σ σ' : Sg} (S : StE F G B H σ) (b : Bound is G G' F.Z B H σ σ') : StE F G' B H σ' := by
  obtain ⟨fps, h1, h2⟩ := S.sl
  refine ⟨S.sub, S.b0, S.zf, S.h0, S.hw, S.th, S.tb, S.tt, S.new, by rw [b.ls, b.lg]; exact S.len, fun j s w q hq hw => ?_, fdrop fps is, fun j s q => ?_, fun i j s s' ne q1 q2 a ha hb => ?_⟩
  · by_cases z : j ∈ is
    · obtain ⟨s', v', q1, q2, q3, q4⟩ := b.at_ j z
      rw [q1] at q
      cases q
      rw [q2] at hq
      cases hq
    · obtain ⟨q1, q2⟩ := b.un j z
      rw [q1] at q
      rw [q2] at hw
      exact S.pn j s w q hq hw
  · by_cases z : j ∈ is
    · obtain ⟨s', v', q1, q2, q3, q4⟩ := b.at_ j z
      rw [q1] at q
      cases q
      refine ⟨v', q3, by rw [fdrop_in z]; exact q4, fun a ha => ?_⟩
      rw [fdrop_in z] at ha
      exact absurd ha List.not_mem_nil
    · obtain ⟨q1, q2⟩ := b.un j z
      rw [q1] at q
      obtain ⟨v, r1, r2, r3⟩ := h1 j s q
      refine ⟨v, q2.trans r1, by rw [fdrop_out z]; exact r2, fun a ha => ?_⟩
      rw [fdrop_out z] at ha
      exact r3 a ha
  · by_cases z : i ∈ is
    · rw [fdrop_in z] at ha
      exact List.not_mem_nil ha
    · by_cases z' : j ∈ is
      · rw [fdrop_in z'] at hb
        exact List.not_mem_nil hb
      · rw [fdrop_out z] at ha
        rw [fdrop_out z'] at hb
        rw [(b.un i z).1] at q1
        rw [(b.un j z').1] at q2
        exact h2 i j s s' ne q1 q2 a ha hb

/-- n items, the i-th fits the slot g i -/
def Walkd {K : PySem.W.Frag} (J : It) (n : Nat) (g : Nat → Slot K c) (Z B1 : Hp) : Prop :=
  ∀ i B H, Same B1 B → Same B H → Kp Z H → (i < n → J.go i H ∧ ∀ x H', J.yld i H x H' → ∃ B', Ext B H B' H' ∧ (g i).P Z B' H' x []) ∧ (n ≤ i → J.stop i H)
def DIp (P : TI → Prop) (X : Cx) (G : Env X.K c) (n : Nat) (g : Nat → Slot X.K c) : Prop :=
  ∃ wi, P wi ∧ ∀ Z B H σ R, EnvE G Z B H σ → (∀ J B' H', Ext B H B' H' → Walkd J n g Z B' → R J H') → wi σ H R
abbrev DI (X : Cx) (G : Env X.K c) (tg iter : Expr) (n : Nat) (g : Nat → Slot X.K c) : Prop := DIp (PI X tg iter) X G n g
section
variable {X : Cx} {G : Env X.K c} {tg e e2 : Expr} {pos p : Pos} {ds es : List D}
/-- the items of plain data, to be kept or to be read -/
theorem walk_list {K : PySem.W.Frag} {Z B : Hp} {a : Addr} {xs : List V} (h0 : Rd B a (.lst xs)) (hd : TpAll K c B xs ds) : Walkd (Itl K a) ds.length (fun i => sd (K := K) (c := c) (ds[i]?.getD .none)) Z B := by
  intro i B2 H2 e1 e2 e3
  have h2 : SqL K H2 a xs := .inl (Same.rd e2 (Same.rd e1 h0))
  have hl := hd.length
  refine ⟨fun hi => ⟨⟨xs, xs[i]'(by omega), h2, by simp [List.getElem?_eq_getElem, hl, hi]⟩, fun x H' y => ?_⟩, fun hi => ⟨xs, h2, by omega⟩⟩
  obtain ⟨e, y⟩ := y
  subst e
  obtain ⟨d, q1, q2⟩ := hd.getV (y xs h2)
  exact ⟨B2, Ext.refl e2, rfl, by rw [q1]; exact Tp.mono e1 _ _ q2⟩
theorem walk_listB {K : PySem.W.Frag} {Z B : Hp} {a : Addr} {xs : List V} (h0 : SqL K Z a xs) (hd : TmAll K c Z B xs ds) : Walkd (Itl K a) ds.length (fun i => sb (K := K) (c := c) (ds[i]?.getD .none)) Z B := by
  intro i B2 H2 e1 e2 e3
  have h2 : SqL K H2 a xs := e3.seq h0
  have hl := hd.length
  refine ⟨fun hi => ⟨⟨xs, xs[i]'(by omega), h2, by simp [List.getElem?_eq_getElem, hl, hi]⟩, fun x H' y => ?_⟩, fun hi => ⟨xs, h2, by omega⟩⟩
  obtain ⟨e, y⟩ := y
  subst e
  obtain ⟨d, q1, q2⟩ := hd.getV (y xs h2)
  exact ⟨B2, Ext.refl e2, rfl, by rw [q1]; exact Tm.mono (Kp.refl _) e1 _ _ q2⟩
theorem walk_tup {K : PySem.W.Frag} {Z B : Hp} {a : Addr} {xs : List V} (h : SqT K B a xs) (hd : TpAll K c B xs ds) : Walkd (Itt K a) ds.length (fun i => sd (K := K) (c := c) (ds[i]?.getD .none)) Z B := by
  intro i B2 H2 e1 e2 e3
  have h2 := Same.tup e2 (Same.tup e1 h)
  have hl := hd.length
  refine ⟨fun hi => ⟨⟨xs, xs[i]'(by omega), h2, by simp [List.getElem?_eq_getElem, hl, hi]⟩, fun x H' y => ?_⟩, fun hi => ⟨xs, h2, by omega⟩⟩
  obtain ⟨e, y⟩ := y
  subst e
  obtain ⟨d, q1, q2⟩ := hd.getV (y xs h2)
  exact ⟨B2, Ext.refl e2, rfl, by rw [q1]; exact Tp.mono e1 _ _ q2⟩
theorem di_list (h : DE X G e (.list ds)) : DI X G tg e ds.length (fun i => sd (K := X.K) (c := c) (ds[i]?.getD .none)) := by
  obtain ⟨t, p, r⟩ := h
  refine ⟨_, pi_list p, fun Z B H σ R E g => r Z B H σ _ E fun v B' H' e h => ?_⟩
  cases h with
  | lst hs ha => exact ⟨_, rfl, ⟨_, .inl (Same.rd e.sub hs)⟩, g _ B' H' e (walk_list hs ha)⟩
theorem di_listB (h : DZ X G e (.list ds)) : DI X G tg e ds.length (fun i => sb (K := X.K) (c := c) (ds[i]?.getD .none)) := by
  obtain ⟨t, p, r⟩ := h
  refine ⟨_, pi_list p, fun Z B H σ R E g => r Z B H σ _ E fun v B' H' e h => ?_⟩
  cases h with
  | of h =>
    cases h with
    | lst hs ha =>
      refine ⟨_, rfl, ⟨_, .inl (Same.rd e.sub hs)⟩, g _ B' H' e ?_⟩
      intro i B2 H2 e1 e2 e3
      have w := walk_list (Z := Z) hs ha i B2 H2 e1 e2 e3
      refine ⟨fun hi => ⟨(w.1 hi).1, fun x H' y => ?_⟩, w.2⟩
      obtain ⟨B', q1, q2, q3⟩ := (w.1 hi).2 x H' y
      exact ⟨B', q1, rfl, .of q3⟩
  | lst hs ha => exact ⟨_, rfl, ⟨_, (E.z.trans e.h).seq hs⟩, g _ B' H' e (walk_listB hs ha)⟩
/-- a list whose items are no lists: they may be kept -/
theorem di_listZ (h : DZ X G e (.list ds)) (hn : ∀ d ∈ ds, nolist d = true) : DI X G tg e ds.length (fun i => sd (K := X.K) (c := c) (ds[i]?.getD .none)) := by
  obtain ⟨wi, p, r⟩ := di_listB (tg := tg) h
  refine ⟨wi, p, fun Z B H σ R E g => r Z B H σ R E fun J B' H' e w => g J B' H' e ?_⟩
  intro i B2 H2 e1 e2 e3
  refine ⟨fun hi => ⟨((w i B2 H2 e1 e2 e3).1 hi).1, fun x H' y => ?_⟩, (w i B2 H2 e1 e2 e3).2⟩
  obtain ⟨B', q1, q2, q3⟩ := ((w i B2 H2 e1 e2 e3).1 hi).2 x H' y
  refine ⟨B', q1, rfl, q3.kept ?_⟩
  rw [List.getElem?_eq_getElem hi]
  exact hn _ (List.getElem_mem hi)
theorem di_tup (h : DE X G e (.tuple ds)) : DI X G tg e ds.length (fun i => sd (K := X.K) (c := c) (ds[i]?.getD .none)) := by
  obtain ⟨t, p, r⟩ := h
  refine ⟨_, pi_tup p, fun Z B H σ R E g => r Z B H σ _ E fun v B' H' e h => ?_⟩
  cases h with
  | tup hs ha => exact ⟨_, rfl, ⟨_, Same.tup e.sub hs.sq⟩, g _ B' H' e (walk_tup hs.sq ha)⟩
theorem di_range1 {m : Int} (h : DE X G e (.int m)) (h1 : -(2 ^ 62) ≤ m) (h2 : m < 2 ^ 62) (hm : X.mg "range" = none) (hg : Gl X "range" := by rfl) (hs : starEach [e] X.env = [(false, eval e X.env)] := by rfl) :
    DI X G tg (.Call (.Name "range" p) [e] [] pos) m.toNat fun i => sd (.int i) := by
  obtain ⟨t, q, r⟩ := h
  refine ⟨_, pi_range1 hg hm (pa_cons q pa_nil hs) hs, fun Z B H σ R E g => r Z B H σ _ E fun v B' H' e h => ?_⟩
  cases h
  refine ⟨_, rfl, h1, h2, g _ B' H' e fun i B2 H2 e1 e2 e3 => ⟨fun hi => ⟨hi, fun x H' y => ?_⟩, fun hi => hi⟩⟩
  obtain ⟨y1, y2⟩ := y
  subst y1 y2
  exact ⟨B2, Ext.refl e2, rfl, by rw [Int.zero_add]; exact .int _⟩
theorem di_range2 {lo m : Int} (h : DE X G e (.int lo)) (h' : DE X G e2 (.int m)) (h1 : -(2 ^ 62) ≤ lo ∧ lo < 2 ^ 62) (h2 : -(2 ^ 62) ≤ m ∧ m < 2 ^ 62) (hm : X.mg "range" = none) (hg : Gl X "range" := by rfl)
    (hs : starEach [e, e2] X.env = [(false, eval e X.env), (false, eval e2 X.env)] := by rfl) (hs2 : starEach [e2] X.env = [(false, eval e2 X.env)] := by rfl) :
    DI X G tg (.Call (.Name "range" p) [e, e2] [] pos) (m - lo).toNat fun i => sd (.int (lo + i)) := by
  obtain ⟨t, q, r⟩ := h
  obtain ⟨t', q', r'⟩ := h'
  refine ⟨_, pi_range2 hg hm (pa_cons q (pa_cons q' pa_nil (by rw [hs2]; rfl)) (by rw [hs, hs2])) hs hs2, fun Z B H σ R E g => r Z B H σ _ E fun v B' H' e h => r' Z B' H' σ _ (E.ext e) fun v2 B3 H3 e3 h3 => ?_⟩
  cases h
  cases h3
  refine ⟨_, _, rfl, ⟨h1.1, h1.2, h2.1, h2.2⟩, g _ B3 H3 (e.trans e3) fun i B2 H2 e1 e2 e3 => ⟨fun hi => ⟨hi, fun x H' y => ?_⟩, fun hi => hi⟩⟩
  obtain ⟨y1, y2⟩ := y
  subst y1 y2
  exact ⟨B2, Ext.refl e2, rfl, .int _⟩
end

theorem StE.rebase {K : PySem.W.Frag} {F : Ent} {G G2 : Env K c} {B1 H1 B H : Hp} {σ σ1 : Sg} (S : StE F G B1 H1 σ1) (T : StE { F with B0 := B1 } G2 B H σ) : StE F G2 B H σ :=
  ⟨T.sub, S.b0.trans T.b0, T.zf, T.h0, T.hw, T.th, T.tb, T.tt, fun a q r => T.new a (S.new a q r) r, T.len, T.pn, T.sl⟩
theorem StE.based {K : PySem.W.Frag} {F : Ent} {G : Env K c} {B H : Hp} {σ : Sg} (S : StE F G B H σ) : StE { F with B0 := B } G B H σ :=
  ⟨S.sub, Same.refl _, S.zf, S.h0, S.hw, S.th, S.tb, S.tt, fun _ q _ => q, S.len, S.pn, S.sl⟩
section
variable {X : Cx} {G : Env X.K c} {tg e iter : Expr} {body rest : List Stmt} {Ph : Out X.K c → Prop} {pos p : Pos} {k : Nat}
/-- what a turn is to reach -/
def turnP (X : Cx) (Gn : Env X.K c) (rest : List Stmt) (Ph : Out X.K c → Prop) : Out X.K c → Prop
  | .nx G' => Wk G' Gn
  | .ct G' => Wk G' Gn
  | .bk G' => DSs X G' rest Ph
  | .ret s G' => Ph (.ret s G')
  | .exc cls G' => Ph (.exc cls G')
theorem dss_for (C : Bd X k) {n : Nat} {g : Nat → Slot X.K c} (hi : DI X G tg iter n g) (I : Nat → Env X.K c) (h0 : Wk G (I 0)) {is : List Nat} {I' : Nat → Env X.K c} (hg : ∀ i, i < n → DG X tg is (g i) (I i) (I' i))
    (turn : ∀ i, i < n → DSs X (I' i) body (turnP X (I (i + 1)) rest Ph)) (hr : DSs X (I n) rest Ph) (hs : ∀ x, foldedSetIterable iter X.env x = pure x := by intro _; rfl) : DSs X G (.For tg iter body [] pos :: rest) Ph := fun F B H σ D S E => by
  obtain ⟨wi, pi, ri⟩ := hi
  by_cases hn : n = 0
  · subst hn
    refine wp_of (pss_cons (ps_for C.po C.calm pi (g := fun _ _ _ _ => False) ⟨fun _ _ _ _ _ _ _ _ _ h => False.elim h⟩ (pss_wp (X := X) (sts := body)) hs) pss_wp) (ri F.Z B H σ _ S.env fun J B1 H1 e1 w => ?_)
    have S1 := S.ext e1
    refine ⟨fun i m σ H => m = 0 ∧ ∃ B, StE { F with B0 := B1 } (I 0) B H σ, ⟨0, rfl, B1, S1.based.weak h0⟩, fun i m σ H ⟨_, B, T⟩ => .inl ⟨(w i B H T.b0 T.sub T.z).2 (Nat.zero_le _), ?_⟩⟩
    exact hr F B H σ D (S1.rebase T) E
  · obtain ⟨gt, pg, _⟩ := hg 0 (Nat.pos_of_ne_zero hn)
    have pgw : PG X tg (fun v σ H Q => ∃ i, ∃ h : i < n, (hg i h).choose v σ H Q) := ⟨fun pins s σ H v u Q I0 r h => by
      obtain ⟨i, hi, h⟩ := h
      exact (hg i hi).choose_spec.1.run pins s σ H v u Q I0 r h⟩
    refine wp_of (pss_cons (ps_for C.po C.calm pi pgw (pss_wp (X := X) (sts := body)) hs) pss_wp) (ri F.Z B H σ _ S.env fun J B1 H1 e1 w => ?_)
    have S1 := S.ext e1
    refine ⟨fun i m σ H => m = n - i ∧ i ≤ n ∧ ∃ B, StE { F with B0 := B1 } (I i) B H σ, ⟨n, by simp, Nat.zero_le _, B1, S1.based.weak h0⟩, ?_⟩
    rintro i m σ2 H2 ⟨rfl, hi, B2, T⟩
    by_cases hlt : i < n
    · have wk := (w i B2 H2 T.b0 T.sub T.z).1 hlt
      refine .inr ⟨wk.1, fun σ' H' => ∃ B', StE { F with B0 := B1 } (I (i + 1)) B' H' σ', fun σ' H' T' => ⟨n - (i + 1), by omega, rfl, hlt, T'⟩, fun x H' y => ?_⟩
      obtain ⟨B', e2, hx⟩ := wk.2 x H' y
      have T2 := T.ext e2
      refine ⟨i, hlt, (hg i hlt).choose_spec.2 F.Z B' H' σ2 x _ T2.sub T2.z T2.len hx fun σ3 b => ?_⟩
      have T3 := T2.bound b
      refine turn i hlt { F with B0 := B1 } B' H' σ3 _ T3 ⟨fun G' B4 H4 σ4 T4 w4 => ⟨B4, T4.weak w4⟩, fun G' B4 H4 σ4 T4 w4 => w4 F B4 H4 σ4 D (S1.rebase T4) E, fun G' B4 H4 σ4 T4 w4 => ⟨B4, T4.weak w4⟩, fun s G' B4 H4 σ4 v fp T4 q f w4 => E.rt s G' B4 H4 σ4 v fp (S1.rebase T4) q f w4, E.ex.elim fun W hw => ⟨W, hw.1, fun cls G' B4 H4 σ4 T4 w4 => hw.2 cls G' B4 H4 σ4 (S1.rebase T4) w4⟩⟩
    · have en : i = n := by omega
      subst en
      exact .inl ⟨(w i B2 H2 T.b0 T.sub T.z).2 (Nat.le_refl _), hr F B2 H2 σ2 D (S1.rebase T) E⟩
/-- while: by states of one's own and a measure -/
theorem dss_while (C : Bd X k) {al : Type} (I : al → Env X.K c) (mu : al → Nat) (b : al → Bool) (a0 : al) (h0 : Wk G (I a0)) (hc : ∀ a, DT X (I a) e (b a))
    (turn : ∀ a, b a = true → DSs X (I a) body fun o => match o with
      | .nx G' => ∃ a', mu a' < mu a ∧ Wk G' (I a')
      | .ct G' => ∃ a', mu a' < mu a ∧ Wk G' (I a')
      | .bk G' => DSs X G' rest Ph
      | .ret s G' => Ph (.ret s G')
      | .exc cls G' => Ph (.exc cls G'))
    (hr : ∀ a, b a = false → DSs X (I a) rest Ph) : DSs X G (.While e body [] pos :: rest) Ph := fun F B H σ D S E => by
  have ptw : PT X e (fun σ H Q => ∃ a, (hc a).choose σ H Q) := ⟨fun pins s σ H Q I0 h => by
    obtain ⟨a, h⟩ := h
    exact (hc a).choose_spec.1.run pins s σ H Q I0 h⟩
  refine wp_of (pss_cons (ps_while C.po ptw (pss_wp (X := X) (sts := body))) pss_wp) ?_
  refine ⟨fun m σ H => ∃ a B, m = mu a ∧ StE F (I a) B H σ, ⟨_, a0, B, rfl, S.weak h0⟩, ?_⟩
  rintro m σ1 H1 ⟨a, B1, rfl, T⟩
  refine ⟨a, (hc a).choose_spec.2 F.Z B1 H1 σ1 _ T.env fun B2 H2 e2 => ?_⟩
  have T2 := T.ext e2
  cases hb : b a with
  | true =>
    refine iteT ⟨fun σ' H' => ∃ a' B', mu a' < mu a ∧ StE F (I a') B' H' σ', fun σ' H' ⟨a', B', l, T'⟩ => ⟨mu a', l, a', B', rfl, T'⟩, ?_⟩
    exact turn a hb F B2 H2 σ1 _ T2 ⟨fun G' B4 H4 σ4 T4 ⟨a', l, w4⟩ => ⟨a', B4, l, T4.weak w4⟩, fun G' B4 H4 σ4 T4 w4 => w4 F B4 H4 σ4 D T4 E, fun G' B4 H4 σ4 T4 ⟨a', l, w4⟩ => ⟨a', B4, l, T4.weak w4⟩, fun s G' B4 H4 σ4 v fp T4 q f w4 => E.rt s G' B4 H4 σ4 v fp T4 q f w4, E.ex.elim fun W hw => ⟨W, hw.1, fun cls G' B4 H4 σ4 T4 w4 => hw.2 cls G' B4 H4 σ4 T4 w4⟩⟩
  | false => exact iteF (hr a hb F B2 H2 σ1 D T2 E)
/-- a target that takes plain data: a, b = e -/
theorem dss_asg (C : Bd X k) {is : List Nat} {d : D} {G' : Env X.K c} (he : DE X G e d) (hg : DG X tg is (sd d) G G') (h : DSs X G' rest Ph) (hs : swapsWithSole [tg] e pos.line X.env = pure false := by rfl) (hw : swappedStores [tg] e X.env = pure none := by rfl)
    (h1 : (assignEach [tg] X.env).map (·.2) = [assign tg X.env] := by rfl) : DSs X G (.Assign [tg] e pos :: rest) Ph := fun F B H σ D S E => by
  obtain ⟨t, p, r⟩ := he
  obtain ⟨gt, pg, rg⟩ := hg
  refine wp_of (pss_cons (ps_asg p pg hs hw h1) pss_wp) (r F.Z B H σ _ S.env fun v B' H' e q => ?_)
  have S' := S.ext e
  exact rg F.Z B' H' σ v _ S'.sub S'.z S'.len ⟨rfl, q⟩ fun σ' b => h F B' H' σ' D (S'.bound b) E
/-- a list of one's own is laid down for good -/
theorem dss_freeze (i : Nat) {ds : List D} (h : DSs X (G.set i (some (sd (.list ds)))) rest Ph) (hG : G[i]? = some (some (so ds)) := by rfl) : DSs X G rest Ph := fun F B H σ D S E => by
  obtain ⟨fps, h1, h2⟩ := S.sl
  obtain ⟨v, hv, ⟨p, vs, e0, e1, e2, e3, e4⟩, hf⟩ := h1 i _ hG
  have hp : F.H0 p = none := by
    have := hf p (by rw [e1]; exact List.mem_cons_self)
    simpa [so] using this
  have il : i < G.length := (List.getElem?_eq_some_iff.mp hG).1
  have up : Same B (upd B p (.lst vs)) := same_upd e2
  refine h F (upd B p (.lst vs)) H σ D ⟨fun a o q => ?_, S.b0.trans up, S.zf, S.h0, S.hw, S.th, S.tb, S.tt.re fun a ps q r => by rw [upd_ne fun z => nomatch (show some (HO.lst vs) = some (HO.tbl ps) from by rw [← e3, ← z]; exact q)]; exact r, fun a q r => ?_, by rw [List.length_set]; exact S.len, fun j s w q hq hw => ?_, fset fps i [], fun j s q => ?_, fun j l s1 s2 ne q1 q2 a ha hb => ?_⟩ E
  · by_cases z : a = p
    · subst z; rw [upd_same] at q; cases q; exact e3
    · rw [upd_ne z] at q; exact S.sub a o q
  · by_cases z : a = p
    · subst z; exact absurd hp r
    · rw [upd_ne z]; exact S.new a q r
  · rcases getset q with ⟨rfl, q1, _⟩ | ⟨ne, q⟩
    · cases q1
      cases hq
    · exact S.pn j s w q hq hw
  · rcases getset q with ⟨rfl, q1, _⟩ | ⟨ne, q⟩
    · cases q1
      refine ⟨v, hv, ⟨fset_same, ?_⟩, fun a ha => ?_⟩
      · subst e0
        exact .lst (Rd.of upd_same) (TpAll.mono up _ _ e4)
      · rw [fset_same] at ha
        exact absurd ha List.not_mem_nil
    · obtain ⟨u, r1, r2, r3⟩ := h1 j s q
      refine ⟨u, r1, ?_, fun a ha => ?_⟩
      · rw [fset_ne ne]
        refine s.stb r2 up (fun a ha => ?_) fun a ha => rfl
        have : a ≠ p := fun z => h2 i j _ s ne hG q p (by rw [e1]; exact List.mem_cons_self) (z ▸ ha)
        rw [upd_ne this]
        exact (s.dom r2 a ha).1
      · rw [fset_ne ne] at ha
        exact r3 a ha
  · rcases getset q1 with ⟨rfl, _, _⟩ | ⟨n1, r1⟩
    · rw [fset_same] at ha
      exact List.not_mem_nil ha
    · rw [fset_ne n1] at ha
      rcases getset q2 with ⟨rfl, _, _⟩ | ⟨n2, r2⟩
      · rw [fset_same] at hb
        exact List.not_mem_nil hb
      · rw [fset_ne n2] at hb
        exact h2 j l s1 s2 ne r1 r2 a ha hb
/-- x += e, a plain name -/
theorem dss_aug (C : Bd X k) (i : Nat) {x : Str} {d1 d2 d : D} {op : Operator} {pos' : Pos} {ti : TIp} (he : DE X G e d2) (ho : PIp X op ti) (hp : ∀ B H v w Q, Same B H → Tp X.K c B v d1 → Tp X.K c B w d2 → Gv X.K c B H d Q → ti v w H Q) (h : DSs X (G.set i (some (sd d))) rest Ph)
    (hG : G[i]? = some (some (sd d1)) := by rfl) (hi : X.N[i]? = some x := by rfl) (hx : Loc X.env.scope x := by first | exact Or.inl rfl | exact Or.inr rfl)
    (hf : X.fn x = true ∨ X.env.scope.names.lookup x = some .local := by first | exact .inl rfl | exact .inr rfl) : DSs X G (.AugAssign (.Name x pos') op e pos :: rest) Ph := fun F B H σ D S E => by
  obtain ⟨t, p, r⟩ := he
  obtain ⟨v, fp, h1, h2, h3⟩ := S.env.sl i _ hG
  refine wp_of (pss_cons (ps_aug C.nd hi hx p ho hf) pss_wp) ⟨v, h1, r F.Z B H σ _ S.env fun w B' H' e q => ?_⟩
  refine hp B' H' v w _ e.sub (Tp.mono e.b _ _ h3) q fun u B2 H2 e2 q2 => ?_
  exact h F B2 H2 _ D (S.set (s := sd d) (fp := []) (e.trans e2) ⟨rfl, q2⟩ (fun a z => absurd z List.not_mem_nil) rfl i) E
end

def defEnd {K : PySem.W.Frag} (r : Slot K c) : Out K c → Prop
  | .ret s _ => s = r
  | .nx _ => r = sd .none
  | _ => False
def G0 {K : PySem.W.Frag} (N : List Str) (ss : List (Slot K c)) : Env K c := ss.map some ++ List.replicate (N.length - ss.length) none
theorem SlAll.length {K : PySem.W.Frag} {Z B H : Hp} : ∀ {vs : List V} {ss : List (Slot K c)}, SlAll Z B H vs ss → vs.length = ss.length
  | _, _, .nil => rfl
  | _, _, .cons _ h => by simp [SlAll.length h]
theorem SlAll.get {K : PySem.W.Frag} {Z B H : Hp} : ∀ {vs : List V} {ss : List (Slot K c)} {i : Nat} {s : Slot K c}, SlAll Z B H vs ss → ss[i]? = some s → ∃ v, vs[i]? = some v ∧ s.P Z B H v []
  | _, _, _, _, .nil, h => by simp at h
  | _, _, 0, _, .cons h _, e => by simp at e; subst e; exact ⟨_, rfl, h⟩
  | _, _, i + 1, _, .cons _ h, e => by simpa using SlAll.get (i := i) h (by simpa using e)
theorem ste_start {K : PySem.W.Frag} {N : List Str} {B H : Hp} {vs : List V} {ss : List (Slot K c)} (sb : Same B H) (tt : Dw.TabsB c.tabs B H) (h : SlAll H B H vs ss) (hl : ss.length ≤ N.length) : StE ⟨fun _ => False, B, H, H, fun i => (L2.start N vs)[i]?.getD none⟩ (G0 N ss) B H (L2.start N vs) := by
  have el := h.length
  refine ⟨sb, Same.refl _, fun a o q => ⟨q, fun z => z⟩, fun a o q _ _ => q, fun a w => w.elim, fun a q => q, fun P q t => t, tt, fun a q _ => q, ?_, fun i s v _ _ hv => by show (L2.start N vs)[i]?.getD none = some v; rw [hv]; rfl, fun _ => [], fun i s q => ?_, fun i j s s' _ _ _ a ha => absurd ha List.not_mem_nil⟩
  · simp [L2.start, G0, el]
  · unfold G0 at q
    by_cases hi : i < ss.length
    · rw [List.getElem?_append_left (by simpa using hi), List.getElem?_map] at q
      cases e : ss[i]? with
      | none => rw [e] at q; cases q
      | some s' =>
        rw [e] at q
        cases q
        obtain ⟨v, h1, h2⟩ := h.get e
        refine ⟨v, ?_, h2, fun a ha => absurd ha List.not_mem_nil⟩
        unfold L2.start
        rw [List.getElem?_append_left (by simpa [el] using hi), List.getElem?_map, h1]
        rfl
    · rw [List.getElem?_append_right (by simpa using hi), List.getElem?_replicate] at q
      split at q <;> cases q
theorem StE.ext0 {K : PySem.W.Frag} {B H Z B' H' : Hp} {pv : Nat → Option V} {G : Env K c} {σ : Sg} (T : StE ⟨fun _ => False, B, H, Z, pv⟩ G B' H' σ) : Ext B H B' H' :=
  ⟨T.b0, ⟨fun a o q n => T.h0 a o q n fun z => z, T.th, T.tb⟩, T.sub, fun a q q' => T.new a q q'⟩
abbrev bx (P : Program) (w : World) (K : PySem.W.Frag) (mg : Str → Option Value) (base : Heap) (N : List Str) (qual : Str) (st : Stmt) (f : Addr) (cdv : Value) (A : Around) (outer : List PySem.Env) (s : Shared) (H : Hp) (E : XK) : Cx :=
  (cxOf CX0 P w K mg base N qual (defScope st) f cdv A outer s H E).nox
theorem def_fn {P : Program} {w : World} {K : PySem.W.Frag} {mg : Str → Option Value} {base : Heap} {x qual : Str} {st : Stmt} {f : Addr} {fd : FuncData} {N ps : List Str} {k : Nat} {R : List (Slot K c) → Slot K c → Prop}
    (F : Fun K x qual st f fd) (S : FnScope N ps (defScope st)) (hR : ∀ ss r, R ss r → ss.length = ps.length)
    (body : ∀ (cdv : Value) (A : Around) (outer : List PySem.Env) (s : Shared) (H : Hp) (E : XK) (ss : List (Slot K c)) (r : Slot K c), R ss r → Bd (bx P w K mg base N qual st f cdv A outer s H E) k →
      DSs (c := c) (bx P w K mg base N qual st f cdv A outer s H E) (G0 N ss) (defBody st) (defEnd r)) : FnOk P w K mg base CX0 (k + 1) f fd ps (spS K R) := by
  refine F.ok S (fun vs H Q E h => ?_) fun cdv A outer s H vs Q E hr h => ?_
  · obtain ⟨B, ss, r, _, _, h, hq, _⟩ := h
    rw [h.length]
    exact hR ss r hq
  · obtain ⟨B, ss, r, sb, tt, h, hq, g⟩ := h
    have hl : ss.length ≤ N.length := by
      rw [hR ss r hq]
      have := congrArg List.length S.pre
      rw [List.length_take] at this
      omega
    have S0 := ste_start sb tt h hl
    refine ⟨_, pss_wp, body cdv A outer s H E ss r hq ⟨S.nd, rfl, hr, PassesOwn.never⟩ _ B H _ _ S0 ⟨fun G B' H' σ T e => ?_, fun G B' H' σ T e => e.elim, fun G B' H' σ T e => e.elim, fun u G B' H' σ v fp T p hf e => ?_, _, takes0N, fun cls G B' H' σ T e => e.elim⟩⟩
    · have e : r = sd .none := e
      subst e
      exact g .non B' H' [] T.ext0 (fun _ => ⟨rfl, .non⟩) fun a ha => absurd ha List.not_mem_nil
    · have e : u = r := e
      subst e
      exact g v B' H' fp T.ext0 p hf

theorem def_ok {P : Program} {w : World} {K : PySem.W.Frag} {mg : Str → Option Value} {base : Heap} {x qual : Str} {st : Stmt} {f : Addr} {fd : FuncData} {N ps : List Str} {k : Nat} {R : List (Slot K c) → Slot K c → Prop}
    (F : Fun K x qual st f fd) (S : FnScope N ps (defScope st)) (hm : mg x = some (.ref f)) (bn : Binds K fd ps []) (hR : ∀ ss r, R ss r → ss.length = ps.length)
    (body : ∀ (cdv : Value) (A : Around) (outer : List PySem.Env) (s : Shared) (H : Hp) (E : XK) (ss : List (Slot K c)) (r : Slot K c), R ss r → Bd (bx P w K mg base N qual st f cdv A outer s H E) k →
      DSs (c := c) (bx P w K mg base N qual st f cdv A outer s H E) (G0 N ss) (defBody st) (defEnd r)) : DefOk P w K mg base x (k + 1) R := ⟨⟨f, fd, ps, hm, F.kp, bn, def_fn F S hR body⟩⟩

theorem wk_nil {K : PySem.W.Frag} : Wk ([] : Env K c) [] := Wk.refl _
theorem wk_same {K : PySem.W.Frag} {G G' : Env K c} {s : Option (Slot K c)} (h : Wk G G') : Wk (s :: G) (s :: G') := ⟨by simp [h.1], fun i u q => by
  cases i with
  | zero => exact q
  | succ i => exact h.2 i u (by simpa using q)⟩
theorem wk_none {K : PySem.W.Frag} {G G' : Env K c} {s : Option (Slot K c)} (h : Wk G G') : Wk (s :: G) (none :: G') := ⟨by simp [h.1], fun i u q => by
  cases i with
  | zero => simp at q
  | succ i => exact h.2 i u (by simpa using q)⟩

def wipeG {K : PySem.W.Frag} (G : Env K c) : List Nat → Env K c
  | [] => G
  | v :: vs => (wipeG G vs).set v none
theorem wipe_at {σ : Sg} {i : Nat} : ∀ {vs : List Nat}, i ∉ vs → (wipe σ vs)[i]? = σ[i]? := fun h => wipe_out h
theorem wipe_in {σ : Sg} {i : Nat} : ∀ {vs : List Nat}, i ∈ vs → i < σ.length → (wipe σ vs)[i]? = some none
  | v :: vs, h, hl => by
    unfold wipe
    by_cases e : v = i
    · subst e
      rw [List.getElem?_set_self (by rw [wipe_length]; exact hl)]
    · rw [List.getElem?_set_ne e]
      exact wipe_in ((List.mem_cons.mp h).resolve_left fun z => e z.symm) hl
theorem wipeG_len {K : PySem.W.Frag} {G : Env K c} : ∀ {vs : List Nat}, (wipeG G vs).length = G.length
  | [] => rfl
  | v :: vs => by unfold wipeG; rw [List.length_set, wipeG_len]
theorem wipeG_get {K : PySem.W.Frag} {G : Env K c} {i : Nat} {s : Slot K c} : ∀ {vs : List Nat}, (wipeG G vs)[i]? = some (some s) → G[i]? = some (some s) ∧ i ∉ vs
  | [], h => ⟨h, List.not_mem_nil⟩
  | v :: vs, h => by
    unfold wipeG at h
    rcases getset h with ⟨_, e, _⟩ | ⟨ne, h⟩
    · cases e
    · obtain ⟨a, b⟩ := wipeG_get h
      exact ⟨a, fun z => (List.mem_cons.mp z).elim (fun z => ne z.symm) b⟩
theorem wipe_eq {σ σ2 : Sg} {vs is : List Nat} (hl : σ2.length = σ.length) (hs : ∀ i ∈ is, i ∈ vs) (h : ∀ j, j ∉ is → σ2[j]? = (wipe σ vs)[j]?) : wipe σ2 vs = wipe σ vs := by
  apply List.ext_getElem?
  intro j
  by_cases z : j ∈ vs
  · by_cases l : j < σ.length
    · rw [wipe_in z (by omega), wipe_in z l]
    · rw [List.getElem?_eq_none (by rw [wipe_length]; omega), List.getElem?_eq_none (by rw [wipe_length]; omega)]
  · rw [wipe_at z]
    exact h j fun q => z (hs j q)
section
variable {X : Cx} {G : Env X.K c} {tg e elt iter : Expr} {ifs : List Expr} {body rest : List Stmt} {Ph : Out X.K c → Prop} {pos p : Pos} {k : Nat} {scope : Scope} {own : List (Str × Nat)}
theorem Bd.blk (C : Bd X k) {s : Shared} {H : Hp} {scope : Scope} {a : Addr} {cl : List (Str × Addr)} {fp : List Addr} : Bd (X.blk s H scope (compEnvC scope cl a X.env) fp) k := ⟨C.nd, C.calm, C.room, PassesOwn.never⟩
/-- the block's contexts -/
abbrev BI := Shared × Hp × Addr × List (Str × Addr) × List Addr
abbrev bY (X : Cx) (scope : Scope) (j : BI) : Cx := X.blk j.1 j.2.1 scope (compEnvC scope j.2.2.2.1 j.2.2.1 X.env) j.2.2.2.2
def DTs (Y : Cx) (G : Env Y.K c) (ifs : List Expr) (b : Bool) : Prop :=
  ∃ tt, PTs Y ifs tt ∧ ∀ Z B H σ Q, EnvE G Z B H σ → (∀ B' H', Ext B H B' H' → Q b H') → tt σ H Q
theorem dts_nil : DTs X G [] true := ⟨_, pts_nil, fun Z B H σ Q E g => g B H (Ext.refl E.sub)⟩
theorem dts_one {b : Bool} (h : DT X G e b) : DTs X G [e] b := by
  obtain ⟨t, p, r⟩ := h
  exact ⟨_, pts_one p, r⟩
def fil (b : Nat → Bool) (f : Nat → D) (n : Nat) : List D := ((List.range n).filter b).map f
theorem fil_succ (b : Nat → Bool) (f : Nat → D) (n : Nat) : fil b f (n + 1) = fil b f n ++ (if b n = true then [f n] else []) := by
  unfold fil
  rw [List.range_succ, List.filter_append, List.map_append]
  cases e : b n <;> simp [List.filter, e]
theorem fil_len (b : Nat → Bool) (f : Nat → D) (n : Nat) : (fil b f n).length ≤ n := by
  unfold fil
  rw [List.length_map]
  have := List.length_filter_le b (List.range n)
  rw [List.length_range] at this
  exact this
theorem envE_bound {K : PySem.W.Frag} {is : List Nat} {G G' : Env K c} {Z B H : Hp} {σ σ' : Sg} (S : EnvE G Z B H σ) (b : Bound is G G' Z B H σ σ') : EnvE G' Z B H σ' := by
  refine ⟨S.sub, S.z, S.tb, fun j s q => ?_⟩
  by_cases z : j ∈ is
  · obtain ⟨s', v', q1, q2, q3, q4⟩ := b.at_ j z
    rw [q1] at q
    cases q
    exact ⟨v', [], q3, q4⟩
  · obtain ⟨q1, q2⟩ := b.un j z
    rw [q1] at q
    obtain ⟨v, fp, r1, r2⟩ := S.sl j s q
    exact ⟨v, fp, q2.trans r1, r2⟩
theorem envE_wipe {K : PySem.W.Frag} {G : Env K c} {Z B H : Hp} {σ : Sg} (S : EnvE G Z B H σ) (vs : List Nat) : EnvE (wipeG G vs) Z B H (wipe σ vs) := by
  refine ⟨S.sub, S.z, S.tb, fun j s q => ?_⟩
  obtain ⟨q1, q2⟩ := wipeG_get q
  obtain ⟨v, fp, r1, r2⟩ := S.sl j s q1
  exact ⟨v, fp, (wipe_at q2).trans r1, r2⟩
/-- a list comprehension, whatever becomes of it -/
def DLcP (P : TI → Prop) (X : Cx) (G : Env X.K c) (elt tg : Expr) (ifs : List Expr) (scope : Scope) (s : Slot X.K c) : Prop :=
  ∃ own wi g tt te, P wi ∧ BlkOk X.N X.env.scope scope own ∧ (∀ (s : Shared) (H : Hp) (C : Addr) (cl : List (Str × Addr)) (fp : List Addr), PG (X.blk s H scope (compEnvC scope cl C X.env) fp) tg g) ∧
    (∀ (s : Shared) (H : Hp) (C : Addr) (cl : List (Str × Addr)) (fp : List Addr), PTs (X.blk s H scope (compEnvC scope cl C X.env) fp) ifs tt) ∧ (∀ (s : Shared) (H : Hp) (C : Addr) (cl : List (Str × Addr)) (fp : List Addr), PE (X.blk s H scope (compEnvC scope cl C X.env) fp) elt te) ∧
    ∀ Z B H σ Q, EnvE G Z B H σ → Gs X.K c B H s Q → tLc wi g tt te (own.map (·.2)) σ H Q
abbrev DLc (X : Cx) (G : Env X.K c) (elt tg iter : Expr) (ifs : List Expr) (scope : Scope) (s : Slot X.K c) : Prop := DLcP (PI X tg iter) X G elt tg ifs scope s
theorem DLc.dx {s : Slot X.K c} (C : Bd X k) (h : DLc X G elt tg iter ifs scope s) (hs : ∀ x, foldedSetIterable iter X.env x = pure x := by intro _; rfl) : DX X G (.ListComp elt [⟨tg, iter, ifs, 0⟩] scope pos) s := by
  obtain ⟨own, wi, g, tt, te, h1, h2, h3, h4, h5, h6⟩ := h
  exact ⟨_, pe_lc C.calm C.nd h1 h2 h3 h4 h5 hs, h6⟩
/-- name = [..] on one line -/
theorem dss_setLc {s : Slot X.K c} {y : Str} {py spos : Pos} (C : Bd X k) (i : Nat) (h : DLc X G elt tg iter ifs scope s) (hr : DSs X (G.set i (some s)) rest Ph) (hp : s.par = false := by rfl) (hN : X.N[i]? = some y := by rfl) (hyl : X.env.scope.names.lookup y = some .local := by rfl)
    (hsw : swapsWith (.ListComp elt [⟨tg, iter, ifs, 0⟩] scope pos) (some (.Name y py)) spos.line X.env = pure true := by rfl) (hs : ∀ x, foldedSetIterable iter X.env x = pure x := by intro _; rfl) :
    DSs X G (.Assign [.Name y py] (.ListComp elt [⟨tg, iter, ifs, 0⟩] scope pos) spos :: rest) Ph := fun F B H σ D S E => by
  obtain ⟨own, wi, g, tt, te, h1, h2, h3, h4, h5, h6⟩ := h
  refine wp_of (pss_cons (ps_setLc C.calm C.nd hN hyl hsw h1 h2 h3 h4 h5 hs) pss_wp) (show tLc wi g tt te (own.map (·.2)) σ H (fun x H1 => gName i x σ H1 (wpS X rest D)) from h6 F.Z B H σ _ S.env fun v B' H' fp e q hf => ?_)
  exact hr F B' H' _ D (S.set e (q _) hf hp i) E
/-- [elt for tg in iter if ..] -/
theorem dlc_TP {P : TI → Prop} {n : Nat} {g : Nat → Slot X.K c} (hi : DIp P X G n g) (ok : BlkOk X.N X.env.scope scope own) {is : List Nat} (his : ∀ i ∈ is, i ∈ own.map (·.2)) (I' : Nat → Env X.K c) (b : Nat → Bool) (f : Nat → D) (hz : n < sizeLine)
    (hl : G.length = X.N.length)
    (hg : ∀ j : BI, ∀ i, i < n → DG (c := c) (bY X scope j) tg is (g i) (wipeG G (own.map (·.2))) (I' i))
    (ht : ∀ j : BI, ∀ i, i < n → DTs (c := c) (bY X scope j) (I' i) ifs (b i))
    (he : ∀ j : BI, ∀ i, i < n → b i = true → DE (c := c) (bY X scope j) (I' i) elt (f i)) : DLcP P X G elt tg ifs scope (so (fil b f n)) := by
  obtain ⟨wi, pi, ri⟩ := hi
  have vs : List Nat := own.map (·.2)
  let gw : TG := fun v σ H1 Q => ∀ j : BI, ∀ pins s' u, Inv (bY X scope j) pins σ H1 s' → RelV v u → wpAny (model X.prog X.w) X.A (assign tg (bY X scope j).env u) (fun _ s2 => ∃ σ' H', Inv (bY X scope j) pins σ' H' s2 ∧ Q σ' H') (fun _ _ => False) s'
  let tw : TT := fun σ H1 Q => ∀ j : BI, ∀ pins s', Inv (bY X scope j) pins σ H1 s' → wpAny (model X.prog X.w) X.A (forIn ifs true fun c r => if r = true then do let ok ← isTrue c (bY X scope j).env (eval c (bY X scope j).env); pure (ForInStep.yield ok) else pure (ForInStep.yield r)) (TP (bY X scope j) pins σ Q) (fun _ _ => False) s'
  let ew : TE := fun σ H1 Q => ∀ j : BI, ∀ pins s', Inv (bY X scope j) pins σ H1 s' → wpAny (model X.prog X.w) X.A (eval elt (bY X scope j).env) (EP (bY X scope j) pins σ Q) (fun _ _ => False) s'
  have pg : ∀ (s : Shared) (H : Hp) (C : Addr) (cl : List (Str × Addr)) (fp : List Addr), PG (X.blk s H scope (compEnvC scope cl C X.env) fp) tg gw := fun s H C cl fp => ⟨fun pins s' σ H v u Q I r h => h (s, _, C, cl, fp) pins s' u I r⟩
  have pt : ∀ (s : Shared) (H : Hp) (C : Addr) (cl : List (Str × Addr)) (fp : List Addr), PTs (X.blk s H scope (compEnvC scope cl C X.env) fp) ifs tw := fun s H C cl fp => ⟨fun pins s' σ H Q I h => h (s, _, C, cl, fp) pins s' I⟩
  have pe : ∀ (s : Shared) (H : Hp) (C : Addr) (cl : List (Str × Addr)) (fp : List Addr), PE (X.blk s H scope (compEnvC scope cl C X.env) fp) elt ew := fun s H C cl fp => ⟨fun pins s' σ H Q I h => h (s, _, C, cl, fp) pins s' I⟩
  refine ⟨own, wi, gw, tw, ew, pi, ok, pg, pt, pe, fun Z B H σ Q E gs => ri Z B H σ _ E fun J B1 H1 e1 w D hD => ?_⟩
  have E1 := E.ext e1
  have hHD : H D = none := e1.h.free hD
  refine ⟨fun i m H2 => m = n - i ∧ i ≤ n ∧ ∃ B2 acc, Ext B1 H1 B2 H2 ∧ B2 D = none ∧ H2 D = some (.lst acc) ∧ TpAll X.K c B2 acc (fil b f i), ⟨n, by simp, Nat.zero_le _, B1, [], Ext.layH e1.sub _ hD, e1.sub.free hD, upd_same, .nil⟩, ?_⟩
  rintro i m H2 ⟨rfl, hi, B2, acc, e2, d1, d2, d3⟩
  by_cases hlt : i < n
  · have wk := (w i B2 H2 e2.b e2.sub ((E1.ext e2).z)).1 hlt
    refine .inr ⟨wk.1, fun H' => ∃ B2 acc, Ext B1 H1 B2 H' ∧ B2 D = none ∧ H' D = some (.lst acc) ∧ TpAll X.K c B2 acc (fil b f (i + 1)), fun H' q => ⟨n - (i + 1), by omega, rfl, hlt, q⟩, fun x H3 y => ?_⟩
    obtain ⟨B3, e3, hx⟩ := wk.2 x H3 y
    have E3 := envE_wipe (E1.ext (e2.trans e3)) (own.map (·.2))
    intro j pins s' u Iv rv
    obtain ⟨gt, pg', rg⟩ := hg j i hlt
    refine pg'.run pins s' _ _ x u _ Iv rv (rg Z B3 H3 _ x _ E3.sub E3.z ?_ hx fun σ2 bd => ⟨?_, ?_⟩)
    · rw [wipe_length, wipeG_len, hl]
      have := Iv.len
      rw [wipe_length] at this
      exact this
    · exact wipe_eq (by rw [bd.ls, wipe_length]) his fun j' hj => (bd.un j' hj).2
    · have E4 := envE_bound E3 bd
      intro j2 pins2 s2 Iv2
      obtain ⟨tt, pt', rt⟩ := ht j2 i hlt
      refine pt'.run pins2 s2 σ2 H3 _ Iv2 (rt Z B3 H3 σ2 _ E4 fun B5 H5 e5 => ?_)
      have e35 := (e2.trans e3).trans e5
      have dB : B5 D = none := by
        have := e3.new D d1 (by rw [d2]; exact fun z => nomatch z)
        exact e5.new D this (e3.h.th _ (by rw [d2]; exact fun z => nomatch z))
      cases hb : b i with
      | false =>
        refine iteF ⟨B5, acc, e35, dB, e5.h.at (e3.h.at d2), ?_⟩
        rw [fil_succ, hb]
        simpa using TpAll.mono (e3.trans e5).b _ _ d3
      | true =>
        refine iteT ?_
        intro j3 pins3 s3 Iv3
        obtain ⟨te, pe', re⟩ := he j3 i hlt hb
        refine pe'.run pins3 s3 σ2 H5 _ Iv3 (re Z B5 H5 σ2 _ (E4.ext e5) fun y B6 H6 e6 hy => ?_)
        have d2' := e6.h.at (e5.h.at (e3.h.at d2))
        have dB6 : B6 D = none := e6.new D dB (by rw [e5.h.at (e3.h.at d2)]; exact fun z => nomatch z)
        refine ⟨acc, d2', by rw [d3.length]; have := fil_len b f i; omega, B6, acc ++ [y], ⟨(e35.trans e6).b, (e35.trans e6).h.over hD (.lst d2'), fun a o q => ?_, (e35.trans e6).new⟩, dB6, upd_same, ?_⟩
        · have : a ≠ D := ne_of_none q dB6
          rw [upd_ne this]
          exact e6.sub a o q
        · rw [fil_succ, hb]
          exact (TpAll.mono ((e3.trans e5).trans e6).b _ _ d3).append (.cons hy .nil)
  · have en : i = n := by omega
    subst en
    refine .inl ⟨(w i B2 H2 e2.b e2.sub ((E1.ext e2).z)).2 (Nat.le_refl _), gs _ B2 H2 [D] (e1.trans e2) (fun _ => ⟨D, acc, rfl, rfl, d1, d2, d3⟩) fun a ha => ?_⟩
    rw [List.mem_singleton.mp ha]
    exact hHD
theorem dlc_T (C : Bd X k) {n : Nat} {g : Nat → Slot X.K c} (hi : DI X G tg iter n g) (ok : BlkOk X.N X.env.scope scope own) {is : List Nat} (his : ∀ i ∈ is, i ∈ own.map (·.2)) (I' : Nat → Env X.K c) (b : Nat → Bool) (f : Nat → D) (hz : n < sizeLine)
    (hl : G.length = X.N.length)
    (hg : ∀ j : BI, ∀ i, i < n → DG (c := c) (bY X scope j) tg is (g i) (wipeG G (own.map (·.2))) (I' i))
    (ht : ∀ j : BI, ∀ i, i < n → DTs (c := c) (bY X scope j) (I' i) ifs (b i))
    (he : ∀ j : BI, ∀ i, i < n → b i = true → DE (c := c) (bY X scope j) (I' i) elt (f i)) : DLc X G elt tg iter ifs scope (so (fil b f n)) := dlc_TP hi ok his I' b f hz hl hg ht he
theorem dx_lcT (C : Bd X k) {n : Nat} {g : Nat → Slot X.K c} (hi : DI X G tg iter n g) (ok : BlkOk X.N X.env.scope scope own) {is : List Nat} (his : ∀ i ∈ is, i ∈ own.map (·.2)) (I' : Nat → Env X.K c) (b : Nat → Bool) (f : Nat → D) (hz : n < sizeLine)
    (hl : G.length = X.N.length)
    (hg : ∀ j : BI, ∀ i, i < n → DG (c := c) (bY X scope j) tg is (g i) (wipeG G (own.map (·.2))) (I' i))
    (ht : ∀ j : BI, ∀ i, i < n → DTs (c := c) (bY X scope j) (I' i) ifs (b i))
    (he : ∀ j : BI, ∀ i, i < n → b i = true → DE (c := c) (bY X scope j) (I' i) elt (f i))
    (hs : ∀ x, foldedSetIterable iter X.env x = pure x := by intro _; rfl) : DX X G (.ListComp elt [⟨tg, iter, ifs, 0⟩] scope pos) (so (fil b f n)) := (dlc_T C hi ok his I' b f hz hl hg ht he).dx C hs
/-- .. the target one name -/
theorem dlc_1 (C : Bd X k) {x : Str} {tp : Pos} (i0 : Nat) {n : Nat} {g : Nat → Slot X.K c} (hi : DI X G (.Name x tp) iter n g) (ok : BlkOk X.N X.env.scope scope [(x, i0)]) (b : Nat → Bool) (f : Nat → D) (hz : n < sizeLine)
    (ht : ∀ j : BI, ∀ i, i < n → DTs (c := c) (bY X scope j) ((wipeG G [i0]).set i0 (some (g i))) ifs (b i))
    (he : ∀ j : BI, ∀ i, i < n → b i = true → DE (c := c) (bY X scope j) ((wipeG G [i0]).set i0 (some (g i))) elt (f i))
    (hl : G.length = X.N.length := by rfl) (hl0 : i0 < G.length := by exact Nat.le_of_ble_eq_true rfl) (hp : ∀ i, (g i).par = false := by exact fun _ => rfl) (hN : X.N[i0]? = some x := by rfl)
    (hx : ∀ j : BI, Loc (bY X scope j).env.scope x := by first | exact fun _ => Or.inl rfl | exact fun _ => Or.inr rfl)
    (hf : ∀ j : BI, (bY X scope j).fn x = true ∨ (bY X scope j).env.scope.names.lookup x = some .local := by first | exact fun _ => .inl rfl | exact fun _ => .inr rfl) : DLc X G elt (.Name x tp) iter ifs scope (so (fil b f n)) :=
  dlc_T C (own := [(x, i0)]) hi ok (is := [i0]) (by simp) (fun i => (wipeG G [i0]).set i0 (some (g i))) b f hz hl
    (fun j i h => dg_name (c := c) C.blk i0 (by rw [wipeG_len]; exact hl0) (hp i) hN (hx j) (hf j)) ht he
theorem dlc_1P {P : TI → Prop} {x : Str} {tp : Pos} (i0 : Nat) {n : Nat} {g : Nat → Slot X.K c} (nd : X.N.Nodup) (hi : DIp P X G n g) (ok : BlkOk X.N X.env.scope scope [(x, i0)]) (b : Nat → Bool) (f : Nat → D) (hz : n < sizeLine)
    (ht : ∀ j : BI, ∀ i, i < n → DTs (c := c) (bY X scope j) ((wipeG G [i0]).set i0 (some (g i))) ifs (b i))
    (he : ∀ j : BI, ∀ i, i < n → b i = true → DE (c := c) (bY X scope j) ((wipeG G [i0]).set i0 (some (g i))) elt (f i))
    (hl : G.length = X.N.length := by rfl) (hl0 : i0 < G.length := by exact Nat.le_of_ble_eq_true rfl) (hp : ∀ i, (g i).par = false := by exact fun _ => rfl) (hN : X.N[i0]? = some x := by rfl)
    (hx : ∀ j : BI, Loc (bY X scope j).env.scope x := by first | exact fun _ => Or.inl rfl | exact fun _ => Or.inr rfl)
    (hf : ∀ j : BI, (bY X scope j).fn x = true ∨ (bY X scope j).env.scope.names.lookup x = some .local := by first | exact fun _ => .inl rfl | exact fun _ => .inr rfl) : DLcP P X G elt (.Name x tp) ifs scope (so (fil b f n)) :=
  dlc_TP (own := [(x, i0)]) hi ok (is := [i0]) (by simp) (fun i => (wipeG G [i0]).set i0 (some (g i))) b f hz hl
    (fun j i h => dg_nameN (c := c) (X := bY X scope j) nd i0 (by rw [wipeG_len]; exact hl0) (hp i) hN (hx j) (hf j)) ht he
theorem dx_lc1 (C : Bd X k) {x : Str} {tp : Pos} (i0 : Nat) {n : Nat} {g : Nat → Slot X.K c} (hi : DI X G (.Name x tp) iter n g) (ok : BlkOk X.N X.env.scope scope [(x, i0)]) (b : Nat → Bool) (f : Nat → D) (hz : n < sizeLine)
    (ht : ∀ j : BI, ∀ i, i < n → DTs (c := c) (bY X scope j) ((wipeG G [i0]).set i0 (some (g i))) ifs (b i))
    (he : ∀ j : BI, ∀ i, i < n → b i = true → DE (c := c) (bY X scope j) ((wipeG G [i0]).set i0 (some (g i))) elt (f i))
    (hl : G.length = X.N.length := by rfl) (hl0 : i0 < G.length := by exact Nat.le_of_ble_eq_true rfl) (hp : ∀ i, (g i).par = false := by exact fun _ => rfl) (hN : X.N[i0]? = some x := by rfl)
    (hx : ∀ j : BI, Loc (bY X scope j).env.scope x := by first | exact fun _ => Or.inl rfl | exact fun _ => Or.inr rfl)
    (hf : ∀ j : BI, (bY X scope j).fn x = true ∨ (bY X scope j).env.scope.names.lookup x = some .local := by first | exact fun _ => .inl rfl | exact fun _ => .inr rfl)
    (hs : ∀ x, foldedSetIterable iter X.env x = pure x := by intro _; rfl) : DX X G (.ListComp elt [⟨.Name x tp, iter, ifs, 0⟩] scope pos) (so (fil b f n)) :=
  dx_lcT C (own := [(x, i0)]) hi ok (is := [i0]) (by simp) (fun i => (wipeG G [i0]).set i0 (some (g i))) b f hz hl
    (fun j i h => dg_name (c := c) C.blk i0 (by rw [wipeG_len]; exact hl0) (hp i) hN (hx j) (hf j)) ht he hs
end
end Dw

namespace Dw
open PySem L2 PyProof.Rows
variable {c : Cl}
def Shp (n : Nat) (d : D) : Prop := d.canLay0 = true ∧ d.depth ≤ n
def ShpA (n : Nat) (ds : List D) : Prop := PyData.canLayAll0 ds = true ∧ PyData.depthAll ds ≤ n
theorem ShpA.nil (n : Nat) : ShpA n [] := ⟨by simp [PyData.canLayAll0], by simp [PyData.depthAll]⟩
theorem ShpA.cons {n : Nat} {d : D} {ds : List D} (h : Shp n d) (t : ShpA n ds) : ShpA n (d :: ds) := ⟨by simp [PyData.canLayAll0, h.1, t.1], by simp only [PyData.depthAll]; exact Nat.max_le.mpr ⟨h.2, t.2⟩⟩
theorem ShpA.map {α : Type} {n : Nat} {f : α → D} : ∀ {l : List α}, (∀ a ∈ l, Shp n (f a)) → ShpA n (l.map f)
  | [], _ => ShpA.nil n
  | a :: l, h => (h a List.mem_cons_self).elim fun x y => ShpA.cons ⟨x, y⟩ (ShpA.map fun b hb => h b (List.mem_cons_of_mem _ hb))
theorem ShpA.of {n : Nat} : ∀ {l : List D}, (∀ a ∈ l, Shp n a) → ShpA n l
  | [], _ => ShpA.nil n
  | a :: l, h => ShpA.cons (h a List.mem_cons_self) (ShpA.of fun b hb => h b (List.mem_cons_of_mem _ hb))
theorem Shp.int (n : Nat) (i : Int) : Shp n (.int i) := ⟨by simp [PyData.canLay0], by simp [PyData.depth]⟩
theorem Shp.bool (n : Nat) (i : Bool) : Shp n (.bool i) := ⟨by simp [PyData.canLay0], by simp [PyData.depth]⟩
theorem Shp.none (n : Nat) : Shp n .none := ⟨by simp [PyData.canLay0], by simp [PyData.depth]⟩
theorem Shp.str (n : Nat) (x : Str) (h : PyData.strOk x = true) : Shp n (.str x) := ⟨by simp [PyData.canLay0, h], by simp [PyData.depth]⟩
theorem Shp.tuple {n : Nat} {ds : List D} (h : ShpA n ds) : Shp (n + 1) (.tuple ds) := ⟨by simp only [PyData.canLay0]; exact h.1, by simp only [PyData.depth]; have := h.2; omega⟩
theorem Shp.list {n : Nat} {ds : List D} (h : ShpA n ds) : Shp (n + 1) (.list ds) := ⟨by simp only [PyData.canLay0]; exact h.1, by simp only [PyData.depth]; have := h.2; omega⟩
theorem Shp.mono {n m : Nat} {d : D} (h : Shp n d) (l : n ≤ m) : Shp m d := ⟨h.1, Nat.le_trans h.2 l⟩
theorem Shp.shaped {n : Nat} {d : D} (h : Shp n d) (l : n ≤ 64 := by decide) : SeqAt.shaped d = true := by
  show (d.canLay0 && decide (d.depth ≤ 64)) = true
  rw [h.1, Bool.true_and]
  exact decide_eq_true (Nat.le_trans h.2 l)
/-- data of a Lean type -/
class En (α : Type) [DecidableEq α] where
  enc : α → D
  dep : Nat
  shp : ∀ a, Shp dep (enc a)
  eqv : ∀ a b, PyData.eqv (enc a) (enc b) = decide (a = b)

end Dw
namespace Dw
open PySem L2 PyProof.Rows
variable {c : Cl}
abbrev enc {α : Type} [DecidableEq α] [En α] (a : α) : D := En.enc a
instance : En Int where
  enc := .int
  dep := 0
  shp := Shp.int 0
  eqv := fun a b => by simp [PyData.eqv]; rw [Bool.beq_eq_decide_eq]
instance : En Bool where
  enc := .bool
  dep := 0
  shp := Shp.bool 0
  eqv := fun a b => by simp [PyData.eqv]; rw [Bool.beq_eq_decide_eq]
theorem eqvAll_cons (x y : D) (xs ys : List D) : PyData.eqvAll (x :: xs) (y :: ys) = (PyData.eqv x y && PyData.eqvAll xs ys) := by simp [PyData.eqvAll]
theorem eqvAll_nil : PyData.eqvAll [] [] = true := by simp [PyData.eqvAll]
instance {α β : Type} [DecidableEq α] [DecidableEq β] [En α] [En β] : En (α × β) where
  enc := fun p => .tuple [enc p.1, enc p.2]
  dep := max (En.dep α) (En.dep β) + 1
  shp := fun p => Shp.tuple (ShpA.cons ((En.shp p.1).mono (Nat.le_max_left _ _)) (ShpA.cons ((En.shp p.2).mono (Nat.le_max_right _ _)) (ShpA.nil _)))
  eqv := fun a b => by
    have e : PyData.eqv (.tuple [enc a.1, enc a.2]) (.tuple [enc b.1, enc b.2]) = (PyData.eqv (enc a.1) (enc b.1) && (PyData.eqv (enc a.2) (enc b.2) && true)) := by simp only [PyData.eqv, PyData.eqvAll]
    rw [e, En.eqv, En.eqv, Bool.and_true]
    by_cases h1 : a.1 = b.1 <;> by_cases h2 : a.2 = b.2 <;> simp [h1, h2, Prod.ext_iff]
theorem eqvAll_map {α : Type} [DecidableEq α] [En α] : ∀ l m : List α, PyData.eqvAll (l.map enc) (m.map enc) = decide (l = m)
  | [], [] => by simp [PyData.eqvAll]
  | [], b :: m => by simp [PyData.eqvAll]
  | a :: l, [] => by simp [PyData.eqvAll]
  | a :: l, b :: m => by
    rw [List.map_cons, List.map_cons, eqvAll_cons, En.eqv, eqvAll_map l m]
    by_cases h1 : a = b <;> by_cases h2 : l = m <;> simp [h1, h2]
instance {α : Type} [DecidableEq α] [En α] : En (List α) where
  enc := fun l => .list (l.map enc)
  dep := En.dep α + 1
  shp := fun l => Shp.list (ShpA.map fun a _ => En.shp a)
  eqv := fun a b => by
    have e : PyData.eqv (.list (a.map enc)) (.list (b.map enc)) = PyData.eqvAll (a.map enc) (b.map enc) := by simp only [PyData.eqv]
    rw [e, eqvAll_map]
/-- a ground: a wall, or a cost and a height -/
inductive Gd where
  | wall | gr (k h : Int)
  deriving DecidableEq
def Gd.e : Gd → D
  | .wall => .none
  | .gr k h => .tuple [.int k, .int h]
instance : En Gd where
  enc := Gd.e
  dep := 1
  shp := fun a => by
    cases a with
    | wall => exact Shp.none _
    | gr k h => exact Shp.tuple (ShpA.cons (Shp.int _ _) (ShpA.cons (Shp.int _ _) (ShpA.nil _)))
  eqv := fun a b => by
    cases a with
    | wall => cases b <;> simp [Gd.e, PyData.eqv]
    | gr k h =>
      cases b with
      | wall => simp [Gd.e, PyData.eqv]
      | gr k' h' =>
        simp only [Gd.e, PyData.eqv, PyData.eqvAll, Bool.and_true, Gd.gr.injEq]
        by_cases h1 : k = k' <;> by_cases h2 : h = h' <;> simp [h1, h2]

section
variable {X : Cx} {G : Env X.K c} {a b e : Expr} {pos : Pos} {d d1 d2 d3 : D} {ds es : List D} {k : Nat}
theorem Tm.int {K : PySem.W.Frag} {Z B : Hp} {v : V} {i : Int} (h : Tm K c Z B v (.int i)) : v = .int i := by
  cases h with | of h => cases h; rfl
theorem Tm.bool {K : PySem.W.Frag} {Z B : Hp} {v : V} {i : Bool} (h : Tm K c Z B v (.bool i)) : v = .bl i := by
  cases h with | of h => cases h; rfl
theorem Tm.str {K : PySem.W.Frag} {Z B : Hp} {v : V} {i : Str} (h : Tm K c Z B v (.str i)) : v = .str i := by
  cases h with | of h => cases h; rfl
theorem Tm.tuple {K : PySem.W.Frag} {Z B : Hp} {v : V} (h : Tm K c Z B v (.tuple ds)) : ∃ a xs, v = .ref a ∧ TupD K B a xs ∧ TpAll K c B xs ds := by
  cases h with
  | of h => cases h with | tup hs ha => exact ⟨_, _, rfl, hs, ha⟩
theorem Tm.dp {K : PySem.W.Frag} {B H : Hp} {v : V} {n : Nat} (s : Same B H) (h : Tm K c H B v d) (hs : Shp n d) : Dp K H v d := Tm.dpn s _ _ h hs.1
theorem opd_int {op : Operator} {C : Int → Int → Prop} {g : Int → Int → Int} (h : OpR X (binaryOp op) (rI C fun i j => .int (g i j))) {i j : Int} (hc : C i j) : OpD c X (binaryOp op) (.int i) (.int j) (.int (g i j)) :=
  ⟨_, h, fun B H x y Q s hx hy g => ⟨i, j, hx.int, hy.int, hc, gv_of s g (.int _)⟩⟩
theorem opd_int0 {op : Operator} {g : Int → Int → Int} (h : OpR X (binaryOp op) (rI0 fun i j => .int (g i j))) {i j : Int} : OpD c X (binaryOp op) (.int i) (.int j) (.int (g i j)) :=
  ⟨_, h, fun B H x y Q s hx hy g => ⟨i, j, hx.int, hy.int, gv_of s g (.int _)⟩⟩
theorem opd_cmp0 {op : CmpOp} {g : Int → Int → Bool} (h : OpR X (compareOp op) (rI0 fun i j => .bl (g i j))) {i j : Int} : OpD c X (compareOp op) (.int i) (.int j) (.bool (g i j)) :=
  ⟨_, h, fun B H x y Q s hx hy g => ⟨i, j, hx.int, hy.int, gv_of s g (.bl _)⟩⟩
theorem od_add {i j : Int} : OpD c X (binaryOp .Add) (.int i) (.int j) (.int (i + j)) := opd_int0 op_add
theorem od_sub {i j : Int} : OpD c X (binaryOp .Sub) (.int i) (.int j) (.int (i - j)) := opd_int0 op_sub
theorem od_mul {i j : Int} (h : CMulW i j) : OpD c X (binaryOp .Mult) (.int i) (.int j) (.int (i * j)) := opd_int op_mulW h
theorem od_mulS {i j : Int} (h : CMul i j) : OpD c X (binaryOp .Mult) (.int i) (.int j) (.int (i * j)) := opd_int op_mul h
theorem od_fdiv {i j : Int} (h : CDivW i j) : OpD c X (binaryOp .FloorDiv) (.int i) (.int j) (.int (i / j)) := opd_int op_fdivW h
theorem od_fdivS {i j : Int} (h : CDiv i j) : OpD c X (binaryOp .FloorDiv) (.int i) (.int j) (.int (i / j)) := opd_int op_fdiv h
theorem od_mod {i j : Int} (h : 0 < j) : OpD c X (binaryOp .Mod) (.int i) (.int j) (.int (i % j)) := opd_int op_mod h
theorem od_pow {i j : Int} (h : CPow i j) : OpD c X (binaryOp .Pow) (.int i) (.int j) (.int (i ^ j.toNat)) := opd_int op_pow h
theorem od_shr {i j : Int} (h : 0 ≤ j) : OpD c X (binaryOp .RShift) (.int i) (.int j) (.int (i / 2 ^ j.toNat)) := opd_int op_shr h
theorem od_lt {i j : Int} : OpD c X (compareOp .Lt) (.int i) (.int j) (.bool (decide (i < j))) := opd_cmp0 op_lt
theorem od_le {i j : Int} : OpD c X (compareOp .LtE) (.int i) (.int j) (.bool (decide (i ≤ j))) := opd_cmp0 op_le
theorem od_gt {i j : Int} : OpD c X (compareOp .Gt) (.int i) (.int j) (.bool (decide (j < i))) := opd_cmp0 op_gt
theorem od_ge {i j : Int} : OpD c X (compareOp .GtE) (.int i) (.int j) (.bool (decide (j ≤ i))) := opd_cmp0 op_ge
theorem od_neg {i : Int} : UnD c X (unaryOp .USub) (.int i) (.int (-i)) := ⟨_, un_neg, fun B H x Q s hx g => ⟨i, hx.int, gv_of s g (.int _)⟩⟩
/-- == and != of data -/
theorem od_eq {n m : Nat} (C : Bd X k) (h1 : Shp n d1) (h2 : Shp m d2) (l1 : n ≤ 64 := by decide) (l2 : m ≤ 64 := by decide) : OpD c X (compareOp .Eq) d1 d2 (.bool (PyData.eqv d1 d2)) :=
  ⟨_, op_eqD C.room.units, fun B H x y Q s hx hy g => ⟨d1, d2, hx.dp s h1, hy.dp s h2, h1.shaped l1, h2.shaped l2, gv_of s g (.bl _)⟩⟩
theorem od_ne {n m : Nat} (C : Bd X k) (h1 : Shp n d1) (h2 : Shp m d2) (l1 : n ≤ 64 := by decide) (l2 : m ≤ 64 := by decide) : OpD c X (compareOp .NotEq) d1 d2 (.bool (!PyData.eqv d1 d2)) :=
  ⟨_, op_neD C.room.units, fun B H x y Q s hx hy g => ⟨d1, d2, hx.dp s h1, hy.dp s h2, h1.shaped l1, h2.shaped l2, gv_of s g (.bl _)⟩⟩
theorem od_eqE {α : Type} [DecidableEq α] [En α] (C : Bd X k) (x y : α) (l : En.dep α ≤ 64 := by decide) : OpD c X (compareOp .Eq) (enc x) (enc y) (.bool (decide (x = y))) := by
  rw [← En.eqv]
  exact od_eq C (En.shp x) (En.shp y) l l
theorem od_neE {α : Type} [DecidableEq α] [En α] (C : Bd X k) (x y : α) (l : En.dep α ≤ 64 := by decide) : OpD c X (compareOp .NotEq) (enc x) (enc y) (.bool (!decide (x = y))) := by
  rw [← En.eqv]
  exact od_ne C (En.shp x) (En.shp y) l l
theorem od_eqI (C : Bd X k) {i j : Int} : OpD c X (compareOp .Eq) (.int i) (.int j) (.bool (decide (i = j))) := od_eqE C i j
theorem od_neI (C : Bd X k) {i j : Int} : OpD c X (compareOp .NotEq) (.int i) (.int j) (.bool (!decide (i = j))) := od_neE C i j
/-- is None, is not None -/
def isN : D → Bool
  | .none => true
  | _ => false
theorem isN_ok {K : PySem.W.Frag} {Z B : Hp} {v : V} (h : Tm K c Z B v d) : decide (v = .non) = isN d := by
  cases h with
  | of h => cases h <;> simp [isN]
  | lst => simp [isN]
theorem od_is : OpD c X (compareOp .Is) d1 .none (.bool (isN d1)) := ⟨_, op_isN, fun B H x y Q s hx hy g => ⟨by cases hy with | of h => cases h; rfl, by rw [isN_ok hx]; exact gv_of s g (.bl _)⟩⟩
theorem od_isnot : OpD c X (compareOp .IsNot) d1 .none (.bool (!isN d1)) := ⟨_, op_notN, fun B H x y Q s hx hy g => ⟨by cases hy with | of h => cases h; rfl, by rw [isN_ok hx]; exact gv_of s g (.bl _)⟩⟩
/-- in, not in, of a list or a tuple of data -/
def rInQ (K : PySem.W.Frag) (neg : Bool) : R2 := fun x y H Q => ∃ d ds, Dp K H x d ∧ (Dp K H y (.list ds) ∨ Dp K H y (.tuple ds)) ∧ d.canLay0 = true ∧ PyData.canLayAll0 ds = true ∧ d.depth ≤ 64 ∧ Q (.bl (if neg then !(ds.any fun z => PyData.eqv z d) else ds.any fun z => PyData.eqv z d)) H
theorem op_inQ (hu : X.A.units + 65 < cLine) : OpR X (compareOp .In) (rInQ X.K false) := by
  intro pins s σ H x y v u Q I rx ry h
  obtain ⟨d, ds, hd, he, sd, se, dl, q⟩ := h
  obtain ⟨as, r1⟩ := Dp.reads I d x v hd rx
  have hr : X.A.units + 1 + min (PyData.depthAll ds) d.depth < cLine := by have := Nat.min_le_right (PyData.depthAll ds) d.depth; omega
  rcases he with he | he
  · obtain ⟨bs, r2⟩ := Dp.reads I (.list ds) y u he ry
    exact SeqAt.in_list_reads r2 r1 se sd hr ⟨.bl _, H, I, rfl, q⟩
  · obtain ⟨bs, r2⟩ := Dp.reads I (.tuple ds) y u he ry
    exact SeqAt.in_tuple_reads r2 r1 se sd hr ⟨.bl _, H, I, rfl, q⟩
theorem op_notInQ (hu : X.A.units + 65 < cLine) : OpR X (compareOp .NotIn) (rInQ X.K true) := by
  intro pins s σ H x y v u Q I rx ry h
  obtain ⟨d, ds, hd, he, sd, se, dl, q⟩ := h
  obtain ⟨as, r1⟩ := Dp.reads I d x v hd rx
  have hr : X.A.units + 1 + min (PyData.depthAll ds) d.depth < cLine := by have := Nat.min_le_right (PyData.depthAll ds) d.depth; omega
  rcases he with he | he
  · obtain ⟨bs, r2⟩ := Dp.reads I (.list ds) y u he ry
    exact SeqAt.notIn_list_reads r2 r1 se sd hr ⟨.bl _, H, I, rfl, q⟩
  · obtain ⟨bs, r2⟩ := Dp.reads I (.tuple ds) y u he ry
    exact SeqAt.notIn_tuple_reads r2 r1 se sd hr ⟨.bl _, H, I, rfl, q⟩
theorem units65 (C : Bd X k) : X.A.units + 65 < cLine := by have := C.room.un; omega
theorem od_inL {n m : Nat} (C : Bd X k) (h1 : Shp n d1) (h2 : ShpA m ds) (l1 : n ≤ 64 := by decide) : OpD c X (compareOp .In) d1 (.list ds) (.bool (ds.any fun z => PyData.eqv z d1)) :=
  ⟨_, op_inQ (units65 C), fun B H x y Q s hx hy g => ⟨d1, ds, hx.dp s h1, .inl (hy.dp s (Shp.list h2)), h1.1, h2.1, Nat.le_trans h1.2 l1, gv_of s g (.bl _)⟩⟩
theorem od_inT {n m : Nat} (C : Bd X k) (h1 : Shp n d1) (h2 : ShpA m ds) (l1 : n ≤ 64 := by decide) : OpD c X (compareOp .In) d1 (.tuple ds) (.bool (ds.any fun z => PyData.eqv z d1)) :=
  ⟨_, op_inQ (units65 C), fun B H x y Q s hx hy g => ⟨d1, ds, hx.dp s h1, .inr (hy.dp s (Shp.tuple h2)), h1.1, h2.1, Nat.le_trans h1.2 l1, gv_of s g (.bl _)⟩⟩
theorem od_notInL {n m : Nat} (C : Bd X k) (h1 : Shp n d1) (h2 : ShpA m ds) (l1 : n ≤ 64 := by decide) : OpD c X (compareOp .NotIn) d1 (.list ds) (.bool (!ds.any fun z => PyData.eqv z d1)) :=
  ⟨_, op_notInQ (units65 C), fun B H x y Q s hx hy g => ⟨d1, ds, hx.dp s h1, .inl (hy.dp s (Shp.list h2)), h1.1, h2.1, Nat.le_trans h1.2 l1, gv_of s g (.bl _)⟩⟩
theorem od_notInT {n m : Nat} (C : Bd X k) (h1 : Shp n d1) (h2 : ShpA m ds) (l1 : n ≤ 64 := by decide) : OpD c X (compareOp .NotIn) d1 (.tuple ds) (.bool (!ds.any fun z => PyData.eqv z d1)) :=
  ⟨_, op_notInQ (units65 C), fun B H x y Q s hx hy g => ⟨d1, ds, hx.dp s h1, .inr (hy.dp s (Shp.tuple h2)), h1.1, h2.1, Nat.le_trans h1.2 l1, gv_of s g (.bl _)⟩⟩
theorem any_mem {α : Type} [DecidableEq α] [En α] (l : List α) (a : α) : ((l.map enc).any fun z => PyData.eqv z (enc a)) = decide (a ∈ l) := by
  induction l with
  | nil => simp
  | cons b l ih =>
    rw [List.map_cons, List.any_cons, ih, En.eqv]
    by_cases h : b = a
    · subst h; simp
    · have h' : ¬ a = b := fun e => h e.symm
      simp [h, h']
def DXbin (c : Cl) (X : Cx) (f : Value → Value → Sem Value) (d1 d2 : D) (s : Slot X.K c) : Prop :=
  ∃ r, OpR X f r ∧ ∀ B H x y Q, Same B H → Tp X.K c B x d1 → Tp X.K c B y d2 → Gs X.K c B H s Q → r x y H Q
theorem dx_bin {op : Operator} {s : Slot X.K c} (ha : DE X G a d1) (hb : DE X G b d2) (ho : DXbin c X (binaryOp op) d1 d2 s) : DX X G (.BinOp a op b pos) s := by
  obtain ⟨ta, pa, ra⟩ := ha
  obtain ⟨tb, pb, rb⟩ := hb
  obtain ⟨r, hr, q⟩ := ho
  refine ⟨_, pe_op hr pa pb, fun Z B H σ Q E g => ?_⟩
  refine ra Z B H σ _ E fun v B1 H1 e1 h1 => rb Z B1 H1 σ _ (E.ext e1) fun u B2 H2 e2 h2 => ?_
  exact q B2 H2 v u Q e2.sub (Tp.mono e2.b _ _ h1) h2 (gs_ext (e1.trans e2) g)
theorem gs_lst {K : PySem.W.Frag} {B H : Hp} {Q : VK} {vs : List V} (s : Same B H) (g : Gs K c B H (so ds) Q) (h : TpAll K c B vs ds) {p : Addr} (hp : H p = none) : Q (.ref p) (upd H p (.lst vs)) :=
  g _ B _ [p] (Ext.layH s _ hp) (fun _ => ⟨p, vs, rfl, rfl, s.free hp, upd_same, h⟩) fun a ha => by rw [List.mem_singleton.mp ha]; exact hp
end
end Dw

namespace Dw
open PySem L2 PyProof.Rows
variable {c : Cl}
section
variable {X : Cx} {G : Env X.K c} {a b e f : Expr} {es : List Expr} {pos : Pos} {d d1 d2 d3 : D} {ds zs : List D} {k : Nat} {x : Str}
theorem Inv.lstR {pins : List (Addr × Obj)} {σ : Sg} {H : Hp} {s : Shared} {l : Addr} {xs : List V} (I : Inv X pins σ H s) (h : Rd H l (.lst xs)) : xs.length ≤ sizeLine ∧ ∃ (its : List Value) (n : Nat), Vals xs its ∧ xs.length = its.length ∧ s.heap.get? l = some { cls := .type "list", data := .seq its.toArray n } := by
  obtain ⟨z, its, n, r, e⟩ := h.ok I.hok
  exact ⟨z, its, n, r, r.length, e⟩
def rCatR : R2 := fun x y H Q => ∃ l b xs zs, x = .ref l ∧ y = .ref b ∧ Rd H l (.lst xs) ∧ Rd H b (.lst zs) ∧ xs.length + zs.length ≤ sizeLine ∧ ∀ p, H p = none → Q (.ref p) (upd H p (.lst (xs ++ zs)))
theorem op_catR : OpR X (binaryOp .Add) rCatR := by
  intro pins s σ H x y v u Q I rx ry h
  obtain ⟨l, b, xs, zs, rfl, rfl, hH, hB, hz, q⟩ := h
  cases rx
  cases ry
  obtain ⟨z, its, n, r, hl, e⟩ := Inv.lstR I hH
  obtain ⟨z2, its2, n2, r2, hl2, e2⟩ := Inv.lstR I hB
  refine PySem.P.add_list e e2 ?_ (by rw [List.size_toArray, List.size_toArray]; omega)
  have ea : its.toArray ++ its2.toArray = (its ++ its2).toArray := by simp
  rw [ea]
  exact ⟨.ref _, _, I.lnew (t' := s.toks) (r.append r2) (by rw [List.length_append]; omega), rfl, q _ I.fresh⟩
theorem ob_cat (hl : ds.length + zs.length ≤ sizeLine) : DXbin c X (binaryOp .Add) (.list ds) (.list zs) (so (ds ++ zs)) :=
  ⟨_, op_catR, fun B H x y Q s hx hy g => by
    cases hx with
    | lst h1 h2 =>
      cases hy with
      | lst h3 h4 => exact ⟨_, _, _, _, rfl, rfl, Same.rd s h1, Same.rd s h3, by rw [h2.length, h4.length]; exact hl, fun p hp => gs_lst s g (h2.append h4) hp⟩⟩
theorem tpAll_rep {K : PySem.W.Frag} {B : Hp} {vs : List V} (h : TpAll K c B vs ds) : ∀ n : Nat, TpAll K c B (List.replicate n vs).flatten (List.replicate n ds).flatten
  | 0 => .nil
  | n + 1 => by
    rw [List.replicate_succ, List.replicate_succ, List.flatten_cons, List.flatten_cons]
    exact h.append (tpAll_rep h n)
/-- [..] * n, a written list -/
theorem dx_rep {n : Int} (ha : DX X G a (so ds)) (hb : DE X G b (.int n)) (h1 : -(2 ^ 63) ≤ n) (h2 : n < 2 ^ 63) (hl : ds.length * n.toNat ≤ sizeLine) : DX X G (.BinOp a .Mult b pos) (so (List.replicate n.toNat ds).flatten) := by
  obtain ⟨ta, pa, ra⟩ := ha
  obtain ⟨tb, pb, rb⟩ := hb
  refine ⟨_, pe_op op_rep pa pb, fun Z B H σ Q E g => ?_⟩
  refine ra Z B H σ _ E fun v B1 H1 fp e1 h hf => rb Z B1 H1 σ _ (E.ext e1) fun u B2 H2 e2 hu => ?_
  obtain ⟨p, vs, q0, q1, q2, q3, q4⟩ := h B
  cases hu
  refine ⟨p, n, vs, q0, rfl, e2.h.at q3, h1, h2, by rw [q4.length]; exact hl, fun r hr => ?_⟩
  exact gs_lst e2.sub (gs_ext (e1.trans e2) g) (tpAll_rep (TpAll.mono e2.b _ _ q4) _) hr

theorem ix_of {K : PySem.W.Frag} {Z B : Hp} {vs : List V} {i : Int} (h : TmAll K c Z B vs ds) (hd : atI ds i = some d) : ∃ v, atI vs i = some v ∧ Tm K c Z B v d := by
  have hl := h.length
  unfold atI at hd ⊢
  rw [hl]
  cases e : ixN ds.length i with
  | none => rw [e] at hd; cases hd
  | some j =>
    rw [e] at hd
    exact h.get (i := j) hd
theorem ixd_list {i : Int} (hd : atI ds i = some d) : IxD c X (.list ds) (.int i) d := ⟨_, ix_list, fun Z B H x y Q s z hx hy g => by
  cases hy.int
  cases hx with
  | of hx =>
    cases hx with
    | lst h1 h2 =>
      obtain ⟨v, q1, q2⟩ := ix_of (Z := Z) (TmAll.of h2) hd
      exact ⟨_, _, _, v, rfl, rfl, .inl (Same.rd s h1), q1, g v q2⟩
  | lst h1 h2 =>
    obtain ⟨v, q1, q2⟩ := ix_of h2 hd
    exact ⟨_, _, _, v, rfl, rfl, z.seq h1, q1, g v q2⟩⟩
theorem ixd_tup {i : Int} (hd : atI ds i = some d) : IxD c X (.tuple ds) (.int i) d := ⟨_, ix_tup, fun Z B H x y Q s z hx hy g => by
  cases hy.int
  obtain ⟨p, xs, rfl, h1, h2⟩ := hx.tuple
  obtain ⟨v, q1, q2⟩ := ix_of (Z := Z) (TmAll.of h2) hd
  exact ⟨_, _, _, v, rfl, rfl, Same.tup s h1.sq, q1, g v q2⟩⟩
theorem atI_of {α : Type} {xs : List α} {i : Int} {v : α} (h0 : 0 ≤ i) (h : xs[i.toNat]? = some v) : atI xs i = some v := by
  have e : i = (i.toNat : Int) := by omega
  rw [e]
  exact atI_nat h
def cutD (ds : List D) (lo hi : Option Int) : List D := (ds.drop (HT.sIx ds.length 0 lo)).take (HT.sIx ds.length ds.length hi - HT.sIx ds.length 0 lo)
def DO (X : Cx) (G : Env X.K c) (e : Option Expr) (o : Option Int) : Prop :=
  ∃ t, PO X e t ∧ ∀ Z B H σ Q, EnvE G Z B H σ → (∀ B' H', Ext B H B' H' → Q o H') → t σ H Q
theorem do_none : DO (c := c) X G none none := ⟨_, po_none, fun Z B H σ Q E g => g B H (Ext.refl E.sub)⟩
theorem do_some {i : Int} (h : DE X G e (.int i)) : DO X G (some e) (some i) := by
  obtain ⟨t, p, r⟩ := h
  refine ⟨_, po_some p, fun Z B H σ Q E g => r Z B H σ _ E fun v B' H' e h => ?_⟩
  cases h
  exact ⟨i, rfl, g B' H' e⟩
/-- xs[lo:hi] of a list whose items may be kept -/
theorem dx_slice {lo hi : Option Expr} {l u : Option Int} {p2 : Pos} (ha : DZ X G a (.list ds)) (hn : ∀ d ∈ ds, nolist d = true) (hl : DO X G lo l) (hu : DO X G hi u) : DX X G (.Subscript a (.Slice lo hi none p2) pos) (so (cutD ds l u)) := by
  obtain ⟨ta, pa, ra⟩ := ha
  obtain ⟨tl, pl, rl⟩ := hl
  obtain ⟨tu, pu, ru⟩ := hu
  refine ⟨_, pe_slice sl_list pa pl pu, fun Z B H σ Q E g => ?_⟩
  refine ra Z B H σ _ E fun v B1 H1 e1 h1 => rl Z B1 H1 σ _ (E.ext e1) fun B2 H2 e2 => ru Z B2 H2 σ _ (E.ext (e1.trans e2)) fun B3 H3 e3 => ?_
  have e := (e1.trans e2).trans e3
  have kept : ∀ {vs : List V} {es : List D}, TmAll X.K c Z B1 vs es → (∀ d ∈ es, nolist d = true) → TpAll X.K c B1 vs es := by
    intro vs es h
    induction es generalizing vs with
    | nil => intro _; cases h; exact .nil
    | cons d es ih =>
      intro hn
      cases h with
      | cons q1 q2 => exact .cons (q1.kept (hn d List.mem_cons_self)) (ih q2 fun z hz => hn z (List.mem_cons_of_mem _ hz))
  have fin : ∀ {p : Addr} {vs : List V}, v = .ref p → SqL X.K H3 p vs → TpAll X.K c B1 vs ds → (rSlL X.K) v l u H3 Q := fun {p vs} q1 q2 q3 => by
    refine ⟨p, vs, q1, q2, fun r hr => ?_⟩
    refine gs_lst e3.sub (gs_ext e g) ?_ hr
    have := TpAll.mono (e2.trans e3).b _ _ q3
    unfold cutV cutD
    rw [q3.length]
    exact (this.drop _).take _
  cases h1 with
  | of h1 =>
    cases h1 with
    | lst q1 q2 => exact fin rfl (.inl (((Kp.of e1.sub).trans (e2.trans e3).h).rd q1)) q2
  | lst q1 q2 => exact fin rfl ((E.z.trans e.h).seq q1) (kept q2 hn)
/-- t[lo:hi] of a text -/
theorem de_sliceS {z : Str} {lo hi : Option Expr} {l u : Option Int} {p2 : Pos} (ha : DE X G a (.str z)) (hz : z.length ≤ sizeLine) (hl : DO X G lo l) (hu : DO X G hi u) : DE X G (.Subscript a (.Slice lo hi none p2) pos) (.str (cutS z l u)) := by
  obtain ⟨ta, pa, ra⟩ := ha
  obtain ⟨tl, pl, rl⟩ := hl
  obtain ⟨tu, pu, ru⟩ := hu
  refine ⟨_, pe_slice sl_str pa pl pu, fun Z B H σ Q E g => ?_⟩
  refine ra Z B H σ _ E fun v B1 H1 e1 h1 => rl Z B1 H1 σ _ (E.ext e1) fun B2 H2 e2 => ru Z B2 H2 σ _ (E.ext (e1.trans e2)) fun B3 H3 e3 => ?_
  cases h1
  exact ⟨z, rfl, hz, g _ B3 H3 ((e1.trans e2).trans e3) (.str _)⟩

theorem Tm.seqH {B H : Hp} {v : V} (s : Same B H) (h : Tm X.K c H B v (.list ds)) : ∃ p xs, v = .ref p ∧ SqL X.K H p xs ∧ xs.length = ds.length := by
  obtain ⟨p, xs, h1, h2, h3⟩ := Tm.seq s h
  exact ⟨p, xs, h1, h2, h3.length⟩
theorem tm1 {B H : Hp} {xs : List V} (h : TmAll X.K c H B xs [d]) : ∃ v, xs = [v] ∧ Tm X.K c H B v d := by
  cases h with | cons h t => cases t; exact ⟨_, rfl, h⟩
theorem tm2 {B H : Hp} {xs : List V} (h : TmAll X.K c H B xs [d1, d2]) : ∃ v u, xs = [v, u] ∧ Tm X.K c H B v d1 ∧ Tm X.K c H B u d2 := by
  cases h with | cons h t => cases t with | cons h' t => cases t; exact ⟨_, _, rfl, h, h'⟩
theorem tp1 {B : Hp} {xs : List V} (h : TpAll X.K c B xs [d]) : ∃ v, xs = [v] ∧ Tp X.K c B v d := by
  cases h with | cons h t => cases t; exact ⟨_, rfl, h⟩
theorem cd_lenL : CallD c X (.builtin "len") [.list ds] (.int ds.length) := ⟨_, call_len, fun B H xs Q s h g => by
  obtain ⟨v, rfl, hv⟩ := tm1 h
  obtain ⟨p, ys, rfl, h1, h2⟩ := Tm.seqH s hv
  exact ⟨_, ys.length, rfl, .inl ⟨ys, h1, rfl⟩, by rw [h2]; exact gv_of s g (.int _)⟩⟩
theorem cd_lenT : CallD c X (.builtin "len") [.tuple ds] (.int ds.length) := ⟨_, call_len, fun B H xs Q s h g => by
  obtain ⟨v, rfl, hv⟩ := tm1 h
  obtain ⟨p, ys, rfl, h1, h2⟩ := hv.tuple
  exact ⟨_, ys.length, rfl, .inr ⟨ys, Same.tup s h1.sq, rfl⟩, by rw [h2.length]; exact gv_of s g (.int _)⟩⟩
theorem cd_lenS {z : Str} (hz : z.length ≤ sizeLine) : CallD c X (.builtin "len") [.str z] (.int z.length) := ⟨_, call_len, fun B H xs Q s h g => by
  obtain ⟨v, rfl, hv⟩ := tm1 h
  cases hv.str
  exact ⟨_, z.length, rfl, ⟨hz, rfl⟩, gv_of s g (.int _)⟩⟩
/-- tuple(t), a tuple is itself -/
theorem cd_tupleT : CallD c X (.type "tuple") [.tuple ds] (.tuple ds) := ⟨_, call_tupleT, fun B H xs Q s h g => by
  obtain ⟨v, rfl, hv⟩ := tm1 h
  obtain ⟨p, ys, rfl, h1, h2⟩ := hv.tuple
  exact ⟨p, ys, rfl, Same.tup s h1.sq, gv_of s g (.tup h1 h2)⟩⟩
/-- list(xs), list(t): items that may be kept -/
theorem cb_listL : CallB c X (.type "list") [.list ds] (so ds) := ⟨_, call_list_of, fun B H xs Q s h g => by
  obtain ⟨v, rfl, hv⟩ := tp1 h
  cases hv with | lst h1 h2 => exact ⟨_, _, rfl, .inl (.inl (Same.rd s h1)), fun p hp => gs_lst s g h2 hp⟩⟩
theorem cb_listT : CallB c X (.type "list") [.tuple ds] (so ds) := ⟨_, call_list_of, fun B H xs Q s h g => by
  obtain ⟨v, rfl, hv⟩ := tp1 h
  cases hv with | tup h1 h2 => exact ⟨_, _, rfl, .inr (Same.tup s h1.sq), fun p hp => gs_lst s g h2 hp⟩⟩
/-- isinstance: what a value is -/
inductive TyD : D → String → Prop
  | non : TyD .none "NoneType"
  | bl (b : Bool) : TyD (.bool b) "bool"
  | int (i : Int) : TyD (.int i) "int"
  | str (z : Str) : TyD (.str z) "str"
  | lst (ds : List D) : TyD (.list ds) "list"
  | tup (ds : List D) : TyD (.tuple ds) "tuple"
  | dct : TyD (.dict []) "dict"
end
end Dw

namespace Dw
open PySem L2 PyProof.Rows
variable {c : Cl}
section
variable {X : Cx} {G : Env X.K c} {a b e f : Expr} {es : List Expr} {pos : Pos} {d d1 d2 d3 : D} {ds zs : List D} {k : Nat} {x : Str}
theorem TyD.ok {B H : Hp} {v : V} {t : String} (s : Same B H) (h : Tm X.K c H B v d) (ty : TyD d t) : TyX X.K H v (.type t) := by
  have seqT : ∀ {p : Addr} {xs : List V}, SqT X.K H p xs → TyX X.K H (.ref p) (.type "tuple") := fun {p xs} q => by
    rcases q with (q | ⟨o, q⟩) | ⟨o, its, n, q, q2, _⟩
    · exact .base (.tup q)
    · exact .fTuple q
    · exact .kTuple q q2
  cases ty with
  | lst ds =>
    obtain ⟨p, xs, rfl, q, _⟩ := Tm.seq s h
    rcases q with (q | ⟨o, q⟩) | ⟨o, its, n, q, q2, _⟩
    · exact .base (.lst q)
    · exact .base (.frz q)
    · exact .kList q q2
  | tup ds =>
    obtain ⟨p, xs, rfl, q, _⟩ := h.tuple
    exact seqT (Same.tup s q.sq)
  | non => cases h with | of h => cases h; exact .base .non
  | dct => cases h with | of h => cases h with | dct q => exact .base (.dK (s _ _ q))
  | bl b => cases h.bool; exact .base (.bl b)
  | int b => cases h.int; exact .base (.int b)
  | str b => cases h.str; exact .base (.str b)
theorem call1_run {id : String} {p : Pos} {T : String} {y : Str} {q : Pos} : True := trivial
/-- whether a value of the built-in class t is one of T -/
def isiB (t T : String) : Bool := t == T || (t == "bool" && T == "int")
/-- isinstance(e, T), T a built-in class -/
theorem de_isi {t : String} (T : String) {p q : Pos} {y : Str} (ha : DR X G a d) (ht : TyD d t) (hk : kitB t T = some (isiB t T)) (hm : X.mg "isinstance" = none) (hmT : X.mg y = none) (hvT : bootBuiltins y = some (.type T) := by decide +kernel) (hg : Gl X "isinstance" := by rfl) (hgT : Gl X y := by rfl)
    (hn : y ≠ "__name__" := by decide) (hdb : (y == ("__debug__" : Str)) = false := by decide) (he : starEach (a :: [.Name y q]) X.env = (false, eval a X.env) :: starEach [.Name y q] X.env := by rfl)
    (he2 : starEach [.Name y q] X.env = (false, eval (.Name y q) X.env) :: starEach [] X.env := by rfl) (hpl : (backTo pos (starEach [.Name y q] X.env)).any (·.1) = false := by rfl) : DE X G (.Call (.Name "isinstance" p) [a, .Name y q] [] pos) (.bool (isiB t T)) := by
  obtain ⟨ta, pa, ra⟩ := ha
  refine ⟨_, pe_callB call_isi hg hm (by decide +kernel) (pa_cons pa (pa_cons (pe_bltn (v := .ty T) hgT hmT hvT rfl hn hdb) pa_nil he2) he) (by decide) (by decide) he hpl, fun Z B H σ Q E g => ?_⟩
  refine ra Z B H σ _ E fun v B' H' e h => ?_
  exact ⟨v, _, _, _, _, rfl, .ty T, TyD.ok e.sub h ht, kit_ty hk, g _ B' H' e (.bl _)⟩
/-- D[k] of a written dict with texts as keys -/
theorem de_wix {z : Str} {x : Str} {p : Pos} {ad : Addr} {v : V} (hm : X.mg x = some (.ref ad)) (hb : DE X G b (.str z)) (hk : KDct X.K X.w ad z v) (hv : ∀ B, Tp X.K c B v d) (hg : Gl X x := by rfl) (hd : (x == ("__debug__" : Str)) = false := by decide) (hs : PlainIx b := by exact fun _ _ => rfl) :
    DE X G (.Subscript (.Name x p) b pos) d := by
  obtain ⟨tb, pb, rb⟩ := hb
  refine ⟨_, pe_ix ix_kdict (pe_glob (v := .ref ad) hg hm rfl hd) pb hs, fun Z B H σ Q E g => rb Z B H σ _ E fun u B' H' e h => ?_⟩
  cases h
  exact ⟨ad, z, v, rfl, rfl, hk, g v B' H' e (hv B')⟩
/-- a written tuple of the module -/
theorem tp_ktup {K : PySem.W.Frag} {B : Hp} {p : Addr} {dd : Option Addr} {its : Array Value} {n : Nat} {sl : Array (Option Value)} {vs : List V} (h : K.lookup p = some ⟨.type "tuple", dd, .seq its n, sl⟩) (hl : its.size ≤ sizeLine) (hv : Vals vs its.toList) (hd : TpAll K c B vs ds) : Tp K c B (.ref p) (.tuple ds) :=
  .tup (.inr ⟨_, its, n, h, rfl, rfl, hl, hv⟩) hd
end
end Dw
namespace Dw
open PySem L2 PyProof.Rows
variable {c : Cl}
/-- a def of the top: what the head knows of it -/
structure FunAt (K : PySem.W.Frag) (mg : Str → Option Value) (x : Str) (st : Stmt) (ps : List Str) : Prop where
  ex : ∃ f fd, mg x = some (.ref f) ∧ Fun K x x st f fd ∧ Binds K fd ps []
theorem def_okF {P : Program} {w : World} {K : PySem.W.Frag} {mg : Str → Option Value} {base : Heap} {x : Str} {st : Stmt} {N ps : List Str} {k : Nat} {R : List (Slot K c) → Slot K c → Prop}
    (F : FunAt K mg x st ps) (S : FnScope N ps (defScope st)) (hR : ∀ ss r, R ss r → ss.length = ps.length)
    (body : ∀ (f : Addr) (cdv : Value) (A : Around) (outer : List PySem.Env) (s : Shared) (H : Hp) (E : XK) (ss : List (Slot K c)) (r : Slot K c), R ss r → Bd (bx P w K mg base N x st f cdv A outer s H E) k →
      DSs (c := c) (bx P w K mg base N x st f cdv A outer s H E) (G0 N ss) (defBody st) (defEnd r)) : DefOk P w K mg base x (k + 1) R := by
  obtain ⟨f, fd, hm, F, bn⟩ := F.ex
  exact def_ok F S hm bn hR (body f)
theorem DefOk.mono {P : Program} {w : World} {K : PySem.W.Frag} {mg : Str → Option Value} {base : Heap} {x : Str} {j k : Nat} {R : List (Slot K c) → Slot K c → Prop} (h : DefOk P w K mg base x j R) (l : j ≤ k) : DefOk P w K mg base x k R := by
  obtain ⟨f, fd, ps, h1, h2, h3, h4⟩ := h.ex
  exact ⟨f, fd, ps, h1, h2, h3, h4.mono l⟩
/-- the law's own promise: the script's ints come in, True goes out -/
def RLaw (K : PySem.W.Frag) (c : Cl) : List (Slot K c) → Slot K c → Prop := fun ss r => ∃ ns : List Int, ns.length ≤ 63 ∧ ss = [sb (.list (ns.map .int))] ∧ r = sd (.bool true)
end Dw

namespace Dw
open PySem L2 PyProof.Rows
variable {c : Cl}
/-- a constant of the module -/
structure ConstAt (K : PySem.W.Frag) (c : Cl) (mg : Str → Option Value) (x : Str) (d : D) : Prop where
  ex : ∃ u v, mg x = some u ∧ RelV v u ∧ ∀ B, Tp K c B v d
section
variable {X : Cx} {G : Env X.K c} {a b e f : Expr} {es : List Expr} {pos : Pos} {d d1 d2 d3 : D} {ds zs : List D} {k : Nat} {x : Str}
theorem de_const (h : ConstAt X.K c X.mg x d) (hg : Gl X x := by rfl) (hd : (x == ("__debug__" : Str)) = false := by decide) : DE X G (.Name x pos) d := by
  obtain ⟨u, v, h1, h2, h3⟩ := h.ex
  exact de_glob hg h1 h2 h3 hd
/-- the table of moves -/
structure MovesAt (K : PySem.W.Frag) (c : Cl) (w : World) (mg : Str → Option Value) : Prop where
  ex : ∃ ad, mg "MOVES" = some (.ref ad) ∧ (∃ v, KDct K w ad "n" v ∧ ∀ B, Tp K c B v (.tuple [.int (-1), .int 0])) ∧ (∃ v, KDct K w ad "e" v ∧ ∀ B, Tp K c B v (.tuple [.int 0, .int 1])) ∧
    (∃ v, KDct K w ad "s" v ∧ ∀ B, Tp K c B v (.tuple [.int 1, .int 0])) ∧ (∃ v, KDct K w ad "w" v ∧ ∀ B, Tp K c B v (.tuple [.int 0, .int (-1)]))
/-- a side: 0 n, 1 e, 2 s, 3 w -/
def sideS (i : Fin 4) : Str := match i with | 0 => "n" | 1 => "e" | 2 => "s" | 3 => "w"
def mv (i : Fin 4) : Int × Int := match i with | 0 => (-1, 0) | 1 => (0, 1) | 2 => (1, 0) | 3 => (0, -1)
theorem de_moves {p : Pos} (M : MovesAt X.K c X.w X.mg) (i : Fin 4) (hb : DE X G b (.str (sideS i))) (hg : Gl X "MOVES" := by rfl) (hs : PlainIx b := by exact fun _ _ => rfl) :
    DE X G (.Subscript (.Name "MOVES" p) b pos) (enc (mv i)) := by
  obtain ⟨ad, hm, ⟨v0, k0, t0⟩, ⟨v1, k1, t1⟩, ⟨v2, k2, t2⟩, ⟨v3, k3, t3⟩⟩ := M.ex
  match i with
  | 0 => exact de_wix hm hb k0 t0 hg (by decide) hs
  | 1 => exact de_wix hm hb k1 t1 hg (by decide) hs
  | 2 => exact de_wix hm hb k2 t2 hg (by decide) hs
  | 3 => exact de_wix hm hb k3 t3 hg (by decide) hs
end
/-- the name of a value's class -/
def tyN : D → String
  | .none => "NoneType"
  | .bool _ => "bool"
  | .int _ => "int"
  | .str _ => "str"
  | .list _ => "list"
  | .tuple _ => "tuple"
  | .dict [] => "dict"
  | .dict _ => "?"
/-- no object -/
def nodict : D → Bool
  | .dict (_ :: _) => false
  | _ => true
theorem tyD_of : ∀ {d : D}, nodict d = true → TyD d (tyN d)
  | .none, _ => .non
  | .bool _, _ => .bl _
  | .int _, _ => .int _
  | .str _, _ => .str _
  | .list _, _ => .lst _
  | .tuple _, _ => .tup _
  | .dict [], _ => .dct
  | .dict (_ :: _), h => by cases h
theorem kit_tyN {T : String} (h : (["NoneType", "bool", "int", "str", "list", "tuple", "dict"].all fun t => decide (kitB t T = some (isiB t T))) = true) {d : D} (hd : nodict d = true) : kitB (tyN d) T = some (isiB (tyN d) T) := by
  have all := fun t ht => of_decide_eq_true (List.all_eq_true.mp h t ht)
  match d, hd with
  | .none, _ => exact all _ (by simp [tyN])
  | .bool _, _ => exact all _ (by simp [tyN])
  | .int _, _ => exact all _ (by simp [tyN])
  | .str _, _ => exact all _ (by simp [tyN])
  | .list _, _ => exact all _ (by simp [tyN])
  | .tuple _, _ => exact all _ (by simp [tyN])
  | .dict [], _ => exact all _ (by simp [tyN])
/-- isinstance(e, T) of data -/
theorem de_isd {X : Cx} {G : Env X.K c} {a : Expr} {d : D} {pos : Pos} (T : String) {p q : Pos} {y : Str} (ha : DR X G a d) (hm : X.mg "isinstance" = none) (hmT : X.mg y = none) (hd : nodict d = true := by rfl) (hk : (["NoneType", "bool", "int", "str", "list", "tuple", "dict"].all fun t => decide (kitB t T = some (isiB t T))) = true := by decide +kernel) (hvT : bootBuiltins y = some (.type T) := by decide +kernel) (hg : Gl X "isinstance" := by rfl) (hgT : Gl X y := by rfl)
    (hn : y ≠ "__name__" := by decide) (hdb : (y == ("__debug__" : Str)) = false := by decide) (he : starEach (a :: [.Name y q]) X.env = (false, eval a X.env) :: starEach [.Name y q] X.env := by rfl)
    (he2 : starEach [.Name y q] X.env = (false, eval (.Name y q) X.env) :: starEach [] X.env := by rfl) (hpl : (backTo pos (starEach [.Name y q] X.env)).any (·.1) = false := by rfl) : DE X G (.Call (.Name "isinstance" p) [a, .Name y q] [] pos) (.bool (isiB (tyN d) T)) :=
  de_isi T ha (tyD_of hd) (kit_tyN hk hd) hm hmT hvT hg hgT hn hdb he he2 hpl
/-- what a chart knows of a cell -/
inductive Kn where
  | unk | wall | gr (k h : Int)
  deriving DecidableEq
def Kn.e : Kn → D
  | .unk => .str "?"
  | .wall => .none
  | .gr k h => .tuple [.int k, .int h]
instance : En Kn where
  enc := Kn.e
  dep := 1
  shp := fun a => by
    cases a with
    | unk => exact Shp.str _ _ (by decide +kernel)
    | wall => exact Shp.none _
    | gr k h => exact Shp.tuple (ShpA.cons (Shp.int _ _) (ShpA.cons (Shp.int _ _) (ShpA.nil _)))
  eqv := fun a b => by
    cases a with
    | unk => cases b <;> simp [Kn.e, PyData.eqv]
    | wall => cases b <;> simp [Kn.e, PyData.eqv]
    | gr k h =>
      cases b with
      | unk => simp [Kn.e, PyData.eqv]
      | wall => simp [Kn.e, PyData.eqv]
      | gr k' h' =>
        simp only [Kn.e, PyData.eqv, PyData.eqvAll, Bool.and_true, Kn.gr.injEq]
        by_cases h1 : k = k' <;> by_cases h2 : h = h' <;> simp [h1, h2]
theorem kn_nodict (a : Kn) : nodict (enc a) = true := by cases a <;> rfl
theorem kn_nodictL (a : Kn) : nolist (enc a) = true := by cases a <;> rfl
theorem gd_nodictL (a : Gd) : nolist (enc a) = true := by cases a <;> rfl
theorem gd_nodict (a : Gd) : nodict (enc a) = true := by cases a <;> rfl
/-- one can step from the one to the other -/
def stepK : Kn → Kn → Bool
  | .gr _ h, .gr _ h' => decide (h' ≤ h)
  | _, _ => false
/-- an if whose ways meet -/
def joinP {X : Cx} (Gj : Dw.Env X.K c) (Ph : Out X.K c → Prop) : Out X.K c → Prop
  | .nx G' => Wk G' Gj
  | o => Ph o
theorem dss_ifJ {X : Cx} {G : Env X.K c} {e : Expr} {body orelse rest : List Stmt} {Ph : Out X.K c → Prop} {pos : Pos} {k : Bool} (Gj : Env X.K c) (hc : DT X G e k) (h1 : k = true → DSs X G body (joinP Gj Ph)) (h2 : k = false → DSs X G orelse (joinP Gj Ph)) (h : DSs X Gj rest Ph) :
    DSs X G (.If e body orelse pos :: rest) Ph := by
  have im : ∀ o, joinP Gj Ph o → sq X rest Ph o := fun o q => by
    cases o with
    | nx G' => exact DSs.weak q h
    | bk _ => exact q
    | ct _ => exact q
    | ret _ _ => exact q
    | exc _ _ => exact q
  exact dss_if hc (fun q => (h1 q).imp im) fun q => (h2 q).imp im
section
variable {X : Cx} {G : Env X.K c} {e : Expr}
theorem de_lit {i : Int} (v : Int) (h : DE X G e (.int i)) (hv : i = v) : DE X G e (.int v) := hv ▸ h
theorem od_powC {i j : Int} (h : (decide (0 ≤ j) && decide (j ≤ 1000000) && decide (i.natAbs < 2 ^ 64)) = true := by decide +kernel) : OpD c X (binaryOp .Pow) (.int i) (.int j) (.int (i ^ j.toNat)) := by
  simp only [Bool.and_eq_true, decide_eq_true_eq] at h
  exact od_pow ⟨h.1.1, h.1.2, h.2⟩
theorem od_mulC {i j : Int} (h : decide (i.natAbs.log2 + j.natAbs.log2 < 1000000) = true := by decide +kernel) : OpD c X (binaryOp .Mult) (.int i) (.int j) (.int (i * j)) := od_mul (show i.natAbs.log2 + j.natAbs.log2 < 1000000 from of_decide_eq_true h)
theorem od_fdivC {i j : Int} (h : (decide (0 < j) && decide (j.natAbs.log2 < 9000)) = true := by decide +kernel) : OpD c X (binaryOp .FloorDiv) (.int i) (.int j) (.int (i / j)) := by
  simp only [Bool.and_eq_true, decide_eq_true_eq] at h
  exact od_fdiv ⟨h.1, h.2⟩
end
theorem tup2 {a b a' b' : Int} (h : a = a') (h2 : b = b') : PyData.tuple [.int a, .int b] = enc (a', b') := by
  rw [h, h2]
  rfl
theorem lt_line {n : Nat} (h : n ≤ 1000000) : n < sizeLine := by rw [sizeLine_eq]; omega
def intL (ns : List Int) : D := .list (ns.map .int)
theorem getD_of_le {α : Type} (l : List α) (i : Nat) (d : α) (h : l.length ≤ i) : l.getD i d = d := by
  rw [List.getD_eq_getElem?_getD, List.getElem?_eq_none h]
  rfl

def spL (K : PySem.W.Frag) : Sp := fun vs H Q _ => ∃ (a : Addr) (ns : List Int), vs = [.ref a] ∧ SqL K H a (ns.map V.int) ∧ ns.length ≤ 63 ∧ ∀ H', Q (.bl true) H'
theorem tmAll_ints {K : PySem.W.Frag} {Z B : Hp} : ∀ ns : List Int, TmAll K c Z B (ns.map V.int) (ns.map PyData.int)
  | [] => .nil
  | n :: ns => .cons (.of (.int n)) (tmAll_ints ns)
theorem law_imp {P : Program} {w : World} {K : PySem.W.Frag} {mg : Str → Option Value} {base : Heap} {k : Nat} {f : Addr} {fd : FuncData} {ps : List Str} (ht : c.tabs = []) (F : FnOk P w K mg base CX0 k f fd ps (spS K (RLaw K c))) : FnOk P w K mg base CX0 k f fd ps (spL K) :=
  F.imp fun vs H Q E h => by
    obtain ⟨a, ns, rfl, hS, hl, q⟩ := h
    refine ⟨fun _ => none, [sb (.list (ns.map .int))], sd (.bool true), (fun _ _ q => nomatch q), ⟨(fun p hp => absurd (ht ▸ hp) List.not_mem_nil), fun _ _ => rfl⟩, .cons ⟨rfl, .lst hS (tmAll_ints ns)⟩ .nil, ⟨ns, hl, rfl, rfl⟩, fun v B' H' fp e p hf => ?_⟩
    obtain ⟨_, h⟩ := p (fun _ => none)
    cases h
    exact q H'
theorem law_walk {l : PySem.W.OpenLaw} {k : Nat} {q : Program} {loose : List Str} {XP : (Str → Option Value) → Heap → Prop} {YP : World → Heap → Prop} {d : DefRec} {K : Params → PySem.W.Frag} {x : Str} (hn : l.most = some 63) (hdf : d.params.defaults = []) (hr : Room k callerA)
    (hY : ∀ (w : World) (h : Heap), YP w h → (K w.params).In h)
    (F : ∀ (w : World) (mg : Str → Option Value) (fa : Addr) (h : Heap), (K w.params).In h → h.Ns mainGlobals mg → mg d.name = some (.ref fa) →
      ∃ fd : FuncData, (∀ (s : Shared) (u : Value), BindsTo s fd ⟨[u], []⟩ [(x, u)]) ∧ ∀ base : Heap, (K w.params).In base → base.Ns mainGlobals mg → FnOk l.prog w (K w.params) mg base CX0 k fa fd [x] (spL (K w.params))) :
    PySem.W.WalkO q loose XP YP l.row.toRowW d [] (fun f vs => PySem.call f vs) :=
  L2.walk_of (n := 63) (k := k) (x := x) (CX := fun _ => CX0) (sp := fun w => spL (K w.params)) hn (by decide) hdf hr hY F (fun _ _ a ns hl _ hS => ⟨a, ns, rfl, hS, hl, fun _ => rfl⟩) fun _ _ _ _ _ z => z
/-- a def of the top, from the head's facts -/
theorem funAt {K : PySem.W.Frag} {mg : Str → Option Value} {h : Heap} (X : K.In h) (G : h.Ns mainGlobals mg) {x : Str} {st : Stmt} {ps : List Str} {f : Addr} {oc : Value} {od an : Option Addr} {osl : Array (Option Value)} {kV doc pm cdv ct : Value} (a : PySem.W.nsIn K mainGlobals x = some (some (.ref f)))
    (l : K.lookup f = some ⟨oc, od, .func (PySem.W.fnOf x x (defArgs st) (defBody st) (defScope st) .none kV doc pm an cdv ct), osl⟩) (c : PySem.W.codeIn K cdv x = true) (k : PySem.W.keepIn K (.ref f) = true)
    (b : ∀ (kV doc pm : Value) (an : Option Addr) (cdv ct : Value) (us : List Value), us.length = ps.length → bindArgs (PySem.W.fnOf x x (defArgs st) (defBody st) (defScope st) .none kV doc pm an cdv ct) ⟨us, []⟩ = pure (ps.zip us)) : FunAt K mg x st ps := by
  have F := fun_mk (st := st) l c k
  exact ⟨f, _, PySem.W.mg_of X G a, F, F.binds b⟩
theorem vals_ii {i j : Int} {t u : Tok} : Vals [V.int i, V.int j] [Value.int i t, Value.int j u] := .cons ⟨t, rfl⟩ (.cons ⟨u, rfl⟩ .nil)
theorem tpAll_ii {K : PySem.W.Frag} {B : Hp} {i j : Int} : TpAll K c B [V.int i, V.int j] [PyData.int i, PyData.int j] := .cons (.int i) (.cons (.int j) .nil)
theorem vals_s4 {a b c d : Str} {t u v z : Tok} : Vals [V.str a, V.str b, V.str c, V.str d] [Value.str a t, Value.str b u, Value.str c v, Value.str d z] := .cons ⟨t, rfl⟩ (.cons ⟨u, rfl⟩ (.cons ⟨v, rfl⟩ (.cons ⟨z, rfl⟩ .nil)))
theorem tpAll_s4 {K : PySem.W.Frag} {B : Hp} {x y z u : Str} : TpAll K c B [V.str x, V.str y, V.str z, V.str u] [PyData.str x, PyData.str y, PyData.str z, PyData.str u] := .cons (.str x) (.cons (.str y) (.cons (.str z) (.cons (.str u) .nil)))
theorem tw_le : (2 : Nat) ≤ sizeLine := by rw [sizeLine_eq]; decide
theorem fo_le : (4 : Nat) ≤ sizeLine := by rw [sizeLine_eq]; decide
theorem tp_ii {K : PySem.W.Frag} {p : Addr} {dd : Option Addr} {n : Nat} {sl : Array (Option Value)} {i j : Int} {t u : Tok} (l : K.lookup p = some ⟨.type "tuple", dd, .seq #[.int i t, .int j u] n, sl⟩) (B : Hp) : Tp K c B (.ref p) (.tuple [.int i, .int j]) := tp_ktup l tw_le vals_ii tpAll_ii
theorem const_ii {K : PySem.W.Frag} {mg : Str → Option Value} {x : Str} {p : Addr} {dd : Option Addr} {n : Nat} {sl : Array (Option Value)} {i j : Int} {t u : Tok} (h : mg x = some (.ref p)) (l : K.lookup p = some ⟨.type "tuple", dd, .seq #[.int i t, .int j u] n, sl⟩) : ConstAt K c mg x (.tuple [.int i, .int j]) :=
  ⟨_, .ref p, h, rfl, tp_ii l⟩
theorem const_s4 {K : PySem.W.Frag} {mg : Str → Option Value} {x : Str} {p : Addr} {dd : Option Addr} {n : Nat} {sl : Array (Option Value)} {a b c' d : Str} {t u v z : Tok} (h : mg x = some (.ref p)) (l : K.lookup p = some ⟨.type "tuple", dd, .seq #[.str a t, .str b u, .str c' v, .str d z] n, sl⟩) : ConstAt K c mg x (.tuple [.str a, .str b, .str c', .str d]) :=
  ⟨_, .ref p, h, rfl, fun B => tp_ktup l fo_le vals_s4 tpAll_s4⟩
theorem moves_at {K : PySem.W.Frag} {w : World} {mg : Str → Option Value} {ad p0 p1 p2 p3 : Addr} {es : Array DictEntry} {n n0 n1 n2 n3 : Nat} {d0 d1 d2 d3 : Option Addr} {s0 s1 s2 s3 : Array (Option Value)} {t0 u0 t1 u1 t2 u2 t3 u3 : Tok} (h : mg "MOVES" = some (.ref ad))
    (l : K.lookup ad = some ⟨.type "dict", none, .dict es n, #[]⟩) (kl : PySem.W.KeysLit w.params es.toList) (a0 : PySem.W.nsIn K ad "n" = some (some (.ref p0))) (a1 : PySem.W.nsIn K ad "e" = some (some (.ref p1))) (a2 : PySem.W.nsIn K ad "s" = some (some (.ref p2))) (a3 : PySem.W.nsIn K ad "w" = some (some (.ref p3)))
    (l0 : K.lookup p0 = some ⟨.type "tuple", d0, .seq #[.int (-1) t0, .int 0 u0] n0, s0⟩) (l1 : K.lookup p1 = some ⟨.type "tuple", d1, .seq #[.int 0 t1, .int 1 u1] n1, s1⟩) (l2 : K.lookup p2 = some ⟨.type "tuple", d2, .seq #[.int 1 t2, .int 0 u2] n2, s2⟩) (l3 : K.lookup p3 = some ⟨.type "tuple", d3, .seq #[.int 0 t3, .int (-1) u3] n3, s3⟩) : MovesAt K c w mg :=
  ⟨ad, h, ⟨.ref p0, ⟨es, n, _, l, kl, a0, rfl⟩, tp_ii l0⟩, ⟨.ref p1, ⟨es, n, _, l, kl, a1, rfl⟩, tp_ii l1⟩, ⟨.ref p2, ⟨es, n, _, l, kl, a2, rfl⟩, tp_ii l2⟩, ⟨.ref p3, ⟨es, n, _, l, kl, a3, rfl⟩, tp_ii l3⟩⟩
end Dw

namespace Dw
open PySem L2 PyProof.Rows
variable {c : Cl}
/-- a field -/
def fldD : List (D × D) → Str → Option D
  | [], _ => none
  | (.str g, d) :: r, f => if f = g then some d else fldD r f
  | _ :: r, f => fldD r f
theorem tpF_get {K : PySem.W.Frag} {B : Hp} {f : Str} {d : D} : ∀ {kvs : List (D × D)} {fs : List (Str × V)}, TpF K c B fs kvs → fldD kvs f = some d → ∃ v, fs.lookup f = some v ∧ Tp K c B v d
  | _, _, .nil, h => by cases h
  | _, _, .cons (f := g) (v := v) (fs := fs) h t, e => by
    unfold fldD at e
    by_cases q : f = g
    · rw [if_pos q] at e
      cases e
      have : (f == g) = true := beq_iff_eq.mpr q
      exact ⟨_, by simp [List.lookup, this], h⟩
    · rw [if_neg q] at e
      have : (f == g) = false := beq_eq_false_iff_ne.mpr q
      obtain ⟨v, h1, h2⟩ := tpF_get t e
      exact ⟨v, by simp [List.lookup, this, h1], h2⟩
theorem tpF_none {K : PySem.W.Frag} {B : Hp} {f : Str} : ∀ {kvs : List (D × D)} {fs : List (Str × V)}, TpF K c B fs kvs → fldD kvs f = none → fs.lookup f = none
  | _, _, .nil, h => rfl
  | _, _, .cons (f := g) (v := v) (fs := fs) h t, e => by
    unfold fldD at e
    by_cases q : f = g
    · rw [if_pos q] at e
      cases e
    · rw [if_neg q] at e
      have : (f == g) = false := beq_eq_false_iff_ne.mpr q
      simp [List.lookup, this, tpF_none t e]
abbrev obD (n : Int) (kvs : List (D × D)) : D := .dict ((.int n, .none) :: kvs)
/-- a class, and names that are fields alone -/
structure ClsAt (K : PySem.W.Frag) (c : Cl) (n : Int) (attrs : List Str) : Prop where
  ex : ∃ C, c n = some C ∧ Cls K C ∧ ∀ f ∈ attrs, NoAttr K C f
structure MthOk (P : Program) (w : World) (K : PySem.W.Frag) (c : Cl) (mg : Str → Option Value) (base : Heap) (n : Int) (m : Str) (k : Nat) (R : List (Slot K c) → Slot K c → Prop) : Prop where
  ex : ∃ C f fd ps, c n = some C ∧ Cls K C ∧ Meth K C m f ∧ Binds K fd ps [] ∧ FnOk P w K mg base CX0 k f fd ps (spS K R)
/-- what the head knows of a method -/
structure MethAt (K : PySem.W.Frag) (c : Cl) (n : Int) (m qual : Str) (st : Stmt) (ps : List Str) : Prop where
  ex : ∃ C f fd, c n = some C ∧ Cls K C ∧ Meth K C m f ∧ Fun K m qual st f fd ∧ Binds K fd ps []
theorem mth_ok {P : Program} {w : World} {K : PySem.W.Frag} {mg : Str → Option Value} {base : Heap} {n : Int} {m qual : Str} {st : Stmt} {N ps : List Str} {k : Nat} {R : List (Slot K c) → Slot K c → Prop}
    (F : MethAt K c n m qual st ps) (S : FnScope N ps (defScope st)) (hR : ∀ ss r, R ss r → ss.length = ps.length)
    (body : ∀ (f : Addr) (cdv : Value) (A : Around) (outer : List PySem.Env) (s : Shared) (H : Hp) (E : XK) (ss : List (Slot K c)) (r : Slot K c), R ss r → Bd (bx P w K mg base N qual st f cdv A outer s H E) k →
      DSs (c := c) (bx P w K mg base N qual st f cdv A outer s H E) (G0 N ss) (defBody st) (defEnd r)) : MthOk P w K c mg base n m (k + 1) R := by
  obtain ⟨C, f, fd, h1, h2, h3, h4, h5⟩ := F.ex
  exact ⟨C, f, fd, ps, h1, h2, h3, h5, def_fn h4 S hR (body f)⟩
section
variable {X : Cx} {G : Env X.K c} {a b e o : Expr} {es : List Expr} {pos p apos : Pos} {d d1 d2 : D} {ds : List D} {k : Nat} {x m f : Str} {n : Int} {kvs : List (D × D)}
theorem de_fld {attrs : List Str} (T : ClsAt X.K c n attrs) (ho : DE X G e (obD n kvs)) (hl : fldD kvs f = some d) (hf : f ∈ attrs := by decide) (hb : attributeBase e f X.env (eval e X.env) = eval e X.env := by rfl) : DE X G (.Attribute e f pos) d := by
  obtain ⟨t, q, r⟩ := ho
  obtain ⟨C, h1, h2, h3⟩ := T.ex
  refine ⟨_, pe_fld q hb, fun Z B H σ Q E g => r Z B H σ _ E fun v B' H' e h => ?_⟩
  cases h with
  | ob hx hc ht =>
    rw [h1] at hc
    cases hc
    obtain ⟨v, q1, q2⟩ := tpF_get ht hl
    exact ⟨_, C, _, _, v, rfl, e.sub _ _ hx, h2, h3 f hf, q1, g v B' H' e q2⟩
theorem dx_meth {R : List (Slot X.K c) → Slot X.K c → Prop} {ss : List (Slot X.K c)} {s : Slot X.K c} {pl : Sem Bool} (F : MthOk X.prog X.w X.K c X.mg X.base n m k R) (hr : Room k X.A) (ho : DE X G o (obD n kvs)) (ha : DAs X G (e :: es) ss) (hR : R (sd (obD n kvs) :: ss) s) (hm : fldD kvs m = none := by rfl)
    (hst : starEach (e :: es) X.env = (false, eval e X.env) :: starEach es X.env := by rfl) (hpl : (backTo pos (starEach es X.env)).any (·.1) = false := by rfl)
    (ht : eval (.Call (.Attribute o m apos) (e :: es) [] pos) X.env = (do
      let ov ← eval o X.env
      standAt apos.atName
      let (f, first) ← holding [ov] (getMethod ov m pl)
      callWith pos f first (backTo pos (starEach (e :: es) X.env)) (backToKw pos (keywordEach [] X.env))) := by rfl) : DX X G (.Call (.Attribute o m apos) (e :: es) [] pos) s := by
  obtain ⟨t, q, r⟩ := ho
  obtain ⟨ta, qa, ra⟩ := ha
  obtain ⟨C, f, fd, ps, h1, h2, h3, h4, h5⟩ := F.ex
  refine ⟨_, pe_meth q h2 h3 h5 hr h4 .nil pass0 qa hst hpl ht, fun Z B H σ Q E g => r Z B H σ _ E fun v B' H' e h => ?_⟩
  cases h with
  | ob hx hc hf =>
    rw [h1] at hc
    cases hc
    refine ⟨_, _, _, rfl, e.sub _ _ hx, tpF_none hf hm, ra Z B' H' σ _ (E.ext e) fun vs B2 H2 e2 hv => ?_⟩
    refine ⟨B2, _, s, e2.sub, (e.trans e2).tabs E.tb, ?_, hR, gs_ext (e.trans e2) g⟩
    rw [List.append_nil]
    exact .cons ⟨rfl, .ob (e2.b _ _ hx) h1 (TpF.mono e2.b _ _ hf)⟩ hv
theorem dx_meth0 {R : List (Slot X.K c) → Slot X.K c → Prop} {s : Slot X.K c} {pl : Sem Bool} (F : MthOk X.prog X.w X.K c X.mg X.base n m k R) (hr : Room k X.A) (ho : DE X G o (obD n kvs)) (hR : R [sd (obD n kvs)] s) (hm : fldD kvs m = none := by rfl)
    (ht : eval (.Call (.Attribute o m apos) [] [] pos) X.env = (do
      let ov ← eval o X.env
      standAt apos.atName
      let (f, first) ← holding [ov] (getMethod ov m pl)
      callWith pos f first (backTo pos (starEach [] X.env)) (backToKw pos (keywordEach [] X.env))) := by rfl) : DX X G (.Call (.Attribute o m apos) [] [] pos) s := by
  obtain ⟨t, q, r⟩ := ho
  obtain ⟨C, f, fd, ps, h1, h2, h3, h4, h5⟩ := F.ex
  refine ⟨_, pe_meth0 q h2 h3 h5 hr h4 .nil pass0 ht, fun Z B H σ Q E g => r Z B H σ _ E fun v B' H' e h => ?_⟩
  cases h with
  | ob hx hc hf =>
    rw [h1] at hc
    cases hc
    refine ⟨_, _, _, rfl, e.sub _ _ hx, tpF_none hf hm, ?_⟩
    refine ⟨B', _, s, e.sub, e.tabs E.tb, ?_, hR, gs_ext e g⟩
    exact .cons ⟨rfl, .ob hx h1 hf⟩ .nil
theorem de_meth {R : List (Slot X.K c) → Slot X.K c → Prop} {ss : List (Slot X.K c)} {pl : Sem Bool} (F : MthOk X.prog X.w X.K c X.mg X.base n m k R) (hr : Room k X.A) (ho : DE X G o (obD n kvs)) (ha : DAs X G (e :: es) ss) (hR : R (sd (obD n kvs) :: ss) (sd d)) (hm : fldD kvs m = none := by rfl)
    (hst : starEach (e :: es) X.env = (false, eval e X.env) :: starEach es X.env := by rfl) (hpl : (backTo pos (starEach es X.env)).any (·.1) = false := by rfl)
    (ht : eval (.Call (.Attribute o m apos) (e :: es) [] pos) X.env = (do
      let ov ← eval o X.env
      standAt apos.atName
      let (f, first) ← holding [ov] (getMethod ov m pl)
      callWith pos f first (backTo pos (starEach (e :: es) X.env)) (backToKw pos (keywordEach [] X.env))) := by rfl) : DE X G (.Call (.Attribute o m apos) (e :: es) [] pos) d := (dx_meth F hr ho ha hR hm hst hpl ht).de
/-- an __init__ that keeps its arguments -/
def spI (K : PySem.W.Frag) (c : Cl) (n : Int) (names : List Str) : Sp := fun vs H Q _ => ∃ (x dx C : Addr) (us : List V), vs = .ref x :: us ∧ us.length = names.length ∧ c n = some C ∧ H x = some (.ins C dx []) ∧ Q .non (upd H x (.ins C dx (names.zip us)))
structure MkOk (P : Program) (w : World) (K : PySem.W.Frag) (c : Cl) (mg : Str → Option Value) (base : Heap) (n : Int) (x : Str) (k : Nat) (names : List Str) : Prop where
  ex : ∃ C f fd ps, c n = some C ∧ mg x = some (.ref C) ∧ Mk K C f ∧ Binds K fd ps [] ∧ FnOk P w K mg base CX0 k f fd ps (spI K c n names)
def zipD : List Str → List D → List (D × D)
  | f :: fs, d :: ds => (.str f, d) :: zipD fs ds
  | _, _ => []
theorem tpF_zip {K : PySem.W.Frag} {B : Hp} : ∀ {names : List Str} {us : List V} {ds : List D}, TpAll K c B us ds → names.length = ds.length → TpF K c B (names.zip us) (zipD names ds)
  | [], _, _, .nil, _ => .nil
  | f :: fs, _, _, .nil, h => by simp at h
  | [], _, _, .cons _ _, h => by simp at h
  | f :: fs, _, _, .cons h t, e => .cons h (tpF_zip t (by simpa using e))
theorem ext_made {B1 H1 : Hp} {x dx C : Addr} {fs : List (Str × V)} (s : Same B1 H1) (nx : H1 x = none) (ndx : H1 dx = none) (ne : dx ≠ x) : Ext B1 H1 (upd B1 x (.ins C dx fs)) (upd (upd (upd H1 dx (.own x)) x (.ins C dx [])) x (.ins C dx fs)) := by
  rw [upd_upd]
  have nb := s.free nx
  refine ⟨same_upd nb, .of fun a o q => ?_, fun a o q => ?_, fun a h1 h2 => ?_⟩
  · rw [upd_ne (ne_of_none q nx), upd_ne (ne_of_none q ndx)]
    exact q
  · by_cases z : a = x
    · subst z; rw [upd_same] at q ⊢; exact q
    · rw [upd_ne z] at q
      have q' := s a o q
      rw [upd_ne z, upd_ne (ne_of_none q' ndx)]
      exact q'
  · by_cases z : a = x
    · subst z; exact absurd nx h2
    · rw [upd_ne z]; exact h1
theorem de_make {names : List Str} (F : MkOk X.prog X.w X.K c X.mg X.base n x k names) (hr : Room (k + 1) X.A) (ha : DEs X G (e :: es) ds) (hl : names.length = ds.length := by rfl) (hg : Gl X x := by rfl) (hdb : (x == ("__debug__" : Str)) = false := by decide)
    (he : starEach (e :: es) X.env = (false, eval e X.env) :: starEach es X.env := by rfl) (hpl : (backTo pos (starEach es X.env)).any (·.1) = false := by rfl) : DE X G (.Call (.Name x p) (e :: es) [] pos) (obD n (zipD names ds)) := by
  obtain ⟨t, q, r⟩ := ha
  obtain ⟨C, f, fd, ps, h1, h2, h3, h4, h5⟩ := F.ex
  refine ⟨_, pe_make h3 h5 hr hg h2 h4 .nil pass0 q hdb he hpl, fun Z B H σ Q E g => r Z B H σ _ E fun vs B' H' e h => ?_⟩
  intro y dy ny ndy ne
  rw [List.append_nil]
  refine ⟨y, dy, C, vs, rfl, by rw [h.length]; exact hl.symm, h1, upd_same, rfl, ?_⟩
  have ee := ext_made (fs := names.zip vs) (C := C) e.sub ny ndy ne
  exact g _ _ _ (e.trans ee) (.ob upd_same h1 (TpF.mono ee.b _ _ (tpF_zip h hl)))
end
structure MkE (K : PySem.W.Frag) (C : Addr) : Prop where
  makes : PySem.W.makesIn K C = true
  init : PySem.W.findIn K (.ref C) "__init__" = some (some (.builtin "object.__init__"))
  kp : PySem.W.keepIn K (.ref C) = true
structure MkEAt (K : PySem.W.Frag) (c : Cl) (mg : Str → Option Value) (n : Int) (x : Str) : Prop where
  ex : ∃ C, c n = some C ∧ mg x = some (.ref C) ∧ MkE K C
section
open PySem.W
theorem make_mapE {prog : Program} {w : World} {A : Around} {K : Frag} {C : Addr} {s : Shared} {R : Result → Shared → Prop} (X : K.In s.heap) (M : MkE K C)
    (h : R (.ok (.ret (.ref (s.heap.objs.size + 1)))) { s with heap := (s.heap.push PySem.W.emptyDict).push (PySem.W.instObj C s.heap.objs.size) }) : codeAny (model prog w) A (.call (.ref C) ⟨[], []⟩) R s := by
  obtain ⟨hh, g, d, t, os⟩ := s
  have Y := makes_of (M := model prog w) X M.makes
  refine make_core Y (looks_findIn X M.init) (fun self => Looks.of_pure (oi_bind self)) (.inr ⟨rfl, rfl⟩) ?_
  have hx : ((hh.push emptyDict).push (instObj C hh.objs.size)).get? (hh.objs.size + 1) = some (instObj C hh.objs.size) := by heap_get
  have t1 : Looks (model prog w) ((hh.push emptyDict).push (instObj C hh.objs.size)) (typeOf (.ref (hh.objs.size + 1))) (.ref C) := (Looks.ld hx).andThen .now
  have t2 : Looks (model prog w) ((hh.push emptyDict).push (instObj C hh.objs.size)) (isInstance (.ref (hh.objs.size + 1)) (.type "object")) true := t1.andThen (Y.top.keeps fun b o e => Heap.get?_push_of_some _ (Heap.get?_push_of_some _ e))
  refine codeAny_call_builtin oi_plain entry_oi (@check_slot (model prog w) _ _ _ "object.__init__" "object" "__init__" (.ref (hh.objs.size + 1)) [] [] _ oi_kind oi_split t2 (oi_args (.ref (hh.objs.size + 1))) ?_)
  rw [oi_run]
  exact wpAny_pure (And.intro rfl h)
end
def tMakeE (C : Addr) : TE := fun _ H Q => ∀ x dx, H x = none → H dx = none → dx ≠ x → Q (.ref x) (upd (upd H dx (.own x)) x (.ins C dx []))
theorem pe_makeE {X : Cx} {C : Addr} {x : Str} {p pos : Pos} (M : MkE X.K C) (hg : Gl X x) (hm : X.mg x = some (.ref C)) (hdb : (x == ("__debug__" : Str)) = false := by decide) : PE X (.Call (.Name x p) [] [] pos) (tMakeE C) := by
  refine ⟨fun pins s σ H Q I h => ?_⟩
  refine wpAny_Call_Name_kw (ld_glob I hg hm ?_ hdb)
  refine PySem.W.callWith_K0 I.kIn M.kp (wpAny_call (make_mapE I.kIn M ?_))
  exact ⟨V.ref (s.heap.objs.size + 1), _, Inv.made (C := C) I, rfl, h _ _ (I.hok.fresh (Nat.le_succ _)) (I.hok.fresh (Nat.le_refl _)) (Nat.ne_of_lt (Nat.lt_succ_self _))⟩
theorem de_makeE {X : Cx} {G : Env X.K c} {n : Int} {x : Str} {p pos : Pos} (F : MkEAt X.K c X.mg n x) (hg : Gl X x := by rfl) (hdb : (x == ("__debug__" : Str)) = false := by decide) : DE X G (.Call (.Name x p) [] [] pos) (obD n []) := by
  obtain ⟨C, h1, h2, h3⟩ := F.ex
  refine ⟨_, pe_makeE h3 hg h2 hdb, fun Z B H σ Q E g => ?_⟩
  intro y dy ny ndy ne
  have ee := ext_made (fs := []) (C := C) E.sub ny ndy ne
  rw [upd_upd] at ee
  exact g _ _ _ ee (.ob upd_same h1 .nil)
structure IsAt (K : PySem.W.Frag) (c : Cl) (mg : Str → Option Value) (n : Int) (y : Str) (b : Bool) : Prop where
  ex : ∃ C A, c n = some C ∧ mg y = some (.ref A) ∧ Cls K C ∧ PySem.W.findIn K (.ref C) "__class__" = some (some (.builtin "object.__class__")) ∧ PySem.W.specialIn K (.builtin "object.__class__") "__get__" = some (some (.builtin "getset_descriptor.__get__")) ∧
    PySem.W.takesIn K (.builtin "object.__class__") = some true ∧ PySem.W.mroIn K C (.type "object") = some true ∧ PySem.W.kitOne K (.ref C) (.ref A) = some b
theorem de_isC {X : Cx} {G : Env X.K c} {a : Expr} {n : Int} {kvs : List (D × D)} {b : Bool} {y : Str} {p q pos : Pos} (F : IsAt X.K c X.mg n y b) (ha : DE X G a (obD n kvs)) (hm : X.mg "isinstance" = none) (hg : Gl X "isinstance" := by rfl) (hgy : Gl X y := by rfl)
    (hdb : (y == ("__debug__" : Str)) = false := by decide) (he : starEach (a :: [.Name y q]) X.env = (false, eval a X.env) :: starEach [.Name y q] X.env := by rfl)
    (he2 : starEach [.Name y q] X.env = (false, eval (.Name y q) X.env) :: starEach [] X.env := by rfl) (hpl : (backTo pos (starEach [.Name y q] X.env)).any (·.1) = false := by rfl) : DE X G (.Call (.Name "isinstance" p) [a, .Name y q] [] pos) (.bool b) := by
  obtain ⟨t, pa, r⟩ := ha
  obtain ⟨C, A, h1, h2, h3, h4, h5, h6, h7, h8⟩ := F.ex
  refine ⟨_, pe_callB call_isi hg hm (by decide +kernel) (pa_cons pa (pa_cons (pe_glob (v := .ref A) hgy h2 rfl hdb) pa_nil he2) he) (by decide) (by decide) he hpl, fun Z B H σ Q E g => r Z B H σ _ E fun v B' H' e h => ?_⟩
  cases h with
  | ob hx hc hf =>
    rw [h1] at hc
    cases hc
    exact ⟨_, _, _, _, b, rfl, .own A, .base (.ins (e.sub _ _ hx) h3 h4 h5 h6 h7), h8, g _ B' H' e (.bl b)⟩
section
variable {X : Cx} {G : Env X.K c} {a b e : Expr} {es : List Expr} {pos : Pos} {d : D} {ds zs : List D} {k : Nat} {x : Str}
def DL (X : Cx) (G : Env X.K c) (e : Expr) (ds : List D) : Prop :=
  ∃ t, PE X e t ∧ ∀ Z B H σ Q, EnvE G Z B H σ → (∀ v B' H', Ext B H B' H' → (∃ p vs, v = .ref p ∧ Rd H' p (.lst vs) ∧ TpAll X.K c B' vs ds) → Q v H') → t σ H Q
theorem dl_of (h : DE X G e (.list ds)) : DL X G e ds := by
  obtain ⟨t, p, r⟩ := h
  refine ⟨t, p, fun Z B H σ Q E g => r Z B H σ Q E fun v B' H' e h => g v B' H' e ?_⟩
  cases h with
  | lst h1 h2 => exact ⟨_, _, rfl, Same.rd e.sub h1, h2⟩
theorem dl_own (i : Nat) {par : Bool} (hG : G[i]? = some (some (so ds par)) := by rfl) (hN : X.N[i]? = some x := by rfl)
    (hv : Vis X.env.scope x := by first | exact Or.inl rfl | exact Or.inr (Or.inl rfl) | exact Or.inr (Or.inr rfl)) (hd : (x == ("__debug__" : Str)) = false := by decide)
    (hcd : (x == ("__classdict__" : Str)) = false := by decide) : DL X G (.Name x pos) ds :=
  ⟨_, pv i hN hv hd hcd, fun Z B H σ Q E g => by
    obtain ⟨v, fp, h1, p, vs, h0, _, h3, h4, h5⟩ := E.sl i _ hG
    exact ⟨v, h1, g v B H (Ext.refl E.sub) ⟨p, vs, h0, Rd.of h4, h5⟩⟩⟩
theorem dx_cat (ha : DL X G a ds) (hb : DL X G b zs) (hl : ds.length + zs.length ≤ sizeLine) : DX X G (.BinOp a .Add b pos) (so (ds ++ zs)) := by
  obtain ⟨ta, pa, ra⟩ := ha
  obtain ⟨tb, pb, rb⟩ := hb
  refine ⟨_, pe_op op_catR pa pb, fun Z B H σ Q E g => ?_⟩
  refine ra Z B H σ _ E fun v B1 H1 e1 ⟨p, vs, h0, h1, h2⟩ => rb Z B1 H1 σ _ (E.ext e1) fun u B2 H2 e2 ⟨p', us, h3, h4, h5⟩ => ?_
  exact ⟨p, p', vs, us, h0, h3, e2.h.rd h1, h4, by rw [h2.length, h5.length]; exact hl, fun q hq => gs_lst e2.sub (gs_ext (e1.trans e2) g) ((TpAll.mono e2.b _ _ h2).append h5) hq⟩
/-- == and != of texts -/
theorem od_eqS {y z : Str} (C : Bd X k) (hy : PyData.strOk y = true := by decide +kernel) (hz : PyData.strOk z = true := by decide +kernel) : OpD c X (compareOp .Eq) (.str y) (.str z) (.bool (decide (y = z))) := by
  have := od_eq (c := c) (d1 := .str y) (d2 := .str z) C (Shp.str 0 y hy) (Shp.str 0 z hz)
  have e : PyData.eqv (.str y) (.str z) = decide (y = z) := by
    simp only [PyData.eqv]
    by_cases h : y = z
    · subst h; simp
    · rw [decide_eq_false h]; exact beq_eq_false_iff_ne.mpr h
  rw [e] at this
  exact this
theorem od_neS {y z : Str} (C : Bd X k) (hy : PyData.strOk y = true := by decide +kernel) (hz : PyData.strOk z = true := by decide +kernel) : OpD c X (compareOp .NotEq) (.str y) (.str z) (.bool (!decide (y = z))) := by
  have := od_ne (c := c) (d1 := .str y) (d2 := .str z) C (Shp.str 0 y hy) (Shp.str 0 z hz)
  have e : PyData.eqv (.str y) (.str z) = decide (y = z) := by
    simp only [PyData.eqv]
    by_cases h : y = z
    · subst h; simp
    · rw [decide_eq_false h]; exact beq_eq_false_iff_ne.mpr h
  rw [e] at this
  exact this
theorem dss_ifT {b : Bool} {body orelse rest : List Stmt} {Ph : Out X.K c → Prop} (hc : DT X G e b) (hb : b = true) (h : DSs X G body (sq X rest Ph)) : DSs X G (.If e body orelse pos :: rest) Ph := dss_if hc (fun _ => h) fun q => by rw [hb] at q; cases q
theorem dss_ifF {b : Bool} {body orelse rest : List Stmt} {Ph : Out X.K c → Prop} (hc : DT X G e b) (hb : b = false) (h : DSs X G orelse (sq X rest Ph)) : DSs X G (.If e body orelse pos :: rest) Ph := dss_if hc (fun q => by rw [hb] at q; cases q) fun _ => h
/-- .. with no else: on to the rest -/
theorem dss_skip {b : Bool} {body rest : List Stmt} {Ph : Out X.K c → Prop} (hc : DT X G e b) (hb : b = false) (h : DSs X G rest Ph) : DSs X G (.If e body [] pos :: rest) Ph := dss_ifF hc hb (dss_nil h)
end
def cutA {α : Type} (l : List α) (lo hi : Option Int) : List α := (l.drop (HT.sIx l.length 0 lo)).take (HT.sIx l.length l.length hi - HT.sIx l.length 0 lo)
theorem cutD_map {α : Type} (f : α → D) (l : List α) (lo hi : Option Int) : cutD (l.map f) lo hi = (cutA l lo hi).map f := by
  unfold cutD cutA
  rw [List.length_map, List.map_take, List.map_drop]
theorem cutA_le {α : Type} (l : List α) (lo hi : Nat) : (cutA l (some (lo : Int)) (some (hi : Int))).length ≤ hi - lo := by
  unfold cutA
  rw [List.length_take, List.length_drop, HT.sIx_nat, HT.sIx_nat]
  omega
theorem cutA_len {α : Type} (l : List α) (lo hi : Option Int) : (cutA l lo hi).length ≤ l.length := by
  unfold cutA
  rw [List.length_take, List.length_drop]
  omega
/-- the i-th item of a mapped list -/
theorem map_at {α : Type} (f : α → D) {l : List α} {i : Nat} {a : α} (h : l[i]? = some a) : (l.map f)[i]?.getD .none = f a := by
  rw [List.getElem?_map, h]
  rfl
theorem at_some {α : Type} {l : List α} {i : Nat} (h : i < l.length) : ∃ a, l[i]? = some a := ⟨l[i], List.getElem?_eq_getElem h⟩
theorem take_at {α : Type} {l : List α} {i : Nat} {a : α} (h : l[i]? = some a) : l.take (i + 1) = l.take i ++ [a] := by
  rw [List.take_succ, h]
  rfl
end Dw
namespace Dw
open PySem L2 PyProof.Rows
theorem allNo_nil {K : PySem.W.Frag} {C : Addr} : ∀ f ∈ ([] : List Str), NoAttr K C f := fun _ h => absurd h List.not_mem_nil
theorem allNo_cons {K : PySem.W.Frag} {C : Addr} {a : Str} {as : List Str} (h : PySem.W.findIn K (.ref C) a = some none) (t : ∀ f ∈ as, NoAttr K C f) : ∀ f ∈ a :: as, NoAttr K C f := fun f hf => by
  rcases List.mem_cons.mp hf with rfl | hf
  · exact h
  · exact t f hf
theorem map_atD {α : Type} (f : α → D) (d : α) {l : List α} {i : Nat} (h : i < l.length) : (l.map f)[i]?.getD .none = f (l.getD i d) := by
  obtain ⟨a, e⟩ := at_some h
  rw [map_at f e, List.getD_eq_getElem?_getD, e]
  rfl
theorem take_atD {α : Type} (d : α) {l : List α} {i : Nat} (h : i < l.length) : l.take (i + 1) = l.take i ++ [l.getD i d] := by
  obtain ⟨a, e⟩ := at_some h
  rw [take_at e, List.getD_eq_getElem?_getD, e]
  rfl
end Dw

namespace Dw
open PySem L2 PyProof.Rows
variable {c : Cl}
/-- what lies where: I B H v fp -/
structure Kind (K : PySem.W.Frag) (c : Cl) where
  I : Hp → Hp → V → List Addr → Prop
  stb : ∀ {B H B' H' : Hp} {v : V} {fp : List Addr}, I B H v fp → Same B B' → (∀ a ∈ fp, H' a = H a) → I B' H' v fp
  dom : ∀ {B H : Hp} {v : V} {fp : List Addr}, I B H v fp → ∀ a ∈ fp, Nt (H a)
def kn {K : PySem.W.Frag} (k : Kind K c) (par : Bool := false) : Slot K c where
  par := par
  P := fun _ B H v fp => k.I B H v fp ∧ ∀ a ∈ fp, B a = none
  stb := fun ⟨h, _⟩ e f g => ⟨k.stb h e g, f⟩
  dom := fun ⟨h, f⟩ a ha => ⟨f a ha, k.dom h a ha⟩
/-- handed in to be read -/
def kb {K : PySem.W.Frag} (k : Kind K c) : Slot K c where
  par := false
  P := fun Z B _ v fp => fp = [] ∧ ∃ fp', k.I B Z v fp'
  stb := fun ⟨h1, fp', h⟩ e _ _ => ⟨h1, fp', k.stb h e fun _ _ => rfl⟩
  dom := fun ⟨h1, _⟩ a h => absurd (h1 ▸ h) List.not_mem_nil
/-- e is a thing of the kind k, to be read -/
def DK (X : Cx) (G : Env X.K c) (e : Expr) (k : Kind X.K c) : Prop :=
  ∃ t, PE X e t ∧ ∀ Z B H σ Q, EnvE G Z B H σ → (∀ v B' H' fp, Ext B H B' H' → k.I B' H' v fp → Q v H') → t σ H Q
section
variable {X : Cx} {G : Env X.K c} {e : Expr} {pos : Pos} {x : Str} {k : Kind X.K c}
theorem dk_own (i : Nat) {par : Bool} (hG : G[i]? = some (some (kn k par)) := by rfl) (hN : X.N[i]? = some x := by rfl)
    (hv : Vis X.env.scope x := by first | exact Or.inl rfl | exact Or.inr (Or.inl rfl) | exact Or.inr (Or.inr rfl)) (hd : (x == ("__debug__" : Str)) = false := by decide)
    (hcd : (x == ("__classdict__" : Str)) = false := by decide) : DK X G (.Name x pos) k :=
  ⟨_, pv i hN hv hd hcd, fun Z B H σ Q E g => by
    obtain ⟨v, fp, h1, h2, _⟩ := E.sl i _ hG
    exact ⟨v, h1, g v B H fp (Ext.refl E.sub) h2⟩⟩
theorem dk_bor (i : Nat) (hG : G[i]? = some (some (kb k)) := by rfl) (hN : X.N[i]? = some x := by rfl)
    (hv : Vis X.env.scope x := by first | exact Or.inl rfl | exact Or.inr (Or.inl rfl) | exact Or.inr (Or.inr rfl)) (hd : (x == ("__debug__" : Str)) = false := by decide)
    (hcd : (x == ("__classdict__" : Str)) = false := by decide) : DK X G (.Name x pos) k :=
  ⟨_, pv i hN hv hd hcd, fun Z B H σ Q E g => by
    obtain ⟨v, fp, h1, _, fp', h2⟩ := E.sl i _ hG
    exact ⟨v, h1, g v B H fp' (Ext.refl E.sub) (k.stb h2 (Same.refl _) fun a ha => E.z.ne (k.dom h2 a ha))⟩⟩
theorem dk_x (h : DX X G e (kn k)) : DK X G e k := by
  obtain ⟨t, p, r⟩ := h
  exact ⟨t, p, fun Z B H σ Q E g => r Z B H σ Q E fun v B' H' fp e h hf => g v B' H' fp e (h B).1⟩
theorem DK.da (h : DK X G e k) : DA X G e (kb k) := by
  obtain ⟨t, p, r⟩ := h
  exact ⟨t, p, fun Z B H σ Q E g => r Z B H σ Q E fun v B' H' fp e h => g v B' H' e ⟨rfl, fp, h⟩ fun B2 H2 e2 => ⟨rfl, fp, k.stb h e2.b fun a ha => e2.h.ne (k.dom h a ha)⟩⟩
end
/-- B with what H has at fp -/
def layB (B H : Hp) (fp : List Addr) : Hp := fun a => if a ∈ fp then H a else B a
theorem lay_in {B H : Hp} {fp : List Addr} {a : Addr} (h : a ∈ fp) : layB B H fp a = H a := if_pos h
theorem lay_out {B H : Hp} {fp : List Addr} {a : Addr} (h : a ∉ fp) : layB B H fp a = B a := if_neg h
theorem same_lay {B H : Hp} {fp : List Addr} (h : ∀ a ∈ fp, B a = none) : Same B (layB B H fp) := fun a o q => by
  by_cases z : a ∈ fp
  · rw [h a z] at q; cases q
  · rw [lay_out z]; exact q
theorem lay_same {B H : Hp} {fp : List Addr} (s : Same B H) : Same (layB B H fp) H := fun a o q => by
  by_cases z : a ∈ fp
  · rw [lay_in z] at q; exact q
  · rw [lay_out z] at q; exact s a o q
/-- a kind whose things are plain data once they are laid down -/
def Frz {K : PySem.W.Frag} (k : Kind K c) (d : D) : Prop := ∀ B H v fp, k.I B H v fp → (∀ a ∈ fp, B a = none) → Tp K c (layB B H fp) v d
theorem Ext.layF {B H B' H' : Hp} (e : Ext B H B' H') {fp : List Addr} (h : ∀ a ∈ fp, H a = none) (hb : ∀ a ∈ fp, B' a = none) : Ext B H (layB B' H' fp) H' :=
  ⟨e.b.trans (same_lay hb), e.h, lay_same e.sub, fun a h1 h2 => by
    by_cases z : a ∈ fp
    · exact absurd (h a z) h2
    · rw [lay_out z]; exact e.new a h1 h2⟩
section
variable {X : Cx} {G : Env X.K c} {e e2 : Expr} {es : List Expr} {rest body : List Stmt} {Ph : Out X.K c → Prop} {pos pos' : Pos} {d : D} {ds : List D} {x y : Str} {k : Kind X.K c} {n : Nat}
theorem DX.frozenK (h : DX X G e (kn k)) (hf : Frz k d) : DE X G e d := by
  obtain ⟨t, p, r⟩ := h
  refine ⟨t, p, fun Z B H σ Q E g => r Z B H σ Q E fun v B' H' fp e h hn => ?_⟩
  obtain ⟨h1, h2⟩ := h B
  exact g _ _ H' (e.layF hn h2) (hf B' H' v fp h1 h2)
theorem dss_freezeK (i : Nat) (hf : Frz k d) (h : DSs X (G.set i (some (sd d))) rest Ph) (hG : G[i]? = some (some (kn k)) := by rfl) : DSs X G rest Ph := fun F B H σ D S E => by
  obtain ⟨fps, h1, h2⟩ := S.sl
  obtain ⟨v, hv, ⟨q1, q2⟩, hw⟩ := h1 i _ hG
  have hp : ∀ a ∈ fps i, F.H0 a = none := fun a ha => by
    have := hw a ha
    simpa [kn] using this
  have up : Same B (layB B H (fps i)) := same_lay q2
  refine h F (layB B H (fps i)) H σ D ⟨lay_same S.sub, S.b0.trans up, S.zf, S.h0, S.hw, S.th, S.tb, S.tt.re fun a ps q r => by rw [lay_out fun z => (by obtain ⟨u, hu, n1, _⟩ := (k.dom q1 a z); exact n1 ps (Option.some.inj (hu.symm.trans q)))]; exact r, fun a q r => ?_, by rw [List.length_set]; exact S.len, fun j s w q hq hw => ?_, fset fps i [], fun j s q => ?_, fun j l s1 s2 ne r1 r2 a ha hb => ?_⟩ E
  · by_cases z : a ∈ fps i
    · exact absurd (hp a z) r
    · rw [lay_out z]; exact S.new a q r
  · rcases getset q with ⟨rfl, q1, _⟩ | ⟨ne, q⟩
    · cases q1
      cases hq
    · exact S.pn j s w q hq hw
  · rcases getset q with ⟨rfl, e1, _⟩ | ⟨ne, q⟩
    · cases e1
      refine ⟨v, hv, ⟨fset_same, hf B H v (fps i) q1 q2⟩, fun a ha => ?_⟩
      rw [fset_same] at ha
      exact absurd ha List.not_mem_nil
    · obtain ⟨u, r1, r2, r3⟩ := h1 j s q
      refine ⟨u, r1, ?_, fun a ha => ?_⟩
      · rw [fset_ne ne]
        refine s.stb r2 up (fun a ha => ?_) fun a ha => rfl
        rw [lay_out fun z => h2 i j _ s ne hG q a z ha]
        exact (s.dom r2 a ha).1
      · rw [fset_ne ne] at ha
        exact r3 a ha
  · rcases getset r1 with ⟨rfl, _, _⟩ | ⟨n1, r1⟩
    · rw [fset_same] at ha
      exact List.not_mem_nil ha
    · rw [fset_ne n1] at ha
      rcases getset r2 with ⟨rfl, _, _⟩ | ⟨n2, r2⟩
      · rw [fset_same] at hb
        exact List.not_mem_nil hb
      · rw [fset_ne n2] at hb
        exact h2 j l s1 s2 ne r1 r2 a ha hb
/-- a slot is told otherwise -/
theorem StE.cast {F : Ent} {B H : Hp} {σ : Sg} {i : Nat} {s s' : Slot X.K c} (S : StE F G B H σ) (hG : G[i]? = some (some s)) (hp : s'.par = s.par) (h : ∀ Z B H v fp, s.P Z B H v fp → s'.P Z B H v fp) : StE F (G.set i (some s')) B H σ :=
  S.change hG hp fun v fp h1 h2 => ⟨fp, h _ _ _ _ _ h2, fun a ha => .inl ha, fun _ a ha => ha, fun _ _ _ => rfl, fun a ha => (s.dom h2 a ha).2.ne⟩
theorem dss_cast (i : Nat) {s s' : Slot X.K c} (hh : ∀ Z B H v fp, s.P Z B H v fp → s'.P Z B H v fp) (h : DSs X (G.set i (some s')) rest Ph) (hG : G[i]? = some (some s) := by rfl) (hp : s'.par = s.par := by rfl) : DSs X G rest Ph := fun F B H σ D S E => h F B H σ D (S.cast hG hp hh) E
end
inductive RowsAt (K : PySem.W.Frag) (c : Cl) (B H : Hp) : List Addr → List (List D) → Prop
  | nil : RowsAt K c B H [] []
  | cons {q : Addr} {qs : List Addr} {vs : List V} {r : List D} {rs : List (List D)} : H q = some (.lst vs) → TpAll K c B vs r → RowsAt K c B H qs rs → RowsAt K c B H (q :: qs) (r :: rs)
section
variable {K : PySem.W.Frag} {B H B' H' : Hp}
theorem RowsAt.mono (e : Same B B') : ∀ {qs : List Addr} {rs : List (List D)}, RowsAt K c B H qs rs → (∀ a ∈ qs, H' a = H a) → RowsAt K c B' H' qs rs
  | _, _, .nil, _ => .nil
  | _, _, .cons h t r, f => .cons (by rw [f _ List.mem_cons_self]; exact h) (TpAll.mono e _ _ t) (RowsAt.mono e r fun a ha => f a (List.mem_cons_of_mem _ ha))
theorem RowsAt.there : ∀ {qs : List Addr} {rs : List (List D)}, RowsAt K c B H qs rs → ∀ a ∈ qs, H a ≠ none
  | _, _, .cons h _ r, a, ha => by
    rcases List.mem_cons.mp ha with z | z
    · rw [z, h]; exact fun z => nomatch z
    · exact r.there a z
theorem RowsAt.nt : ∀ {qs : List Addr} {rs : List (List D)}, RowsAt K c B H qs rs → ∀ a ∈ qs, Nt (H a)
  | _, _, .nil, _, h => absurd h List.not_mem_nil
  | _, _, .cons h _ r, a, ha => by
    rcases List.mem_cons.mp ha with z | z
    · rw [z]; exact .lst h
    · exact r.nt a z
theorem RowsAt.len : ∀ {qs : List Addr} {rs : List (List D)}, RowsAt K c B H qs rs → qs.length = rs.length
  | _, _, .nil => rfl
  | _, _, .cons _ _ r => by simp [r.len]
theorem RowsAt.snoc : ∀ {qs : List Addr} {rs : List (List D)} {q : Addr} {vs : List V} {r : List D}, RowsAt K c B H qs rs → H q = some (.lst vs) → TpAll K c B vs r → RowsAt K c B H (qs ++ [q]) (rs ++ [r])
  | _, _, _, _, _, .nil, h, t => .cons h t .nil
  | _, _, _, _, _, .cons h' t' r', h, t => .cons h' t' (r'.snoc h t)
theorem RowsAt.get : ∀ {qs : List Addr} {rs : List (List D)} {i : Nat} {r : List D}, RowsAt K c B H qs rs → rs[i]? = some r → ∃ q vs, qs[i]? = some q ∧ H q = some (.lst vs) ∧ TpAll K c B vs r
  | _, _, _, _, .nil, e => by simp at e
  | _, _, 0, _, .cons h t _, e => by simp at e; subst e; exact ⟨_, _, rfl, h, t⟩
  | _, _, i + 1, _, .cons _ _ r, e => by simpa using r.get (i := i) (by simpa using e)
/-- one row is changed -/
theorem RowsAt.set : ∀ {qs : List Addr} {rs : List (List D)} {i : Nat} {q : Addr} {vs : List V} {r : List D}, RowsAt K c B H qs rs → qs.Nodup → qs[i]? = some q → TpAll K c B vs r → RowsAt K c B (upd H q (.lst vs)) qs (rs.set i r)
  | _, _, _, _, _, _, .nil, _, e, _ => by simp at e
  | _, _, 0, _, _, _, .cons h t r', nd, e, u => by
    simp at e
    subst e
    refine .cons upd_same u (r'.mono (Same.refl _) fun a ha => upd_ne fun z => ?_)
    exact (List.nodup_cons.mp nd).1 (z ▸ ha)
  | q0 :: qs, _, i + 1, q, _, _, .cons h t r', nd, e, u => by
    have e' : qs[i]? = some q := by simpa using e
    have m := List.mem_of_getElem? e'
    have ne : q0 ≠ q := fun z => (List.nodup_cons.mp nd).1 (by rw [z]; exact m)
    refine .cons (by rw [upd_ne ne]; exact h) t (RowsAt.set r' (List.nodup_cons.mp nd).2 e' u)
theorem RowsAt.tm {Z : Hp} (z : Kp H Z) : ∀ {qs : List Addr} {rs : List (List D)}, RowsAt K c B H qs rs → TmAll K c Z B (qs.map V.ref) (rs.map PyData.list)
  | _, _, .nil => .nil
  | _, _, .cons h t r => .cons (.lst (.inl (.inl (z.at h))) (TmAll.of t)) (r.tm z)
theorem RowsAt.tp : ∀ {qs : List Addr} {rs : List (List D)}, RowsAt K c B H qs rs → Same B B' → (∀ a ∈ qs, B' a = H a) → TpAll K c B' (qs.map V.ref) (rs.map PyData.list)
  | _, _, .nil, _, _ => .nil
  | _, _, .cons h t r, e, f => .cons (.lst (.inl (by rw [f _ List.mem_cons_self]; exact h)) (TpAll.mono e _ _ t)) (r.tp e fun a ha => f a (List.mem_cons_of_mem _ ha))
end
def kRows {K : PySem.W.Frag} (rs : List (List D)) : Kind K c where
  I := fun B H v fp => ∃ p qs, v = .ref p ∧ fp = p :: qs ∧ H p = some (.lst (qs.map V.ref)) ∧ RowsAt K c B H qs rs ∧ (p :: qs).Nodup
  stb := fun ⟨p, qs, h0, h1, h2, h3, h4⟩ e f => ⟨p, qs, h0, h1, by rw [f p (by rw [h1]; exact List.mem_cons_self)]; exact h2, h3.mono e fun a ha => f a (by rw [h1]; exact List.mem_cons_of_mem _ ha), h4⟩
  dom := fun ⟨p, qs, h0, h1, h2, h3, h4⟩ a ha => by
    rw [h1] at ha
    rcases List.mem_cons.mp ha with z | z
    · rw [z]; exact .lst h2
    · exact h3.nt a z
theorem frz_rows {K : PySem.W.Frag} {rs : List (List D)} : Frz (K := K) (c := c) (kRows rs) (.list (rs.map .list)) := fun B H v fp ⟨p, qs, h0, h1, h2, h3, h4⟩ hb => by
  subst h0 h1
  exact .lst (.inl (by rw [lay_in List.mem_cons_self]; exact h2)) (h3.tp (same_lay hb) fun a ha => lay_in (List.mem_cons_of_mem _ ha))
/-- an empty list as rows -/
theorem rows_nil {K : PySem.W.Frag} : ∀ Z B H v fp, (so (K := K) (c := c) []).P Z B H v fp → (kn (K := K) (c := c) (kRows [])).P Z B H v fp := fun Z B H v fp ⟨p, vs, h0, h1, h3, h4, h5⟩ => by
  cases h5
  exact ⟨⟨p, [], h0, h1, h4, .nil, by simp⟩, fun a ha => by rw [h1] at ha; rw [List.mem_singleton.mp ha]; exact h3⟩
section
variable {X : Cx} {G : Env X.K c} {e e1 e2 : Expr} {es : List Expr} {rest body : List Stmt} {Ph : Out X.K c → Prop} {pos pos' : Pos} {d : D} {ds : List D} {rs : List (List D)} {x y : Str} {k : Nat}
theorem dr_rows (h : DK X G e (kRows rs)) : DR X G e (.list (rs.map .list)) := by
  obtain ⟨t, p, r⟩ := h
  exact ⟨t, p, fun Z B H σ Q E g => r Z B H σ Q E fun v B' H' fp e ⟨p, qs, h0, h1, h2, h3, h4⟩ => g v B' H' e (by subst h0; exact .lst (.inl (.inl h2)) (h3.tm (Kp.refl _)))⟩
/-- a thing takes another one into itself -/
theorem StE.merge {F : Ent} {B H H' : Hp} {σ : Sg} {i j : Nat} {s t s' : Slot X.K c} (S : StE F G B H σ) (ne : i ≠ j) (hi : G[i]? = some (some s)) (hj : G[j]? = some (some t)) (hs : s.par = false) (ht : t.par = false) (hs' : s'.par = false)
    (step : ∀ v u fp fq, σ[i]? = some (some v) → σ[j]? = some (some u) → s.P F.Z B H v fp → t.P F.Z B H u fq → (∀ a ∈ fp, a ∉ fq) → s'.P F.Z B H' v (fp ++ fq) ∧ (∀ a, a ∉ fp → H' a = H a) ∧ (∀ a ∈ fp, H' a ≠ none)) : StE F ((G.set i (some s')).set j none) B H' σ := by
  obtain ⟨fps, h1, h2⟩ := S.sl
  obtain ⟨v, hv, p, hw⟩ := h1 i s hi
  obtain ⟨u, hu, q, hw2⟩ := h1 j t hj
  obtain ⟨p', keep, there⟩ := step v u (fps i) (fps j) hv hu p q (h2 i j s t ne hi hj)
  have n1 : ∀ a ∈ fps i, F.H0 a = none := fun a ha => by have := hw a ha; rw [hs] at this; simpa using this
  have n2 : ∀ a ∈ fps j, F.H0 a = none := fun a ha => by have := hw2 a ha; rw [ht] at this; simpa using this
  have gs : ∀ {k : Nat} {r : Slot X.K c}, ((G.set i (some s')).set j none)[k]? = some (some r) → (k = i ∧ r = s') ∨ (k ≠ i ∧ k ≠ j ∧ G[k]? = some (some r)) := fun {k r} e => by
    rcases getset e with ⟨_, z, _⟩ | ⟨n, e⟩
    · cases z
    · rcases getset e with ⟨z, z2, _⟩ | ⟨n', e⟩
      · exact .inl ⟨z.symm, (Option.some.inj z2).symm⟩
      · exact .inr ⟨fun z => n' z.symm, fun z => n z.symm, e⟩
  have kp : ∀ a o, H a = some o → a ∉ fps i → H' a = some o := fun a o e n => by rw [keep a n]; exact e
  have fi : fset (fset fps i (fps i ++ fps j)) j [] i = fps i ++ fps j := by rw [fset_ne (Ne.symm ne), fset_same]
  have fo : ∀ {k : Nat}, k ≠ i → k ≠ j → fset (fset fps i (fps i ++ fps j)) j [] k = fps k := fun h1 h2 => by rw [fset_ne (Ne.symm h2), fset_ne (Ne.symm h1)]
  have th' : ∀ a, H a ≠ none → H' a ≠ none := fun a q => by
    by_cases z : a ∈ fps i
    · exact there a z
    · rw [keep a z]; exact q
  have tb' : ∀ P q, Dw.TabS H P q → Dw.TabS H' P q := fun P q ⟨ps, t1, t2, t3⟩ => by
    refine ⟨ps, kp P _ t1 fun z => ?_, t2, fun pos cv hc => ?_⟩
    · obtain ⟨u, hu, n1, _⟩ := (s.dom p P z).2
      exact n1 ps (Option.some.inj (hu.symm.trans t1))
    · obtain ⟨c', e1, e2⟩ := t3 pos cv hc
      refine ⟨c', e1, kp c' _ e2 fun z => ?_⟩
      obtain ⟨u, hu, _, n2⟩ := (s.dom p c' z).2
      exact n2 c' _ (Option.some.inj (hu.symm.trans e2))
  refine ⟨fun a o e => kp a o (S.sub a o e) fun z => ?_, S.b0, S.zf, fun a o e n w => kp a o (S.h0 a o e n w) fun z => ?_, fun a w => ?_, fun a q => th' a (S.th a q), fun P q t => tb' P q (S.tb P q t), ⟨fun p hp => tb' _ _ (S.tt.t p hp), S.tt.nb⟩, S.new, by simp [S.len], fun k r w e hr hw' => ?_, fset (fset fps i (fps i ++ fps j)) j [], fun k r e => ?_, fun k l r1 r2 n e1 e2 a ha hb => ?_⟩
  · rw [(s.dom p a z).1] at e; cases e
  · rw [n1 a z] at e; cases e
  · by_cases z : a ∈ fps i
    · exact there a z
    · rw [keep a z]; exact S.hw a w
  · rcases gs e with ⟨rfl, rfl⟩ | ⟨_, _, e⟩
    · rw [hs'] at hr; cases hr
    · exact S.pn k r w e hr hw'
  · rcases gs e with ⟨z1, z2⟩ | ⟨m1, m2, e⟩
    · subst z1 z2
      refine ⟨v, hv, by rw [fi]; exact p', fun a ha => ?_⟩
      rw [fi] at ha
      rw [hs', if_neg (by decide)]
      exact (List.mem_append.mp ha).elim (n1 a) (n2 a)
    · obtain ⟨y, r1, r2, r3⟩ := h1 k r e
      refine ⟨y, r1, ?_, fun a ha => ?_⟩
      · rw [fo m1 m2]
        exact r.stb r2 (Same.refl _) (fun a ha => (r.dom r2 a ha).1) fun a ha => keep a fun z => h2 i k s r (Ne.symm m1) hi e a z ha
      · rw [fo m1 m2] at ha
        exact r3 a ha
  · rcases gs e1 with ⟨z1, z2⟩ | ⟨m1, m2, e1⟩
    · rcases gs e2 with ⟨z3, z4⟩ | ⟨m3, m4, e2⟩
      · exact n (z1.trans z3.symm)
      · rw [z1, fi] at ha
        rw [fo m3 m4] at hb
        exact (List.mem_append.mp ha).elim (fun z => h2 _ _ _ _ (Ne.symm m3) hi e2 a z hb) fun z => h2 _ _ _ _ (Ne.symm m4) hj e2 a z hb
    · rw [fo m1 m2] at ha
      rcases gs e2 with ⟨z3, z4⟩ | ⟨m3, m4, e2⟩
      · rw [z3, fi] at hb
        exact (List.mem_append.mp hb).elim (fun z => h2 _ _ _ _ m1 e1 hi a ha z) fun z => h2 _ _ _ _ m2 e1 hj a ha z
      · rw [fo m3 m4] at hb
        exact h2 _ _ _ _ n e1 e2 a ha hb
/-- rows.append(row): the row goes into the rows, its name is forgotten -/
theorem dss_rowIn (i j : Nat) {pv1 pv2 pa pc : Pos} (h : DSs X ((G.set i (some (kn (kRows (rs ++ [ds]))))).set j none) rest Ph) (ne : i ≠ j := by decide) (hi : G[i]? = some (some (kn (kRows rs))) := by rfl) (hj : G[j]? = some (some (so ds)) := by rfl) (hl : rs.length < sizeLine)
    (hN : X.N[i]? = some x := by rfl) (hN2 : X.N[j]? = some y := by rfl)
    (hv : Vis X.env.scope x := by first | exact Or.inl rfl | exact Or.inr (Or.inl rfl) | exact Or.inr (Or.inr rfl)) (hd : (x == ("__debug__" : Str)) = false := by decide)
    (hcd : (x == ("__classdict__" : Str)) = false := by decide)
    (hv2 : Vis X.env.scope y := by first | exact Or.inl rfl | exact Or.inr (Or.inl rfl) | exact Or.inr (Or.inr rfl)) (hd2 : (y == ("__debug__" : Str)) = false := by decide)
    (hcd2 : (y == ("__classdict__" : Str)) = false := by decide)
    (hs : starEach [.Name y pv2] X.env = (false, eval (.Name y pv2) X.env) :: starEach [] X.env := by rfl)
    (hbase : attributeBase (.Name x pv1) "append" X.env (eval (.Name x pv1) X.env) = eval (.Name x pv1) X.env := by rfl)
    (hfew : ((backTo pc (starEach (.Name y pv2 :: []) X.env)).all (fun x => !x.1) && (backToKw pc (keywordEach [] X.env)).all (fun x => x.1.isSome)
      && decide ((Expr.Name y pv2 :: []).length + ([] : List Keyword).length + (if ([] : List Keyword).isEmpty then 0 else 1) < 30)) = true := by rfl)
    (hline : (pa.endLine == pc.line) = true := by rfl) (hplain : (backTo pc (starEach [] X.env)).any (·.1) = false := by rfl)
    (hsw : swapsWith (.Call (.Attribute (.Name x pv1) "append" pa) [.Name y pv2] [] pc) none pos.line X.env = pure false := by rfl) :
    DSs X G (.Expr (.Call (.Attribute (.Name x pv1) "append" pa) [.Name y pv2] [] pc) pos :: rest) Ph := fun F B H σ D S E => by
  obtain ⟨fps, h1, h2⟩ := S.sl
  obtain ⟨v, hσ, ⟨⟨p, qs, rfl, e1, e2, e3, e4⟩, e5⟩, _⟩ := h1 i _ hi
  obtain ⟨u, hσ2, ⟨q, vs, rfl, f1, f2, f3, f4⟩, _⟩ := h1 j _ hj
  refine wp_of (pss_cons (ps_expr (pe_bm PySem.F.plainAttrs_list PySem.F.slot_list_append PySem.F.type_list_append mt_append (pv i hN hv hd hcd) (pa_cons (pv j hN2 hv2 hd2 hcd2) pa_nil hs) hbase hfew hline hs hplain) hsw) pss_wp) ?_
  refine ⟨_, hσ, Or.inl ⟨rfl, _, Or.inl (Or.inl e2)⟩, _, hσ2, ?_⟩
  refine ⟨p, qs.map V.ref, .ref q, rfl, rfl, e2, by rw [List.length_map, e3.len]; exact hl, ?_⟩
  refine h F B _ σ D (S.merge ne hi hj rfl rfl rfl fun v u fp fq a1 a2 ⟨⟨p', qs', b0, b1, b2, b3, b4⟩, b5⟩ ⟨q', vs', c0, c1, c3, c4, c5⟩ dj => ?_) E
  rw [hσ] at a1
  rw [hσ2] at a2
  cases a1
  cases a2
  cases b0
  cases c0
  rw [b2] at e2
  have e2' : qs'.map V.ref = qs.map V.ref := by injection (Option.some.inj e2)
  have qpn : q ∉ p :: qs' := fun z => dj q (by rw [b1]; exact z) (by rw [c1]; exact List.mem_singleton.mpr rfl)
  have pq : ∀ a, a ∈ qs' ++ [q] → a ≠ p := fun a ha z => by
    subst z
    rcases List.mem_append.mp ha with z | z
    · exact (List.nodup_cons.mp b4).1 z
    · exact qpn (by rw [List.mem_singleton.mp z]; exact List.mem_cons_self)
  refine ⟨⟨⟨p, qs' ++ [q], rfl, by rw [b1, c1]; rfl, by rw [upd_same, ← e2', List.map_append]; rfl, ?_, ?_⟩, fun a ha => ?_⟩, fun a ha => ?_, fun a ha => ?_⟩
  · refine RowsAt.snoc (b3.mono (Same.refl _) fun a ha => upd_ne (pq a (List.mem_append_left _ ha))) ?_ c5
    rw [upd_ne (pq q (List.mem_append_right _ (List.mem_singleton.mpr rfl)))]
    exact c4
  · rw [← List.cons_append]
    refine List.nodup_append.mpr ⟨b4, by simp, fun a ha b hb => ?_⟩
    rw [List.mem_singleton.mp hb]
    exact fun z => qpn (z ▸ ha)
  · rcases List.mem_append.mp ha with z | z
    · exact b5 a z
    · rw [c1] at z
      rw [List.mem_singleton.mp z]
      exact c3
  · rw [upd_ne]
    exact fun z => ha (by rw [b1, z]; exact List.mem_cons_self)
  · by_cases z : a = p
    · rw [z, upd_same]; exact fun z => nomatch z
    · rw [upd_ne z]
      rw [b1] at ha
      exact b3.there a ((List.mem_cons.mp ha).resolve_left z)
end
end Dw

namespace Dw
open PySem L2 PyProof.Rows
variable {c : Cl}
theorem ixN_at {α : Type} {xs : List α} {i : Int} {j : Nat} (h : ixN xs.length i = some j) : atI xs i = xs[j]? := by
  unfold atI
  rw [h]
  rfl
section
variable {X : Cx} {G : Env X.K c} {e ei ej : Expr} {es : List Expr} {rest body : List Stmt} {Ph : Out X.K c → Prop} {pos pos' pp p2 : Pos} {d : D} {ds r : List D} {rs : List (List D)} {x y : Str} {k : Nat}
/-- rows[a][b] = e -/
theorem dss_cell (i : Nat) {a b : Int} {m n : Nat} (he : DE X G e d) (hi : DE X G ei (.int a)) (hj : DE X G ej (.int b)) (ha : ixN rs.length a = some m) (hr : rs[m]? = some r) (hb : ixN r.length b = some n) (h : DSs X (G.set i (some (kn (kRows (rs.set m (r.set n d)))))) rest Ph)
    (hG : G[i]? = some (some (kn (kRows rs))) := by rfl) (hN : X.N[i]? = some x := by rfl)
    (hv : Vis X.env.scope x := by first | exact Or.inl rfl | exact Or.inr (Or.inl rfl) | exact Or.inr (Or.inr rfl)) (hd : (x == ("__debug__" : Str)) = false := by decide)
    (hcd : (x == ("__classdict__" : Str)) = false := by decide) (hpi : PlainIx ei := by exact fun _ _ => rfl)
    (has : ∀ v, assign (.Subscript (.Subscript (.Name x pos') ei p2) ej pp) X.env v = (do
      let ov ← holding [v] (eval (.Subscript (.Name x pos') ei p2) X.env)
      let iv ← holding [v, ov] (eval ej X.env)
      standAt pp
      holding [v, ov, iv] (setItem ov iv v)
      release [v, ov, iv] []) := by intro _; rfl)
    (hs : swapsWithSole [.Subscript (.Subscript (.Name x pos') ei p2) ej pp] e pos.line X.env = pure false := by rfl) (hw : swappedStores [.Subscript (.Subscript (.Name x pos') ei p2) ej pp] e X.env = pure none := by rfl)
    (h1 : (assignEach [.Subscript (.Subscript (.Name x pos') ei p2) ej pp] X.env).map (·.2) = [assign (.Subscript (.Subscript (.Name x pos') ei p2) ej pp) X.env] := by rfl) :
    DSs X G (.Assign [.Subscript (.Subscript (.Name x pos') ei p2) ej pp] e pos :: rest) Ph := fun F B H σ D S E => by
  obtain ⟨te, pe, re⟩ := he
  obtain ⟨ti, pi, ri⟩ := hi
  obtain ⟨tj, pj, rj⟩ := hj
  refine wp_of (pss_cons (ps_asg pe (pg_sub (pe_ix ix_list (pv i hN hv hd hcd) pi hpi) pj set_list has) hs hw h1) pss_wp) ?_
  refine re F.Z B H σ _ S.env fun v B1 H1 e1 q1 => ?_
  have S1 := S.ext e1
  obtain ⟨fps, s1, s2⟩ := S1.sl
  obtain ⟨u, hσ, ⟨⟨p, qs, z0, z1, z2, z3, z4⟩, z5⟩, z6⟩ := s1 i _ hG
  subst z0
  obtain ⟨q, vs, g1, g2, g3⟩ := z3.get hr
  refine ⟨_, hσ, ri F.Z B1 H1 σ _ S1.env fun w B2 H2 e2 q2 => ?_⟩
  cases q2
  have lq : ixN (qs.map V.ref).length a = some m := by rw [List.length_map, z3.len]; exact ha
  refine ⟨p, qs.map V.ref, a, .ref q, rfl, rfl, .inl (.inl (e2.h.at z2)), by rw [ixN_at lq, List.getElem?_map, g1]; rfl, ?_⟩
  refine rj F.Z B2 H2 σ _ (S1.ext e2).env fun w B3 H3 e3 q3 => ?_
  cases q3
  have e13 := e2.trans e3
  have S3 := S1.ext e13
  refine ⟨q, vs, b, n, rfl, rfl, e13.h.at g2, by rw [g3.length]; exact hb, ?_⟩
  refine h F B3 (upd H3 q (.lst (vs.set n v))) σ D (S3.change hG rfl fun v' fp a1 a2 => ?_) E
  rw [hσ] at a1
  cases a1
  obtain ⟨⟨p', qs', b0, b1, b2, b3, b4⟩, b5⟩ := a2
  cases b0
  have e' : qs'.map V.ref = qs.map V.ref := by
    have := (e13.h.at z2).symm.trans b2
    injection (Option.some.inj this) with z
    exact z.symm
  have e'' : qs' = qs := by
    have := congrArg (List.map fun v => match v with | V.ref a => a | _ => 0) e'
    simpa [List.map_map, Function.comp_def] using this
  subst e''
  have nd := List.nodup_cons.mp b4
  have mq := List.mem_of_getElem? g1
  have pq : p ≠ q := fun z => nd.1 (by rw [z]; exact mq)
  refine ⟨fp, ⟨⟨p, qs', rfl, b1, by rw [upd_ne pq]; exact b2, ?_, b4⟩, b5⟩, fun a h => .inl h, fun _ a h => h, fun a h1 h2 => upd_ne fun z => h1 (by rw [b1, z]; exact List.mem_cons_of_mem _ mq), fun a h => ?_⟩
  · exact b3.set nd.2 g1 ((TpAll.mono e13.b _ _ g3).set n (Tp.mono e13.b _ _ q1))
  · by_cases z : a = q
    · rw [z, upd_same]; exact fun z => nomatch z
    · rw [upd_ne z]
      rw [b1] at h
      rcases List.mem_cons.mp h with z | z
      · rw [z, b2]; exact fun z => nomatch z
      · exact b3.there a z
end
theorem tmAll_bls {K : PySem.W.Frag} {Z B : Hp} : ∀ {bs : List Bool} {vs : List V}, TmAll K c Z B vs (bs.map PyData.bool) → vs = bs.map V.bl
  | [], _, h => by cases h; rfl
  | b :: bs, _, h => by
    cases h with
    | cons h1 h2 =>
      have e := tmAll_bls h2
      cases h1 with
      | of h1 => cases h1; rw [e]; rfl
theorem cd_all {X : Cx} {k : Nat} (C : Bd X k) (bs : List Bool) : CallD c X (.builtin "all") [.list (bs.map .bool)] (.bool (bs.all id)) := ⟨_, cr_all C.calm, fun B H xs Q s h g => by
  cases h with
  | cons h1 h2 =>
    cases h2
    obtain ⟨a, vs, rfl, hs, ha⟩ := h1.seq s
    have e := tmAll_bls ha
    subst e
    exact ⟨a, bs, rfl, hs, gv_of s g (.bl _)⟩⟩
section
variable {X : Cx} {G : Env X.K c} {tg e elt iter : Expr} {pos p : Pos} {k : Nat} {scope : Scope} {own : List (Str × Nat)}
theorem RowsAt.ext {K : PySem.W.Frag} {B H B' H' : Hp} (e : Ext B H B' H') {qs : List Addr} {rs : List (List D)} (h : RowsAt K c B H qs rs) : RowsAt K c B' H' qs rs := h.mono e.b fun a ha => e.h.ne (h.nt a ha)
theorem dlc_Rows (C : Bd X k) {n : Nat} {g : Nat → Slot X.K c} (hi : DI X G tg iter n g) (ok : BlkOk X.N X.env.scope scope own) {is : List Nat} (his : ∀ i ∈ is, i ∈ own.map (·.2)) (I' : Nat → Env X.K c) (f : Nat → List D) (hz : n < sizeLine)
    (hl : G.length = X.N.length)
    (hg : ∀ j : BI, ∀ i, i < n → DG (c := c) (bY X scope j) tg is (g i) (wipeG G (own.map (·.2))) (I' i))
    (he : ∀ j : BI, ∀ i, i < n → DX (c := c) (bY X scope j) (I' i) elt (so (f i))) : DLc X G elt tg iter [] scope (kn (kRows ((List.range n).map f))) := by
  obtain ⟨wi, pi, ri⟩ := hi
  let gw : TG := fun v σ H1 Q => ∀ j : BI, ∀ pins s' u, Inv (bY X scope j) pins σ H1 s' → RelV v u → wpAny (model X.prog X.w) X.A (assign tg (bY X scope j).env u) (fun _ s2 => ∃ σ' H', Inv (bY X scope j) pins σ' H' s2 ∧ Q σ' H') (fun _ _ => False) s'
  let ew : TE := fun σ H1 Q => ∀ j : BI, ∀ pins s', Inv (bY X scope j) pins σ H1 s' → wpAny (model X.prog X.w) X.A (eval elt (bY X scope j).env) (EP (bY X scope j) pins σ Q) (fun _ _ => False) s'
  have pg : ∀ (s : Shared) (H : Hp) (C : Addr) (cl : List (Str × Addr)) (fp : List Addr), PG (X.blk s H scope (compEnvC scope cl C X.env) fp) tg gw := fun s H C cl fp => ⟨fun pins s' σ H v u Q I r h => h (s, _, C, cl, fp) pins s' u I r⟩
  have pe : ∀ (s : Shared) (H : Hp) (C : Addr) (cl : List (Str × Addr)) (fp : List Addr), PE (X.blk s H scope (compEnvC scope cl C X.env) fp) elt ew := fun s H C cl fp => ⟨fun pins s' σ H Q I h => h (s, _, C, cl, fp) pins s' I⟩
  refine ⟨own, wi, gw, _, ew, pi, ok, pg, fun s H C cl fp => pts_nil, pe, fun Z B H σ Q E gs => ri Z B H σ _ E fun J B1 H1 e1 w D hD => ?_⟩
  have E1 := E.ext e1
  refine ⟨fun i m H2 => m = n - i ∧ i ≤ n ∧ ∃ B2 qs, Ext B1 H1 B2 H2 ∧ B2 D = none ∧ H2 D = some (.lst (qs.map V.ref)) ∧ RowsAt X.K c B2 H2 qs ((List.range i).map f) ∧ (D :: qs).Nodup ∧ (∀ a ∈ qs, H1 a = none ∧ B2 a = none), ⟨n, by simp, Nat.zero_le _, B1, [], Ext.layH e1.sub _ hD, e1.sub.free hD, upd_same, .nil, by simp, fun a ha => absurd ha List.not_mem_nil⟩, ?_⟩
  rintro i m H2 ⟨rfl, hi, B2, qs, e2, d1, d2, d3, d4, d5⟩
  by_cases hlt : i < n
  · have wk := (w i B2 H2 e2.b e2.sub ((E1.ext e2).z)).1 hlt
    refine .inr ⟨wk.1, fun H' => ∃ B2 qs, Ext B1 H1 B2 H' ∧ B2 D = none ∧ H' D = some (.lst (qs.map V.ref)) ∧ RowsAt X.K c B2 H' qs ((List.range (i + 1)).map f) ∧ (D :: qs).Nodup ∧ (∀ a ∈ qs, H1 a = none ∧ B2 a = none), fun H' q => ⟨n - (i + 1), by omega, rfl, hlt, q⟩, fun x H3 y => ?_⟩
    obtain ⟨B3, e3, hx⟩ := wk.2 x H3 y
    have E3 := envE_wipe (E1.ext (e2.trans e3)) (own.map (·.2))
    intro j pins s' u Iv rv
    obtain ⟨gt, pg', rg⟩ := hg j i hlt
    refine pg'.run pins s' _ _ x u _ Iv rv (rg Z B3 H3 _ x _ E3.sub E3.z ?_ hx fun σ2 bd => ⟨?_, ?_⟩)
    · rw [wipe_length, wipeG_len, hl]
      have := Iv.len
      rw [wipe_length] at this
      exact this
    · exact wipe_eq (by rw [bd.ls, wipe_length]) his fun j' hj => (bd.un j' hj).2
    · have E4 := envE_bound E3 bd
      refine (show ew σ2 H3 _ from ?_)
      intro j3 pins3 s3 Iv3
      obtain ⟨te, pe', re⟩ := he j3 i hlt
      refine pe'.run pins3 s3 σ2 H3 _ Iv3 (re Z B3 H3 σ2 _ E4 fun y B6 H6 fp e6 hy hf => ?_)
      obtain ⟨q, vs, y0, y1, y3, y4, y5⟩ := hy B
      subst y0
      have hq3 := hf q (by rw [y1]; exact List.mem_singleton.mpr rfl)
      have hD3 : H3 D ≠ none := by rw [e3.h.at d2]; exact fun z => nomatch z
      have e36 := e3.trans e6
      have e16 := e2.trans e36
      have d2' := e36.h.at d2
      have dB6 : B6 D = none := e36.new D d1 (by rw [d2]; exact fun z => nomatch z)
      have nqD : q ≠ D := fun z => hD3 (z ▸ hq3)
      have dq : ∀ a ∈ qs, a ≠ D ∧ a ≠ q := fun a ha => ⟨fun z => (List.nodup_cons.mp d4).1 (z ▸ ha), fun z => d3.there a ha (e3.h.free (z ▸ hq3))⟩
      refine ⟨qs.map V.ref, d2', by rw [List.length_map, d3.len, List.length_map, List.length_range]; omega, B6, qs ++ [q], ⟨e16.b, e16.h.over hD (.lst d2'), fun a o r => ?_, e16.new⟩, dB6, by rw [upd_same, List.map_append]; rfl, ?_, ?_, fun a ha => ?_⟩
      · have : a ≠ D := ne_of_none r dB6
        rw [upd_ne this]
        exact e6.sub a o r
      · rw [List.range_succ, List.map_append]
        refine RowsAt.snoc ((d3.ext e36).mono (Same.refl _) fun a ha => upd_ne (dq a ha).1) ?_ y5
        rw [upd_ne nqD]
        exact y4
      · rw [← List.cons_append]
        refine List.nodup_append.mpr ⟨d4, by simp, fun a ha b hb => ?_⟩
        rw [List.mem_singleton.mp hb]
        rcases List.mem_cons.mp ha with z | z
        · rw [z]; exact fun z => nqD z.symm
        · exact (dq a z).2
      · rcases List.mem_append.mp ha with z | z
        · exact ⟨(d5 a z).1, e36.new a (d5 a z).2 (d3.there a z)⟩
        · rw [List.mem_singleton.mp z]
          exact ⟨e2.h.free (e3.h.free hq3), y3⟩
  · have en : i = n := by omega
    subst en
    refine .inl ⟨(w i B2 H2 e2.b e2.sub ((E1.ext e2).z)).2 (Nat.le_refl _), gs _ B2 H2 (D :: qs) (e1.trans e2) (fun _ => ⟨⟨D, qs, rfl, rfl, d2, d3, d4⟩, fun a ha => ?_⟩) fun a ha => ?_⟩
    · rcases List.mem_cons.mp ha with z | z
      · rw [z]; exact d1
      · exact (d5 a z).2
    · rcases List.mem_cons.mp ha with z | z
      · rw [z]; exact e1.h.free hD
      · exact e1.h.free (d5 a z).1
theorem dx_lcRows (C : Bd X k) {n : Nat} {g : Nat → Slot X.K c} (hi : DI X G tg iter n g) (ok : BlkOk X.N X.env.scope scope own) {is : List Nat} (his : ∀ i ∈ is, i ∈ own.map (·.2)) (I' : Nat → Env X.K c) (f : Nat → List D) (hz : n < sizeLine)
    (hl : G.length = X.N.length)
    (hg : ∀ j : BI, ∀ i, i < n → DG (c := c) (bY X scope j) tg is (g i) (wipeG G (own.map (·.2))) (I' i))
    (he : ∀ j : BI, ∀ i, i < n → DX (c := c) (bY X scope j) (I' i) elt (so (f i)))
    (hs : ∀ x, foldedSetIterable iter X.env x = pure x := by intro _; rfl) : DX X G (.ListComp elt [⟨tg, iter, [], 0⟩] scope pos) (kn (kRows ((List.range n).map f))) := (dlc_Rows C hi ok his I' f hz hl hg he).dx C hs
end
end Dw

namespace Dw
open PySem L2 PyProof.Rows
variable {c : Cl}
/-- an object under way, its fields plain data -/
def kIns {K : PySem.W.Frag} (n : Int) (kvs : List (D × D)) : Kind K c where
  I := fun B H v fp => ∃ x dx C fs, v = .ref x ∧ fp = [x] ∧ c n = some C ∧ H x = some (.ins C dx fs) ∧ TpF K c B fs kvs
  stb := fun ⟨x, dx, C, fs, h0, h1, h2, h3, h4⟩ e f => ⟨x, dx, C, fs, h0, h1, h2, by rw [f x (by rw [h1]; exact List.mem_cons_self)]; exact h3, TpF.mono e _ _ h4⟩
  dom := fun ⟨x, dx, C, fs, h0, h1, h2, h3, h4⟩ a ha => by
    rw [h1] at ha
    rw [List.mem_singleton.mp ha]
    exact ⟨_, h3, nt_ins _ _ _⟩
/-- kept but at x -/
structure KpX (x : Addr) (H H' : Hp) : Prop where
  at' : ∀ a o, H a = some o → nt o = true → a ≠ x → H' a = some o
  th : ∀ a, H a ≠ none → H' a ≠ none
  tb : ∀ P q, Dw.TabS H P q → Dw.TabS H' P q
theorem KpX.kp {x : Addr} {H0 H H' : Hp} (b : KpX x H H') (s : Same H0 H) (n : H0 x = none) : Kp H0 H' :=
  ⟨fun a o q m => b.at' a o (s a o q) m (ne_of_none q n), fun a q => b.th a (by rw [Same.ne s q]; exact q), fun P q t => b.tb P q (t.ext s)⟩
theorem StE.kpx {K : PySem.W.Frag} {x : Addr} {B H Z B' H' : Hp} {pv : Nat → Option V} {G : Env K c} {σ : Sg} (T : StE ⟨fun a => a = x, B, H, Z, pv⟩ G B' H' σ) : KpX x H H' := ⟨T.h0, T.th, T.tb⟩
/-- what __init__ promises: R: the arguments' slots, the fields that come of them -/
def spN (K : PySem.W.Frag) (c : Cl) (n : Int) (R : List (Slot K c) → List (D × D) → Prop) : Sp := fun vs H Q _ => ∃ (B Z : Hp) (x dx C : Addr) (us : List V) (ss : List (Slot K c)) (kvs : List (D × D)), vs = .ref x :: us ∧ c n = some C ∧ H x = some (.ins C dx []) ∧ B x = none ∧
  Same B H ∧ Dw.TabsB c.tabs B H ∧ Same Z H ∧ Z x = none ∧ SlAll Z B H us ss ∧ R ss kvs ∧
  ∀ B' H' dx' fs, Same B B' → Same B' H' → KpX x H H' → (∀ a, B a = none → H a ≠ none → B' a = none) → H' x = some (.ins C dx' fs) → TpF K c B' fs kvs → Q .non H'
structure NewOk (P : Program) (w : World) (K : PySem.W.Frag) (c : Cl) (mg : Str → Option Value) (base : Heap) (n : Int) (x : Str) (k : Nat) (R : List (Slot K c) → List (D × D) → Prop) : Prop where
  ex : ∃ C f fd ps, c n = some C ∧ mg x = some (.ref C) ∧ Mk K C f ∧ Binds K fd ps [] ∧ FnOk P w K mg base CX0 k f fd ps (spN K c n R)
def fp1 (x : Addr) : Nat → List Addr
  | 0 => [x]
  | _ + 1 => []
def newEnd {K : PySem.W.Frag} (n : Int) (kvs : List (D × D)) : Out K c → Prop
  | .nx G => G[0]? = some (some (kn (kIns n kvs) true))
  | _ => False
theorem ste_new {K : PySem.W.Frag} {N : List Str} {B H Z : Hp} {x dx C : Addr} {us : List V} {ss : List (Slot K c)} {n : Int} (hc : c n = some C) (hx : H x = some (.ins C dx [])) (bx' : B x = none) (sb : Same B H) (tt : Dw.TabsB c.tabs B H) (sz : Same Z H) (zx : Z x = none) (h : SlAll Z B H us ss) (hl : ss.length + 1 ≤ N.length) :
    StE ⟨fun a => a = x, B, H, Z, fun i => (L2.start N (.ref x :: us))[i]?.getD none⟩ (G0 N (kn (kIns n []) true :: ss)) B H (L2.start N (.ref x :: us)) := by
  have el := h.length
  have sl : ∀ i s, (G0 N (kn (K := K) (c := c) (kIns n []) true :: ss))[i]? = some (some s) → (i = 0 ∧ s = kn (kIns n []) true) ∨ ∃ j, i = j + 1 ∧ ss[j]? = some s := fun i s q => by
    unfold G0 at q
    by_cases hi : i < (kn (K := K) (c := c) (kIns n []) true :: ss).length
    · rw [List.getElem?_append_left (by simpa using hi), List.getElem?_map] at q
      cases i with
      | zero => exact .inl ⟨rfl, by simpa using q.symm⟩
      | succ j =>
        rw [List.getElem?_cons_succ] at q
        cases e : ss[j]? with
        | none => rw [e] at q; cases q
        | some s' => rw [e] at q; cases q; exact .inr ⟨j, rfl, e⟩
    · rw [List.getElem?_append_right (by simpa using hi), List.getElem?_replicate] at q
      split at q <;> cases q
  refine ⟨sb, Same.refl _, fun a o q => ⟨sz a o q, fun z => by
      have q : Z a = some o := q
      have z : a = x := z
      rw [z, zx] at q
      cases q⟩, fun a o q _ _ => q, fun a w => (by rw [show a = x from w, hx]; exact (fun z => nomatch z)), fun a q => q, fun P q t => t, tt, fun a q _ => q, ?_, fun i s v _ _ hv => by show (L2.start N (.ref x :: us))[i]?.getD none = some v; rw [hv]; rfl,
    fp1 x, fun i s q => ?_, fun i j s s' ne _ _ a ha hb => ?_⟩
  · simp [L2.start, G0, el]
  · rcases sl i s q with ⟨rfl, rfl⟩ | ⟨j, rfl, e⟩
    · refine ⟨.ref x, ?_, ?_, fun a ha => ?_⟩
      · unfold L2.start
        rw [List.getElem?_append_left (by simp)]
        rfl
      · exact ⟨⟨x, dx, C, [], rfl, rfl, hc, hx, .nil⟩, fun a ha => by rw [List.mem_singleton.mp ha]; exact bx'⟩
      · exact Or.inl (List.mem_singleton.mp ha)
    · obtain ⟨v, h1, h2⟩ := h.get e
      have hj : j < us.length := (List.getElem?_eq_some_iff.mp h1).1
      refine ⟨v, ?_, h2, fun a ha => absurd ha List.not_mem_nil⟩
      unfold L2.start
      rw [List.getElem?_append_left (by simp; omega), List.getElem?_map, List.getElem?_cons_succ, h1]
      rfl
  · match i, j, ne, ha, hb with
    | 0, 0, ne, _, _ => exact ne rfl
    | 0, _ + 1, _, _, hb => exact List.not_mem_nil hb
    | _ + 1, _, _, ha, _ => exact List.not_mem_nil ha
theorem new_fn {P : Program} {w : World} {K : PySem.W.Frag} {mg : Str → Option Value} {base : Heap} {x qual : Str} {st : Stmt} {f : Addr} {fd : FuncData} {N ps : List Str} {k : Nat} {n : Int} {R : List (Slot K c) → List (D × D) → Prop}
    (F : Fun K x qual st f fd) (S : FnScope N ps (defScope st)) (hR : ∀ ss kvs, R ss kvs → ss.length + 1 = ps.length)
    (body : ∀ (cdv : Value) (A : Around) (outer : List PySem.Env) (s : Shared) (H : Hp) (E : XK) (ss : List (Slot K c)) (kvs : List (D × D)), R ss kvs → Bd (bx P w K mg base N qual st f cdv A outer s H E) k →
      DSs (c := c) (bx P w K mg base N qual st f cdv A outer s H E) (G0 N (kn (kIns n []) true :: ss)) (defBody st) (newEnd n kvs)) : FnOk P w K mg base CX0 (k + 1) f fd ps (spN K c n R) := by
  refine F.ok S (fun vs H Q E h => ?_) fun cdv A outer s H vs Q E hr h => ?_
  · obtain ⟨B, Z, x, dx, C, us, ss, kvs, rfl, _, _, _, _, _, _, _, h, hq, _⟩ := h
    rw [List.length_cons, h.length]
    exact hR ss kvs hq
  · obtain ⟨B, Z, x, dx, C, us, ss, kvs, rfl, hc, hx, bx', sb, tt, sz, zx, h, hq, g⟩ := h
    have hl : ss.length + 1 ≤ N.length := by
      rw [hR ss kvs hq]
      have := congrArg List.length S.pre
      rw [List.length_take] at this
      omega
    have el := h.length
    have S0 := ste_new (N := N) (n := n) hc hx bx' sb tt sz zx h hl
    refine ⟨_, pss_wp, body cdv A outer s H E ss kvs hq ⟨S.nd, rfl, hr, PassesOwn.never⟩ _ B H _ _ S0 ⟨fun G B' H' σ T e => ?_, fun G B' H' σ T e => e.elim, fun G B' H' σ T e => e.elim, fun u G B' H' σ v fp T p hf e => e.elim, _, takes0N, fun cls G B' H' σ T e => e.elim⟩⟩
    have e : G[0]? = some (some (kn (kIns n kvs) true)) := e
    obtain ⟨fps, h1, _⟩ := T.sl
    obtain ⟨v, hv, ⟨⟨x', dx', C', fs, e0, e1, e2, e3, e4⟩, _⟩, _⟩ := h1 0 _ e
    have pv0 := T.pn 0 _ v e rfl hv
    have pv1 : (L2.start N (.ref x :: us))[0]?.getD none = some v := pv0
    unfold L2.start at pv1
    rw [List.getElem?_append_left (by simp)] at pv1
    have ev : V.ref x = v := Option.some.inj pv1
    rw [e0] at ev
    cases ev
    rw [hc] at e2
    cases e2
    exact g B' H' dx' fs T.b0 T.sub T.kpx (fun a q q' => T.new a q q') e3 e4
section
variable {X : Cx} {G : Env X.K c} {a b e o : Expr} {es : List Expr} {rest : List Stmt} {Ph : Out X.K c → Prop} {pos pos' p apos : Pos} {d : D} {ds : List D} {k : Nat} {x m f : Str} {n : Int} {kvs : List (D × D)}
/-- C(..), its __init__ reckons -/
theorem de_new {R : List (Slot X.K c) → List (D × D) → Prop} {ss : List (Slot X.K c)} (F : NewOk X.prog X.w X.K c X.mg X.base n x k R) (hr : Room (k + 1) X.A) (ha : DAs X G (e :: es) ss) (hR : R ss kvs) (hg : Gl X x := by rfl) (hdb : (x == ("__debug__" : Str)) = false := by decide)
    (he : starEach (e :: es) X.env = (false, eval e X.env) :: starEach es X.env := by rfl) (hpl : (backTo pos (starEach es X.env)).any (·.1) = false := by rfl) : DE X G (.Call (.Name x p) (e :: es) [] pos) (obD n kvs) := by
  obtain ⟨t, q, r⟩ := ha
  obtain ⟨C, f, fd, ps, h1, h2, h3, h4, h5⟩ := F.ex
  refine ⟨_, pe_make h3 h5 hr hg h2 h4 .nil pass0 q hdb he hpl, fun Z B H σ Q E g => r Z B H σ _ E fun vs B' H' e h => ?_⟩
  intro y dy ny ndy ne
  rw [List.append_nil]
  have s1 : Same H' (upd (upd H' dy (.own y)) y (.ins C dy [])) := fun a o q => by
    rw [upd_ne (ne_of_none q ny), upd_ne (ne_of_none q ndy)]
    exact q
  refine ⟨B', H', y, dy, C, vs, ss, kvs, rfl, h1, upd_same, e.sub.free ny, e.sub.trans s1, (e.tabs E.tb).ext s1, s1, ny, ?_, hR, fun B2 H2 dx' fs b1 b2 b3 b4 b5 b6 => ?_⟩
  · have up : ∀ {vs : List V} {ss : List (Slot X.K c)}, SlAll H' B' H' vs ss → SlAll H' B' (upd (upd H' dy (.own y)) y (.ins C dy [])) vs ss := by
      intro vs ss h
      induction h with
      | nil => exact .nil
      | cons h1 _ ih => exact .cons (Slot.stb _ h1 (Same.refl _) (fun a ha => absurd ha List.not_mem_nil) fun a ha => absurd ha List.not_mem_nil) ih
    exact up h
  · have b2y : B2 y = none := b4 y (e.sub.free ny) (by rw [upd_same]; exact fun z => nomatch z)
    have sy : Same B2 (upd B2 y (.ins C dx' fs)) := same_upd b2y
    refine ⟨rfl, g _ (upd B2 y (.ins C dx' fs)) H2 ⟨e.b.trans (b1.trans sy), e.h.trans (b3.kp s1 ny), fun a o q => ?_, fun a q q' => ?_⟩ (.ob upd_same h1 (TpF.mono sy _ _ b6))⟩
    · by_cases z : a = y
      · subst z; rw [upd_same] at q; cases q; exact b5
      · rw [upd_ne z] at q; exact b2 a o q
    · have q2 := e.new a q q'
      have q3 : H' a ≠ none := e.h.th _ q'
      have ny' : a ≠ y := fun z => q3 (z ▸ ny)
      rw [upd_ne ny']
      exact b4 a q2 (by rw [Same.ne s1 q3]; exact q3)
theorem putF_new {f : Str} {v : V} : ∀ {fs : List (Str × V)}, fs.lookup f = none → putF f v fs = fs ++ [(f, v)]
  | [], _ => rfl
  | (g, x) :: r, h => by
    by_cases e : g = f
    · subst e
      simp [List.lookup] at h
    · have e' : (f == g) = false := beq_eq_false_iff_ne.mpr fun z => e z.symm
      have h' : r.lookup f = none := by simpa [List.lookup, e'] using h
      show (if g = f then _ else _) = _
      rw [if_neg e, putF_new h']
      rfl
theorem TpF.snoc {K : PySem.W.Frag} {B : Hp} {f : Str} {v : V} {d : D} : ∀ {fs : List (Str × V)} {kvs : List (D × D)}, TpF K c B fs kvs → Tp K c B v d → TpF K c B (fs ++ [(f, v)]) (kvs ++ [(.str f, d)])
  | _, _, .nil, h => .cons h .nil
  | _, _, .cons h t, r => .cons h (TpF.snoc t r)
theorem TpF.len {K : PySem.W.Frag} {B : Hp} : ∀ {fs : List (Str × V)} {kvs : List (D × D)}, TpF K c B fs kvs → fs.length = kvs.length
  | _, _, .nil => rfl
  | _, _, .cons _ t => by simp [TpF.len t]
/-- self.f = e, a field that is new -/
theorem dss_fld {attrs : List Str} {par : Bool} (T : ClsAt X.K c n attrs) (i : Nat) (he : DE X G e d) (h : DSs X (G.set i (some (kn (kIns n (kvs ++ [(.str f, d)])) par))) rest Ph) (hG : G[i]? = some (some (kn (kIns n kvs) par)) := by rfl) (hnew : fldD kvs f = none := by rfl) (hl : kvs.length < 1000 := by exact Nat.le_of_ble_eq_true rfl) (hf : f ∈ attrs := by decide)
    (hN : X.N[i]? = some x := by rfl) (hv : Vis X.env.scope x := by first | exact Or.inl rfl | exact Or.inr (Or.inl rfl) | exact Or.inr (Or.inr rfl)) (hd : (x == ("__debug__" : Str)) = false := by decide)
    (hcd : (x == ("__classdict__" : Str)) = false := by decide) (hs : swapsWith e (some (.Attribute (.Name x p) f pos')) pos.line X.env = pure false := by rfl) :
    DSs X G (.Assign [.Attribute (.Name x p) f pos'] e pos :: rest) Ph := fun F B H σ D S E => by
  obtain ⟨t, q, r⟩ := he
  obtain ⟨C, t1, t2, t3⟩ := T.ex
  refine wp_of (pss_cons (ps_fld (pv i hN hv hd hcd) q hs) pss_wp) ?_
  refine r F.Z B H σ _ S.env fun v B1 H1 e1 q1 => ?_
  have S1 := S.ext e1
  obtain ⟨fps, s1, s2⟩ := S1.sl
  obtain ⟨u, hσ, ⟨⟨y, dx, C', fs, z0, z1, z2, z3, z4⟩, z5⟩, z6⟩ := s1 i _ hG
  subst z0
  rw [t1] at z2
  cases z2
  refine ⟨_, hσ, y, C, dx, fs, rfl, z3, t2, t3 _ hf, by rw [z4.len]; exact hl, ?_⟩
  rw [putF_new (tpF_none z4 hnew)]
  refine h F B1 _ σ D (S1.change hG rfl fun v' fp a1 a2 => ?_) E
  rw [hσ] at a1
  cases a1
  obtain ⟨⟨y', dx', C2, fs', b0, b1, b2, b3, b4⟩, b5⟩ := a2
  cases b0
  refine ⟨fp, ⟨⟨y, dx, C, fs ++ [(f, v)], rfl, b1, t1, upd_same, z4.snoc q1⟩, b5⟩, fun a h => .inl h, fun _ a h => h, fun a h1 h2 => upd_ne fun z => h1 (by rw [b1, z]; exact List.mem_singleton.mpr rfl), fun a h => ?_⟩
  rw [b1] at h
  rw [List.mem_singleton.mp h, upd_same]
  exact fun z => nomatch z
theorem ext_over {B H B' H' : Hp} {q : Addr} {o : HO} (e : Ext B H B' H') (h : H q = none) (hb : B' q = none) (hq : Nt (H' q)) : Ext B H B' (upd H' q o) :=
  ⟨e.b, e.h.over h hq, fun a u r => by rw [upd_ne (ne_of_none r hb)]; exact e.sub a u r, e.new⟩
theorem de_clearX (h : DX X G o (so ds)) (hbase : attributeBase o "clear" X.env (eval o X.env) = eval o X.env := by rfl) (hline : (apos.endLine == pos.line) = true := by rfl) : DE X G (.Call (.Attribute o "clear" apos) [] [] pos) .none := by
  obtain ⟨t, p, r⟩ := h
  refine ⟨_, pe_bm0 PySem.F.plainAttrs_list PySem.F.slot_list_clear PySem.F.type_list_clear mt_clear p hbase hline, fun Z B H σ Q E g => r Z B H σ _ E fun v B' H' fp e h hf => ?_⟩
  obtain ⟨q, vs, rfl, h1, h3, h4, h5⟩ := h B
  refine ⟨Or.inl ⟨rfl, _, Or.inl (Or.inl h4)⟩, q, vs, rfl, rfl, h4, g .non B' _ (ext_over e (hf q (by rw [h1]; exact List.mem_singleton.mpr rfl)) h3 (.lst h4)) .non⟩
theorem TmAll.keep {K : PySem.W.Frag} {Z B : Hp} : ∀ {vs : List V} {ds : List D}, TmAll K c Z B vs ds → (∀ d ∈ ds, nolist d = true) → TpAll K c B vs ds
  | _, _, .nil, _ => .nil
  | _, _, .cons h t, q => .cons (h.kept (q _ List.mem_cons_self)) (TmAll.keep t fun d hd => q d (List.mem_cons_of_mem _ hd))
/-- list(e), a new list of e's items -/
theorem dx_listR (ha : DR X G a (.list ds)) (hq : ∀ d ∈ ds, nolist d = true) (hm : X.mg "list" = none) (hg : Gl X "list" := by rfl)
    (he : starEach (a :: []) X.env = (false, eval a X.env) :: starEach [] X.env := by rfl) (hpl : (backTo pos (starEach [] X.env)).any (·.1) = false := by rfl) : DX X G (.Call (.Name "list" p) [a] [] pos) (so ds) := by
  obtain ⟨t, pa, r⟩ := ha
  refine ⟨_, pe_callTy call_list_of hg hm (by decide +kernel) (pa_cons pa pa_nil he) (by decide) (by decide) he hpl, fun Z B H σ Q E g => r Z B H σ _ E fun v B' H' e h => ?_⟩
  obtain ⟨q, vs, rfl, hs, hv⟩ := h.seq e.sub
  exact ⟨q, vs, rfl, .inl hs, fun l hl => gs_lst e.sub (gs_ext e g) (TmAll.keep hv hq) hl⟩
theorem fil_map {α : Type} (f : α → D) (d : α) (l : List α) : fil (fun _ => true) (fun i => f (l.getD i d)) l.length = l.map f := by
  unfold fil
  rw [show (List.range l.length).filter (fun _ => true) = List.range l.length from List.filter_eq_self.mpr fun _ _ => rfl]
  apply List.ext_getElem?
  intro i
  rw [List.getElem?_map, List.getElem?_map]
  by_cases h : i < l.length
  · rw [List.getElem?_range h, List.getElem?_eq_getElem h]
    show some (f (l.getD i d)) = some (f l[i])
    rw [List.getD_eq_getElem?_getD, List.getElem?_eq_getElem h]
    rfl
  · rw [List.getElem?_eq_none (by simpa using h), List.getElem?_eq_none (by simpa using h)]
    rfl
theorem range_map {α β : Type} (f : α → β) (d : α) (l : List α) : (List.range l.length).map (fun i => f (l.getD i d)) = l.map f := by
  apply List.ext_getElem?
  intro i
  rw [List.getElem?_map, List.getElem?_map]
  by_cases h : i < l.length
  · rw [List.getElem?_range h, List.getElem?_eq_getElem h]
    show some (f (l.getD i d)) = some (f l[i])
    rw [List.getD_eq_getElem?_getD, List.getElem?_eq_getElem h]
    rfl
  · rw [List.getElem?_eq_none (by simpa using h), List.getElem?_eq_none (by simpa using h)]
    rfl
theorem dlc_Rows1 {scope : Scope} {iter elt : Expr} (C : Bd X k) {x : Str} {tp : Pos} (i0 : Nat) {n : Nat} {g : Nat → Slot X.K c} (hi : DI X G (.Name x tp) iter n g) (ok : BlkOk X.N X.env.scope scope [(x, i0)]) (f : Nat → List D) (hz : n < sizeLine)
    (he : ∀ j : BI, ∀ i, i < n → DX (c := c) (bY X scope j) ((wipeG G [i0]).set i0 (some (g i))) elt (so (f i)))
    (hl : G.length = X.N.length := by rfl) (hl0 : i0 < G.length := by exact Nat.le_of_ble_eq_true rfl) (hp : ∀ i, (g i).par = false := by exact fun _ => rfl) (hN : X.N[i0]? = some x := by rfl)
    (hx : ∀ j : BI, Loc (bY X scope j).env.scope x := by first | exact fun _ => Or.inl rfl | exact fun _ => Or.inr rfl)
    (hf : ∀ j : BI, (bY X scope j).fn x = true ∨ (bY X scope j).env.scope.names.lookup x = some .local := by first | exact fun _ => .inl rfl | exact fun _ => .inr rfl) : DLc X G elt (.Name x tp) iter [] scope (kn (kRows ((List.range n).map f))) :=
  dlc_Rows C (own := [(x, i0)]) hi ok (is := [i0]) (by simp) (fun i => (wipeG G [i0]).set i0 (some (g i))) f hz hl
    (fun j i h => dg_name (c := c) C.blk i0 (by rw [wipeG_len]; exact hl0) (hp i) hN (hx j) (hf j)) he
theorem dx_lcRows1 {scope : Scope} {iter elt : Expr} (C : Bd X k) {x : Str} {tp : Pos} (i0 : Nat) {n : Nat} {g : Nat → Slot X.K c} (hi : DI X G (.Name x tp) iter n g) (ok : BlkOk X.N X.env.scope scope [(x, i0)]) (f : Nat → List D) (hz : n < sizeLine)
    (he : ∀ j : BI, ∀ i, i < n → DX (c := c) (bY X scope j) ((wipeG G [i0]).set i0 (some (g i))) elt (so (f i)))
    (hl : G.length = X.N.length := by rfl) (hl0 : i0 < G.length := by exact Nat.le_of_ble_eq_true rfl) (hp : ∀ i, (g i).par = false := by exact fun _ => rfl) (hN : X.N[i0]? = some x := by rfl)
    (hx : ∀ j : BI, Loc (bY X scope j).env.scope x := by first | exact fun _ => Or.inl rfl | exact fun _ => Or.inr rfl)
    (hf : ∀ j : BI, (bY X scope j).fn x = true ∨ (bY X scope j).env.scope.names.lookup x = some .local := by first | exact fun _ => .inl rfl | exact fun _ => .inr rfl)
    (hs : ∀ x, foldedSetIterable iter X.env x = pure x := by intro _; rfl) : DX X G (.ListComp elt [⟨.Name x tp, iter, [], 0⟩] scope pos) (kn (kRows ((List.range n).map f))) :=
  dx_lcRows C (own := [(x, i0)]) hi ok (is := [i0]) (by simp) (fun i => (wipeG G [i0]).set i0 (some (g i))) f hz hl
    (fun j i h => dg_name (c := c) C.blk i0 (by rw [wipeG_len]; exact hl0) (hp i) hN (hx j) (hf j)) he hs
end
end Dw

namespace Dw
open PySem L2 PyProof.Rows
variable {c : Cl}
/-- * of two factors of together less than 130 million bits -/
def CMulX (i j : Int) : Prop := i.natAbs.log2 + j.natAbs.log2 < 130000000
theorem CMulX.ok {i j : Int} (h : CMulX i j) : IntMulOk i j := by
  have b : ∀ x : Int, Builtin.Int.intBits x ≤ x.natAbs.log2 + 1 := fun x => by
    unfold Builtin.Int.intBits
    split <;> omega
  have h1 := b i
  have h2 := b j
  have h3 : i.natAbs.log2 + j.natAbs.log2 < 130000000 := h
  have e : bitsLine = 134217728 := by decide
  unfold IntMulOk
  intro z
  rw [Bool.and_eq_true] at z
  have z2 := z.2
  unfold Builtin.Int.intTooBig at z2
  have z3 := of_decide_eq_true z2
  rw [e] at z3
  omega
theorem op_mulX {X : Cx} : OpR X (binaryOp .Mult) (rI CMulX fun i j => .int (i * j)) := opI fun _ _ _ _ _ _ _ hc q => mul_int q hc.ok
theorem od_mulX {X : Cx} {i j : Int} (h : CMulX i j) : OpD c X (binaryOp .Mult) (.int i) (.int j) (.int (i * j)) := opd_int op_mulX h
theorem log2_add (a b : Int) {n : Nat} (ha : a.natAbs.log2 ≤ n) (hb : b.natAbs.log2 ≤ n) : (a + b).natAbs.log2 ≤ n + 1 := by
  have h1 : a.natAbs < 2 ^ (n + 1) := Nat.lt_of_lt_of_le (Nat.lt_log2_self (n := a.natAbs)) (Nat.pow_le_pow_right (by decide) (by omega))
  have h2 : b.natAbs < 2 ^ (n + 1) := Nat.lt_of_lt_of_le (Nat.lt_log2_self (n := b.natAbs)) (Nat.pow_le_pow_right (by decide) (by omega))
  have h3 : (a + b).natAbs ≤ a.natAbs + b.natAbs := Int.natAbs_add_le a b
  have h4 : 2 ^ (n + 1 + 1) = 2 ^ (n + 1) * 2 := Nat.pow_succ ..
  by_cases z : (a + b).natAbs = 0
  · rw [z]
    exact Nat.zero_le _
  · exact Nat.le_of_lt_succ ((Nat.log2_lt z).mpr (by show _ < 2 ^ (n + 1 + 1); omega))
theorem log2_bits {z : Int} {n : Nat} (h : Builtin.Int.intBits z ≤ n) : z.natAbs.log2 ≤ n := by
  unfold Builtin.Int.intBits at h
  split at h
  · rename_i e
    have : z.natAbs = 0 := by simp_all
    rw [this]
    exact Nat.zero_le _
  · omega
def spLB (K : PySem.W.Frag) : Sp := fun vs H Q _ => ∃ (a : Addr) (ns : List Int), vs = [.ref a] ∧ SqL K H a (ns.map V.int) ∧ ns.length ≤ 63 ∧ (∀ z ∈ ns, z.natAbs.log2 ≤ 1048576) ∧ ∀ H', Q (.bl true) H'
def RLawB (K : PySem.W.Frag) (c : Cl) : List (Slot K c) → Slot K c → Prop := fun ss r => ∃ ns : List Int, ns.length ≤ 63 ∧ ss = [sb (.list (ns.map .int))] ∧ r = sd (.bool true) ∧ ∀ z ∈ ns, z.natAbs.log2 ≤ 1048576
theorem law_impB {P : Program} {w : World} {K : PySem.W.Frag} {mg : Str → Option Value} {base : Heap} {k : Nat} {f : Addr} {fd : FuncData} {ps : List Str} (ht : c.tabs = []) (F : FnOk P w K mg base CX0 k f fd ps (spS K (RLawB K c))) : FnOk P w K mg base CX0 k f fd ps (spLB K) :=
  F.imp fun vs H Q E h => by
    obtain ⟨a, ns, rfl, hS, hl, hb, q⟩ := h
    refine ⟨fun _ => none, [sb (.list (ns.map .int))], sd (.bool true), (fun _ _ q => nomatch q), ⟨(fun p hp => absurd (ht ▸ hp) List.not_mem_nil), fun _ _ => rfl⟩, .cons ⟨rfl, .lst hS (tmAll_ints ns)⟩ .nil, ⟨ns, hl, rfl, rfl, hb⟩, fun v B' H' fp e p hf => ?_⟩
    obtain ⟨_, h⟩ := p (fun _ => none)
    cases h
    exact q H'
theorem law_walkB {l : PySem.W.OpenLaw} {k : Nat} {q : Program} {loose : List Str} {XP : (Str → Option Value) → Heap → Prop} {YP : World → Heap → Prop} {d : DefRec} {K : Params → PySem.W.Frag} {x : Str} (hn : l.most = some 63) (hdf : d.params.defaults = []) (hr : Room k callerA)
    (hY : ∀ (w : World) (h : Heap), YP w h → (K w.params).In h)
    (F : ∀ (w : World) (mg : Str → Option Value) (fa : Addr) (h : Heap), (K w.params).In h → h.Ns mainGlobals mg → mg d.name = some (.ref fa) →
      ∃ fd : FuncData, (∀ (s : Shared) (u : Value), BindsTo s fd ⟨[u], []⟩ [(x, u)]) ∧ ∀ base : Heap, (K w.params).In base → base.Ns mainGlobals mg → FnOk l.prog w (K w.params) mg base CX0 k fa fd [x] (spLB (K w.params))) :
    PySem.W.WalkO q loose XP YP l.row.toRowW d [] (fun f vs => PySem.call f vs) :=
  L2.walk_ofB (n := 63) (k := k) (x := x) (CX := fun _ => CX0) (sp := fun w => spLB (K w.params)) hn (by decide) hdf hr hY F (fun _ _ a ns hl hb _ hS => ⟨a, ns, rfl, hS, hl, fun z hz => log2_bits (hb z hz), fun _ => rfl⟩) fun _ _ _ _ _ z => z
end Dw

namespace Dw
open PySem L2 PyProof.Rows
variable {c : Cl}
section
variable {X : Cx} {G : Env X.K c} {o ei : Expr} {rest : List Stmt} {Ph : Out X.K c → Prop} {pos apos p2 : Pos} {r : List D} {rs : List (List D)} {x : Str}
/-- o[i].clear(), o new rows -/
theorem de_clearR {a : Int} {m : Nat} (h : DX X G o (kn (kRows rs))) (hi : DE X G ei (.int a)) (ha : ixN rs.length a = some m) (hr : rs[m]? = some r) (hpi : PlainIx ei := by exact fun _ _ => rfl)
    (hbase : attributeBase (.Subscript o ei p2) "clear" X.env (eval (.Subscript o ei p2) X.env) = eval (.Subscript o ei p2) X.env := by rfl) (hline : (apos.endLine == pos.line) = true := by rfl) : DE X G (.Call (.Attribute (.Subscript o ei p2) "clear" apos) [] [] pos) .none := by
  obtain ⟨t, p, rd⟩ := h
  obtain ⟨ti, pi, ri⟩ := hi
  refine ⟨_, pe_bm0 PySem.F.plainAttrs_list PySem.F.slot_list_clear PySem.F.type_list_clear mt_clear (pe_ix ix_list p pi hpi) hbase hline, fun Z B H σ Q E g => rd Z B H σ _ E fun v B' H' fp e h hf => ?_⟩
  obtain ⟨⟨q0, qs, rfl, z1, z2, z3, z4⟩, z5⟩ := h B
  obtain ⟨q, vs, g1, g2, g3⟩ := z3.get hr
  have mq : q ∈ fp := by rw [z1]; exact List.mem_cons_of_mem _ (List.mem_of_getElem? g1)
  refine ri Z B' H' σ _ (E.ext e) fun w B2 H2 e2 q2 => ?_
  cases q2
  have lq : ixN (qs.map V.ref).length a = some m := by rw [List.length_map, z3.len]; exact ha
  refine ⟨q0, qs.map V.ref, a, .ref q, rfl, rfl, .inl (.inl (e2.h.at z2)), by rw [ixN_at lq, List.getElem?_map, g1]; rfl, ?_⟩
  have g2' := e2.h.at g2
  refine ⟨Or.inl ⟨rfl, _, Or.inl (Or.inl g2')⟩, q, vs, rfl, rfl, g2', g .non B2 _ (ext_over (e.trans e2) (hf q mq) (e2.new q (z5 q mq) (by rw [g2]; exact (fun z => nomatch z))) (.lst g2')) .non⟩
/-- rows.clear() -/
theorem dm_clearR (i : Nat) {par : Bool} {py : Pos} (hG : G[i]? = some (some (kn (kRows rs) par)) := by rfl) (hN : X.N[i]? = some x := by rfl)
    (hv : Vis X.env.scope x := by first | exact Or.inl rfl | exact Or.inr (Or.inl rfl) | exact Or.inr (Or.inr rfl)) (hd : (x == ("__debug__" : Str)) = false := by decide)
    (hcd : (x == ("__classdict__" : Str)) = false := by decide) (hbase : attributeBase (.Name x py) "clear" X.env (eval (.Name x py) X.env) = eval (.Name x py) X.env := by rfl) (hline : (apos.endLine == pos.line) = true := by rfl) :
    DM X G (.Call (.Attribute (.Name x py) "clear" apos) [] [] pos) i (kn (kRows rs) par) (kn (kRows []) par) := by
  refine ⟨_, pe_bm0 PySem.F.plainAttrs_list PySem.F.slot_list_clear PySem.F.type_list_clear mt_clear (pv i hN hv hd hcd) hbase hline, fun F B H σ Q S _ k => ?_⟩
  obtain ⟨fps, s1, s2⟩ := S.sl
  obtain ⟨u, hσ, ⟨⟨p, qs, rfl, z1, z2, z3, z4⟩, z5⟩, z6⟩ := s1 i _ hG
  refine ⟨_, hσ, Or.inl ⟨rfl, _, Or.inl (Or.inl z2)⟩, p, qs.map V.ref, rfl, rfl, z2, k .non B _ (S.change hG rfl fun v' fp a1 a2 => ?_)⟩
  rw [hσ] at a1
  cases a1
  obtain ⟨⟨p', qs', b0, b1, b2, b3, b4⟩, b5⟩ := a2
  cases b0
  have mp : p ∈ fp := by rw [b1]; exact List.mem_cons_self
  refine ⟨[p], ⟨⟨p, [], rfl, rfl, upd_same, .nil, by simp⟩, fun a h => by rw [List.mem_singleton.mp h]; exact b5 p mp⟩, fun a h => .inl (by rw [List.mem_singleton.mp h]; exact mp), fun _ a h => by rw [List.mem_singleton.mp h]; exact mp, fun a h1 h2 => upd_ne fun z => h1 (by rw [z]; exact mp), fun a h => ?_⟩
  by_cases z : a = p
  · rw [z, upd_same]; exact fun z => nomatch z
  · rw [upd_ne z]
    rw [b1] at h
    exact b3.there a ((List.mem_cons.mp h).resolve_left z)
end
end Dw

namespace Dw
open PySem L2 PyProof.Rows
variable {c : Cl}
theorem StE.free {K : PySem.W.Frag} {F : Ent} {G : Env K c} {B H : Hp} {σ : Sg} {i : Nat} {v : Option V} (S : StE F G B H σ) (hG : ∀ s, G[i]? ≠ some (some s)) : StE F G B H (σ.set i v) := by
  obtain ⟨fps, h1, h2⟩ := S.sl
  have ne : ∀ {j : Nat} {s : Slot K c}, G[j]? = some (some s) → i ≠ j := fun q z => hG _ (z ▸ q)
  refine ⟨S.sub, S.b0, S.zf, S.h0, S.hw, S.th, S.tb, S.tt, S.new, by rw [List.length_set]; exact S.len, fun j s w q hq hw => S.pn j s w q hq (by rw [List.getElem?_set_ne (ne q)] at hw; exact hw), fps, fun j s q => ?_, h2⟩
  obtain ⟨u, r1, r2, r3⟩ := h1 j s q
  exact ⟨u, by rw [List.getElem?_set_ne (ne q)]; exact r1, r2, r3⟩
def put1 (rs : List (List D)) (m : Nat) (d : D) (i : Nat) : List (List D) := (rs.take i).map (fun r => r.set m d) ++ rs.drop i
theorem put1_at {rs : List (List D)} {m i : Nat} {d : D} {r : List D} (h : rs[i]? = some r) : (put1 rs m d i)[i]? = some r := by
  have hl := (List.getElem?_eq_some_iff.mp h).1
  unfold put1
  rw [List.getElem?_append_right (by rw [List.length_map, List.length_take]; exact Nat.min_le_left _ _), List.getElem?_drop]
  simp only [List.length_map, List.length_take]
  rw [show i + (i - min i rs.length) = i by omega]
  exact h
theorem put1_succ {rs : List (List D)} {m i : Nat} {d : D} {r : List D} (h : rs[i]? = some r) : (put1 rs m d i).set i (r.set m d) = put1 rs m d (i + 1) := by
  have hl := (List.getElem?_eq_some_iff.mp h).1
  unfold put1
  rw [take_at h, List.map_append, List.append_assoc, List.set_append_right _ _ (by rw [List.length_map, List.length_take]; exact Nat.min_le_left _ _)]
  congr 1
  simp only [List.length_map, List.length_take]
  rw [show i - min i rs.length = 0 by omega, List.drop_eq_getElem_cons hl]
  have : rs[i] = r := (List.getElem?_eq_some_iff.mp h).2
  rw [this]
  rfl
section
variable {X : Cx} {G : Env X.K c} {e ej : Expr} {rest : List Stmt} {Ph : Out X.K c → Prop} {pos pos2 pos3 pt pp px : Pos} {d : D} {rs : List (List D)} {x t : Str} {k : Nat}
theorem dss_fill (C : Bd X k) (ix it : Nat) {b : Int} {m : Nat} (hG : G[ix]? = some (some (kn (kRows rs)))) (hT : ∀ s, G[it]? ≠ some (some s)) (hne : ix ≠ it) (hlt0 : it < G.length)
    (he : ∀ rs', DE X (G.set ix (some (kn (kRows rs')))) e d) (hj : ∀ rs', DE X (G.set ix (some (kn (kRows rs')))) ej (.int b)) (hb : ∀ r ∈ rs, ixN r.length b = some m)
    (h : DSs X (G.set ix (some (kn (kRows (put1 rs m d rs.length))))) rest Ph)
    (hN : X.N[ix]? = some x := by rfl) (hv : Vis X.env.scope x := by first | exact Or.inl rfl | exact Or.inr (Or.inl rfl) | exact Or.inr (Or.inr rfl)) (hd : (x == ("__debug__" : Str)) = false := by decide) (hcd : (x == ("__classdict__" : Str)) = false := by decide)
    (hNt : X.N[it]? = some t := by rfl) (hvt : Vis X.env.scope t := by first | exact Or.inl rfl | exact Or.inr (Or.inl rfl) | exact Or.inr (Or.inr rfl)) (hdt : (t == ("__debug__" : Str)) = false := by decide) (hcdt : (t == ("__classdict__" : Str)) = false := by decide)
    (hxt : Loc X.env.scope t := by first | exact Or.inl rfl | exact Or.inr rfl) (hft : X.fn t = true ∨ X.env.scope.names.lookup t = some .local := by first | exact .inl rfl | exact .inr rfl)
    (has : ∀ v, assign (.Subscript (.Name t pt) ej pp) X.env v = (do
      let ov ← holding [v] (eval (.Name t pt) X.env)
      let iv ← holding [v, ov] (eval ej X.env)
      standAt pp
      holding [v, ov, iv] (setItem ov iv v)
      release [v, ov, iv] []) := by intro _; rfl)
    (hsw : swapsWithSole [.Subscript (.Name t pt) ej pp] e pos2.line X.env = pure false := by rfl) (hss : swappedStores [.Subscript (.Name t pt) ej pp] e X.env = pure none := by rfl)
    (hs1 : (assignEach [.Subscript (.Name t pt) ej pp] X.env).map (·.2) = [assign (.Subscript (.Name t pt) ej pp) X.env] := by rfl)
    (hs : ∀ v, foldedSetIterable (.Name x px) X.env v = pure v := by intro _; rfl) :
    DSs X G (.For (.Name t pos3) (.Name x px) [.Assign [.Subscript (.Name t pt) ej pp] e pos2] [] pos :: rest) Ph := fun F B H σ D S E => by
  let pes := fun (i : Nat) (σ : Sg) (H : Hp) => (put1 rs m d i)
  have pe : PE X e (fun σ H Q => ∃ rs', (he rs').choose σ H Q) := ⟨fun pins s σ H Q I h => by obtain ⟨rs', h⟩ := h; exact (he rs').choose_spec.1.run pins s σ H Q I h⟩
  have pj : PE X ej (fun σ H Q => ∃ rs', (hj rs').choose σ H Q) := ⟨fun pins s σ H Q I h => by obtain ⟨rs', h⟩ := h; exact (hj rs').choose_spec.1.run pins s σ H Q I h⟩
  refine wp_of (pss_cons (ps_for C.po C.calm (pi_list (pv ix hN hv hd hcd)) (pg_name C.nd hNt hxt hft) (pss_one (ps_asg pe (pg_sub (pv it hNt hvt hdt hcdt) pj set_list has) hsw hss hs1)) hs) pss_wp) ?_
  obtain ⟨fps, s1, s2⟩ := S.sl
  obtain ⟨u, hσ, ⟨⟨p, qs, rfl, z1, z2, z3, z4⟩, z5⟩, z6⟩ := s1 ix _ hG
  refine ⟨_, hσ, p, rfl, ⟨qs.map V.ref, .inl (.inl z2)⟩, ?_⟩
  have il : ix < G.length := (List.getElem?_eq_some_iff.mp hG).1
  have g0 : G.set ix (some (kn (kRows (put1 rs m d 0)))) = G := by
    rw [show put1 rs m d 0 = rs from rfl]
    exact List.ext_getElem? fun j => by
      by_cases z : ix = j
      · subst z; rw [List.getElem?_set_self il, hG]
      · rw [List.getElem?_set_ne z]
  refine ⟨fun i n σ H => n = rs.length - i ∧ i ≤ rs.length ∧ σ[ix]? = some (some (.ref p)) ∧ ∃ B, StE F (G.set ix (some (kn (kRows (put1 rs m d i))))) B H σ, ⟨rs.length, by simp, Nat.zero_le _, hσ, B, by rw [g0]; exact S⟩, ?_⟩
  rintro i n σ1 H1 ⟨rfl, hi, hσ1, B1, S1⟩
  have hG1 : (G.set ix (some (kn (kRows (put1 rs m d i)))))[ix]? = some (some (kn (kRows (put1 rs m d i)))) := List.getElem?_set_self il
  obtain ⟨fps1, t1, _⟩ := S1.sl
  obtain ⟨u1, hu1, ⟨⟨p1, qs1, e0, y1, y2, y3, y4⟩, y5⟩, _⟩ := t1 ix _ hG1
  subst e0
  rw [hσ1] at hu1
  cases hu1
  have lq : qs1.length = rs.length := by rw [y3.len]; unfold put1; simp; omega
  by_cases hlt : i < rs.length
  · obtain ⟨r, hr⟩ := at_some hlt
    have hr1 := put1_at (m := m) (d := d) hr
    obtain ⟨q, vs, g1, g2, g3⟩ := y3.get hr1
    have gq : (qs1.map V.ref)[i]? = some (.ref q) := by rw [List.getElem?_map, g1]; rfl
    refine .inr ⟨⟨qs1.map V.ref, .ref q, .inl (.inl y2), gq⟩, fun σ' H' => σ'[ix]? = some (some (.ref p)) ∧ ∃ B, StE F (G.set ix (some (kn (kRows (put1 rs m d (i + 1)))))) B H' σ', fun σ' H' z => ⟨rs.length - (i + 1), by omega, rfl, hlt, z⟩, fun v H' y => ?_⟩
    obtain ⟨rfl, y⟩ := y
    have ev := y _ (.inl (.inl y2))
    rw [gq] at ev
    cases ev
    have hT1 : ∀ s, (G.set ix (some (kn (kRows (put1 rs m d i)))))[it]? ≠ some (some s) := fun s => by rw [List.getElem?_set_ne hne]; exact hT s
    have S2 := S1.free (v := some (.ref q)) hT1
    refine ⟨put1 rs m d i, (he (put1 rs m d i)).choose_spec.2 F.Z B1 H' _ _ S2.env fun v B2 H2 e2 q2 => ?_⟩
    refine ⟨_, List.getElem?_set_self (by rw [S1.len, List.length_set]; exact hlt0), ?_⟩
    refine ⟨put1 rs m d i, (hj (put1 rs m d i)).choose_spec.2 F.Z B2 H2 _ _ (S2.ext e2).env fun w B3 H3 e3 q3 => ?_⟩
    cases q3
    have e23 := e2.trans e3
    have S3 := S2.ext e23
    have hb1 : ixN vs.length b = some m := by rw [g3.length]; exact hb r (List.mem_of_getElem? hr)
    refine ⟨q, vs, b, m, rfl, rfl, e23.h.at g2, hb1, by rw [List.getElem?_set_ne (Ne.symm hne)]; exact hσ1, B3, ?_⟩
    have SC := S3.change (s' := kn (kRows ((put1 rs m d i).set i (r.set m d)))) (H' := upd H3 q (.lst (vs.set m v))) hG1 rfl fun v' fp a1 a2 => ?_
    · rw [List.set_set, put1_succ hr] at SC
      exact SC
    · rw [List.getElem?_set_ne (Ne.symm hne), hσ1] at a1
      cases a1
      obtain ⟨⟨p', qs', b0, b1, b2, b3, b4⟩, b5⟩ := a2
      cases b0
      have e' : qs'.map V.ref = qs1.map V.ref := by
        have := (e23.h.at y2).symm.trans b2
        injection (Option.some.inj this) with z
        exact z.symm
      have e'' : qs' = qs1 := by
        have := congrArg (List.map fun v => match v with | V.ref a => a | _ => 0) e'
        simpa [List.map_map, Function.comp_def] using this
      subst e''
      have nd := List.nodup_cons.mp b4
      have mq := List.mem_of_getElem? g1
      have pq : p ≠ q := fun z => nd.1 (by rw [z]; exact mq)
      refine ⟨fp, ⟨⟨p, qs', rfl, b1, by rw [upd_ne pq]; exact b2, b3.set nd.2 g1 ((TpAll.mono e23.b _ _ g3).set m (Tp.mono e3.b _ _ q2)), b4⟩, b5⟩, fun a h => .inl h, fun _ a h => h, fun a h1 h2 => upd_ne fun z => h1 (by rw [b1, z]; exact List.mem_cons_of_mem _ mq), fun a h => ?_⟩
      by_cases z : a = q
      · rw [z, upd_same]; exact (fun z => nomatch z)
      · rw [upd_ne z]
        rw [b1] at h
        rcases List.mem_cons.mp h with z | z
        · rw [z, b2]; exact (fun z => nomatch z)
        · exact b3.there a z
  · have en : i = rs.length := by omega
    subst en
    exact .inl ⟨⟨qs1.map V.ref, .inl (.inl y2), by rw [List.length_map]; omega⟩, h F B1 H1 σ1 D S1 E⟩
end
end Dw

namespace Dw
open PySem L2 PyProof.Rows
variable {c : Cl}
theorem wk_drop {K : PySem.W.Frag} (G : Env K c) (i : Nat) : Wk G (G.set i none) := ⟨by simp, fun j s q => by
  rcases getset q with ⟨_, e, _⟩ | ⟨_, q⟩
  · cases e
  · exact q⟩
theorem StE.unset {K : PySem.W.Frag} {F : Ent} {G : Env K c} {B H : Hp} {σ : Sg} (S : StE F G B H σ) (i : Nat) : StE F (G.set i none) B H (σ.set i none) := (S.weak (wk_drop G i)).free fun s q => by
  rcases getset q with ⟨_, e, _⟩ | ⟨ne, _⟩
  · cases e
  · exact ne rfl
/-- a value as it stands -/
def sv {K : PySem.W.Frag} (u : V) : Slot K c where
  par := false
  P := fun _ _ _ v fp => v = u ∧ fp = []
  stb := fun h _ _ _ => h
  dom := fun ⟨_, h⟩ a ha => by rw [h] at ha; exact absurd ha List.not_mem_nil
section
variable {X : Cx} {G : Env X.K c} {a b e o : Expr} {es : List Expr} {rest body : List Stmt} {Ph : Out X.K c → Prop} {pos pos' p : Pos} {d : D} {ds : List D} {k : Nat} {x : Str} {cls : Value}
/-- e raises an exception of the class cls, which has no field -/
def DER (X : Cx) (G : Env X.K c) (e : Expr) (cls : Value) : Prop := ∀ W : WX, L2N.Takes X W → ∃ t, PE X e t ∧ ∀ Z B H σ Q, EnvE G Z B H σ → (∀ B' H', Ext B H B' H' → W cls none σ H') → t σ H Q
theorem dss_exprR (he : DER X G e cls) (h : Ph (.exc cls G)) (hs : swapsWith e none pos.line X.env = pure false := by rfl) : DSs X G (.Expr e pos :: rest) Ph := fun F B H σ D S E => by
  obtain ⟨W, tk, hw⟩ := E.ex
  obtain ⟨t, p, r⟩ := he W tk
  exact wp_of (pss_cons (ps_expr p hs) pss_wp) (r F.Z B H σ _ S.env fun B' H' e => hw cls G B' H' σ (S.ext e) h)
theorem dss_retR (he : DER X G e cls) (h : Ph (.exc cls G)) : DSs X G (.Return (some e) pos :: rest) Ph := fun F B H σ D S E => by
  obtain ⟨W, tk, hw⟩ := E.ex
  obtain ⟨t, p, r⟩ := he W tk
  exact wp_of (pss_cons (ps_ret p) pss_wp) (r F.Z B H σ _ S.env fun B' H' e => hw cls G B' H' σ (S.ext e) h)
theorem dss_setR (C : Bd X k) (i : Nat) (he : DER X G e cls) (h : Ph (.exc cls G)) (hi : X.N[i]? = some x := by rfl) (hx : Loc X.env.scope x := by first | exact Or.inl rfl | exact Or.inr rfl)
    (hs : swapsWith e (some (.Name x pos')) pos.line X.env = pure false := by rfl) (hf : X.fn x = true ∨ X.env.scope.names.lookup x = some .local := by first | exact .inl rfl | exact .inr rfl) : DSs X G (.Assign [.Name x pos'] e pos :: rest) Ph := fun F B H σ D S E => by
  obtain ⟨W, tk, hw⟩ := E.ex
  obtain ⟨t, p, r⟩ := he W tk
  exact wp_of (pss_cons (ps_set C.nd hi hx p hs hf) pss_wp) (r F.Z B H σ _ S.env fun B' H' e => hw cls G B' H' σ (S.ext e) h)
/-- what the head knows of an own class of exceptions without __init__ -/
structure ExcAt (K : PySem.W.Frag) (mg : Str → Option Value) (y : Str) (C : Addr) : Prop where
  mg : mg y = some (.ref C)
  ex : PySem.W.excIn K C [.type "ValueError", .type "Exception", .type "BaseException", .type "object"] "ValueError.__new__" = true
  kp : PySem.W.keepIn K (.ref C) = true
  sub : PySem.W.subIn K (.ref C) (.type "BaseException") = some true
  ty : PySem.W.typeIn K (.ref C) = some (.type "type")
  isC : ExcC K C
/-- raise C('..') -/
theorem dss_raise {m : Str} {j : Nat} {p2 : Pos} {y : Str} {cc : Addr} (C : Bd X k) (T : ExcAt X.K X.mg y cc) (h : Ph (.exc (.ref cc) G)) (hg : Gl X y := by rfl) (hdb : (y == ("__debug__" : Str)) = false := by decide) :
    DSs X G (.Raise (some (.Call (.Name y p) [.Constant (.str m) j p2] [] pos)) none pos' :: rest) Ph := fun F B H σ D S E => by
  obtain ⟨W, tk, hw⟩ := E.ex
  exact wp_of (pss_cons (L2N.ps_raise C.calm tk (L2N.pmk_own PySem.F.excBase_ValueError T.ex T.mg T.kp (raises_own T.sub T.ty) hg hdb)) pss_wp) (hw (.ref cc) G B H σ S h)

def suiteP (X : Cx) (i : Nat) (rest : List Stmt) (Ph : Out X.K c → Prop) : Out X.K c → Prop
  | .nx G => DSs X (G.set i none) rest Ph
  | .bk G => Ph (.bk (G.set i none))
  | .ct G => Ph (.ct (G.set i none))
  | .ret s G => Ph (.ret s G)
  | .exc _ _ => False
def tryP (X : Cx) (i : Nat) (cA : Value) (su rest : List Stmt) (Ph : Out X.K c → Prop) : Out X.K c → Prop
  | .nx G => DSs X G rest Ph
  | .bk G => Ph (.bk G)
  | .ct G => Ph (.ct G)
  | .ret s G => Ph (.ret s G)
  | .exc cls G => ∃ b, PySem.W.exmOne X.K cls cA = some b ∧
      (b = true → ∀ (a : Addr) (oe : Obj) (pn : List (Addr × Obj)), L2N.Zn cls none oe → (∃ vs, oe.data = .fields vs) → DSs (c := c) (X.suite a ((a, oe) :: pn)) (G.set i (some (sv (.ref a)))) su (suiteP X i rest Ph)) ∧ (b = false → Ph (.exc cls G))
theorem dss_try {n : Str} {cA : Value} {b₀ : Stmt} {suite : List Stmt} {np : Pos} (C : Bd X k) (i : Nat) (hc : Names X x cA)
    (hb : ∀ (pn : List (Addr × Obj)) (xe : Value → Shared → Prop), Bd (X.tr pn xe) k → DSs (c := c) (X.tr pn xe) G body (tryP X i cA (b₀ :: suite) rest Ph))
    (hN : X.N[i]? = some n := by rfl) (hln : X.env.kindOf n = some .local := by rfl) (hs : X.stack = X.env :: X.outer := by rfl) (hf : X.env.frame = some X.env.locals := by rfl) :
    DSs X G (.Try body [.ExceptHandler (some (.Name x np)) (some n) (b₀ :: suite) pos'] [] [] pos :: rest) Ph := fun F B H σ D S E => by
  obtain ⟨W, tk, hw⟩ := E.ex
  let tb : WX → TS := fun W D σ H => ∀ (pn : List (Addr × Obj)) (xe : Value → Shared → Prop), L2N.Takes (X.tr pn xe) W → PassesOwn (model X.prog X.w) X.A X.env xe → wpS (X.tr pn xe) body D σ H
  let ts : Addr → Value → Option Addr → TS := fun a cls d D σ H => ∀ (oe : Obj) (pn : List (Addr × Obj)), L2N.Zn cls d oe → (∃ vs, oe.data = .fields vs) → wpS (X.suite a ((a, oe) :: pn)) (b₀ :: suite) D σ H
  have hbp : ∀ (W : WX) (pn : List (Addr × Obj)) (xe : Value → Shared → Prop), L2N.Takes (X.tr pn xe) W → PassesOwn (model X.prog X.w) X.A X.env xe → PSs (X.tr pn xe) body (tb W) := fun W pn xe tk po => ⟨fun pins s _ _ _ I h => (h pn xe tk po).h pins s I⟩
  have hsp : ∀ (a : Addr) (oe : Obj) (cls : Value) (d : Option Addr) (pn : List (Addr × Obj)), L2N.Zn cls d oe → (∃ vs, oe.data = .fields vs) → PSs (X.suite a ((a, oe) :: pn)) (b₀ :: suite) (ts a cls d) := fun a oe cls d pn hz hf => ⟨fun pins s _ _ _ I h => (h oe pn hz hf).h pins s I⟩
  refine wp_of (pss_cons (L2N.ps_try_as hs hf C.nd hN hln hc tk hbp hsp) pss_wp) ?_
  refine (show tb _ _ σ H from fun pn xe tk' po => ?_)
  refine hb pn xe ⟨C.nd, C.calm, C.room, po⟩ F B H σ _ S ⟨fun G' B' H' σ' S' p => p F B' H' σ' D S' E, fun G' B' H' σ' S' p => E.bk G' B' H' σ' S' p, fun G' B' H' σ' S' p => E.ct G' B' H' σ' S' p, fun s G' B' H' σ' v fp S' q f p => E.rt s G' B' H' σ' v fp S' q f p, _, tk', fun cls G' B' H' σ' S' p => ?_⟩
  obtain ⟨b, hb1, hy, hn⟩ := p
  refine ⟨b, hb1, fun e a ha oe pn2 hz hf2 => ?_, fun e => hw cls G' B' H' σ' S' (hn e)⟩
  refine hy e a oe pn2 hz hf2 F B' H' _ _ (S'.set (s := sv (.ref a)) (fp := []) (Ext.refl S'.sub) ⟨rfl, rfl⟩ (fun a z => absurd z List.not_mem_nil) rfl i) ⟨fun G2 B2 H2 σ2 S2 p2 => p2 F B2 H2 _ D (S2.unset i) E, fun G2 B2 H2 σ2 S2 p2 => E.bk _ B2 H2 _ (S2.unset i) p2, fun G2 B2 H2 σ2 S2 p2 => E.ct _ B2 H2 _ (S2.unset i) p2, fun s G2 B2 H2 σ2 v fp S2 q f p2 => E.rt s G2 B2 H2 σ2 v fp S2 q f p2, _, takes0N, fun cls G2 B2 H2 σ2 S2 p2 => p2.elim⟩
end
/-- R: the arguments' slots, and what comes: a value, or an exception's class -/
def spX (K : PySem.W.Frag) (R : List (Slot K c) → Slot K c ⊕ Value → Prop) : Sp := fun vs H Q E => ∃ B ss r, Same B H ∧ Dw.TabsB c.tabs B H ∧ SlAll H B H vs ss ∧ R ss r ∧ match r with
  | .inl s => Gs K c B H s Q
  | .inr cls => ∀ B' H', Ext B H B' H' → E cls none H'
structure DefOkX (P : Program) (w : World) (K : PySem.W.Frag) (mg : Str → Option Value) (base : Heap) (x : Str) (k : Nat) (R : List (Slot K c) → Slot K c ⊕ Value → Prop) : Prop where
  ex : ∃ f fd ps, mg x = some (.ref f) ∧ PySem.W.keepIn K (.ref f) = true ∧ Binds K fd ps [] ∧ FnOk P w K mg base (L2N.CX P w) k f fd ps (spX K R)
abbrev bxX (P : Program) (w : World) (K : PySem.W.Frag) (mg : Str → Option Value) (base : Heap) (N : List Str) (qual : Str) (st : Stmt) (f : Addr) (cdv : Value) (A : Around) (outer : List PySem.Env) (s : Shared) (H : Hp) (E : XK) : Cx :=
  cxOf (L2N.CX P w) P w K mg base N qual (defScope st) f cdv A outer s H E
section
variable {P : Program} {w : World} {K : PySem.W.Frag} {mg : Str → Option Value} {base : Heap}
theorem Fun.okN {x qual : Str} {st : Stmt} {f : Addr} {fd : FuncData} {N ps : List Str} {k : Nat} {sp : Sp} (F : Fun K x qual st f fd) (S : FnScope N ps (defScope st)) (len : ∀ vs H Q E, sp vs H Q E → vs.length = ps.length)
    (hbody : ∀ (cdv : Value) (A : Around) (outer : List PySem.Env) (s : Shared) (H : Hp) (vs : List V) (Q : VK) (E : XK), Room k (A.deeper (envOfC qual (defScope st) s.heap.objs.size f cdv)) → sp vs H Q E →
      ∃ t, PSs (bxX P w K mg base N qual st f cdv A outer s H E) (defBody st) t ∧ t { nx := fun _ H' => Q .non H', rt := Q } (L2.start N vs) H) : FnOk P w K mg base (L2N.CX P w) (k + 1) f fd ps sp := by
  obtain ⟨oc, od, kV, doc, pm, an, cdv, ct, osl, rfl, lk, hcd⟩ := F.ex
  exact fn_of lk hcd S len fun A outer s H vs Q E hr hsp => hbody cdv A outer s H vs Q E hr hsp
def defEndX (r : Slot K c ⊕ Value) : Out K c → Prop
  | .ret s _ => r = .inl s
  | .nx _ => r = .inl (sd .none)
  | .exc cls _ => r = .inr cls
  | _ => False
theorem def_fnX {x qual : Str} {st : Stmt} {f : Addr} {fd : FuncData} {N ps : List Str} {k : Nat} {R : List (Slot K c) → Slot K c ⊕ Value → Prop}
    (F : Fun K x qual st f fd) (S : FnScope N ps (defScope st)) (hR : ∀ ss r, R ss r → ss.length = ps.length)
    (body : ∀ (cdv : Value) (A : Around) (outer : List PySem.Env) (s : Shared) (H : Hp) (E : XK) (ss : List (Slot K c)) (r : Slot K c ⊕ Value), R ss r → Bd (bxX P w K mg base N qual st f cdv A outer s H E) k →
      DSs (c := c) (bxX P w K mg base N qual st f cdv A outer s H E) (G0 N ss) (defBody st) (defEndX r)) : FnOk P w K mg base (L2N.CX P w) (k + 1) f fd ps (spX K R) := by
  refine Fun.okN F S (fun vs H Q E h => ?_) fun cdv A outer s H vs Q E hr h => ?_
  · obtain ⟨B, ss, r, _, _, h, hq, _⟩ := h
    rw [h.length]
    exact hR ss r hq
  · obtain ⟨B, ss, r, sb, tt, h, hq, g⟩ := h
    have hl : ss.length ≤ N.length := by
      rw [hR ss r hq]
      have := congrArg List.length S.pre
      rw [List.length_take] at this
      omega
    have S0 := ste_start sb tt h hl
    have ee : ∀ {G : Env K c} {B' H' : Hp} {σ : Sg}, StE ⟨fun _ => False, B, H, H, fun i => (L2.start N vs)[i]?.getD none⟩ G B' H' σ → Ext B H B' H' := fun T => T.ext0
    refine ⟨_, pss_wp, body cdv A outer s H E ss r hq ⟨S.nd, rfl, hr, L2.passes_of rfl⟩ _ B H _ _ S0 ⟨fun G B' H' σ T e => ?_, fun G B' H' σ T e => e.elim, fun G B' H' σ T e => e.elim, fun u G B' H' σ v fp T p hf e => ?_, _, L2N.takes_of rfl rfl rfl rfl, fun cls G B' H' σ T e => ?_⟩⟩
    · have e : r = .inl (sd .none) := e
      subst e
      exact g .non B' H' [] (ee T) (fun _ => ⟨rfl, .non⟩) fun a ha => absurd ha List.not_mem_nil
    · have e : r = .inl u := e
      subst e
      exact g v B' H' fp (ee T) p hf
    · have e : r = .inr cls := e
      subst e
      exact g B' H' (ee T)
theorem def_okX {x : Str} {st : Stmt} {N ps : List Str} {k : Nat} {R : List (Slot K c) → Slot K c ⊕ Value → Prop}
    (F : FunAt K mg x st ps) (S : FnScope N ps (defScope st)) (hR : ∀ ss r, R ss r → ss.length = ps.length)
    (body : ∀ (f : Addr) (cdv : Value) (A : Around) (outer : List PySem.Env) (s : Shared) (H : Hp) (E : XK) (ss : List (Slot K c)) (r : Slot K c ⊕ Value), R ss r → Bd (bxX P w K mg base N x st f cdv A outer s H E) k →
      DSs (c := c) (bxX P w K mg base N x st f cdv A outer s H E) (G0 N ss) (defBody st) (defEndX r)) : DefOkX P w K mg base x (k + 1) R := by
  obtain ⟨f, fd, hm, F, bn⟩ := F.ex
  exact ⟨f, fd, ps, hm, F.kp, bn, def_fnX F S hR (body f)⟩
end
section
variable {X : Cx} {G : Env X.K c} {a b e o : Expr} {es : List Expr} {pos pos' p : Pos} {d : D} {ds : List D} {k : Nat} {x : Str} {cls : Value} {ss : List (Slot X.K c)} {s : Slot X.K c} {R : List (Slot X.K c) → Slot X.K c ⊕ Value → Prop}
theorem dx_callX (F : DefOkX X.prog X.w X.K X.mg X.base x k R) (hr : Room k X.A) (ha : DAs X G (e :: es) ss) (hR : R ss (.inl s)) (hg : Gl X x := by rfl) (hdb : (x == ("__debug__" : Str)) = false := by decide)
    (he : starEach (e :: es) X.env = (false, eval e X.env) :: starEach es X.env := by rfl) (hpl : (backTo pos (starEach es X.env)).any (·.1) = false := by rfl) : DX X G (.Call (.Name x p) (e :: es) [] pos) s := by
  obtain ⟨ta, pa, ra⟩ := ha
  obtain ⟨f, fd, ps, hm, hk, hb, F⟩ := F.ex
  refine ⟨_, pe_callS F hr hg hm hk hb (fun σ => L2N.passAt takes0N σ) pa hdb he hpl, fun Z B H σ Q E g => ?_⟩
  exact ra Z B H σ _ E fun vs B1 H1 e1 h1 => ⟨B1, ss, .inl s, e1.sub, e1.tabs E.tb, h1, hR, gs_ext e1 g⟩
theorem de_callX (F : DefOkX X.prog X.w X.K X.mg X.base x k R) (hr : Room k X.A) (ha : DAs X G (e :: es) ss) (hR : R ss (.inl (sd d))) (hg : Gl X x := by rfl) (hdb : (x == ("__debug__" : Str)) = false := by decide)
    (he : starEach (e :: es) X.env = (false, eval e X.env) :: starEach es X.env := by rfl) (hpl : (backTo pos (starEach es X.env)).any (·.1) = false := by rfl) : DE X G (.Call (.Name x p) (e :: es) [] pos) d := (dx_callX F hr ha hR hg hdb he hpl).de
theorem der_callX (F : DefOkX X.prog X.w X.K X.mg X.base x k R) (hr : Room k X.A) (ha : DAs X G (e :: es) ss) (hR : R ss (.inr cls)) (hg : Gl X x := by rfl) (hdb : (x == ("__debug__" : Str)) = false := by decide)
    (he : starEach (e :: es) X.env = (false, eval e X.env) :: starEach es X.env := by rfl) (hpl : (backTo pos (starEach es X.env)).any (·.1) = false := by rfl) : DER X G (.Call (.Name x p) (e :: es) [] pos) cls := fun W tk => by
  obtain ⟨ta, pa, ra⟩ := ha
  obtain ⟨f, fd, ps, hm, hk, hb, F⟩ := F.ex
  refine ⟨_, pe_callS F hr hg hm hk hb (fun σ => L2N.passAt tk σ) pa hdb he hpl, fun Z B H σ Q E g => ?_⟩
  exact ra Z B H σ _ E fun vs B1 H1 e1 h1 => ⟨B1, ss, .inr cls, e1.sub, e1.tabs E.tb, h1, hR, fun B' H' e2 => g B' H' (e1.trans e2)⟩
end
section
variable {X : Cx} {CX : CXT} {k : Nat} {f C : Addr} {fd : FuncData} {ps : List Str} {sp : Sp} {E : L2.St → XK} {x : Str} {p pos : Pos} {e : Expr} {es : List Expr} {t : TA} {pins : List (Addr × Obj)} {σ : Sg} {H : Hp} {s : Shared}
theorem run_makeS {Q : VK} {us : List Value} {vs : List V} (M : Mk X.K C f) (F : FnOk X.prog X.w X.K X.mg X.base CX k f fd ps sp) (hr : Room (k + 1) X.A) (hb : Binds X.K fd ps [])
    (hx : ∀ (H : Hp) (s : Shared) (e : Value) (s' : Shared), Inv X pins σ H s → CX X.stack H s (E σ) e s' → X.xe e s') (I : Inv X pins σ H s) (r : Vals vs us)
    (h : ∀ x dx, H x = none → H dx = none → dx ≠ x → sp (.ref x :: vs) (upd (upd H dx (.own x)) x (.ins C dx [])) (fun v H2 => v = .non ∧ Q (.ref x) H2) (E σ)) :
    wpAny (model X.prog X.w) X.A (call (.ref C) us) (EP X pins σ Q) X.xe s := by
  have hq := h (s.heap.objs.size + 1) s.heap.objs.size (I.hok.fresh (Nat.le_succ _)) (I.hok.fresh (Nat.le_refl _)) (Nat.ne_of_lt (Nat.lt_succ_self _))
  have I2 := Inv.made (C := C) I
  have r2 : Vals (V.ref (s.heap.objs.size + 1) :: vs) (Value.ref (s.heap.objs.size + 1) :: us) := .cons rfl r
  have hl : (Value.ref (s.heap.objs.size + 1) :: us ++ []).length = ps.length := by
    have e := r2.length
    rw [F.len _ _ _ _ hq] at e
    rw [List.append_nil]
    exact e.symm
  have hbb := hb _ (Value.ref (s.heap.objs.size + 1) :: us) I2.kIn hl
  rw [List.append_nil] at hbb
  refine wpAny_call (make_map (f := f) I.kIn M.makes M.init (beq_iff_eq.mp M.fn) (codeAny_mono (F.run _ X.stack _ _ ⟨Value.ref (s.heap.objs.size + 1) :: us, []⟩ (Value.ref (s.heap.objs.size + 1) :: us) _ _ (E σ) (hr.make C us [])
    (I2.env0.make C us []) hbb r2 hq) fun r s' hq' => ?_))
  cases r with
  | error e => exact hx _ _ e s' I2 hq'
  | ok fl =>
    cases fl with
    | ret u =>
      obtain ⟨v, H', I3, rv, ev, q3⟩ := I2.after hq'
      subst ev
      exact ⟨rv, ⟨V.ref (s.heap.objs.size + 1), H', I3, rfl, q3⟩⟩
    | next => exact False.elim hq'
    | brk => exact False.elim hq'
    | cont => exact False.elim hq'
def tMakeS (C : Addr) (sp : Sp) (E : L2.St → XK) (t : TA) : TE := fun σ H Q => t σ H fun vs H1 => ∀ x dx, H1 x = none → H1 dx = none → dx ≠ x → sp (.ref x :: vs) (upd (upd H1 dx (.own x)) x (.ins C dx [])) (fun v H2 => v = .non ∧ Q (.ref x) H2) (E σ)
theorem pe_makeS (M : Mk X.K C f) (F : FnOk X.prog X.w X.K X.mg X.base CX k f fd ps sp) (hr : Room (k + 1) X.A) (hg : Gl X x) (hm : X.mg x = some (.ref C)) (hb : Binds X.K fd ps []) (hx : ∀ σ, PassesAt CX X σ (E σ))
    (ha : PA X (e :: es) t) (hdb : (x == ("__debug__" : Str)) = false := by decide) (he : starEach (e :: es) X.env = (false, eval e X.env) :: starEach es X.env := by rfl) (hpl : (backTo pos (starEach es X.env)).any (·.1) = false := by rfl) :
    PE X (.Call (.Name x p) (e :: es) [] pos) (tMakeS C sp E t) := by
  refine ⟨fun pins s σ H Q I h => ?_⟩
  refine wpAny_Call_Name_kw (ld_glob I hg hm ?_ hdb)
  refine PySem.W.callWith_K (h₀ := X.base) I.ok.mod.kin M.kp (thn (ha.run pos pins s σ H _ I h) fun us s1 ⟨vs, H1, I1, r, q⟩ => ⟨I1.kIn, ?_⟩) he hpl
  exact run_makeS M F hr hb (fun H s e s' I c => hx σ pins H s e s' I c) I1 r q
end
def spNX (K : PySem.W.Frag) (c : Cl) (n : Int) (R : List (Slot K c) → List (D × D) ⊕ Value → Prop) : Sp := fun vs H Q E => ∃ (B Z : Hp) (x dx C : Addr) (us : List V) (ss : List (Slot K c)) (r : List (D × D) ⊕ Value), vs = .ref x :: us ∧ c n = some C ∧ H x = some (.ins C dx []) ∧ B x = none ∧
  Same B H ∧ Dw.TabsB c.tabs B H ∧ Same Z H ∧ Z x = none ∧ SlAll Z B H us ss ∧ R ss r ∧ match r with
  | .inl kvs => ∀ B' H' dx' fs, Same B B' → Same B' H' → KpX x H H' → (∀ a, B a = none → H a ≠ none → B' a = none) → H' x = some (.ins C dx' fs) → TpF K c B' fs kvs → Q .non H'
  | .inr cls => ∀ B' H', Same B B' → Same B' H' → KpX x H H' → (∀ a, B a = none → H a ≠ none → B' a = none) → E cls none H'
structure NewOkX (P : Program) (w : World) (K : PySem.W.Frag) (c : Cl) (mg : Str → Option Value) (base : Heap) (n : Int) (x : Str) (k : Nat) (R : List (Slot K c) → List (D × D) ⊕ Value → Prop) : Prop where
  ex : ∃ C f fd ps, c n = some C ∧ mg x = some (.ref C) ∧ Mk K C f ∧ Binds K fd ps [] ∧ FnOk P w K mg base (L2N.CX P w) k f fd ps (spNX K c n R)
def newEndX {K : PySem.W.Frag} (n : Int) (r : List (D × D) ⊕ Value) : Out K c → Prop
  | .nx G => ∃ kvs, r = .inl kvs ∧ G[0]? = some (some (kn (kIns n kvs) true))
  | .exc cls _ => r = .inr cls
  | _ => False
theorem new_fnX {P : Program} {w : World} {K : PySem.W.Frag} {mg : Str → Option Value} {base : Heap} {x qual : Str} {st : Stmt} {f : Addr} {fd : FuncData} {N ps : List Str} {k : Nat} {n : Int} {R : List (Slot K c) → List (D × D) ⊕ Value → Prop}
    (F : Fun K x qual st f fd) (S : FnScope N ps (defScope st)) (hR : ∀ ss r, R ss r → ss.length + 1 = ps.length)
    (body : ∀ (cdv : Value) (A : Around) (outer : List PySem.Env) (s : Shared) (H : Hp) (E : XK) (ss : List (Slot K c)) (r : List (D × D) ⊕ Value), R ss r → Bd (bxX P w K mg base N qual st f cdv A outer s H E) k →
      DSs (c := c) (bxX P w K mg base N qual st f cdv A outer s H E) (G0 N (kn (kIns n []) true :: ss)) (defBody st) (newEndX n r)) : FnOk P w K mg base (L2N.CX P w) (k + 1) f fd ps (spNX K c n R) := by
  refine Fun.okN F S (fun vs H Q E h => ?_) fun cdv A outer s H vs Q E hr h => ?_
  · obtain ⟨B, Z, x, dx, C, us, ss, kvs, rfl, _, _, _, _, _, _, _, h, hq, _⟩ := h
    rw [List.length_cons, h.length]
    exact hR ss kvs hq
  · obtain ⟨B, Z, x, dx, C, us, ss, r, rfl, hc, hx, bx', sb, tt, sz, zx, h, hq, g⟩ := h
    have hl : ss.length + 1 ≤ N.length := by
      rw [hR ss r hq]
      have := congrArg List.length S.pre
      rw [List.length_take] at this
      omega
    have S0 := ste_new (N := N) (n := n) hc hx bx' sb tt sz zx h hl
    refine ⟨_, pss_wp, body cdv A outer s H E ss r hq ⟨S.nd, rfl, hr, L2.passes_of rfl⟩ _ B H _ _ S0 ⟨fun G B' H' σ T e => ?_, fun G B' H' σ T e => e.elim, fun G B' H' σ T e => e.elim, fun u G B' H' σ v fp T p hf e => e.elim, _, L2N.takes_of rfl rfl rfl rfl, fun cls G B' H' σ T e => ?_⟩⟩
    · obtain ⟨kvs, er, e⟩ := e
      subst er
      obtain ⟨fps, h1, _⟩ := T.sl
      obtain ⟨v, hv, ⟨⟨x', dx', C', fs, e0, e1, e2, e3, e4⟩, _⟩, _⟩ := h1 0 _ e
      have pv0 := T.pn 0 _ v e rfl hv
      have pv1 : (L2.start N (.ref x :: us))[0]?.getD none = some v := pv0
      unfold L2.start at pv1
      rw [List.getElem?_append_left (by simp)] at pv1
      have ev : V.ref x = v := Option.some.inj pv1
      rw [e0] at ev
      cases ev
      rw [hc] at e2
      cases e2
      exact g B' H' dx' fs T.b0 T.sub T.kpx (fun a q q' => T.new a q q') e3 e4
    · have e : r = .inr cls := e
      subst e
      exact g B' H' T.b0 T.sub T.kpx fun a q q' => T.new a q q'
section
variable {X : Cx} {G : Env X.K c} {a b e o : Expr} {es : List Expr} {pos pos' p apos : Pos} {d : D} {ds : List D} {k : Nat} {x m f : Str} {n : Int} {kvs : List (D × D)} {cls : Value} {R : List (Slot X.K c) → List (D × D) ⊕ Value → Prop} {ss : List (Slot X.K c)}
theorem sl_up {K : PySem.W.Frag} {Z B H H' : Hp} {vs : List V} {ss : List (Slot K c)} (h : SlAll Z B H vs ss) : SlAll Z B H' vs ss := by
  induction h with
  | nil => exact .nil
  | cons h1 _ ih => exact .cons (Slot.stb _ h1 (Same.refl _) (fun a ha => absurd ha List.not_mem_nil) fun a ha => absurd ha List.not_mem_nil) ih
theorem same_made {H' : Hp} {y dy C : Addr} (ny : H' y = none) (ndy : H' dy = none) : Same H' (upd (upd H' dy (.own y)) y (.ins C dy [])) := fun a o q => by
  rw [upd_ne (ne_of_none q ny), upd_ne (ne_of_none q ndy)]
  exact q
theorem de_newX (F : NewOkX X.prog X.w X.K c X.mg X.base n x k R) (hr : Room (k + 1) X.A) (ha : DAs X G (e :: es) ss) (hR : R ss (.inl kvs)) (hg : Gl X x := by rfl) (hdb : (x == ("__debug__" : Str)) = false := by decide)
    (he : starEach (e :: es) X.env = (false, eval e X.env) :: starEach es X.env := by rfl) (hpl : (backTo pos (starEach es X.env)).any (·.1) = false := by rfl) : DE X G (.Call (.Name x p) (e :: es) [] pos) (obD n kvs) := by
  obtain ⟨t, q, r⟩ := ha
  obtain ⟨C, f, fd, ps, h1, h2, h3, h4, h5⟩ := F.ex
  refine ⟨_, pe_makeS h3 h5 hr hg h2 h4 (fun σ => L2N.passAt takes0N σ) q hdb he hpl, fun Z B H σ Q E g => r Z B H σ _ E fun vs B' H' e h => ?_⟩
  intro y dy ny ndy ne
  have s1 := same_made (C := C) ny ndy
  refine ⟨B', H', y, dy, C, vs, ss, .inl kvs, rfl, h1, upd_same, e.sub.free ny, e.sub.trans s1, (e.tabs E.tb).ext s1, s1, ny, sl_up h, hR, fun B2 H2 dx' fs b1 b2 b3 b4 b5 b6 => ?_⟩
  have b2y : B2 y = none := b4 y (e.sub.free ny) (by rw [upd_same]; exact fun z => nomatch z)
  have sy : Same B2 (upd B2 y (.ins C dx' fs)) := same_upd b2y
  refine ⟨rfl, g _ (upd B2 y (.ins C dx' fs)) H2 ⟨e.b.trans (b1.trans sy), e.h.trans (b3.kp s1 ny), fun a o q => ?_, fun a q q' => ?_⟩ (.ob upd_same h1 (TpF.mono sy _ _ b6))⟩
  · by_cases z : a = y
    · subst z; rw [upd_same] at q; cases q; exact b5
    · rw [upd_ne z] at q; exact b2 a o q
  · have q2 := e.new a q q'
    have q3 : H' a ≠ none := e.h.th _ q'
    have ny' : a ≠ y := fun z => q3 (z ▸ ny)
    rw [upd_ne ny']
    exact b4 a q2 (by rw [Same.ne s1 q3]; exact q3)
theorem der_newX (F : NewOkX X.prog X.w X.K c X.mg X.base n x k R) (hr : Room (k + 1) X.A) (ha : DAs X G (e :: es) ss) (hR : R ss (.inr cls)) (hg : Gl X x := by rfl) (hdb : (x == ("__debug__" : Str)) = false := by decide)
    (he : starEach (e :: es) X.env = (false, eval e X.env) :: starEach es X.env := by rfl) (hpl : (backTo pos (starEach es X.env)).any (·.1) = false := by rfl) : DER X G (.Call (.Name x p) (e :: es) [] pos) cls := fun W tk => by
  obtain ⟨t, q, r⟩ := ha
  obtain ⟨C, f, fd, ps, h1, h2, h3, h4, h5⟩ := F.ex
  refine ⟨_, pe_makeS h3 h5 hr hg h2 h4 (fun σ => L2N.passAt tk σ) q hdb he hpl, fun Z B H σ Q E g => r Z B H σ _ E fun vs B' H' e h => ?_⟩
  intro y dy ny ndy ne
  have s1 := same_made (C := C) ny ndy
  refine ⟨B', H', y, dy, C, vs, ss, .inr cls, rfl, h1, upd_same, e.sub.free ny, e.sub.trans s1, (e.tabs E.tb).ext s1, s1, ny, sl_up h, hR, fun B2 H2 b1 b2 b3 b4 => ?_⟩
  exact g B2 H2 ⟨e.b.trans b1, e.h.trans (b3.kp s1 ny), b2, fun a q q' => b4 a (e.new a q q') (by rw [Same.ne s1 (e.h.th _ q')]; exact e.h.th _ q')⟩
end
end Dw

namespace Dw
open PySem L2 PyProof.Rows
variable {c : Cl}
section
variable {prog : Program} {w : World} {A : Around} {E : Value → Shared → Prop} {s : Shared}
/-- the end of a list's walk where the exception at x1 is handled -/
theorem list_over_hot {it l x1 : Addr} {i : Nat} {items : Array Value} {Q : Option Value → Shared → Prop} (hot : HotX.HotAt A x1 s.heap) (st : s.heap.IsListIter it l i) (hl : s.heap.IsList l items) (hi : items[i]? = none) (ne : x1 ≠ it)
    (q : ∀ h', Heap.ExtBut it s.heap h' → Q none { s with heap := h' }) : wpAny (model prog w) A (pyNext (.ref it)) Q E s := by
  obtain ⟨hh, o1, vs1, e1, d1, c1⟩ := hot
  obtain ⟨oi, ei, ci, di⟩ := id st
  obtain ⟨ol, el, _, nl, dl⟩ := hl
  unfold pyNext
  have nz : ¬ ((Value.ref l == Value.none) = true) := Bool.false_ne_true
  apply wpAny_bind
  apply wpAny_attempt
  apply wpAny_callSpecial?_slot (name := Str.ofString "__next__") st.typeIs slot_listiter_next
  apply wpAny_call_entry slot_listiter_next st.typeIs entry_listiter_next ?_ (args_listiter_next _)
  show wpAny _ _ (field (.ref it) 0 >>= _) _ _ s
  apply wpAny_bind; apply wpAny_field ei di (x := .ref l) rfl
  show wpAny _ _ (if (Value.ref l == Value.none) = true then _ else _) _ _ s
  rw [if_neg nz]
  show wpAny _ _ (field (.ref it) 1 >>= _) _ _ s
  apply wpAny_bind; apply wpAny_field ei di (x := .int i 0) rfl
  show wpAny _ _ (seqItems? (.ref l) >>= _) _ _ s
  apply wpAny_bind; apply wpAny_seqItems el dl
  simp only [Int.toNat_natCast, hi]
  apply wpAny_bind; apply wpAny_rule
  apply wpAny_bind; apply wpAny_setField ei di (by simp)
  show wpAny _ _ (newExc (.type "StopIteration") [] >>= _) _ _ _
  apply wpAny_bind
  simp only [newExc, newTuple]
  apply wpAny_bind; refine wpAny_newObj_type ?_ (by size_fits)
  refine wpAny_bind (m := firstArgMember _ _) (wpAny_of_eq (a := Value.none) (by first | rfl | (simp only [firstArgMember]; rfl)) ?_)
  refine wpAny_newObj_type ?_ (by size_fits)
  have sb := Heap.SameBut.update it (Obj.mapFields (·.setIfInBounds 0 Value.none)) (h := s.heap)
  have ee := sb.extBut
  have g1 := Heap.get?_push_of_some { cls := .type "tuple", data := .seq ([] : List Value).toArray } (ee x1 o1 ne e1)
  refine HotX.raiseNew_hot (x1 := x1) ⟨hh, o1, vs1, Heap.get?_push_of_some _ g1, d1, c1⟩ (Nat.ne_of_lt (Heap.lt_size g1)) (Heap.get?_push_size _ rfl) rfl (by first | (simp; done) | (simp; omega)) ?_
  refine wpAny_bind (wpAny_isInstance (T := "StopIteration") (b := true) ⟨_, Heap.get?_update_self _ (Heap.get?_push_size _ rfl) rfl, rfl⟩ isSubtype_stop ?_)
  refine wpAny_pure (q _ fun b o nb eb => ?_)
  have g2 := Heap.get?_push_of_some { cls := .type "tuple", data := .seq ([] : List Value).toArray } (ee b o nb eb)
  rw [Heap.get?_update_other _ _ (Nat.ne_of_gt (Heap.lt_size g2))]
  exact Heap.get?_push_of_some _ g2
end
section
variable {X : Cx}
theorem pe_lcH {elt tg iter : Expr} {ifs : List Expr} {scope : Scope} {own : List (Str × Nat)} {pos : Pos} {tl : TE} {g : TG} {tt : TT} {te : TE} (hc : L2H.HotC X) (hN : X.N.Nodup) (hi : PE X iter tl) (ok : BlkOk X.N X.env.scope scope own)
    (hg : ∀ (s : Shared) (H : Hp) (C : Addr) (cl : List (Str × Addr)) (fp : List Addr), PG (X.blk s H scope (compEnvC scope cl C X.env) fp) tg g) (ht : ∀ (s : Shared) (H : Hp) (C : Addr) (cl : List (Str × Addr)) (fp : List Addr), PTs (X.blk s H scope (compEnvC scope cl C X.env) fp) ifs tt)
    (he : ∀ (s : Shared) (H : Hp) (C : Addr) (cl : List (Str × Addr)) (fp : List Addr), PE (X.blk s H scope (compEnvC scope cl C X.env) fp) elt te) (hs : ∀ x, foldedSetIterable iter X.env x = pure x := by intro _; rfl) :
    PE X (.ListComp elt [⟨tg, iter, ifs, 0⟩] scope pos) (tLc (iList X.K tl) g tt te (own.map (·.2))) := by
  refine ⟨fun pins s σ H Q I h => ?_⟩
  rw [eval_ListComp]
  have free : ∀ y ∈ scope.names, y.2 = .free → ∃ c, X.env.cells.lookup y.1 = some c := fun y hy e => (ok.free y hy e).elim (fun k => I.ok.has _ (.inl k)) fun k => I.ok.has _ (.inr k)
  apply wpAny_comprehension_free (use := none) rfl hs (closure_ok free) ok.kind (fun y hy e => by rw [ok.uniq y hy, e])
  apply thn (hi.run pins s σ H _ I h)
  rintro xv s1 ⟨x, H1, I1, r1, a, rfl, ⟨xs, hq⟩, q⟩
  cases r1
  obtain ⟨its, rv, pl, hz⟩ := I1.list hq
  apply wpAny_pyIter_list pl.isList
  have I2 : Inv X pins σ H1 { s1 with heap := s1.heap.push { cls := .type "list_iterator", data := .fields #[.ref a, .int 0 0] } } := I1.kept (t' := s1.toks) fun b o e => Heap.get?_push_of_some _ e
  have st2 : (s1.heap.push { cls := .type "list_iterator", data := .fields #[.ref a, .int 0 0] }).IsListIter s1.heap.objs.size a 0 := ⟨_, Heap.get?_push_size _ rfl, rfl, rfl⟩
  have f2 : FpOk X pins H1 s1.heap.objs.size := I1.fpOk (Nat.le_refl _) (I1.hok.fresh (Nat.le_refl _))
  have lt2 : s1.heap.objs.size < (s1.heap.push { cls := .type "list_iterator", data := .fields #[.ref a, .int 0 0] }).objs.size := by rw [Heap.size_push]; exact Nat.lt_succ_self _
  generalize s1.heap.objs.size = it at st2 f2 lt2 ⊢
  generalize hS2 : ({ s1 with heap := s1.heap.push { cls := .type "list_iterator", data := .fields #[.ref a, .int 0 0] } } : Shared) = s2 at I2
  have eh : s1.heap.push { cls := .type "list_iterator", data := .fields #[.ref a, .int 0 0] } = s2.heap := by rw [← hS2]
  rw [eh] at st2 lt2
  obtain ⟨p0, ⟨hh, v1, d1, c1⟩, hp0⟩ := hc
  obtain ⟨g0, n0, l0, o0, _⟩ := I2.pin p0 (List.mem_append_left _ hp0)
  have ni : p0.1 ≠ it := f2.2.2.2.2.2 p0 (List.mem_append_left _ hp0)
  have nst : p0.1 ∉ frs X.stack := fun z => (List.mem_cons.mp (I2.stkSub _ z)).elim l0 o0
  refine wpAny_newObj_type (newEnv_comp ?_) (by show 0 ≤ sizeLine; decide)
  generalize hD : s2.heap.objs.size = D
  obtain ⟨W, ⟨m0, w0⟩, turn⟩ := q D (I2.hok.fresh (Nat.le_of_eq hD))
  generalize hs3 : ({ s2 with heap := s2.heap.push { cls := .type "list", data := .seq ([] : List Value).toArray } } : Shared) = s3
  have h3 : s3.heap = s2.heap.push { cls := .type "list", data := .seq ([] : List Value).toArray } := by rw [← hs3]
  have up3 : ∀ b o, s2.heap.get? b = some o → s3.heap.get? b = some o := fun b o e => by rw [h3]; exact Heap.get?_push_of_some _ e
  have I3 : Inv X pins σ (upd H1 D (.lst [])) s3 := by
    subst hs3 hD
    exact I2.laid (t' := s2.toks) (fun b o e => Heap.get?_push_of_some _ e) (Nat.le_refl _) ⟨Nat.zero_le _, [], 0, .nil, Heap.get?_push_size _ rfl⟩
  have nD : ∀ {b : Addr}, b < s2.heap.objs.size → (upd H1 D (.lst [])) b = H1 b := fun {b} z => upd_ne (by rw [← hD]; exact Nat.ne_of_lt z)
  have f3 : ∀ b ∈ [it], FpOk X pins (upd H1 D (.lst [])) b ∧ b < s3.heap.objs.size := fun b hb => by
    rw [List.mem_singleton.mp hb]
    exact ⟨⟨by rw [nD lt2]; exact f2.1, f2.2⟩, by rw [h3, Heap.size_push]; exact Nat.lt_succ_of_lt lt2⟩
  have st3 : s3.heap.IsListIter it a 0 := st2.at fun o e => up3 it o e
  have n3 : (upd H1 D (.lst [])) p0.1 = none := by rw [nD (Heap.lt_size g0)]; exact n0
  have I4 := block_start I3 ok hN f3
  have pg := hg s3 (upd H1 D (.lst [])) s3.heap.objs.size (cellsFrom (s3.heap.objs.size + 1) scope.names (cloFrom X.env.cells scope.names [])) [it]
  have pt := ht s3 (upd H1 D (.lst [])) s3.heap.objs.size (cellsFrom (s3.heap.objs.size + 1) scope.names (cloFrom X.env.cells scope.names [])) [it]
  have pe := he s3 (upd H1 D (.lst [])) s3.heap.objs.size (cellsFrom (s3.heap.objs.size + 1) scope.names (cloFrom X.env.cells scope.names [])) [it]
  show codeAny _ _ (.compStart (.ListComp elt [⟨tg, iter, ifs, 0⟩] scope pos) 0 (.ref it) (.ref D) (compEnvC scope (cellsFrom (s3.heap.objs.size + 1) scope.names (cloFrom X.env.cells scope.names [])) s3.heap.objs.size X.env)) (compPost (model X.prog X.w) X.A X.xe none _ (.ref D) s3.heap.objs.size) { s3 with heap := pushCells (s3.heap.push { cls := .type "dict", data := .dict #[] }) scope.names }
  generalize hce : compEnvC scope (cellsFrom (s3.heap.objs.size + 1) scope.names (cloFrom X.env.cells scope.names [])) s3.heap.objs.size X.env = ce at I4 pg pt pe ⊢
  have cL : ce.locals = s3.heap.objs.size := by rw [← hce]; rfl
  have f3i := (f3 it List.mem_cons_self).1
  generalize hH3 : upd H1 D (.lst []) = H3 at I3 I4 pg pt pe w0 n3 f3i
  generalize hs4 : ({ s3 with heap := pushCells (s3.heap.push { cls := .type "dict", data := .dict #[] }) scope.names } : Shared) = s4 at I4 ⊢
  have st4 : s4.heap.IsListIter it a 0 := st3.at fun o e => by rw [← hs4]; exact pushCells_keeps _ _ _ _ (Heap.get?_push_of_some _ e)
  have g3 := up3 _ _ g0
  have stat : ∀ {σ' : L2.St} {H' : Hp} {s' : Shared}, Inv (X.blk s3 H3 scope ce [it]) [] σ' H' s' → H' it = none → FpOk (X.blk s3 H3 scope ce [it]) [] H' it := fun {σ' H' s'} I' hn =>
    ⟨hn, (I'.ok.exf it List.mem_cons_self).1, I'.ok.exfs it List.mem_cons_self, .inl List.mem_cons_self, fun x c e => (I'.ok.exf it List.mem_cons_self).2 x c e, fun p hp => absurd (show p ∈ ([] : List (Addr × Obj)) ++ [] from hp) (by simp)⟩
  have loop : codeAny (model X.prog X.w) X.A (.compLoop (.ListComp elt [⟨tg, iter, ifs, 0⟩] scope pos) 0 (.ref it) (.ref D) ce) (compPost (model X.prog X.w) X.A X.xe none (EP X pins σ Q) (.ref D) s3.heap.objs.size) s4 := by
    apply compLoop_any (fun n s' => ∃ i H', Inv (X.blk s3 H3 scope ce [it]) [] (wipe σ (own.map (·.2))) H' s' ∧ s'.heap.IsListIter it a i ∧ H' it = none ∧ W i n H') ?_ m0 ⟨0, H3, I4, st4, f3i.1, w0⟩
    rintro n s5 ⟨i, H5, I5, st5, n5, w5⟩
    obtain ⟨k0, k1, k2, k3, k4, k5⟩ := stat I5 n5
    rcases turn i n H5 w5 with ⟨⟨ys, hy, hle⟩, qq⟩ | ⟨⟨ys, y, hy, hye⟩, Nx, hNx, step⟩
    · obtain ⟨jts, rj, pj, _⟩ := I5.list hy
      have hot : HotX.HotAt X.A p0.1 s5.heap := ⟨hh, p0.2, v1, I5.base.keep p0.1 p0.2 g3 n3 nst (by simpa using ni), d1, c1⟩
      have hl := rj.length
      apply list_over_hot hot st5 pj.isList (by simp; omega) ni
      intro h' eb
      have I6 : Inv (X.blk s3 H3 scope ce [it]) [] (wipe σ (own.map (·.2))) H5 { s5 with heap := h' } := I5.turned (t' := s5.toks) (fun b o hb e => eb b o hb e) k0 k1 k3 k4 k5
      have I7 : Inv X pins σ H5 { s5 with heap := h' } := I3.call' (ch := [it]) I6.os I6.base I6.hok I6.bare fun b hb => by
        rw [List.mem_singleton.mp hb]
        exact ⟨f3i.2.2.2.1, f3i.2.1, f3i.2.2.2.2.1, f3i.2.2.2.2.2⟩
      have nC : H5 ce.locals = none := I6.free
      obtain ⟨m, hn, _⟩ := I6.loc
      have hn : h'.Ns ce.locals m := hn
      rw [cL] at hn nC
      refine ⟨m, hn, fun h'' sb => ?_⟩
      obtain ⟨z0, z1, z2, z3, z4, z5⟩ := I3.fpOk (Nat.le_refl _) nC
      exact ⟨.ref D, H5, I7.turned (t' := s5.toks) (fun b o hb e => (sb.2 b hb).trans e) z0 z1 z3 z4 z5, rfl, qq⟩
    · obtain ⟨jts, rj, pj, _⟩ := I5.list hy
      obtain ⟨u, hu, ru⟩ := rj.get hye
      apply wpAny_pyNext_list_item st5 pj.isList (x := u) (by simpa using hu)
      intro h' st' sb
      have I6 : Inv (X.blk s3 H3 scope ce [it]) [] (wipe σ (own.map (·.2))) H5 { s5 with heap := h' } := I5.turned (t' := s5.toks) (fun b o hb e => (sb.2 b hb).trans e) k0 k1 k3 k4 k5
      obtain ⟨oi, ei, ci, di⟩ := id st'
      apply go_of (s := { s5 with heap := h' }) ei ci di (by decide)
      have I7 := I6.pinned (fp := [it]) (fun b hb => by rw [List.mem_singleton.mp hb]; exact stat I6 n5) fun b hb => by
        rw [List.mem_singleton.mp hb]
        exact ⟨oi, ei, fun v z => by rw [di] at z; cases z⟩
      have yl : (Itl X.K a).yld i H5 y H5 := ⟨rfl, fun zs hz' => by rw [I5.list_inj hz' hy]; exact hye⟩
      apply thnF (pg.run _ _ _ H5 y u _ I7 ru (step y H5 yl))
      rintro _ s8 ⟨σ8, H8, I8, hw8, q8⟩
      apply thnF (pt.run _ s8 σ8 H8 _ I8 q8)
      rintro b s9 ⟨H9, I9, q9⟩
      have fin : ∀ {s' : Shared} {H' : Hp}, Inv (X.blk s3 H3 scope ce [it]) ([] ++ pinsAt [it] h') σ8 H' s' → Nx H' → ∃ m, m < n ∧ ∃ i H', Inv (X.blk s3 H3 scope ce [it]) [] (wipe σ (own.map (·.2))) H' s' ∧ s'.heap.IsListIter it a i ∧ H' it = none ∧ W i m H' := fun {s' H'} I' nx => by
        obtain ⟨m', hm, w'⟩ := hNx H' nx
        have z := I'.pin (it, oi) (List.mem_append_right _ (List.mem_append_right _ (mem_pinsAt List.mem_cons_self ei)))
        refine ⟨m', hm, i + 1, H', (I'.unpinned (pins := [])).weak (by rw [← hw8, wipe_length]) (fun j v e => ?_), st'.at fun o e => ?_, z.2.1, w'⟩
        · rw [← hw8] at e
          exact (wipe_some e).1
        · rw [ei] at e
          cases e
          exact z.1
      cases b with
      | false =>
        simp only [Bool.false_eq_true, if_false] at q9 ⊢
        exact fin I9 q9
      | true =>
        simp only [if_true] at q9 ⊢
        apply thnF (pe.run _ s9 σ8 H9 _ I9 q9)
        rintro z s10 ⟨yv, H10, I10, r10, acc, hD10, hz10, nx⟩
        exact app_ok (X := X.blk s3 H3 scope ce [it]) I10 hD10 hz10 r10 fun s11 I11 => fin I11 nx
  exact codeAny_compStart_list loop (wpAny_pyIter_listiter st4 loop)
end
end Dw

namespace Dw
open PySem L2 PyProof.Rows
variable {c : Cl}
def okd : Nat → D → Bool
  | 0, d => d.canLay0 && decide (d.depth ≤ 60)
  | n + 1, .list ds => ds.all (okd n)
  | _ + 1, .dict [] => true
  | _ + 1, d => d.canLay0 && decide (d.depth ≤ 60)
section
variable {X : Cx} {pins : List (Addr × Obj)} {σ : Sg} {H B : Hp} {s : Shared}
theorem empty_dict (I : Inv X pins σ H s) {a : Addr} (h : H a = some (.dK [])) : (a == sysModules) = false ∧ ∀ {P : Program} {w : World}, s.heap.DictOf (mixKind P w) a [] := by
  obtain ⟨_, ys, vs, rv, o, es, ep, h1, h2, h3, h4, h5, h6⟩ := (show ObjOk X.prog X.w H s.heap a (.dK []) from I.hok a _ h)
  cases rv
  have e0 : es.toList = [] := by generalize es.toList = l at h5; cases h5; rfl
  have e1 : es = #[] := by apply Array.toList_inj.mp; rw [e0]
  subst e1
  exact ⟨ys, fun {P w} => ⟨o, #[], ep, h1, h2, h3, fun e he => absurd he (by simp), .nil, by simp⟩⟩
theorem rc_empty (I : Inv X pins σ H s) {A : Around} (hu : A.units < cLine) {a b : Addr} (ha : H a = some (.dK [])) (hb : H b = some (.dK [])) : SeqAt.RcAt A s (.ref a) (.ref b) true := fun P w E Q q => by
  obtain ⟨y1, d1⟩ := empty_dict I ha
  obtain ⟨y2, d2⟩ := empty_dict I hb
  exact PySem.W.keq_eq (knd := mixKind P w) (ka := []) (kb := []) (r := true) y1 y2 d1 d2 hu (fun _ => .nil) q
theorem at_empty (I : Inv X pins σ H s) {A : Around} (hu : A.units < cLine) {a b : Addr} (ha : H a = some (.dK [])) (hb : H b = some (.dK [])) : SeqAt.EqAt A s (.ref a) (.ref b) true := by
  by_cases e : a = b
  · subst e; exact SeqAt.EqAt.same _
  · exact SeqAt.EqAt.of_refs e (rc_empty I hu ha hb)
theorem at_plain (I : Inv X pins σ H s) (sb : Same B H) {d : D} (h : (d.canLay0 && decide (d.depth ≤ 60)) = true) {A : Around} (hu : A.units + 64 < cLine) {x y : V} {v u : Value} (hx : Tp X.K c B x d) (hy : Tp X.K c B y d) (rx : RelV x v) (ry : RelV y u) : SeqAt.EqAt A s v u true := by
  simp only [Bool.and_eq_true, decide_eq_true_eq] at h
  obtain ⟨as, r1⟩ := Dp.reads I d x v (Tp.dp _ _ (Tp.mono sb _ _ hx) h.1) rx
  obtain ⟨bs, r2⟩ := Dp.reads I d y u (Tp.dp _ _ (Tp.mono sb _ _ hy) h.1) ry
  have := SeqAt.eqAt_reads d d A s v u as bs r1 r2 h.1 h.1 (by rw [Nat.min_self]; omega)
  rw [SeqAt.eqv_refl d h.1] at this
  exact this
theorem tpAll_at {ds : List D} {xs : List V} (h : TpAll X.K c B xs ds) {j : Nat} (hj : j < ds.length) : ∃ x, xs[j]? = some x ∧ Tp X.K c B x ds[j] := h.get (List.getElem?_eq_getElem hj)
theorem at_list (I : Inv X pins σ H s) (sb : Same B H) {ds : List D} {A : Around} {xs ys : List V} {us ws : List Value} (ih : ∀ d ∈ ds, ∀ x y v u, Tp X.K c B x d → Tp X.K c B y d → RelV x v → RelV y u → SeqAt.EqAt A s v u true)
    (h1 : TpAll X.K c B xs ds) (h2 : TpAll X.K c B ys ds) (r1 : Vals xs us) (r2 : Vals ys ws) (j : Nat) (j1 : j < us.toArray.size) (j2 : j < ws.toArray.size) : SeqAt.EqAt A s us.toArray[j] ws.toArray[j] true := by
  have k1 : j < us.length := by simpa using j1
  have k2 : j < ws.length := by simpa using j2
  have l1 := r1.length
  have l2 := h1.length
  have hj : j < ds.length := by omega
  obtain ⟨x, e1, t1⟩ := tpAll_at h1 hj
  obtain ⟨y, e2, t2⟩ := tpAll_at h2 hj
  obtain ⟨v, f1, g1⟩ := r1.get e1
  obtain ⟨u, f2, g2⟩ := r2.get e2
  rw [List.getElem?_eq_getElem k1] at f1
  rw [List.getElem?_eq_getElem k2] at f2
  cases f1
  cases f2
  have := ih _ (List.getElem_mem hj) x y _ _ t1 t2 g1 g2
  simpa using this
theorem at_data (I : Inv X pins σ H s) (sb : Same B H) : ∀ (n : Nat) (d : D), okd n d = true → ∀ A : Around, A.units + n + 64 < cLine → ∀ x y v u, Tp X.K c B x d → Tp X.K c B y d → RelV x v → RelV y u → SeqAt.EqAt A s v u true
  | 0, d, h, A, hu, x, y, v, u, hx, hy, rx, ry => at_plain I sb h (by omega) hx hy rx ry
  | n + 1, .list ds, h, A, hu, _, _, v, u, hx, hy, rx, ry => by
    cases hx with
    | @lst a xs _ q1 q2 =>
    cases hy with
    | @lst b ys _ p1 p2 =>
    cases (show v = Value.ref a from rx)
    cases (show u = Value.ref b from ry)
    by_cases e : a = b
    · subst e; exact SeqAt.EqAt.same _
    · obtain ⟨us, r1, l1, _⟩ := I.list (.inl (Same.rd sb q1))
      obtain ⟨ws, r2, l2, _⟩ := I.list (.inl (Same.rd sb p1))
      have hsz : us.toArray.size = ws.toArray.size := by
        rw [List.size_toArray, List.size_toArray, ← r1.length, ← r2.length, q2.length, p2.length]
      refine SeqAt.EqAt.of_refs e ?_
      have := SeqAt.RcAt.lists (A := A) (e := fun _ => true) l1.isList l2.isList hsz (by omega) fun j j1 j2 => at_list I sb (fun d hd x y v u => at_data I sb n d (List.all_eq_true.mp h d hd) A.in1 (by show A.units + 1 + n + 64 < cLine; omega) x y v u) q2 p2 r1 r2 j j1 j2
      rw [show ((List.range us.toArray.size).all fun _ => true) = true from List.all_eq_true.mpr fun _ _ => rfl] at this
      exact this
  | n + 1, .dict [], h, A, hu, _, _, v, u, hx, hy, rx, ry => by
    cases hx with
    | @dct a q1 =>
    cases hy with
    | @dct b p1 =>
    cases (show v = Value.ref a from rx)
    cases (show u = Value.ref b from ry)
    exact at_empty I (by omega) (sb _ _ q1) (sb _ _ p1)
  | n + 1, .none, h, A, hu, _, _, _, _, hx, hy, rx, ry => at_plain I sb h (by omega) hx hy rx ry
  | n + 1, .bool _, h, A, hu, _, _, _, _, hx, hy, rx, ry => at_plain I sb h (by omega) hx hy rx ry
  | n + 1, .int _, h, A, hu, _, _, _, _, hx, hy, rx, ry => at_plain I sb h (by omega) hx hy rx ry
  | n + 1, .str _, h, A, hu, _, _, _, _, hx, hy, rx, ry => at_plain I sb h (by omega) hx hy rx ry
  | n + 1, .tuple _, h, A, hu, _, _, _, _, hx, hy, rx, ry => at_plain I sb h (by omega) hx hy rx ry
  | n + 1, .dict (_ :: _), h, A, hu, _, _, _, _, hx, hy, rx, ry => at_plain I sb h (by omega) hx hy rx ry
def rNeK (K : PySem.W.Frag) (c : Cl) : R2 := fun x y H Q => ∃ B n d, Same B H ∧ n ≤ 60 ∧ okd n d = true ∧ Tp K c B x d ∧ Tp K c B y d ∧ Q (.bl false) H
theorem op_neK (hu : X.A.units + 130 < cLine) : OpR X (compareOp .NotEq) (rNeK X.K c) := by
  intro pins s σ H x y v u Q I rx ry h
  obtain ⟨B, n, d, sb, hn, hd, hx, hy, q⟩ := h
  have fin : EP X pins σ Q (.bool false) s := ⟨.bl false, H, I, rfl, q⟩
  have plain : (d.canLay0 && decide (d.depth ≤ 60)) = true → wpAny (model X.prog X.w) X.A (compareOp .NotEq v u) (EP X pins σ Q) X.xe s := fun h => by
    simp only [Bool.and_eq_true, decide_eq_true_eq] at h
    obtain ⟨as, r1⟩ := Dp.reads I d x v (Tp.dp _ _ (Tp.mono sb _ _ hx) h.1) rx
    obtain ⟨bs, r2⟩ := Dp.reads I d y u (Tp.dp _ _ (Tp.mono sb _ _ hy) h.1) ry
    refine SeqAt.compareNe_reads r1 r2 h.1 h.1 (by rw [Nat.min_self]; omega) ?_
    rw [SeqAt.eqv_refl d h.1]
    exact fin
  match n, d, hd, hx, hy, plain, hn with
  | 0, _, hd, _, _, plain, _ => exact plain hd
  | n + 1, .list ds, hd, hx, hy, _, hn =>
    cases hx with
    | @lst a xs _ q1 q2 =>
    cases hy with
    | @lst b ys _ p1 p2 =>
    cases (show v = Value.ref a from rx)
    cases (show u = Value.ref b from ry)
    obtain ⟨us, r1, l1, _⟩ := I.list (.inl (Same.rd sb q1))
    obtain ⟨ws, r2, l2, _⟩ := I.list (.inl (Same.rd sb p1))
    have hsz : us.toArray.size = ws.toArray.size := by
      rw [List.size_toArray, List.size_toArray, ← r1.length, ← r2.length, q2.length, p2.length]
    have k := SeqAt.RcNeAt.lists (A := X.A) (e := fun _ => true) l1.isList l2.isList hsz (by omega) fun j j1 j2 => at_list I sb (fun d hd' x y v u => at_data I sb n d (List.all_eq_true.mp hd d hd') X.A.in1 (by show X.A.units + 1 + n + 64 < cLine; omega) x y v u) q2 p2 r1 r2 j j1 j2
    rw [show ((List.range us.toArray.size).all fun _ => true) = true from List.all_eq_true.mpr fun _ _ => rfl] at k
    exact k X.prog X.w _ _ fin
  | n + 1, .dict [], hd, hx, hy, _, _ =>
    cases hx with
    | @dct a q1 =>
    cases hy with
    | @dct b p1 =>
    cases (show v = Value.ref a from rx)
    cases (show u = Value.ref b from ry)
    obtain ⟨y1, d1⟩ := empty_dict I (sb _ _ q1)
    obtain ⟨y2, d2⟩ := empty_dict I (sb _ _ p1)
    exact PySem.W.keq_ne (knd := mixKind X.prog X.w) (ka := []) (kb := []) (r := true) y1 y2 d1 d2 (by omega) (fun _ => .nil) fin
  | n + 1, .none, hd, _, _, plain, _ => exact plain hd
  | n + 1, .bool _, hd, _, _, plain, _ => exact plain hd
  | n + 1, .int _, hd, _, _, plain, _ => exact plain hd
  | n + 1, .str _, hd, _, _, plain, _ => exact plain hd
  | n + 1, .tuple _, hd, _, _, plain, _ => exact plain hd
  | n + 1, .dict (_ :: _), hd, _, _, plain, _ => exact plain hd
/-- a list == [] -/
def rEqNil (K : PySem.W.Frag) : R2 := fun x y H Q => ∃ a b xs, x = .ref a ∧ y = .ref b ∧ SqL K H a xs ∧ SqL K H b [] ∧ Q (.bl xs.isEmpty) H
theorem op_eqNil (hu : X.A.units + 1 < cLine) : OpR X (compareOp .Eq) (rEqNil X.K) := by
  intro pins s σ H x y v u Q I rx ry h
  obtain ⟨a, b, xs, rfl, rfl, hx, hy, q⟩ := h
  cases (show v = Value.ref a from rx)
  cases (show u = Value.ref b from ry)
  obtain ⟨us, r1, l1, _⟩ := I.list hx
  obtain ⟨ws, r2, l2, _⟩ := I.list hy
  cases r2
  have fin : EP X pins σ Q (.bool xs.isEmpty) s := ⟨.bl _, H, I, rfl, q⟩
  cases r1 with
  | nil =>
    exact SeqAt.eq_listAt (e := fun _ => true) l1.isList l2.isList rfl (by omega) (fun j j1 j2 => absurd j1 (by simp)) fin
  | cons r rr =>
    refine SeqAt.eq_list_lengthsAt l1.isList l2.isList (by simp) (by omega) fin
end
section
variable {X : Cx} {G : Env X.K c} {a b e : Expr} {es : List Expr} {pos p : Pos} {d d1 d2 : D} {ds zs : List D} {k : Nat} {x : Str}
theorem units130 (C : Bd X k) : X.A.units + 130 < cLine := by have := C.room.un; omega
theorem dt_neK {n : Nat} (C : Bd X k) (ha : DE X G a d) (hb : DE X G b d) (hd : okd n d = true) (hn : n ≤ 60 := by decide) (hm : behindInMarks .NotEq b = false := by first | exact nomark _ (by decide) (by decide) | rfl) : DT X G (.Compare a [.NotEq] [b] pos) false := by
  obtain ⟨ta, pa, ra⟩ := ha
  obtain ⟨tb, pb, rb⟩ := hb
  refine ⟨_, pt_cmpR (op_neK (c := c) (units130 C)) pa pb hm, fun Z B H σ Q E g => ?_⟩
  refine ra Z B H σ _ E fun v B1 H1 e1 h1 => rb Z B1 H1 σ _ (E.ext e1) fun u B2 H2 e2 h2 => ?_
  exact ⟨B2, n, d, e2.sub, hn, hd, Tp.mono e2.b _ _ h1, h2, false, rfl, g B2 H2 (e1.trans e2)⟩
theorem od_eqNil (hu : X.A.units + 1 < cLine) : OpD c X (compareOp .Eq) (.list ds) (.list []) (.bool ds.isEmpty) := ⟨_, op_eqNil hu, fun B H x y Q s hx hy g => by
  obtain ⟨p, xs, rfl, h1, h2⟩ := Tm.seq s hx
  obtain ⟨q, ys, rfl, h3, h4⟩ := Tm.seq s hy
  cases h4
  have : xs.isEmpty = ds.isEmpty := by cases h2 <;> rfl
  exact ⟨p, q, xs, rfl, rfl, h1, h3, by rw [this]; exact gv_of s g (.bl _)⟩⟩
/-- {} -/
theorem de_dict0 : DE X G (.Dict [] [] pos) (.dict []) := ⟨_, pe_dnewK, fun Z B H σ Q E g p hp => g _ (upd B p (.dK [])) _ (Ext.lay E.sub _ hp) (.dct upd_same)⟩
/-- xs[lo:hi] of a list that is kept, its items of any kind -/
theorem dx_sliceF {lo hi : Option Expr} {l u : Option Int} {p2 : Pos} (ha : DE X G a (.list ds)) (hl : DO X G lo l) (hu : DO X G hi u) : DX X G (.Subscript a (.Slice lo hi none p2) pos) (so (cutD ds l u)) := by
  obtain ⟨ta, pa, ra⟩ := ha
  obtain ⟨tl, pl, rl⟩ := hl
  obtain ⟨tu, pu, ru⟩ := hu
  refine ⟨_, pe_slice sl_list pa pl pu, fun Z B H σ Q E g => ?_⟩
  refine ra Z B H σ _ E fun v B1 H1 e1 h1 => rl Z B1 H1 σ _ (E.ext e1) fun B2 H2 e2 => ru Z B2 H2 σ _ (E.ext (e1.trans e2)) fun B3 H3 e3 => ?_
  have e := (e1.trans e2).trans e3
  cases h1 with
  | lst q1 q2 =>
    refine ⟨_, _, rfl, .inl (((Kp.of e1.sub).trans (e2.trans e3).h).rd q1), fun r hr => gs_lst e3.sub (gs_ext e g) ?_ hr⟩
    have := TpAll.mono (e2.trans e3).b _ _ q2
    unfold cutV cutD
    rw [q2.length]
    exact (this.drop _).take _
/-- xs + ys: a kept list, a new one -/
theorem dl_x (h : DX X G e (so ds)) : DL X G e ds := dl_of h.frozen
/-- tuple(xs), a list whose items may be kept -/
theorem de_tupleL (ha : DE X G a (.list ds)) (hm : X.mg "tuple" = none) (hg : Gl X "tuple" := by rfl) (he : starEach (a :: []) X.env = (false, eval a X.env) :: starEach [] X.env := by rfl) (hpl : (backTo pos (starEach [] X.env)).any (·.1) = false := by rfl) :
    DE X G (.Call (.Name "tuple" p) [a] [] pos) (.tuple ds) := by
  obtain ⟨t, pa, r⟩ := ha
  refine ⟨_, pe_callTy call_tuple_of hg hm (by decide +kernel) (pa_cons pa pa_nil he) (by decide) (by decide) he hpl, fun Z B H σ Q E g => r Z B H σ _ E fun v B' H' e h => ?_⟩
  cases h with
  | lst q1 q2 => exact ⟨_, _, rfl, .inl ⟨.inl (Same.rd e.sub q1), fun l hl => g _ (upd B' l (.tup _)) _ (e.trans (Ext.lay e.sub _ hl)) (.tup (.inl upd_same) (TpAll.mono (same_upd (e.sub.free hl)) _ _ q2))⟩⟩
/-- list(t) of a tuple -/
theorem dx_listT (ha : DE X G a (.tuple ds)) (hm : X.mg "list" = none) (hg : Gl X "list" := by rfl) (he : starEach (a :: []) X.env = (false, eval a X.env) :: starEach [] X.env := by rfl) (hpl : (backTo pos (starEach [] X.env)).any (·.1) = false := by rfl) :
    DX X G (.Call (.Name "list" p) [a] [] pos) (so ds) := by
  obtain ⟨t, pa, r⟩ := ha
  refine ⟨_, pe_callTy call_list_of hg hm (by decide +kernel) (pa_cons pa pa_nil he) (by decide) (by decide) he hpl, fun Z B H σ Q E g => r Z B H σ _ E fun v B' H' e h => ?_⟩
  cases h with
  | tup h1 h2 => exact ⟨_, _, rfl, .inr (Same.tup e.sub h1.sq), fun l hl => gs_lst e.sub (gs_ext e g) h2 hl⟩
/-- list(xs) of a kept list, its items of any kind -/
theorem dx_listF (ha : DE X G a (.list ds)) (hm : X.mg "list" = none) (hg : Gl X "list" := by rfl) (he : starEach (a :: []) X.env = (false, eval a X.env) :: starEach [] X.env := by rfl) (hpl : (backTo pos (starEach [] X.env)).any (·.1) = false := by rfl) :
    DX X G (.Call (.Name "list" p) [a] [] pos) (so ds) := by
  obtain ⟨t, pa, r⟩ := ha
  refine ⟨_, pe_callTy call_list_of hg hm (by decide +kernel) (pa_cons pa pa_nil he) (by decide) (by decide) he hpl, fun Z B H σ Q E g => r Z B H σ _ E fun v B' H' e h => ?_⟩
  cases h with
  | lst h1 h2 => exact ⟨_, _, rfl, .inl (.inl (Same.rd e.sub h1)), fun l hl => gs_lst e.sub (gs_ext e g) h2 hl⟩
/-- t + u, u not empty -/
theorem de_catT (ha : DE X G a (.tuple ds)) (hb : DE X G b (.tuple zs)) (h1 : ds ≠ []) (h2 : zs ≠ []) (hl : ds.length + zs.length ≤ sizeLine) : DE X G (.BinOp a .Add b pos) (.tuple (ds ++ zs)) := by
  obtain ⟨ta, pa, ra⟩ := ha
  obtain ⟨tb, pb, rb⟩ := hb
  refine ⟨_, pe_op op_catT pa pb, fun Z B H σ Q E g => ?_⟩
  refine ra Z B H σ _ E fun v B1 H1 e1 q1 => rb Z B1 H1 σ _ (E.ext e1) fun u B2 H2 e2 q2 => ?_
  cases q1 with
  | tup k1 k2 =>
    cases q2 with
    | tup k3 k4 =>
      refine ⟨_, _, _, _, rfl, rfl, Same.tup e2.sub (Same.tupD e2.b k1).sq, Same.tup e2.sub k3.sq, fun z => h1 ?_, by rw [k2.length, k4.length]; exact hl, fun z => absurd ?_ h2, fun _ p hp => ?_⟩
      · exact List.length_eq_zero_iff.mp (by rw [← k2.length, z]; rfl)
      · exact List.length_eq_zero_iff.mp (by rw [← k4.length, z]; rfl)
      · exact g _ (upd B2 p (.tup _)) _ ((e1.trans e2).trans (Ext.lay e2.sub _ hp)) (.tup (.inl upd_same) (TpAll.mono (same_upd (e2.sub.free hp)) _ _ ((TpAll.mono e2.b _ _ k2).append k4)))
/-- xs.index(y): the first place -/
theorem de_index {n m j : Nat} {z : D} {pa : Pos} (hu : X.A.units + 65 < cLine) (ho : DR X G a (.list ds)) (hy : DE X G b d) (h1 : ShpA n ds) (h2 : Shp m d) (hj : ds[j]? = some z) (hz : PyData.eqv z d = true) (hb : ∀ i z', i < j → ds[i]? = some z' → PyData.eqv z' d = false)
    (l1 : n + 1 ≤ 64 := by decide) (l2 : m ≤ 64 := by decide) (hs : starEach [b] X.env = (false, eval b X.env) :: starEach [] X.env := by rfl)
    (hbase : attributeBase a "index" X.env (eval a X.env) = eval a X.env := by rfl)
    (hfew : ((backTo pos (starEach (b :: []) X.env)).all (fun x => !x.1) && (backToKw pos (keywordEach [] X.env)).all (fun x => x.1.isSome)
      && decide ((b :: []).length + ([] : List Keyword).length + (if ([] : List Keyword).isEmpty then 0 else 1) < 30)) = true := by rfl)
    (hline : (pa.endLine == pos.line) = true := by rfl) (hplain : (backTo pos (starEach [] X.env)).any (·.1) = false := by rfl) : DE X G (.Call (.Attribute a "index" pa) [b] [] pos) (.int (j : Nat)) := by
  obtain ⟨ta, pa', ra⟩ := ho
  obtain ⟨tb, pb, rb⟩ := hy
  refine ⟨_, pe_bm PySem.F.plainAttrs_list PySem.F.slot_list_index PySem.F.type_list_index (mt_indexD hu) pa' (pa_cons pb pa_nil hs) hbase hfew hline hs hplain, fun Z B H σ Q E g => ?_⟩
  refine ra Z B H σ _ E fun v B1 H1 e1 q1 => ?_
  obtain ⟨p, xs, rfl, k1, k2⟩ := Tm.seq e1.sub q1
  have tv : tyV X.K "list" (.ref p) H1 := by
    rcases k1 with k1 | k1
    · exact Or.inl ⟨rfl, _, .inl k1⟩
    · exact Or.inl ⟨rfl, _, .inr k1⟩
  refine ⟨tv, rb Z B1 H1 σ _ (E.ext e1) fun u B2 H2 e2 q2 => ?_⟩
  refine ⟨p, u, d, ds, j, z, rfl, rfl, .lst (e2.h.seq k1) (TmAll.dpn e2.sub _ _ (TmAll.mono e2.h e2.b _ _ k2) h1.1), Tm.dp e2.sub (.of q2) h2, (Shp.list h1).shaped l1, h2.shaped l2, hj, hz, hb, g _ B2 H2 (e1.trans e2) (.int _)⟩
end
end Dw

namespace Dw
open PySem L2 PyProof.Rows
variable {c : Cl}
section
variable {X : Cx} {G : Env X.K c} {a b e : Expr} {es : List Expr} {pos p : Pos} {d d1 d2 : D} {ds zs : List D} {k : Nat} {x : Str}
theorem od_eqU {n m : Nat} (hu : X.A.units + 65 < cLine) (h1 : Shp n d1) (h2 : Shp m d2) (l1 : n ≤ 64 := by decide) (l2 : m ≤ 64 := by decide) : OpD c X (compareOp .Eq) d1 d2 (.bool (PyData.eqv d1 d2)) :=
  ⟨_, op_eqD (by omega), fun B H x y Q s hx hy g => ⟨d1, d2, hx.dp s h1, hy.dp s h2, h1.shaped l1, h2.shaped l2, gv_of s g (.bl _)⟩⟩
theorem od_eqEU {α : Type} [DecidableEq α] [En α] (hu : X.A.units + 65 < cLine) (x y : α) (l : En.dep α ≤ 64 := by decide) : OpD c X (compareOp .Eq) (enc x) (enc y) (.bool (decide (x = y))) := by
  rw [← En.eqv]
  exact od_eqU hu (En.shp x) (En.shp y) l l
theorem od_eqIU (hu : X.A.units + 65 < cLine) {i j : Int} : OpD c X (compareOp .Eq) (.int i) (.int j) (.bool (decide (i = j))) := od_eqEU hu i j
def Lit (X : Cx) (e : Expr) (wi : TI) : Prop := ∃ tl, PE X e tl ∧ wi = iList X.K tl
theorem dip_list (h : DE X G e (.list ds)) : DIp (Lit X e) X G ds.length (fun i => sd (K := X.K) (c := c) (ds[i]?.getD .none)) := by
  obtain ⟨t, p, r⟩ := h
  refine ⟨_, ⟨_, p, rfl⟩, fun Z B H σ R E g => r Z B H σ _ E fun v B' H' e h => ?_⟩
  cases h with
  | lst hs ha => exact ⟨_, rfl, ⟨_, .inl (Same.rd e.sub hs)⟩, g _ B' H' e (walk_list hs ha)⟩
theorem dx_lcHot {elt tg iter : Expr} {ifs : List Expr} {scope : Scope} {s : Slot X.K c} (hc : L2H.HotC X) (nd : X.N.Nodup) (h : DLcP (Lit X iter) X G elt tg ifs scope s) (hs : ∀ x, foldedSetIterable iter X.env x = pure x := by intro _; rfl) : DX X G (.ListComp elt [⟨tg, iter, ifs, 0⟩] scope pos) s := by
  obtain ⟨own, wi, g, tt, te, ⟨tl, h1, rfl⟩, h2, h3, h4, h5, h6⟩ := h
  exact ⟨_, pe_lcH hc nd h1 h2 h3 h4 h5 hs, h6⟩
end
section
variable {X : Cx} {a : Addr} {oe : Obj} {pn : List (Addr × Obj)} {D : Addr}
theorem hot_suite {cls : Value} (hz : L2N.Zn cls none oe) (hf : ∃ vs, oe.data = .fields vs) : L2H.HotC (X.suite a ((a, oe) :: pn)) := by
  obtain ⟨vs, e⟩ := hf
  exact ⟨(a, oe), ⟨rfl, vs, e, hz.2.2 vs e⟩, List.mem_cons_self⟩
/-- isinstance(e, C), C an own class -/
theorem de_isE {G : Env (X.suite a ((a, oe) :: pn)).K c} {n y : Str} {A : Addr} {b : Bool} {p q1 q2 pos : Pos} (T : ExcC X.K D) (hz : L2N.Zn (.ref D) none oe) (hf : ∃ vs, oe.data = .fields vs) (i : Nat) (hk : PySem.W.kitOne X.K (.ref D) (.ref A) = some b) (hmy : X.mg y = some (.ref A)) (hm : X.mg "isinstance" = none)
    (hG : G[i]? = some (some (sv (.ref a))) := by rfl) (hN : X.N[i]? = some n := by rfl) (hv : Vis X.env.scope n := by first | exact Or.inl rfl | exact Or.inr (Or.inl rfl) | exact Or.inr (Or.inr rfl)) (hd : (n == ("__debug__" : Str)) = false := by decide)
    (hcd : (n == ("__classdict__" : Str)) = false := by decide) (hg : Gl X "isinstance" := by rfl) (hgy : Gl X y := by rfl) (hdb : (y == ("__debug__" : Str)) = false := by decide)
    (he : starEach (.Name n q1 :: [.Name y q2]) X.env = (false, eval (.Name n q1) X.env) :: starEach [.Name y q2] X.env := by rfl) (he2 : starEach [.Name y q2] X.env = (false, eval (.Name y q2) X.env) :: starEach [] X.env := by rfl) (hpl : (backTo pos (starEach [.Name y q2] X.env)).any (·.1) = false := by rfl) :
    DE (X.suite a ((a, oe) :: pn)) G (.Call (.Name "isinstance" p) [.Name n q1, .Name y q2] [] pos) (.bool b) := by
  refine ⟨_, pe_callB (call_isE T hz.zc hf) hg hm (by decide +kernel) (pa_cons (pv (X := X.suite a ((a, oe) :: pn)) i hN hv hd hcd) (pa_cons (pe_glob (v := .ref A) hgy hmy rfl hdb) pa_nil he2) he) (by decide) (by decide) he hpl, fun Z B H σ Q E g => ?_⟩
  obtain ⟨v, fp, h1, h2, _⟩ := E.sl i _ hG
  subst h2
  exact ⟨_, h1, .ref A, .ref A, b, rfl, fun u h => h, hk, gv_of E.sub g (.bl b)⟩
/-- .. T a built-in class -/
theorem de_isET {G : Env (X.suite a ((a, oe) :: pn)).K c} {n y : Str} {b : Bool} {p q1 q2 pos : Pos} (tn : String) (T : ExcC X.K D) (hz : L2N.Zn (.ref D) none oe) (hf : ∃ vs, oe.data = .fields vs) (i : Nat) (hk : PySem.W.kitOne X.K (.ref D) (.type tn) = some b) (hmy : X.mg y = none) (hm : X.mg "isinstance" = none) (hvT : bootBuiltins y = some (.type tn) := by decide +kernel)
    (hG : G[i]? = some (some (sv (.ref a))) := by rfl) (hN : X.N[i]? = some n := by rfl) (hv : Vis X.env.scope n := by first | exact Or.inl rfl | exact Or.inr (Or.inl rfl) | exact Or.inr (Or.inr rfl)) (hd : (n == ("__debug__" : Str)) = false := by decide)
    (hcd : (n == ("__classdict__" : Str)) = false := by decide) (hg : Gl X "isinstance" := by rfl) (hgy : Gl X y := by rfl) (hdb : (y == ("__debug__" : Str)) = false := by decide) (hn : y ≠ "__name__" := by decide)
    (he : starEach (.Name n q1 :: [.Name y q2]) X.env = (false, eval (.Name n q1) X.env) :: starEach [.Name y q2] X.env := by rfl) (he2 : starEach [.Name y q2] X.env = (false, eval (.Name y q2) X.env) :: starEach [] X.env := by rfl) (hpl : (backTo pos (starEach [.Name y q2] X.env)).any (·.1) = false := by rfl) :
    DE (X.suite a ((a, oe) :: pn)) G (.Call (.Name "isinstance" p) [.Name n q1, .Name y q2] [] pos) (.bool b) := by
  refine ⟨_, pe_callB (call_isE T hz.zc hf) hg hm (by decide +kernel) (pa_cons (pv (X := X.suite a ((a, oe) :: pn)) i hN hv hd hcd) (pa_cons (pe_bltn (v := .ty tn) hgy hmy hvT rfl hn hdb) pa_nil he2) he) (by decide) (by decide) he hpl, fun Z B H σ Q E g => ?_⟩
  obtain ⟨v, fp, h1, h2, _⟩ := E.sl i _ hG
  subst h2
  exact ⟨_, h1, .ty tn, .type tn, b, rfl, fun u h => h, hk, gv_of E.sub g (.bl b)⟩
end
/-- what can't be -/
def nev {K : PySem.W.Frag} : Slot K c where
  par := false
  P := fun _ _ _ _ _ => False
  stb := fun h _ _ _ => h
  dom := fun h => h.elim
theorem dss_nev {X : Cx} {G : Env X.K c} {sts : List Stmt} {Ph : Out X.K c → Prop} (i : Nat) (hG : G[i]? = some (some nev) := by rfl) : DSs X G sts Ph := fun F B H σ D S E => by
  obtain ⟨fps, h1, _⟩ := S.sl
  obtain ⟨v, _, h, _⟩ := h1 i _ hG
  exact h.elim
end Dw

namespace Dw
open PySem L2 PyProof.Rows
variable {c : Cl}
abbrev Cell := Int × Int
def cK (p : Cell) : List Key := [.inl p.1, .inl p.2]
theorem cK_inj {p q : Cell} (h : cK p = cK q) : p = q := by
  simp only [cK, List.cons.injEq, Sum.inl.injEq, and_true] at h
  exact Prod.ext h.1 h.2
abbrev cV (p : Cell) : List V := [.int p.1, .int p.2]
abbrev Ents := List (List Key × Addr × Value)
/-- what is true of a dict's object -/
def DOk (P : Program) (w : World) (a : Addr) (o : Obj) (xs : Ents) : Prop :=
  (a == sysModules) = false ∧ xs.length ≤ sizeLine ∧ ∃ es ep, o.ExactDict ∧ o.data = .dict es ep ∧ es.toList = xs.map (entryOfKey (tupleKind (mixKind P w))) ∧ (xs.map (·.1)).Nodup
def dctO (a : Addr) (o : Obj) : HO := .ext fun h => h.get? a = some o
theorem dctO_ok {P : Program} {w : World} {H : Hp} {h : Heap} {a : Addr} {o : Obj} (x : h.get? a = some o) : ObjOk P w H h a (dctO a o) :=
  ⟨x, ⟨o, x⟩, fun _ _ z k => k o z⟩
theorem nt_dct {P : Program} {w : World} {a : Addr} {o : Obj} {xs : Ents} (k : DOk P w a o xs) : NT (dctO a o) := by
  refine ⟨fun _ z => (by unfold dctO at z; cases z), fun c q z => ?_⟩
  unfold dctO LamX.CodeO at z
  injection z with z
  let ob : Obj := { cls := .none, data := .fields #[.none, .str q 0] }
  let h : Heap := { objs := Array.replicate (c + 1) ob }
  have hg : ∀ b o, h.get? b = some o → o = ob := fun b o e => by
    unfold Heap.get? at e
    cases e2 : h.objs[b]? with
    | none => rw [e2] at e; cases e
    | some o2 =>
      have e3 : o2 = ob := by
        have hb := e2
        rw [Array.getElem?_replicate] at hb
        split at hb
        · exact (Option.some.inj hb).symm
        · cases hb
      rw [e2, e3] at e
      exact (Option.some.inj e).symm
  have hc : h.get? c = some ob := by
    unfold Heap.get?
    have : h.objs[c]? = some ob := by rw [Array.getElem?_replicate, if_pos (by omega)]
    rw [this]
  have y : (fun h : Heap => h.get? a = some o) h := by
    rw [z]
    exact ⟨ob, #[.none, .str q 0], 0, hc, rfl, rfl⟩
  obtain ⟨_, _, es, ep, _, hd, _⟩ := k
  rw [hg _ _ y] at hd
  cases hd
def XKey (K : PySem.W.Frag) (H : Hp) (b : Addr) (k : Cell) : Prop := SqT K H b (cV k)
def XKeys (K : PySem.W.Frag) (H : Hp) (xs : Ents) : Prop := ∀ q ∈ xs, ∃ k : Cell, q.1 = cK k ∧ XKey K H q.2.1 k
structure XD (X : Cx) (H : Hp) (a : Addr) (xs : Ents) : Prop where
  ex : ∃ o, Rd H a (dctO a o) ∧ DOk X.prog X.w a o xs
  keys : XKeys X.K H xs
section
variable {X : Cx} {pins : List (Addr × Obj)} {σ : Sg} {H : Hp} {s : Shared} {a b : Addr} {xs : Ents} {k : Cell} {u r : Value} {A : Around} {E : Value → Shared → Prop}
theorem k_of (I : Inv X pins σ H s) (h : XKey X.K H b k) : (tupleKind (mixKind X.prog X.w)).is s.heap (cK k) b := by
  obtain ⟨its, r, ⟨o, h1, h2, n, h3⟩, _⟩ := I.tuple h
  refine ⟨o, its.toArray, n, h1, h2, h3, ?_⟩
  have e : cV k = (cK k).map kV := rfl
  rw [e] at r
  simpa using items_are r
theorem xd_raw (I : Inv X pins σ H s) (h : XD X H a xs) : ∃ o, s.heap.get? a = some o ∧ DOk X.prog X.w a o xs := by
  obtain ⟨o, h1, h2⟩ := h.ex
  obtain ⟨e, _⟩ := h1.ok I.hok
  exact ⟨o, e, h2⟩
theorem xd_of (I : Inv X pins σ H s) (h : XD X H a xs) : (a == sysModules) = false ∧ xs.length ≤ sizeLine ∧ s.heap.DictOfH (tupleKind (mixKind X.prog X.w)) a xs := by
  obtain ⟨o, h1, z1, z2, es, ep, h2, h3, h4, h5⟩ := xd_raw I h
  refine ⟨z1, z2, o, es, ep, h1, h2, h3, h4, fun q hq => ?_, h5⟩
  obtain ⟨k, e, hk⟩ := h.keys q hq
  rw [e]
  exact k_of I hk
theorem xd_there (I : Inv X pins σ H s) (h : XD X H a xs) : s.TypeIs (.ref a) "dict" ∧ ∀ b, Value.ref a = .ref b → ∃ ob, s.heap.get? b = some ob ∧ ob.dict = none := by
  obtain ⟨_, _, dd⟩ := xd_of I h
  refine ⟨dd.typeIs, fun b q => ?_⟩
  cases q
  obtain ⟨ob, _, _, h1, h2, _⟩ := dd
  exact ⟨ob, h1, h2.2.1⟩
theorem x_getItem {Q : Value → Shared → Prop} {p : Addr × Value} (hu : A.units + 1 < cLine) (I : Inv X pins σ H s) (h : XD X H a xs) (hk : XKey X.K H b k) (hp : atKey xs (cK k) = some p) (g : ∀ s', Inv X pins σ H s' → Q p.2 s') :
    wpAny (model X.prog X.w) A (getItem (.ref a) (.ref b)) Q E s := by
  obtain ⟨_, _, dd⟩ := xd_of I h
  exact wpAny_getItem_heap (tupleKind_room_in1 hu) (k_of I hk) dd hp (g _ (I.tok _))
theorem x_in {Q : Value → Shared → Prop} (hu : A.units + 1 < cLine) (I : Inv X pins σ H s) (h : XD X H a xs) (hk : XKey X.K H b k) (g : ∀ s', Inv X pins σ H s' → Q (.bool (atKey xs (cK k)).isSome) s') :
    wpAny (model X.prog X.w) A (compareOp .In (.ref b) (.ref a)) Q E s := by
  obtain ⟨hd, _, dd⟩ := xd_of I h
  exact wpAny_in_heap (tupleKind_room_in1 hu) (k_of I hk) hd dd (g _ (I.tok _))
theorem x_notIn {Q : Value → Shared → Prop} (hu : A.units + 1 < cLine) (I : Inv X pins σ H s) (h : XD X H a xs) (hk : XKey X.K H b k) (g : ∀ s', Inv X pins σ H s' → Q (.bool (!(atKey xs (cK k)).isSome)) s') :
    wpAny (model X.prog X.w) A (compareOp .NotIn (.ref b) (.ref a)) Q E s := by
  obtain ⟨hd, _, dd⟩ := xd_of I h
  exact wpAny_notIn_heap (tupleKind_room_in1 hu) (k_of I hk) hd dd (g _ (I.tok _))
theorem x_get1 {Q : Value → Shared → Prop} (hu : A.units + 1 < cLine) (I : Inv X pins σ H s) (h : XD X H a xs) (hk : XKey X.K H b k) (g : ∀ s', Inv X pins σ H s' → Q (((atKey xs (cK k)).map (·.2)).getD .none) s') :
    wpAny (model X.prog X.w) A (call (.builtin "dict.get") [.ref a, .ref b]) Q E s := by
  obtain ⟨hd, _, dd⟩ := xd_of I h
  exact call_meetsIn PySem.F.slot_dict_get dd.typeIs PySem.F.entry_dict_get (PySem.F.args_dict_get_2 _ _) (meetsH_dict_get (tupleKind (mixKind X.prog X.w)) a b hd) ⟨tupleKind_room_in1 hu, cK k, xs, k_of I hk, dd, g _ (I.tok _)⟩
theorem x_get2 {Q : Value → Shared → Prop} (hu : A.units + 1 < cLine) (I : Inv X pins σ H s) (h : XD X H a xs) (hk : XKey X.K H b k) (g : ∀ s', Inv X pins σ H s' → Q (((atKey xs (cK k)).map (·.2)).getD r) s') :
    wpAny (model X.prog X.w) A (call (.builtin "dict.get") [.ref a, .ref b, r]) Q E s := by
  obtain ⟨hd, _, dd⟩ := xd_of I h
  exact call_meetsIn PySem.F.slot_dict_get dd.typeIs PySem.F.entry_dict_get (PySem.F.args_dict_get_3 _ _ _) (meetsH_dict_get_default (tupleKind (mixKind X.prog X.w)) a b hd r) ⟨tupleKind_room_in1 hu, cK k, xs, k_of I hk, dd, g _ (I.tok _)⟩
/-- the dict is written -/
theorem x_write {h' : Heap} {tk : Nat} {ys : Ents} {o : Obj} (I : Inv X pins σ H s) (e : H a = some (dctO a o)) (hd : (a == sysModules) = false) (hl : ys.length ≤ sizeLine) (dd : h'.DictOfH (tupleKind (mixKind X.prog X.w)) a ys) (hs : Heap.SameBut a s.heap h') :
    ∃ o', DOk X.prog X.w a o' ys ∧ Inv X pins σ (upd H a (dctO a o')) { s with heap := h', toks := tk } := by
  obtain ⟨o', es, ep, hq, h2, h3, h4, _, h5⟩ := dd
  exact ⟨o', ⟨hd, hl, es, ep, h2, h3, h4, h5⟩, d_write I (by rw [e]; exact True.intro) hs ⟨o', hq⟩ (dctO_ok hq)⟩
theorem len_stored (xs : Ents) (k : List Key) (b : Addr) (v : Value) : (storedH xs k b v).length ≤ xs.length + 1 := by
  unfold storedH
  split
  · rw [List.length_map]; omega
  · rw [List.length_append]; simp
theorem x_setItem {Q : Unit → Shared → Prop} {o : Obj} (hu : A.units + 1 < cLine) (I : Inv X pins σ H s) (e : H a = some (dctO a o)) (ok : DOk X.prog X.w a o xs) (hks : XKeys X.K H xs) (hk : XKey X.K H b k) (hl : xs.length < sizeLine)
    (g : ∀ o' s', DOk X.prog X.w a o' (storedH xs (cK k) b r) → Inv X pins σ (upd H a (dctO a o')) s' → Q () s') : wpAny (model X.prog X.w) A (setItem (.ref a) (.ref b) r) Q E s := by
  obtain ⟨hd, hz, dd⟩ := xd_of I ⟨⟨o, .inl e, ok⟩, hks⟩
  refine wpAny_setItem_heap (hsz := hz) (tupleKind_room_in1 hu) (k_of I hk) dd fun h' dd' hs => ?_
  obtain ⟨o', k', I'⟩ := x_write I e hd (by have := len_stored xs (cK k) b r; omega) dd' hs
  exact g o' _ k' I'
theorem x_pop {Q : Value → Shared → Prop} {p : Addr × Value} {o : Obj} (hu : A.units + 1 < cLine) (I : Inv X pins σ H s) (e : H a = some (dctO a o)) (ok : DOk X.prog X.w a o xs) (hks : XKeys X.K H xs) (hk : XKey X.K H b k) (hp : atKey xs (cK k) = some p)
    (g : ∀ o' s', DOk X.prog X.w a o' (withoutH xs (cK k)) → Inv X pins σ (upd H a (dctO a o')) s' → Q p.2 s') : wpAny (model X.prog X.w) A (call (.builtin "dict.pop") [.ref a, .ref b]) Q E s := by
  obtain ⟨hd, hz, dd⟩ := xd_of I ⟨⟨o, .inl e, ok⟩, hks⟩
  refine call_pop_heap (more := []) (.inl rfl) (PySem.F.args_dict_pop_2 _ _) (tupleKind_room_in1 hu) (k_of I hk) hd dd hp (fun h' dd' hs => ?_) hz
  obtain ⟨o', k', I'⟩ := x_write I e hd (Nat.le_trans (List.length_filter_le _ _) hz) dd' hs
  exact g o' _ k' I'
end
section
variable {X : Cx} {o i e f value : Expr} {pos pos' apos cpos : Pos} {td ty tx tv : TE}
def tXGet (X : Cx) (td ty : TE) : TE := fun σ H Q => td σ H fun x H1 => ty σ H1 fun y H2 => ∃ a b xs k p v, x = .ref a ∧ y = .ref b ∧ XD X H2 a xs ∧ XKey X.K H2 b k ∧ atKey xs (cK k) = some p ∧ RelV v p.2 ∧ Q v H2
def tXIn (X : Cx) (neg : Bool) (ty td : TE) : TE := fun σ H Q => ty σ H fun y H1 => td σ H1 fun x H2 => ∃ a b xs k, x = .ref a ∧ y = .ref b ∧ XD X H2 a xs ∧ XKey X.K H2 b k ∧ Q (.bl (if neg then !(atKey xs (cK k)).isSome else (atKey xs (cK k)).isSome)) H2
def tXGet1 (X : Cx) (td ty : TE) : TE := fun σ H Q => td σ H fun x H1 => ∃ a xs, x = .ref a ∧ XD X H1 a xs ∧ ty σ H1 fun y H2 => ∃ b k v, y = .ref b ∧ XD X H2 a xs ∧ XKey X.K H2 b k ∧ RelV v (((atKey xs (cK k)).map (·.2)).getD .none) ∧ Q v H2
def tXGet2 (X : Cx) (td ty tx : TE) : TE := fun σ H Q => td σ H fun x H1 => ∃ a xs, x = .ref a ∧ XD X H1 a xs ∧ ty σ H1 fun y H2 => tx σ H2 fun z H3 => ∃ b k v, y = .ref b ∧ XD X H3 a xs ∧ XKey X.K H3 b k ∧ (∀ r, RelV z r → RelV v (((atKey xs (cK k)).map (·.2)).getD r)) ∧ Q v H3
def sXPut (X : Cx) (td ty tv : TE) : TS := fun D σ H => tv σ H fun v H1 => td σ H1 fun x H2 => ty σ H2 fun y H3 => ∃ a b xs k o, x = .ref a ∧ y = .ref b ∧ H3 a = some (dctO a o) ∧ DOk X.prog X.w a o xs ∧ XKeys X.K H3 xs ∧ XKey X.K H3 b k ∧ xs.length < sizeLine ∧
  ∀ r o', RelV v r → DOk X.prog X.w a o' (storedH xs (cK k) b r) → D.nx σ (upd H3 a (dctO a o'))
def tXPop (X : Cx) (td ty : TE) : TE := fun σ H Q => td σ H fun x H1 => ∃ a xs, x = .ref a ∧ XD X H1 a xs ∧ ty σ H1 fun y H2 => ∃ b k p v o, y = .ref b ∧ H2 a = some (dctO a o) ∧ DOk X.prog X.w a o xs ∧ XKeys X.K H2 xs ∧ XKey X.K H2 b k ∧ atKey xs (cK k) = some p ∧ RelV v p.2 ∧ ∀ o', DOk X.prog X.w a o' (withoutH xs (cK k)) → Q v (upd H2 a (dctO a o'))
theorem pe_xget (hu : X.A.units + 1 < cLine) (ho : PE X o td) (hi : PE X i ty) (hs : NoSl i) : PE X (.Subscript o i pos) (tXGet X td ty) := by
  refine ⟨fun pins s σ H Q I h => ?_⟩
  refine subD_of PySem.F.slot_dict_getitem.lookup hs (thn (ho.run pins s σ H _ I h) fun u s1 ⟨x, H1, I1, rx, q1⟩ => thn (hi.run pins s1 σ H1 _ I1 q1) fun iv s2 ⟨y, H2, I2, ry, a, b, xs, k, p, v, ex, ey, hd, hk, hp, rv, q2⟩ => ?_)
  subst ex ey
  obtain rfl : u = Value.ref a := rx
  obtain rfl : iv = Value.ref b := ry
  exact ⟨(xd_there I2 hd).1, x_getItem hu I2 hd hk hp fun s3 I3 => ⟨v, H2, I3, rv, q2⟩⟩
theorem pc_xin (hu : X.A.units + 1 < cLine) (hi : PE X i ty) (ho : PE X o td) : PC X .In i o (tXIn X false ty td) := by
  refine ⟨fun pins s σ H Q I h => ?_⟩
  refine thn (hi.run pins s σ H _ I h) fun iv s1 ⟨y, H1, I1, ry, q1⟩ => thn (ho.run pins s1 σ H1 _ I1 q1) fun u s2 ⟨x, H2, I2, rx, a, b, xs, k, ex, ey, hd, hk, q2⟩ => ?_
  subst ex ey
  obtain rfl : u = Value.ref a := rx
  obtain rfl : iv = Value.ref b := ry
  exact x_in hu I2 hd hk fun s3 I3 => ⟨.bl _, H2, I3, rfl, q2⟩
theorem pc_xnotin (hu : X.A.units + 1 < cLine) (hi : PE X i ty) (ho : PE X o td) : PC X .NotIn i o (tXIn X true ty td) := by
  refine ⟨fun pins s σ H Q I h => ?_⟩
  refine thn (hi.run pins s σ H _ I h) fun iv s1 ⟨y, H1, I1, ry, q1⟩ => thn (ho.run pins s1 σ H1 _ I1 q1) fun u s2 ⟨x, H2, I2, rx, a, b, xs, k, ex, ey, hd, hk, q2⟩ => ?_
  subst ex ey
  obtain rfl : u = Value.ref a := rx
  obtain rfl : iv = Value.ref b := ry
  exact x_notIn hu I2 hd hk fun s3 I3 => ⟨.bl _, H2, I3, rfl, q2⟩
theorem pe_xget1 (hu : X.A.units + 1 < cLine) (ho : PE X o td) (he : PE X e ty) (m : M1 X o "get" apos e cpos) : PE X (.Call (.Attribute o "get" apos) [e] [] cpos) (tXGet1 X td ty) := by
  refine ⟨fun pins s σ H Q I h => ?_⟩
  refine wpAny_Call_method m.base m.few m.line PySem.F.plainAttrs_dict PySem.F.slot_dict_get PySem.F.type_dict_get (thn (ho.run pins s σ H _ I h) fun u s1 ⟨x, H1, I1, rx, a, xs, ex, hd, q1⟩ => ?_)
  subst ex
  obtain rfl : u = Value.ref a := rx
  obtain ⟨t1, t2⟩ := xd_there I1 hd
  refine ⟨t1, t2, ?_⟩
  rw [m.trees]
  refine Calls.callWith_builtin rfl (Calls.evalArgs_plain (Calls.spliced_cons (thn (he.run pins s1 σ H1 _ I1 q1) fun iv s2 ⟨y, H2, I2, ry, b, k, v, ey, hd2, hk, rv, q2⟩ => Calls.spliced_nil ?_)))
  subst ey
  obtain rfl : iv = Value.ref b := ry
  exact x_get1 hu I2 hd2 hk fun s3 I3 => ⟨v, H2, I3, rv, q2⟩
theorem pe_xget2 (hu : X.A.units + 1 < cLine) (ho : PE X o td) (he : PE X e ty) (hf : PE X f tx) (m : M2 X o "get" apos e f cpos) : PE X (.Call (.Attribute o "get" apos) [e, f] [] cpos) (tXGet2 X td ty tx) := by
  refine ⟨fun pins s σ H Q I h => ?_⟩
  refine wpAny_Call_method m.base m.few m.line PySem.F.plainAttrs_dict PySem.F.slot_dict_get PySem.F.type_dict_get (thn (ho.run pins s σ H _ I h) fun u s1 ⟨x, H1, I1, rx, a, xs, ex, hd, q1⟩ => ?_)
  subst ex
  obtain rfl : u = Value.ref a := rx
  obtain ⟨t1, t2⟩ := xd_there I1 hd
  refine ⟨t1, t2, ?_⟩
  rw [m.trees]
  refine Calls.callWith_builtin rfl (Calls.evalArgs_plain (Calls.spliced_cons (thn (he.run pins s1 σ H1 _ I1 q1) fun iv s2 ⟨y, H2, I2, ry, q2⟩ => Calls.spliced_cons (thn (hf.run pins s2 σ H2 _ I2 q2) fun fv s3 ⟨z, H3, I3, rz, b, k, v, ey, hd2, hk, rv, q3⟩ => Calls.spliced_nil ?_))))
  subst ey
  obtain rfl : iv = Value.ref b := ry
  exact x_get2 hu I3 hd2 hk fun s4 I4 => ⟨v, H3, I4, rv _ rz, q3⟩
theorem ps_xput (hu : X.A.units + 1 < cLine) (ho : PE X o td) (hi : PE X i ty) (hv : PE X value tv) (hs : swapsWith value (some (.Subscript o i pos')) pos.line X.env = pure false) :
    PS X (.Assign [.Subscript o i pos'] value pos) (sXPut X td ty tv) := by
  refine ⟨fun pins s σ H D I h => ?_⟩
  refine wpAny_Assign_Subscript (thn (hv.run pins s σ H _ I h) fun r s1 ⟨v, H1, I1, rv, q1⟩ => thn (ho.run pins s1 σ H1 _ I1 q1) fun u s2 ⟨x, H2, I2, rx, q2⟩ => thn (hi.run pins s2 σ H2 _ I2 q2) fun iv s3 ⟨y, H3, I3, ry, a, b, xs, k, ob, ex, ey, hd, ok, hks, hk, hl, q3⟩ => ?_) hs
  subst ex ey
  obtain rfl : u = Value.ref a := rx
  obtain rfl : iv = Value.ref b := ry
  exact x_setItem hu I3 hd ok hks hk hl fun o' s4 k4 I4 => ⟨σ, _, I4, q3 r o' rv k4⟩
theorem pe_xpop (hu : X.A.units + 1 < cLine) (ho : PE X o td) (he : PE X e ty) (m : M1 X o "pop" apos e cpos) : PE X (.Call (.Attribute o "pop" apos) [e] [] cpos) (tXPop X td ty) := by
  refine ⟨fun pins s σ H Q I h => ?_⟩
  refine wpAny_Call_method m.base m.few m.line PySem.F.plainAttrs_dict PySem.F.slot_dict_pop PySem.F.type_dict_pop (thn (ho.run pins s σ H _ I h) fun u s1 ⟨x, H1, I1, rx, a, xs, ex, hd, q1⟩ => ?_)
  subst ex
  obtain rfl : u = Value.ref a := rx
  obtain ⟨t1, t2⟩ := xd_there I1 hd
  refine ⟨t1, t2, ?_⟩
  rw [m.trees]
  refine Calls.callWith_builtin rfl (Calls.evalArgs_plain (Calls.spliced_cons (thn (he.run pins s1 σ H1 _ I1 q1) fun iv s2 ⟨y, H2, I2, ry, b, k, p, v, ob, ey, hd2, ok, hks, hk, hp, rv, q2⟩ => Calls.spliced_nil ?_)))
  subst ey
  obtain rfl : iv = Value.ref b := ry
  exact x_pop hu I2 hd2 ok hks hk hp fun o' s3 k3 I3 => ⟨v, _, I3, rv, q2 o' k3⟩
def dct0 : Obj := { cls := .type "dict", data := .dict #[] }
theorem dok_nil {P : Program} {w : World} {a : Addr} (h : (a == sysModules) = false) : DOk P w a dct0 [] := ⟨h, Nat.zero_le _, #[], 0, ⟨rfl, rfl, rfl⟩, rfl, rfl, List.nodup_nil⟩
def tXNew (X : Cx) : TE := fun _ H Q => ∀ p, H p = none → (p == sysModules) = false → Q (.ref p) (upd H p (dctO p dct0))
theorem pe_xnew : PE X (.Dict [] [] pos) (tXNew X) := ⟨fun pins s σ H Q I h =>
  wpAny_Dict_empty ⟨.ref s.heap.objs.size, _, I.laid (a := s.heap.objs.size) (o := dctO s.heap.objs.size dct0) (t' := s.toks) (fun _ _ q => Heap.get?_push_of_some _ q) (Nat.le_refl _) (dctO_ok (Heap.get?_push_size _ rfl)), rfl, h _ (I.hok.fresh (Nat.le_refl _)) (beq_eq_false_iff_ne.mpr (Ne.symm (Nat.ne_of_lt I.big)))⟩⟩
end
end Dw

namespace Dw
open PySem L2 PyProof.Rows
variable {c : Cl}
section
variable {α : Type}
def look (kvs : List (Cell × α)) (k : Cell) : Option α := (kvs.find? fun p => decide (p.1 = k)).map (·.2)
def put (kvs : List (Cell × α)) (k : Cell) (x : α) : List (Cell × α) := if (look kvs k).isSome then kvs.map fun p => if p.1 = k then (p.1, x) else p else kvs ++ [(k, x)]
def drop (kvs : List (Cell × α)) (k : Cell) : List (Cell × α) := kvs.filter fun p => decide (p.1 ≠ k)
theorem look_nil {k : Cell} : look ([] : List (Cell × α)) k = none := rfl
theorem look_pos {p : Cell × α} {r : List (Cell × α)} {k : Cell} (e : p.1 = k) : look (p :: r) k = some p.2 := by simp [look, List.find?_cons, e]
theorem look_neg {p : Cell × α} {r : List (Cell × α)} {k : Cell} (e : ¬ p.1 = k) : look (p :: r) k = look r k := by simp [look, List.find?_cons, e]
theorem look_map (k j : Cell) (y : α) : ∀ kvs : List (Cell × α), look (kvs.map fun p => if p.1 = k then (p.1, y) else p) j = (look kvs j).map fun x => if j = k then y else x
  | [] => rfl
  | p :: r => by
    rw [List.map_cons]
    by_cases e : p.1 = j
    · by_cases e2 : p.1 = k
      · rw [if_pos e2, look_pos (show (p.1, y).1 = j from e), look_pos e]
        simp [← e, e2]
      · rw [if_neg e2, look_pos e, look_pos e]
        have : ¬ j = k := fun z => e2 (e.trans z)
        simp [this]
    · have : ¬ (if p.1 = k then (p.1, y) else p).1 = j := by split <;> exact e
      rw [look_neg this, look_neg e]
      exact look_map k j y r
theorem look_snoc (k j : Cell) (y : α) : ∀ kvs : List (Cell × α), look kvs k = none → look (kvs ++ [(k, y)]) j = if j = k then some y else look kvs j
  | [], _ => by
    by_cases e : j = k
    · subst e; simp [look]
    · rw [if_neg e]
      show look [(k, y)] j = none
      rw [look_neg (fun z => e z.symm)]
      rfl
  | p :: r, h => by
    have e : ¬ p.1 = k := fun z => by rw [look_pos z] at h; cases h
    rw [look_neg e] at h
    show look (p :: (r ++ [(k, y)])) j = _
    by_cases e2 : p.1 = j
    · have : ¬ j = k := fun z => e (e2.trans z)
      rw [look_pos e2, if_neg this, look_pos e2]
    · rw [look_neg e2, look_neg e2]
      exact look_snoc k j y r h
theorem look_put (kvs : List (Cell × α)) (k j : Cell) (y : α) : look (put kvs k y) j = if j = k then some y else look kvs j := by
  unfold put
  by_cases h : (look kvs k).isSome = true
  · rw [if_pos h, look_map]
    by_cases e : j = k
    · subst e
      obtain ⟨x, hx⟩ := Option.isSome_iff_exists.mp h
      rw [hx]
      simp
    · simp [e]
  · rw [if_neg h]
    exact look_snoc k j y kvs (by simpa using h)
theorem look_drop (k j : Cell) : ∀ kvs : List (Cell × α), look (drop kvs k) j = if j = k then none else look kvs j
  | [] => by simp [look, drop]
  | p :: r => by
    by_cases e : p.1 = k
    · have z : drop (p :: r) k = drop r k := List.filter_cons_of_neg (by simp [e])
      rw [z, look_drop k j r]
      by_cases e2 : j = k
      · rw [if_pos e2, if_pos e2]
      · rw [if_neg e2, if_neg e2, look_neg (fun z => e2 (z.symm.trans e))]
    · have z : drop (p :: r) k = p :: drop r k := List.filter_cons_of_pos (by simp [e])
      rw [z]
      by_cases e2 : p.1 = j
      · rw [look_pos e2, if_neg (fun z => e (e2.trans z)), look_pos e2]
      · rw [look_neg e2, look_drop k j r]
        by_cases e3 : j = k
        · rw [if_pos e3, if_pos e3]
        · rw [if_neg e3, if_neg e3, look_neg e2]
theorem len_put (kvs : List (Cell × α)) (k : Cell) (x : α) : (put kvs k x).length ≤ kvs.length + 1 := by
  unfold put
  split
  · rw [List.length_map]; omega
  · rw [List.length_append]; simp
theorem put_new {kvs : List (Cell × α)} {k : Cell} (h : look kvs k = none) (x : α) : put kvs k x = kvs ++ [(k, x)] := by
  unfold put
  rw [h]
  rfl
end
def EntG (K : PySem.W.Frag) (B : Hp) {α : Type} (F : V → α → Prop) : Ents → List (Cell × α) → Prop := Paired fun q p => q.1 = cK p.1 ∧ TupD K B q.2.1 (cV p.1) ∧ ∃ v, L2.RelV v q.2.2 ∧ F v p.2
section
variable {K : PySem.W.Frag} {B B' H : Hp} {α : Type} {F F' : V → α → Prop} {xs : Ents} {kvs : List (Cell × α)} {k : Cell}
theorem EntG.mono (e : Same B B') (hF : ∀ v x, F v x → F' v x) (h : EntG K B F xs kvs) : EntG K B' F' xs kvs := Paired.mapP h fun _ _ ⟨h1, h2, v, h3, h4⟩ => ⟨h1, Same.tupD e h2, v, h3, hF _ _ h4⟩
theorem EntG.len (h : EntG K B F xs kvs) : xs.length = kvs.length := Paired.length h
theorem EntG.keys (s : Same B H) (h : EntG K B F xs kvs) : XKeys K H xs := by
  unfold EntG at h
  induction h with
  | nil => exact fun _ z => absurd z List.not_mem_nil
  | cons a t ih =>
    intro q hq
    rcases List.mem_cons.mp hq with rfl | z
    · exact ⟨_, a.1, Same.tup s a.2.1.sq⟩
    · exact ih q z
theorem EntG.at (h : EntG K B F xs kvs) (k : Cell) : (look kvs k = none ∧ atKey xs (cK k) = none) ∨ ∃ x p v, look kvs k = some x ∧ atKey xs (cK k) = some p ∧ L2.RelV v p.2 ∧ F v x := by
  unfold EntG at h
  induction h with
  | nil => exact .inl ⟨rfl, rfl⟩
  | @cons q p qs ps a t ih =>
    obtain ⟨h1, h2, v, h3, h4⟩ := a
    by_cases e : p.1 = k
    · have e' : q.1 = cK k := by rw [h1, e]
      exact .inr ⟨p.2, q.2, v, look_pos e, by simp [atKey, List.find?_cons, e'], h3, h4⟩
    · have e' : ¬ q.1 = cK k := fun z => e (cK_inj (h1.symm.trans z))
      have b : atKey (q :: qs) (cK k) = atKey qs (cK k) := by simp [atKey, List.find?_cons, e']
      rw [look_neg e, b]
      exact ih
theorem EntG.repl {v : V} {u : Value} {x : α} (rv : L2.RelV v u) (hx : F v x) (h : EntG K B F xs kvs) : EntG K B F (xs.map (putAt (cK k) u)) (kvs.map fun p => if p.1 = k then (p.1, x) else p) := by
  unfold EntG at h ⊢
  induction h with
  | nil => exact .nil
  | @cons q p qs ps a t ih =>
    rw [List.map_cons, List.map_cons]
    refine .cons ?_ ih
    obtain ⟨h1, h2, w, h3, h4⟩ := a
    unfold putAt
    by_cases e : p.1 = k
    · rw [if_pos e, if_pos (show q.1 = cK k by rw [h1, e])]
      exact ⟨h1, h2, v, rv, hx⟩
    · rw [if_neg e, if_neg (fun z => e (cK_inj (h1.symm.trans z)))]
      exact ⟨h1, h2, w, h3, h4⟩
theorem EntG.put {v : V} {u : Value} {x : α} {b : Addr} (h : EntG K B F xs kvs) (hb : TupD K B b (cV k)) (rv : L2.RelV v u) (hx : F v x) : EntG K B F (storedH xs (cK k) b u) (Dw.put kvs k x) := by
  unfold Dw.put storedH
  rcases h.at k with ⟨e1, e2⟩ | ⟨y, p, w, e1, e2, _⟩
  · rw [e1, e2]
    exact Paired.snoc h ⟨rfl, hb, v, rv, hx⟩
  · rw [e1, e2]
    exact h.repl rv hx
theorem EntG.drop (h : EntG K B F xs kvs) : EntG K B F (withoutH xs (cK k)) (Dw.drop kvs k) := by
  unfold EntG at h ⊢
  induction h with
  | nil => exact .nil
  | @cons q p qs ps a t ih =>
    by_cases e : p.1 = k
    · have e' : q.1 = cK k := by rw [a.1, e]
      rw [show withoutH (q :: qs) (cK k) = withoutH qs (cK k) from List.filter_cons_of_neg (by simp [e']), show Dw.drop (p :: ps) k = Dw.drop ps k from List.filter_cons_of_neg (by simp [e])]
      exact ih
    · have e' : ¬ q.1 = cK k := fun z => e (cK_inj (a.1.symm.trans z))
      rw [show withoutH (q :: qs) (cK k) = q :: withoutH qs (cK k) from List.filter_cons_of_pos (by simp [e']), show Dw.drop (p :: ps) k = p :: Dw.drop ps k from List.filter_cons_of_pos (by simp [e])]
      exact .cons a ih
end
abbrev cD (k : Cell) : D := .tuple [.int k.1, .int k.2]
theorem tp_key {K : PySem.W.Frag} {B : Hp} {v : V} {k : Cell} (h : Tp K c B v (cD k)) : ∃ b, v = .ref b ∧ TupD K B b (cV k) := by
  cases h with
  | tup h1 h2 =>
    cases h2 with
    | cons a t =>
      cases a
      cases t with
      | cons a t =>
        cases a
        cases t
        exact ⟨_, rfl, h1⟩
/-- a dict of data -/
def kDct {K : PySem.W.Frag} (P : Program) (w : World) (kvs : List (Cell × D)) : Kind K c where
  I := fun B H v fp => ∃ p o xs, v = .ref p ∧ fp = [p] ∧ H p = some (dctO p o) ∧ DOk P w p o xs ∧ EntG K B (Tp K c B) xs kvs
  stb := fun ⟨p, o, xs, h1, h2, h3, h5, h4⟩ e f => ⟨p, o, xs, h1, h2, by rw [f p (by rw [h2]; exact List.mem_singleton.mpr rfl)]; exact h3, h5, h4.mono e fun _ _ => Tp.mono e _ _⟩
  dom := fun ⟨p, o, xs, h1, h2, h3, h5, _⟩ a ha => by rw [h2] at ha; rw [List.mem_singleton.mp ha]; exact ⟨_, h3, nt_dct h5⟩
section
variable {X : Cx} {G : Env X.K c} {o i e f value : Expr} {rest : List Stmt} {Ph : Out X.K c → Prop} {pos pos' apos cpos : Pos} {kvs : List (Cell × D)} {k : Cell} {d d2 : D} {n : Nat} {x : Str}
abbrev kX (X : Cx) (kvs : List (Cell × D)) : Kind X.K c := kDct X.prog X.w kvs
theorem units1 (C : Bd X n) : X.A.units + 1 < cLine := by have := units65 C; omega
theorem de_xget (C : Bd X n) (ho : DK X G o (kX (c := c) X kvs)) (hi : DE X G i (cD k)) (hk : look kvs k = some d) (hs : NoSl i := by exact fun _ _ => rfl) : DE X G (.Subscript o i pos) d := by
  obtain ⟨t, p, r⟩ := ho
  obtain ⟨ti, pi, ri⟩ := hi
  refine ⟨_, pe_xget (units1 C) p pi hs, fun Z B H σ Q E g => r Z B H σ _ E fun v B1 H1 fp e1 ⟨a, ob, xs, h1, h2, h3, h5, h4⟩ => ri Z B1 H1 σ _ (E.ext e1) fun u B2 H2 e2 hu => ?_⟩
  obtain ⟨b, rfl, hb⟩ := tp_key hu
  have h4' := h4.mono (F' := Tp X.K c B2) e2.b fun _ _ => Tp.mono e2.b _ _
  rcases h4'.at k with ⟨z, _⟩ | ⟨x, p, w, z, y1, y2, y3⟩
  · rw [hk] at z; cases z
  · rw [hk] at z; cases z
    exact ⟨a, b, xs, k, p, w, h1, rfl, ⟨⟨ob, .inl (e2.h.at h3), h5⟩, h4'.keys e2.sub⟩, Same.tup e2.sub hb.sq, y1, y2, g w B2 H2 (e1.trans e2) y3⟩
theorem dt_xin (C : Bd X n) (hi : DE X G i (cD k)) (ho : DK X G o (kX (c := c) X kvs)) (hm : behindInMarks .In o = false := by first | exact nomark _ (by decide) (by decide) | rfl) : DT X G (.Compare i [.In] [o] pos) (look kvs k).isSome := by
  obtain ⟨t, p, r⟩ := ho
  obtain ⟨ti, pi, ri⟩ := hi
  refine ⟨_, pt_cmp (pc_xin (units1 C) pi p) hm, fun Z B H σ Q E g => ri Z B H σ _ E fun u B1 H1 e1 hu => r Z B1 H1 σ _ (E.ext e1) fun v B2 H2 fp e2 ⟨a, ob, xs, h1, h2, h3, h5, h4⟩ => ?_⟩
  obtain ⟨b, rfl, hb⟩ := tp_key hu
  refine ⟨a, b, xs, k, h1, rfl, ⟨⟨ob, .inl h3, h5⟩, h4.keys e2.sub⟩, Same.tup e2.sub (Same.tupD e2.b hb).sq, ?_⟩
  rcases h4.at k with ⟨z, y⟩ | ⟨x, p, w, z, y, _⟩ <;> rw [z] at g <;> rw [y] <;> exact ⟨_, rfl, g B2 H2 (e1.trans e2)⟩
theorem dt_xnotin (C : Bd X n) (hi : DE X G i (cD k)) (ho : DK X G o (kX (c := c) X kvs)) (hm : behindInMarks .NotIn o = false := by first | exact nomark _ (by decide) (by decide) | rfl) : DT X G (.Compare i [.NotIn] [o] pos) (!(look kvs k).isSome) := by
  obtain ⟨t, p, r⟩ := ho
  obtain ⟨ti, pi, ri⟩ := hi
  refine ⟨_, pt_cmp (pc_xnotin (units1 C) pi p) hm, fun Z B H σ Q E g => ri Z B H σ _ E fun u B1 H1 e1 hu => r Z B1 H1 σ _ (E.ext e1) fun v B2 H2 fp e2 ⟨a, ob, xs, h1, h2, h3, h5, h4⟩ => ?_⟩
  obtain ⟨b, rfl, hb⟩ := tp_key hu
  refine ⟨a, b, xs, k, h1, rfl, ⟨⟨ob, .inl h3, h5⟩, h4.keys e2.sub⟩, Same.tup e2.sub (Same.tupD e2.b hb).sq, ?_⟩
  rcases h4.at k with ⟨z, y⟩ | ⟨x, p, w, z, y, _⟩ <;> rw [z] at g <;> rw [y] <;> exact ⟨_, rfl, g B2 H2 (e1.trans e2)⟩
theorem m1_of {m : Str} (hb : attributeBase o m X.env (eval o X.env) = eval o X.env := by rfl)
  (hf : ((backTo cpos (starEach [e] X.env)).all (fun x => !x.1) && (backToKw cpos (keywordEach [] X.env)).all (fun x => x.1.isSome) && decide (([e] : List Expr).length + ([] : List Keyword).length + (if ([] : List Keyword).isEmpty then 0 else 1) < 30)) = true := by rfl)
  (hl : (apos.endLine == cpos.line) = true := by rfl) (ht : backTo cpos (starEach [e] X.env) = [(false, eval e X.env)] := by rfl) : M1 X o m apos e cpos := ⟨hb, hf, hl, ht⟩
theorem de_xget1 (C : Bd X n) (ho : DK X G o (kX (c := c) X kvs)) (he : DE X G e (cD k)) (m : M1 X o "get" apos e cpos := by exact ⟨rfl, rfl, rfl, rfl⟩) : DE X G (.Call (.Attribute o "get" apos) [e] [] cpos) ((look kvs k).getD .none) := by
  obtain ⟨t, p, r⟩ := ho
  obtain ⟨ti, pi, ri⟩ := he
  refine ⟨_, pe_xget1 (units1 C) p pi m, fun Z B H σ Q E g => r Z B H σ _ E fun v B1 H1 fp e1 ⟨a, ob, xs, h1, h2, h3, h5, h4⟩ => ⟨a, xs, h1, ⟨⟨ob, .inl h3, h5⟩, h4.keys e1.sub⟩, ri Z B1 H1 σ _ (E.ext e1) fun u B2 H2 e2 hu => ?_⟩⟩
  obtain ⟨b, rfl, hb⟩ := tp_key hu
  have h4' := h4.mono (F' := Tp X.K c B2) e2.b fun _ _ => Tp.mono e2.b _ _
  rcases h4'.at k with ⟨z, y⟩ | ⟨x, p, w, z, y1, y2, y3⟩
  · rw [z] at g
    exact ⟨b, k, .non, rfl, ⟨⟨ob, .inl (e2.h.at h3), h5⟩, h4'.keys e2.sub⟩, Same.tup e2.sub hb.sq, by rw [y]; rfl, g .non B2 H2 (e1.trans e2) .non⟩
  · rw [z] at g
    exact ⟨b, k, w, rfl, ⟨⟨ob, .inl (e2.h.at h3), h5⟩, h4'.keys e2.sub⟩, Same.tup e2.sub hb.sq, by rw [y1]; exact y2, g w B2 H2 (e1.trans e2) y3⟩
theorem de_xget2 (C : Bd X n) (ho : DK X G o (kX (c := c) X kvs)) (he : DE X G e (cD k)) (hf : DE X G f d) (m : M2 X o "get" apos e f cpos := by exact ⟨rfl, rfl, rfl, rfl⟩) : DE X G (.Call (.Attribute o "get" apos) [e, f] [] cpos) ((look kvs k).getD d) := by
  obtain ⟨t, p, r⟩ := ho
  obtain ⟨ti, pi, ri⟩ := he
  obtain ⟨tf, pf, rf⟩ := hf
  refine ⟨_, pe_xget2 (units1 C) p pi pf m, fun Z B H σ Q E g => r Z B H σ _ E fun v B1 H1 fp e1 ⟨a, ob, xs, h1, h2, h3, h5, h4⟩ => ⟨a, xs, h1, ⟨⟨ob, .inl h3, h5⟩, h4.keys e1.sub⟩, ri Z B1 H1 σ _ (E.ext e1) fun u B2 H2 e2 hu => rf Z B2 H2 σ _ (E.ext (e1.trans e2)) fun u2 B3 H3 e3 hu2 => ?_⟩⟩
  obtain ⟨b, rfl, hb⟩ := tp_key hu
  have e23 := e2.trans e3
  have h4' := h4.mono (F' := Tp X.K c B3) e23.b fun _ _ => Tp.mono e23.b _ _
  have kb : XKey X.K H3 b k := Same.tup e3.sub (Same.tupD e3.b hb).sq
  rcases h4'.at k with ⟨z, y⟩ | ⟨x, p, w, z, y1, y2, y3⟩
  · rw [z] at g
    exact ⟨b, k, u2, rfl, ⟨⟨ob, .inl (e23.h.at h3), h5⟩, h4'.keys e3.sub⟩, kb, fun r hr => by rw [y]; exact hr, g u2 B3 H3 (e1.trans e23) hu2⟩
  · rw [z] at g
    exact ⟨b, k, w, rfl, ⟨⟨ob, .inl (e23.h.at h3), h5⟩, h4'.keys e3.sub⟩, kb, fun r hr => by rw [y1]; exact y2, g w B3 H3 (e1.trans e23) y3⟩
theorem dx_xnew : DX X G (.Dict [] [] pos) (kn (kX (c := c) X [])) :=
  ⟨_, pe_xnew, fun Z B H σ Q E g p hp hm => g _ B _ [p] (Ext.layH E.sub _ hp) (fun _ => ⟨⟨p, dct0, [], rfl, rfl, upd_same, dok_nil hm, .nil⟩, fun a ha => by rw [List.mem_singleton.mp ha]; exact E.sub.free hp⟩) fun a ha => by rw [List.mem_singleton.mp ha]; exact hp⟩
/-- the dict of a slot is written -/
theorem ste_x {F : Ent} {B H : Hp} {σ : Sg} {i : Nat} {par : Bool} {a : Addr} {o' : Obj} {ys : Ents} {kvs' : List (Cell × D)} (S : StE F G B H σ) (hG : G[i]? = some (some (kn (kX X kvs) par))) (hσ : σ[i]? = some (some (.ref a))) (k' : DOk X.prog X.w a o' ys) (h : EntG X.K B (Tp X.K c B) ys kvs') :
    StE F (G.set i (some (kn (kX X kvs') par))) B (upd H a (dctO a o')) σ := by
  refine S.change hG rfl fun v fp a1 a2 => ?_
  rw [hσ] at a1
  cases a1
  obtain ⟨⟨p', ob, xs', b0, b1, b2, b4, b3⟩, b5⟩ := a2
  cases b0
  subst b1
  refine ⟨[a], ⟨⟨a, o', ys, rfl, rfl, upd_same, k', h⟩, b5⟩, fun a h => .inl h, fun _ a h => h, fun b h1 h2 => upd_ne fun z => h1 (by rw [z]; exact List.mem_singleton.mpr rfl), fun b hb => ?_⟩
  rw [List.mem_singleton.mp hb, upd_same]
  exact fun z => nomatch z
theorem dss_xput (C : Bd X n) (j : Nat) {par : Bool} (he : DE X G value d) (hi : DE X G i (cD k)) (h : DSs X (G.set j (some (kn (kX X (put kvs k d)) par))) rest Ph) (hl : kvs.length < sizeLine)
    (hG : G[j]? = some (some (kn (kX X kvs) par)) := by rfl) (hN : X.N[j]? = some x := by rfl)
    (hv : Vis X.env.scope x := by first | exact Or.inl rfl | exact Or.inr (Or.inl rfl) | exact Or.inr (Or.inr rfl)) (hd : (x == ("__debug__" : Str)) = false := by decide)
    (hcd : (x == ("__classdict__" : Str)) = false := by decide) (hs : swapsWith value (some (.Subscript (.Name x apos) i pos')) pos.line X.env = pure false := by rfl) :
    DSs X G (.Assign [.Subscript (.Name x apos) i pos'] value pos :: rest) Ph := fun F B H σ D S E => by
  obtain ⟨te, pe, re⟩ := he
  obtain ⟨ti, pi, ri⟩ := hi
  refine wp_of (pss_cons (ps_xput (units1 C) (pv j hN hv hd hcd) pi pe hs) pss_wp) ?_
  refine re F.Z B H σ _ S.env fun v B1 H1 e1 q1 => ?_
  have S1 := S.ext e1
  obtain ⟨fps, s1, s2⟩ := S1.sl
  obtain ⟨u, hσ, ⟨⟨p, ob, xs, rfl, z1, z2, z4, z3⟩, z5⟩, z6⟩ := s1 j _ hG
  refine ⟨_, hσ, ri F.Z B1 H1 σ _ S1.env fun w B2 H2 e2 q2 => ?_⟩
  obtain ⟨b, rfl, hb⟩ := tp_key q2
  have z3' := z3.mono (F' := Tp X.K c B2) e2.b fun _ _ => Tp.mono e2.b _ _
  refine ⟨p, b, xs, k, ob, rfl, rfl, e2.h.at z2, z4, z3'.keys e2.sub, Same.tup e2.sub hb.sq, by rw [z3.len]; exact hl, fun r o' hr k' => ?_⟩
  exact h F B2 _ σ D (ste_x (S1.ext e2) hG hσ k' (z3'.put hb hr (Tp.mono e2.b _ _ q1))) E
/-- an expression that changes the slot i, and is the data d -/
def DMD (X : Cx) (G : Env X.K c) (e : Expr) (i : Nat) (s s' : Slot X.K c) (d : D) : Prop :=
  ∃ t, PE X e t ∧ ∀ F B H σ Q, StE F G B H σ → G[i]? = some (some s) → (∀ v B' H', StE F (G.set i (some s')) B' H' σ → Same B B' → Tp X.K c B' v d → Q v H') → t σ H Q
theorem DMD.dm {i : Nat} {s s' : Slot X.K c} (h : DMD X G e i s s' d) : DM X G e i s s' := by
  obtain ⟨t, p, r⟩ := h
  exact ⟨t, p, fun F B H σ Q S hG g => r F B H σ Q S hG fun v B' H' S' _ _ => g v B' H' S'⟩
theorem dmd_pop (C : Bd X n) (j : Nat) {par : Bool} (he : DE X G e (cD k)) (hk : look kvs k = some d) (hN : X.N[j]? = some x := by rfl)
    (hv : Vis X.env.scope x := by first | exact Or.inl rfl | exact Or.inr (Or.inl rfl) | exact Or.inr (Or.inr rfl)) (hd : (x == ("__debug__" : Str)) = false := by decide)
    (hcd : (x == ("__classdict__" : Str)) = false := by decide) (m : M1 X (.Name x pos) "pop" apos e cpos := by exact ⟨rfl, rfl, rfl, rfl⟩) :
    DMD X G (.Call (.Attribute (.Name x pos) "pop" apos) [e] [] cpos) j (kn (kX X kvs) par) (kn (kX X (drop kvs k)) par) d := by
  obtain ⟨ti, pi, ri⟩ := he
  refine ⟨_, pe_xpop (units1 C) (pv j hN hv hd hcd) pi m, fun F B H σ Q S hG g => ?_⟩
  obtain ⟨fps, s1, s2⟩ := S.sl
  obtain ⟨u, hσ, ⟨⟨p, ob, xs, rfl, z1, z2, z4, z3⟩, z5⟩, z6⟩ := s1 j _ hG
  refine ⟨_, hσ, p, xs, rfl, ⟨⟨ob, .inl z2, z4⟩, z3.keys S.sub⟩, ri F.Z B H σ _ S.env fun w B2 H2 e2 q2 => ?_⟩
  obtain ⟨b, rfl, hb⟩ := tp_key q2
  have z3' := z3.mono (F' := Tp X.K c B2) e2.b fun _ _ => Tp.mono e2.b _ _
  rcases z3'.at k with ⟨z, y⟩ | ⟨x, p', w, z, y1, y2, y3⟩
  · rw [hk] at z; cases z
  · rw [hk] at z; cases z
    exact ⟨b, k, p', w, ob, rfl, e2.h.at z2, z4, z3'.keys e2.sub, Same.tup e2.sub hb.sq, y1, y2, fun o' k' => g w B2 _ (ste_x (S.ext e2) hG hσ k' z3'.drop) e2.b y3⟩
/-- found[k] = e, e changes another slot -/
theorem dss_xputM (C : Bd X n) (j i0 : Nat) {s s' : Slot X.K c} {par : Bool} (ne : i0 ≠ j) (he : DMD X G value i0 s s' d) (hi : DE X (G.set i0 (some s')) i (cD k)) (h : DSs X ((G.set i0 (some s')).set j (some (kn (kX X (put kvs k d)) par))) rest Ph) (hl : kvs.length < sizeLine)
    (hs0 : G[i0]? = some (some s) := by rfl) (hG : G[j]? = some (some (kn (kX X kvs) par)) := by rfl) (hN : X.N[j]? = some x := by rfl)
    (hv : Vis X.env.scope x := by first | exact Or.inl rfl | exact Or.inr (Or.inl rfl) | exact Or.inr (Or.inr rfl)) (hd : (x == ("__debug__" : Str)) = false := by decide)
    (hcd : (x == ("__classdict__" : Str)) = false := by decide) (hs : swapsWith value (some (.Subscript (.Name x apos) i pos')) pos.line X.env = pure false := by rfl) :
    DSs X G (.Assign [.Subscript (.Name x apos) i pos'] value pos :: rest) Ph := fun F B H σ D S E => by
  obtain ⟨te, pe, re⟩ := he
  obtain ⟨ti, pi, ri⟩ := hi
  refine wp_of (pss_cons (ps_xput (units1 C) (pv j hN hv hd hcd) pi pe hs) pss_wp) ?_
  refine re F B H σ _ S hs0 fun v B1 H1 S1 eb q1 => ?_
  have hG' : (G.set i0 (some s'))[j]? = some (some (kn (kX X kvs) par)) := by rw [List.getElem?_set_ne ne]; exact hG
  obtain ⟨fps, s1, s2⟩ := S1.sl
  obtain ⟨u, hσ, ⟨⟨p, ob, xs, rfl, z1, z2, z4, z3⟩, z5⟩, z6⟩ := s1 j _ hG'
  refine ⟨_, hσ, ri F.Z B1 H1 σ _ S1.env fun w B2 H2 e2 q2 => ?_⟩
  obtain ⟨b, rfl, hb⟩ := tp_key q2
  have z3' := z3.mono (F' := Tp X.K c B2) e2.b fun _ _ => Tp.mono e2.b _ _
  refine ⟨p, b, xs, k, ob, rfl, rfl, e2.h.at z2, z4, z3'.keys e2.sub, Same.tup e2.sub hb.sq, by rw [z3.len]; exact hl, fun r o' hr k' => ?_⟩
  exact h F B2 _ σ D (ste_x (S1.ext e2) hG' hσ k' (z3'.put hb hr (Tp.mono e2.b _ _ q1))) E
end
end Dw

namespace Dw
open PySem L2 PyProof.Rows
variable {c : Cl}
structure DRaw (h : Heap) (a : Addr) (es : Array DictEntry) : Prop where
  sm : (a == sysModules) = false
  ex : ∃ o ep, h.get? a = some o ∧ o.ExactDict ∧ o.data = .dict es ep
theorem DRaw.ty {s : Shared} {a : Addr} {es : Array DictEntry} (x : DRaw s.heap a es) : s.TypeIs (.ref a) "dict" := let ⟨o, _, ho, hc, _⟩ := x.ex; ⟨o, ho, hc.1⟩
theorem dict_ne_nil (a p : Addr) (es : Array DictEntry) : Meets (Builtin.«dict.__ne__» ⟨[.ref a, .ref p], []⟩) (fun _ R s => DRaw s.heap a es ∧ DRaw s.heap p #[] ∧ R (.ok (.ret (.bool (!es.isEmpty)))) s) :=
  .of_wp fun prog w A R s ⟨h1, h2, h⟩ => by
    obtain ⟨m1, o1, ep1, g1, x1, d1⟩ := id h1
    obtain ⟨m2, o2, ep2, g2, x2, d2⟩ := id h2
    show wpAny _ _ (Builtin.Dict.dictSlotArgs "__ne__" ⟨[.ref a, .ref p], []⟩ >>= _) _ _ _
    refine wpAny_bind ?_
    unfold Builtin.Dict.dictSlotArgs
    refine wpAny_bind (wpAny_notOrdered_dict h1.ty ?_)
    show wpAny _ _ (pure (Value.ref a, Value.ref p)) _ _ s
    refine wpAny_pure ?_
    show wpAny _ _ (isInstance (.ref p) (.type "dict") >>= _) _ _ _
    refine wpAny_bind (wpAny_isInstance h2.ty rfl ?_)
    show wpAny _ _ (Builtin.Dict.samePairs _ a p >>= _) _ _ _
    refine wpAny_bind ?_
    unfold Builtin.Dict.samePairs Builtin.Dict.showsAll
    rw [m1, m2]
    simp only [Bool.false_eq_true, if_false]
    refine wpAny_bind (wpAny_pure ?_)
    refine wpAny_bind (wpAny_pure ?_)
    refine wpAny_bind (wpAny_dictEntries g1 d1 ?_)
    refine wpAny_bind (wpAny_dictEntries g2 d2 ?_)
    cases hz : es.isEmpty with
    | true =>
      have e0 : es = #[] := by simpa using hz
      subst e0
      simp only [bne_self_eq_false, Bool.false_eq_true, if_false]
      refine wpAny_bind (wpAny_dictEpoch g1 d1 ?_)
      refine wpAny_bind (wpAny_of_eq (a := (none, ())) (by simp [Std.Legacy.Range.forIn_eq_forIn_range']) ?_)
      exact wpAny_pure (wpAny_pure ⟨_, rfl, h⟩)
    | false =>
      have : (es.size != (#[] : Array DictEntry).size) = true := by
        cases q : es.size with
        | zero => rw [Array.isEmpty, q] at hz; simp at hz
        | succ n => rfl
      rw [this]
      simp only [if_true]
      refine wpAny_bind (wpAny_rule (wpAny_pure (wpAny_pure ⟨_, rfl, ?_⟩)))
      rw [hz] at h
      exact h
theorem DOk.raw {P : Program} {w : World} {a : Addr} {o : Obj} {xs : Ents} {h : Heap} (k : DOk P w a o xs) (e : h.get? a = some o) : ∃ es, DRaw h a es ∧ es.isEmpty = xs.isEmpty := by
  obtain ⟨z1, z2, es, ep, h2, h3, h4, h5⟩ := k
  refine ⟨es, ⟨z1, o, ep, e, h2, h3⟩, ?_⟩
  have := congrArg List.isEmpty h4
  rw [List.isEmpty_map] at this
  rw [← this]
  cases es with
  | mk l => cases l <;> rfl
section
variable {X : Cx} {G : Env X.K c} {o e : Expr} {pos p2 : Pos} {kvs : List (Cell × D)} {n : Nat}
def rXNe (X : Cx) : R2 := fun x y H Q => ∃ a b xs, x = .ref a ∧ y = .ref b ∧ XD X H a xs ∧ XD X H b [] ∧ Q (.bl (!xs.isEmpty)) H
theorem op_xne (hu : X.A.units < cLine) : OpR X (compareOp .NotEq) (rXNe X) := fun pins s σ H x y v u Q I rx ry ⟨a, b, xs, ex, ey, h1, h2, q⟩ => by
  subst ex ey
  obtain rfl : v = Value.ref a := rx
  obtain rfl : u = Value.ref b := ry
  obtain ⟨o1, g1, k1⟩ := xd_raw I h1
  obtain ⟨o2, g2, k2⟩ := xd_raw I h2
  obtain ⟨es, r1, i1⟩ := k1.raw g1
  obtain ⟨es2, r2, i2⟩ := k2.raw g2
  have e0 : es2 = #[] := by simpa using i2
  subst e0
  refine richCompare_meets_room (op := .NotEq) r1.ty r2.ty PySem.F.slot_dict_ne PySem.F.entry_dict_ne (PySem.F.args_dict_ne_2 _ _) (dict_ne_nil a b es) ⟨r1, r2, show Value.bool (!es.isEmpty) ≠ Value.notImplemented ∧ _ from ⟨(fun z => nomatch z), .bl (!es.isEmpty), H, I, rfl, ?_⟩⟩ hu
  rw [i1]
  exact q
theorem dt_xne0 (C : Bd X n) (ho : DK X G o (kX (c := c) X kvs)) : DT X G (.Compare o [.NotEq] [.Dict [] [] p2] pos) (!kvs.isEmpty) := by
  obtain ⟨t, p, r⟩ := ho
  refine ⟨_, pt_cmpR (op_xne (by have := units1 C; omega)) p pe_xnew (nomark _ (by decide) (by decide)), fun Z B H σ Q E g => r Z B H σ _ E fun v B1 H1 fp e1 ⟨a, ob, xs, h1, h2, h3, h5, h4⟩ => ?_⟩
  intro q hq hm
  have hs : Same H1 (upd H1 q (dctO q dct0)) := same_upd hq
  refine ⟨a, q, xs, h1, rfl, ⟨⟨ob, .inl (hs _ _ h3), h5⟩, h4.keys (e1.sub.trans hs)⟩, ⟨⟨dct0, .inl upd_same, dok_nil hm⟩, fun z hz => absurd hz List.not_mem_nil⟩, ?_⟩
  have ei : xs.isEmpty = kvs.isEmpty := by
    have := h4.len
    cases xs <;> cases kvs <;> first | rfl | (simp at this)
  rw [ei]
  exact ⟨_, rfl, g B1 _ (e1.trans (Ext.layH e1.sub _ hq))⟩
end
def Itx (P : Program) (w : World) (d : Addr) (o : Obj) (xs : Ents) : It :=
  ⟨fun i H => Rd H d (dctO d o) ∧ DOk P w d o xs ∧ i < xs.length, fun i H x H' => ∃ p q v, xs[i]? = some q ∧ RelV v q.2.2 ∧ x = .ref p ∧ H p = none ∧ H' = upd H p (.tup [.ref q.2.1, v]), fun i H => Rd H d (dctO d o) ∧ DOk P w d o xs ∧ xs.length ≤ i⟩
theorem entry_get {P : Program} {w : World} {xs : Ents} {es : Array DictEntry} (he : es.toList = xs.map (entryOfKey (tupleKind (mixKind P w)))) {i : Nat} {q : List Key × Addr × Value} (h : xs[i]? = some q) : ∃ hi : i < es.size, es[i].key = .ref q.2.1 ∧ es[i].val = q.2.2 := by
  have e : es[i]? = some (entryOfKey (tupleKind (mixKind P w)) q) := by rw [← Array.getElem?_toList, he, List.getElem?_map, h]; rfl
  obtain ⟨hi, e2⟩ := Array.getElem?_eq_some_iff.mp e
  exact ⟨hi, by rw [e2]; rfl, by rw [e2]; rfl⟩
def absV1 (u : Value) : Option V := absV u
section
variable {P : Program} {w : World} {K : PySem.W.Frag} {d : Addr} {o : Obj} {xs : Ents} {es : Array DictEntry} {ep : Nat}
theorem turn_xitems {elts : List Expr} {kk : Nat} {tpos : Pos} (it : Addr) (hod : o.data = .dict es ep) (hv : ∀ q ∈ xs, ∃ v, L2.RelV v q.2.2) (hs : es.size = xs.length) :
    Turn P w K (.Tuple elts kk tpos) (Itx P w d o xs) [it] it (fun i h => ∃ ok ov, IsItemIter h it d i es.size ep ok ov) where
  mem := by simp
  obj := fun i h st b hb => by
    have e : b = it := by simpa using hb
    subst e
    obtain ⟨ok, ov, e⟩ := st
    exact ⟨_, e, fun v z => nomatch z⟩
  keep := fun i h h' st k => let ⟨ok, ov, e⟩ := st; ⟨ok, ov, k it (by simp) _ e⟩
  item := by
    intro X hP hw hK hc i pins s σ H E I hf st hg
    subst hP hw hK
    obtain ⟨hd, k, hi⟩ := hg
    obtain ⟨g0, _⟩ := hd.ok I.hok
    obtain ⟨z1, z2, es', ep', x1, x2, x3, x4⟩ := id k
    rw [hod] at x2
    cases x2
    obtain ⟨q, hq⟩ : ∃ q, xs[i]? = some q := ⟨xs[i], List.getElem?_eq_getElem hi⟩
    obtain ⟨hie, ek, ev⟩ := entry_get x3 hq
    obtain ⟨v, rv⟩ := hv q (List.mem_of_getElem? hq)
    obtain ⟨ok, ov, he⟩ := st
    have hlt : it < s.heap.objs.size := Heap.lt_size he
    refine _root_.DT.nextI he ⟨o, g0, x1, hod⟩ hie fun h' ho hT hz hk => ?_
    rw [ek, ev] at ho hT
    refine ⟨_, rfl, wpAny_letOwnedTupleGo_items (s := { s with heap := h' }) ho fun h'' he' sb => ?_⟩
    have hT2 : h''.get? s.heap.objs.size = some { cls := .type "tuple", data := .seq #[.ref q.2.1, q.2.2] } := (sb.2 _ (Nat.ne_of_gt hlt)).trans hT
    have new : ObjOk X.prog X.w (upd H s.heap.objs.size (.tup [.ref q.2.1, v])) h'' s.heap.objs.size (.tup [.ref q.2.1, v]) :=
      ⟨by show 2 ≤ sizeLine; decide, [.ref q.2.1, q.2.2], .cons rfl (.cons rv .nil), ⟨_, hT2, rfl, _, rfl⟩⟩
    have I1 : Inv X pins σ (upd H s.heap.objs.size (.tup [.ref q.2.1, v])) { s with heap := h'' } :=
      I.turnedNew (t' := s.toks) (ch := [it]) (fun b ob hb e => (sb.2 b (by simpa using hb)).trans (hk b ob (by simpa using hb) e)) hf (Nat.le_refl _) new
    refine ⟨.ref s.heap.objs.size, _, I1, rfl, ⟨_, q, v, hq, rv, rfl, I.hok.fresh (Nat.le_refl _), rfl⟩, ⟨_, _, he'⟩, fun b hb => ?_⟩
    have e : b = it := by simpa using hb
    rw [e, upd_ne (Nat.ne_of_lt hlt)]
    exact (hf it (by simp)).1
  done := by
    intro X hP hw hK hc i pins s σ H E I hf st hg
    subst hP hw hK
    obtain ⟨hd, k, hi⟩ := hg
    obtain ⟨f0, f1, f2, f3, f4, f5⟩ := hf it (by simp)
    obtain ⟨g0, _⟩ := hd.ok I.hok
    obtain ⟨z1, z2, es', ep', x1, x2, x3, x4⟩ := id k
    rw [hod] at x2
    cases x2
    obtain ⟨ok, ov, he⟩ := st
    exact _root_.DT.endI (I.ok.hd hc) he ⟨o, g0, x1, hod⟩ (by rw [hs]; exact hi) fun h' eb => ⟨rfl, I.turned (t' := s.toks) (fun b ob hb e => eb b ob hb e) f0 f1 f3 f4 f5⟩
  self := fun A i s Q E st h => let ⟨_, _, e⟩ := st; PySem.W.kcp_self e h
end
end Dw

namespace Dw
open PySem L2 PyProof.Rows
variable {c : Cl}
def iXItems (X : Cx) (td : TE) : TI := fun σ H R => td σ H fun x H1 => ∃ d o xs, x = .ref d ∧ Rd H1 d (dctO d o) ∧ DOk X.prog X.w d o xs ∧ (∀ q ∈ xs, ∃ v, L2.RelV v q.2.2) ∧ R (Itx X.prog X.w d o xs) H1
section
variable {X : Cx} {e : Expr} {td : TE} {apos cpos tpos : Pos} {elts : List Expr} {kk : Nat}
theorem pi_xitems (he : PE X e td) (hbase : attributeBase e "items" X.env (eval e X.env) = eval e X.env := by rfl) (hline : (apos.endLine == cpos.line) = true := by rfl) : PI X (.Tuple elts kk tpos) (.Call (.Attribute e "items" apos) [] [] cpos) (iXItems X td) := by
  refine ⟨fun pins s σ H R I h => ?_⟩
  refine wpAny_Call_method (T := "dict") (id := "dict.items") hbase rfl hline PySem.F.plainAttrs_dict PySem.F.slot_dict_items PySem.F.type_dict_items (thn (he.run pins s σ H _ I h) fun u s1 ⟨x, H1, I1, rx, d, o, xs, ex, hd, k, hv, q⟩ => ?_)
  subst ex
  obtain rfl : u = Value.ref d := rx
  obtain ⟨g0, _⟩ := hd.ok I1.hok
  obtain ⟨z1, z2, es, ep, x1, x2, x3, x4⟩ := id k
  have hm : _root_.DT.Raw s1.heap d es ep := ⟨o, g0, x1, x2⟩
  have hl : es.size = xs.length := by rw [← Array.length_toList, x3, List.length_map]
  refine ⟨hm.typeIs, fun b q => by cases q; exact ⟨o, g0, x1.2.1⟩, ?_⟩
  have I2 : Inv X pins σ H1 { s1 with heap := s1.heap.push { cls := .type "dict_items", data := .fields #[.ref d] } } := I1.kept (t' := s1.toks) fun b ob q => Heap.get?_push_of_some _ q
  have fin : wpAny (model X.prog X.w) X.A (pyIter (.ref s1.heap.objs.size)) (PIE X pins σ (.Tuple elts kk tpos) R) X.xe { s1 with heap := s1.heap.push { cls := .type "dict_items", data := .fields #[.ref d] } } :=
    _root_.DT.iterI (d := d) (es := es) (ep := ep) ⟨_, Heap.get?_push_size _ rfl, rfl, rfl⟩ (hm.push _) (pi_one (tk := s1.toks) I2 _ (turn_xitems _ x2 hv hl) ⟨.none, .none, Heap.get?_push_size _ rfl⟩ q)
  show wpAny _ _ (callWith cpos (.builtin "dict.items") [.ref d] [] []) _ X.xe s1
  exact method_meetsIn PySem.F.slot_dict_items PySem.F.entry_dict_items rfl (PySem.evalArgs_none ⟨rfl, hm.typeIs, PySem.F.args_dict_items_1 _, _, _root_.DT.meetsItems (es := es) (ep := ep) z1, ⟨hm, fin⟩⟩)
end
section
variable {X : Cx} {G : Env X.K c} {apos cpos tpos py : Pos} {elts : List Expr} {kk : Nat} {x : Str} {kvs : List (Cell × D)}
theorem EntG.get {K : PySem.W.Frag} {B : Hp} {α : Type} {F : V → α → Prop} {xs : Ents} {kvs : List (Cell × α)} (h : EntG K B F xs kvs) : ∀ {i : Nat} {q : List Key × Addr × Value}, xs[i]? = some q → ∃ p, kvs[i]? = some p ∧ q.1 = cK p.1 ∧ TupD K B q.2.1 (cV p.1) ∧ ∃ v, L2.RelV v q.2.2 ∧ F v p.2 := by
  unfold EntG at h
  induction h with
  | nil => intro i q e; simp at e
  | cons a t ih =>
    intro i q e
    cases i with
    | zero => simp at e; subst e; exact ⟨_, rfl, a⟩
    | succ i => exact ih (by simpa using e)
theorem di_xitems (i : Nat) (hG : G[i]? = some (some (kb (kX X kvs))) := by rfl) (hN : X.N[i]? = some x := by rfl)
    (hv : Vis X.env.scope x := by first | exact Or.inl rfl | exact Or.inr (Or.inl rfl) | exact Or.inr (Or.inr rfl)) (hd : (x == ("__debug__" : Str)) = false := by decide)
    (hcd : (x == ("__classdict__" : Str)) = false := by decide) (hbase : attributeBase (.Name x py) "items" X.env (eval (.Name x py) X.env) = eval (.Name x py) X.env := by rfl) (hline : (apos.endLine == cpos.line) = true := by rfl) :
    DI X G (.Tuple elts kk tpos) (.Call (.Attribute (.Name x py) "items" apos) [] [] cpos) kvs.length (fun i => sd (.tuple [cD (kvs[i]?.getD ((0, 0), .none)).1, (kvs[i]?.getD ((0, 0), .none)).2])) := by
  refine ⟨_, pi_xitems (pv i hN hv hd hcd) hbase hline, fun Z B H σ R E g => ?_⟩
  obtain ⟨v, fp, h1, hf, fp', p, o, xs, rfl, k1, k2, k3, k4⟩ := E.sl i _ hG
  refine ⟨_, h1, p, o, xs, rfl, .inl (E.z.at k2), k3, fun q hq => ?_, g _ B H (Ext.refl E.sub) fun j B2 H2 e1 e2 e3 => ?_⟩
  · obtain ⟨n, hn⟩ := List.getElem?_of_mem hq
    obtain ⟨_, _, _, _, v, rv, _⟩ := k4.get hn
    exact ⟨v, rv⟩
  · have ln := k4.len
    refine ⟨fun hj => ⟨⟨.inl (e3.at k2), k3, by omega⟩, fun y H' hy => ?_⟩, fun hj => ⟨.inl (e3.at k2), k3, by omega⟩⟩
    obtain ⟨a, q, v, hq, rv, rfl, ha, rfl⟩ := hy
    obtain ⟨p2, y1, y2, y3, v', rv', y4⟩ := k4.get hq
    have ev := rv.inj rv'
    subst ev
    refine ⟨_, Ext.lay e2 _ ha, rfl, ?_⟩
    rw [y1]
    have hb : B2 a = none := e2.free ha
    have sB : Same B2 (upd B2 a (.tup [.ref q.2.1, v])) := same_upd hb
    exact .tup (.inl upd_same) (.cons (.tup (Same.tupD sB (Same.tupD e1 y3)) (.cons (.int _) (.cons (.int _) .nil))) (.cons (Tp.mono sB _ _ (Tp.mono e1 _ _ y4)) .nil))
end
end Dw

namespace Dw
open PySem L2 PyProof.Rows
variable {c : Cl}
def keysO (p d : Addr) : HO := .ext fun h => PySem.W.KdlKeysView h p d
theorem keysO_ok {P : Program} {w : World} {H : Hp} {h : Heap} {p d : Addr} (e : h.get? p = some { cls := .type "dict_keys", data := .fields #[.ref d] }) : ObjOk P w H h p (keysO p d) :=
  ⟨⟨_, e, rfl, rfl⟩, ⟨_, e⟩, fun h1 h2 x k => let ⟨o, ho, r⟩ := x; ⟨o, k o ho, r⟩⟩
section
variable {prog : Program} {w : World} {A : Around} {E : Value → Shared → Prop} {s : Shared}
theorem meetsKeys {d : Addr} {es : Array DictEntry} {ep : Nat} (hd : (d == sysModules) = false) :
    MeetsIn prog w (Builtin.«dict.keys» ⟨[.ref d], []⟩) (fun _ R s => _root_.DT.Raw s.heap d es ep ∧
      R (.ok (.ret (.ref s.heap.objs.size))) { s with heap := s.heap.push { cls := .type "dict_keys", data := .fields #[.ref d] } }) :=
  .of_wp fun A R s ⟨hm, h⟩ => by
    refine wpAny_bind ?_
    unfold Builtin.Dict.noArgs
    refine wpAny_bind (wpAny_notOrdered_dict hm.typeIs ?_)
    show wpAny _ _ (pure d) _ _ s
    refine wpAny_pure ?_
    show wpAny _ _ (Builtin.Dict.showsAll d >>= _) _ _ s
    unfold Builtin.Dict.showsAll
    rw [if_neg (by rw [hd]; exact Bool.false_ne_true)]
    refine wpAny_bind (wpAny_pure ?_)
    exact wpAny_bind (wpAny_newObj_type (wpAny_pure ⟨_, rfl, h⟩))
/-- sorted of what is collected: pairs of ints -/
theorem sortedC {r d : Addr} {n : Nat} {P : Nat → Value → Prop} {OK : Heap → Prop} {T : String} {k : Value → Int × Int} {Q : Value → Shared → Prop} (Kd : PySem.W.KdlSrc prog w T r d n P OK) (hh : A.handled = none) (hok : OK s.heap) (hn : n ≤ sizeLine)
    (hp : ∀ (acc : Array Value), ItemsOf P acc n → ∀ v ∈ acc.toList, Srt.IsPair s.heap v (k v).1 (k v).2)
    (h : ∀ (h' : Heap) (tk : Nat) (l : Addr) (acc : Array Value) (out : List Value), ItemsOf P acc n → SrtO.Srtd (fun v u => SrtO.lexB (k v) (k u)) out → out.Perm acc.toList → (∀ b o, s.heap.get? b = some o → h'.get? b = some o) → (∀ b o, s.heap.get? b = some o → b < l) →
      (∃ e, h'.get? l = some (seqObj "list" out.toArray e)) → Q (.ref l) { s with heap := h', toks := tk }) :
    wpAny (model prog w) A (call (.builtin "sorted") [.ref r]) Q E s := by
  refine Calls.call_function_entry PyProof.Rows.kind_sorted PyProof.Rows.plain_sorted PyProof.Rows.entry_sorted (PyProof.Rows.args_sorted1 _) ?_
  unfold Builtin.«sorted»
  refine wpAny_bind (m := checkCount "sorted" 1 1 _) (wpAny_pure ?_)
  refine wpAny_bind (PySem.W.kdu_collect (A := A.in1) Kd hh hok hn fun h' tk acc hk hI => ?_)
  have hlen : acc.toList.length ≤ sizeLine := by rw [Array.length_toList, hI.1]; exact hn
  refine wpAny_bind (wpAny_newList ?_ hlen)
  have hoL : (h'.push (seqObj "list" acc.toList.toArray 0)).get? h'.objs.size = some (seqObj "list" acc.toList.toArray 0) := Heap.get?_push_size _ rfl
  have below : ∀ b o, s.heap.get? b = some o → b < h'.objs.size := fun b o e => Heap.lt_size (hk b o e)
  have keep : ∀ b o, s.heap.get? b = some o → (h'.push (seqObj "list" acc.toList.toArray 0)).get? b = some o := fun b o e => Heap.get?_push_of_some _ (hk b o e)
  refine wpAny_bind (wpAny_holding (wpAny_call_entry PyProof.Rows.slot_list_sort ⟨_, hoL, rfl⟩ PyProof.Rows.entry_list_sort (SrtO.list_sort_ord (SrtO.swo_lex k) hoL hlen (fun h2 => ?_) fun out hs hb => ⟨_, rfl, ?_⟩) (PyProof.Rows.args_list_sort _)))
  · exact SrtO.pairs_sortableO (by omega) (fun v hm => (hp acc hI v hm).keeps fun b o e _ => keep b o e) fun o e => by
      have e' := e.symm.trans hoL
      cases e'
      intro z
      exact absurd (Value.type.inj z) (by decide)
  · exact wpAny_pure ⟨_, rfl, h _ _ _ acc out hI hs hb.perm (fun b o e => (sortedHeap_old (Nat.ne_of_lt (below b o e)) (Heap.lt_size (keep b o e))).trans (keep b o e)) below (sortedHeap_at hoL)⟩
end
theorem ObjOk_live {P : Program} {w : World} {H : Hp} {h : Heap} {a : Addr} {o : HO} (x : ObjOk P w H h a o) : ∃ ob, h.get? a = some ob := by
  cases o with
  | lst xs => obtain ⟨_, _, _, _, e⟩ := x; exact ⟨_, e⟩
  | tup xs => obtain ⟨_, _, _, o, e, _⟩ := x; exact ⟨o, e⟩
  | dK kvs => obtain ⟨_, _, _, _, o, _, _, e, _⟩ := x; exact ⟨o, e⟩
  | dT kvs => obtain ⟨_, _, _, _, o, _, _, e, _⟩ := x; exact ⟨o, e⟩
  | set S n => obtain ⟨o, _, _, _, e, _⟩ := x; exact ⟨o, e⟩
  | ins C dx fs => obtain ⟨_, _, _, e, _⟩ := x; exact ⟨_, e⟩
  | own y => exact x
  | xd fs => obtain ⟨_, ⟨o, _, _, e, _⟩, _⟩ := x; exact ⟨o, e⟩
  | rng lo hi => obtain ⟨_, _, _, e⟩ := x; exact ⟨_, e⟩
  | frz ob u => exact ⟨ob, x.1⟩
  | tbl ps => exact ⟨_, (show h.get? a = some _ from x)⟩
  | met f y => exact ⟨_, (show h.get? a = some _ from x)⟩
  | ext φ => exact x.2.1
theorem Inv.fpLive {X : Cx} {pins : List (Addr × Obj)} {σ : Sg} {H : Hp} {s : Shared} {l : Addr} (I : Inv X pins σ H s) (h : ∀ b o, s.heap.get? b = some o → b < l) : H l = none ∧ FpOk X pins H l := by
  have hn : H l = none := by
    cases q : H l with
    | none => rfl
    | some o =>
      obtain ⟨ob, e⟩ := ObjOk_live (I.hok l o q)
      exact absurd (h l ob e) (Nat.lt_irrefl _)
  have hL : X.env.locals < l := by
    obtain ⟨m, ⟨o, es, ep, e, _⟩, _⟩ := I.loc
    exact h _ _ e
  have h0 : X.s_0.heap.objs.size ≤ l := Nat.le_trans I.ok.above (Nat.le_of_lt hL)
  refine ⟨hn, hn, Nat.ne_of_gt hL, fun hb => ?_, .inr h0, fun x c e z => ?_, fun p hp z => ?_⟩
  · obtain ⟨_, o, ho, _⟩ := I.ok.funs.mem hb
    exact absurd (Nat.lt_of_lt_of_le (Heap.lt_size ho) h0) (Nat.lt_irrefl _)
  · obtain ⟨v, o, ho, _⟩ := I.cell x c e
    exact absurd (h c o ho) (by rw [z]; exact Nat.lt_irrefl _)
  · exact absurd (h _ _ (I.pin p hp).1) (by rw [z]; exact Nat.lt_irrefl _)
def kP : List Key → Int × Int
  | [.inl i, .inl j] => (i, j)
  | _ => (0, 0)
theorem kP_cK (p : Cell) : kP (cK p) = p := rfl
abbrev entR (z : List Key × Addr × Value) : Value := .ref z.2.1
section
variable {X : Cx}
def rXSort (X : Cx) : List V → Hp → VK → Prop := fun vs H Q => ∃ p a xs, vs = [.ref p] ∧ H p = some (keysO p a) ∧ XD X H a xs ∧
  ∀ L : Ents, L.Perm xs → L.Pairwise (fun x y => SrtO.lexB (kP y.1) (kP x.1) = false) → ∀ l, H l = none → Q (.ref l) (upd H l (.lst (L.map fun z => V.ref z.2.1)))
theorem pair_inj {h : Heap} {v : Value} {x y x' y' : Int} (a : Srt.IsPair h v x y) (b : Srt.IsPair h v x' y') : x = x' ∧ y = y' := by
  obtain ⟨a1, o, t, u, n, e, h1, _, h2⟩ := a
  obtain ⟨a2, o', t', u', n', e', h1', _, h2'⟩ := b
  rw [e] at e'
  cases e'
  rw [h1] at h1'
  cases h1'
  rw [h2] at h2'
  injection h2' with z _
  have z' := congrArg Array.toList z
  simp at z'
  exact ⟨z'.1.1, z'.2.1⟩
theorem cr_xsorted (hc : X.calm = true) : CallR X (.builtin "sorted") (rXSort X) := by
  classical
  intro pins s σ H xs us Q I r h
  obtain ⟨p, a, ents, rfl, hp, hd, q⟩ := h
  obtain rfl := Vals.ref1 r
  have view : PySem.W.KdlKeysView s.heap p a := (show ObjOk X.prog X.w H s.heap p (keysO p a) from I.hok p _ hp).1
  obtain ⟨o, g0, z1, z2, es, ep, x1, x2, x3, x4⟩ := xd_raw I hd
  have l2 : es.size = ents.length := by rw [← Array.length_toList, x3, List.length_map]
  have pr : ∀ z ∈ ents, Srt.IsPair s.heap (entR z) (kP z.1).1 (kP z.1).2 := fun z hz => by
    obtain ⟨k, e, hk⟩ := hd.keys z hz
    obtain ⟨its, rv, ⟨ot, h1, h2, n, h3⟩, _⟩ := I.tuple hk
    rw [e, kP_cK]
    cases rv with
    | cons r1 t1 =>
      cases t1 with
      | cons r2 t2 =>
        cases t2
        obtain ⟨t, rfl⟩ := r1
        obtain ⟨u, rfl⟩ := r2
        exact ⟨_, ot, t, u, n, rfl, h1, h2, h3⟩
  let k : Value → Int × Int := fun v => if h : ∃ x y, Srt.IsPair s.heap v x y then (h.choose, h.choose_spec.choose) else (0, 0)
  have kk : ∀ z ∈ ents, k (entR z) = kP z.1 := fun z hz => by
    have ex : ∃ x y, Srt.IsPair s.heap (entR z) x y := ⟨_, _, pr z hz⟩
    show (if h : ∃ x y, Srt.IsPair s.heap (entR z) x y then (h.choose, h.choose_spec.choose) else (0, 0)) = _
    rw [dif_pos ex]
    obtain ⟨y1, y2⟩ := pair_inj ex.choose_spec.choose_spec (pr z hz)
    exact Prod.ext y1 y2
  have accE : ∀ acc : Array Value, ItemsOf (fun i v => ∃ hi : i < es.size, v = es[i].key) acc es.size → acc.toList = ents.map entR := fun acc hI => by
    refine List.ext_getElem? fun i => ?_
    rw [Array.getElem?_toList, List.getElem?_map]
    cases e : acc[i]? with
    | none =>
      have : es.size ≤ i := by rw [← hI.1]; exact Array.getElem?_eq_none_iff.mp e
      rw [List.getElem?_eq_none (by omega)]
      rfl
    | some v =>
      obtain ⟨hi, rfl⟩ := hI.2 i v e
      obtain ⟨z, hz⟩ : ∃ z, ents[i]? = some z := ⟨ents[i], List.getElem?_eq_getElem (by omega)⟩
      obtain ⟨hi', e1, _⟩ := entry_get x3 hz
      rw [hz, e1]
      rfl
  refine sortedC (k := k) (PySem.KdlSrc.rawKeys (es := es) (ep := ep)) (I.ok.hd hc) ⟨view, o, g0, x1, x2⟩ (by omega) (fun acc hI v hv => ?_) fun h' tk l acc out hI hs hperm hk hb hl => ?_
  · rw [accE acc hI] at hv
    obtain ⟨z, hz, rfl⟩ := List.mem_map.mp hv
    rw [kk z hz]
    exact pr z hz
  · rw [accE acc hI] at hperm
    obtain ⟨L, hL, eL⟩ := perm_lift entR hperm ents rfl
    obtain ⟨hn, fp⟩ := Dw.Inv.fpLive I hb
    obtain ⟨e, hl⟩ := hl
    have new : ObjOk X.prog X.w (upd H l (.lst (L.map fun z => V.ref z.2.1))) h' l (.lst (L.map fun z => V.ref z.2.1)) := by
      refine ⟨by rw [List.length_map, hL.length_eq]; exact z2, out, e, ?_, hl⟩
      rw [← eL]
      clear hs eL hL q
      induction L with
      | nil => exact .nil
      | cons z L ih => exact .cons rfl ih
    refine ⟨.ref l, _, Inv.take (t' := tk) I (fun b o _ e => hk b o e) fp new, rfl, q L hL ?_ l hn⟩
    rw [← eL] at hs
    have hs2 := List.pairwise_map.mp hs
    refine List.Pairwise.imp_of_mem ?_ hs2
    intro x y hx hy hxy
    replace hxy : SrtO.lexB (k (entR y)) (k (entR x)) = false := hxy
    rw [kk y (hL.mem_iff.mp hy), kk x (hL.mem_iff.mp hx)] at hxy
    exact hxy
end
end Dw

namespace Dw
open PySem L2 PyProof.Rows
variable {c : Cl}
def leC (p q : Cell) : Bool := !SrtO.lexB q p
theorem leC_iff {p q : Cell} : leC p q = true ↔ p.1 < q.1 ∨ (p.1 = q.1 ∧ p.2 ≤ q.2) := by
  unfold leC
  rw [Bool.not_eq_true', SrtO.lexB_no]
  omega
theorem leC_trans (a b d : Cell) (h : leC a b = true) (g : leC b d = true) : leC a d = true := by
  rw [leC_iff] at *
  omega
theorem leC_total (a b : Cell) : (leC a b || leC b a) = true := by
  rw [Bool.or_eq_true, leC_iff, leC_iff]
  omega
theorem leC_anti {a b : Cell} (h : leC a b = true) (g : leC b a = true) : a = b := by
  rw [leC_iff] at *
  exact Prod.ext (by omega) (by omega)
def sortC (l : List Cell) : List Cell := l.mergeSort leC
theorem sortC_perm (l : List Cell) : (sortC l).Perm l := List.mergeSort_perm l leC
theorem sortC_mem {l : List Cell} {k : Cell} : k ∈ sortC l ↔ k ∈ l := (sortC_perm l).mem_iff
theorem sortC_sorted (l : List Cell) : (sortC l).Pairwise fun a b => leC a b = true := List.pairwise_mergeSort leC_trans leC_total l
theorem sortC_of {l m : List Cell} (h : m.Perm l) (s : m.Pairwise fun a b => leC a b = true) : m = sortC l :=
  List.Perm.eq_of_pairwise (fun _ _ _ _ => leC_anti) s (sortC_sorted l) (h.trans (sortC_perm l).symm)
section
variable {X : Cx} {o : Expr} {td : TE} {apos cpos : Pos}
def tXKeys (X : Cx) (td : TE) : TE := fun σ H Q => td σ H fun x H1 => ∃ a xs, x = .ref a ∧ XD X H1 a xs ∧ ∀ p, H1 p = none → Q (.ref p) (upd H1 p (keysO p a))
theorem pe_xkeys (ho : PE X o td) (hbase : attributeBase o "keys" X.env (eval o X.env) = eval o X.env := by rfl) (hline : (apos.endLine == cpos.line) = true := by rfl) : PE X (.Call (.Attribute o "keys" apos) [] [] cpos) (tXKeys X td) := by
  refine ⟨fun pins s σ H Q I h => ?_⟩
  refine wpAny_Call_method (T := "dict") (id := "dict.keys") hbase rfl hline PySem.F.plainAttrs_dict PySem.F.slot_dict_keys PySem.F.type_dict_keys (thn (ho.run pins s σ H _ I h) fun u s1 ⟨x, H1, I1, rx, a, xs, ex, hd, q1⟩ => ?_)
  subst ex
  obtain rfl : u = Value.ref a := rx
  obtain ⟨t1, t2⟩ := xd_there I1 hd
  obtain ⟨ob, g0, z1, z2, es, ep, x1, x2, x3, x4⟩ := xd_raw I1 hd
  refine ⟨t1, t2, ?_⟩
  show wpAny _ _ (callWith cpos (.builtin "dict.keys") [.ref a] [] []) _ X.xe s1
  have hf : H1 s1.heap.objs.size = none := I1.hok.fresh (Nat.le_refl _)
  exact method_meetsIn PySem.F.slot_dict_keys PySem.F.entry_dict_keys rfl (PySem.evalArgs_none ⟨rfl, t1, PySem.F.args_dict_keys_1 _, _, meetsKeys (es := es) (ep := ep) z1, ⟨⟨ob, g0, x1, x2⟩,
    ⟨.ref s1.heap.objs.size, upd H1 s1.heap.objs.size (keysO s1.heap.objs.size a), I1.laid (t' := s1.toks) (fun b u e => Heap.get?_push_of_some _ e) (Nat.le_refl _) (keysO_ok (Heap.get?_push_size _ rfl)), rfl, q1 _ hf⟩⟩⟩)
end
section
variable {X : Cx} {G : Env X.K c} {o : Expr} {apos cpos p pos : Pos} {kvs : List (Cell × D)} {n : Nat}
/-- the entries, told by the cells -/
theorem EntG.cells {K : PySem.W.Frag} {B : Hp} {α : Type} {F : V → α → Prop} {xs : Ents} {kvs : List (Cell × α)} (h : EntG K B F xs kvs) : xs.map (fun z => kP z.1) = kvs.map (·.1) ∧ ∀ z ∈ xs, TupD K B z.2.1 (cV (kP z.1)) := by
  unfold EntG at h
  induction h with
  | nil => exact ⟨rfl, fun _ z => absurd z List.not_mem_nil⟩
  | @cons q p qs ps a t ih =>
    obtain ⟨h1, h2, _⟩ := a
    refine ⟨by rw [List.map_cons, List.map_cons, ih.1, h1, kP_cK], fun z hz => ?_⟩
    rcases List.mem_cons.mp hz with rfl | hz
    · rw [h1, kP_cK]; exact h2
    · exact ih.2 z hz
theorem tpAll_keys {K : PySem.W.Frag} {B : Hp} : ∀ {L : Ents}, (∀ z ∈ L, TupD K B z.2.1 (cV (kP z.1))) → TpAll K c B (L.map fun z => V.ref z.2.1) ((L.map fun z => kP z.1).map cD)
  | [], _ => .nil
  | z :: L, h => .cons (.tup (h z List.mem_cons_self) (.cons (.int _) (.cons (.int _) .nil))) (tpAll_keys fun y hy => h y (List.mem_cons_of_mem _ hy))
/-- sorted(d.keys()) -/
theorem dx_sortedKeys (C : Bd X n) (ho : DK X G o (kX (c := c) X kvs)) (hm : X.mg "sorted" = none) (hbase : attributeBase o "keys" X.env (eval o X.env) = eval o X.env := by rfl) (hline : (apos.endLine == cpos.line) = true := by rfl)
    (hg : Gl X "sorted" := by rfl) (he : starEach [.Call (.Attribute o "keys" apos) [] [] cpos] X.env = [(false, eval (.Call (.Attribute o "keys" apos) [] [] cpos) X.env)] := by rfl) :
    DX X G (.Call (.Name "sorted" p) [.Call (.Attribute o "keys" apos) [] [] cpos] [] pos) (so ((sortC (kvs.map (·.1))).map cD)) := by
  obtain ⟨t, q, r⟩ := ho
  refine ⟨_, pe_callB (cr_xsorted C.calm) hg hm (by decide +kernel) (pa_cons (pe_xkeys q hbase hline) pa_nil he) (by decide) (by decide) he rfl, fun Z B H σ Q E g => r Z B H σ _ E fun v B1 H1 fp e1 ⟨a, ob, xs, h1, h2, h3, h5, h4⟩ => ?_⟩
  refine ⟨a, xs, h1, ⟨⟨ob, .inl h3, h5⟩, h4.keys e1.sub⟩, fun k hk => ?_⟩
  have hs : Same H1 (upd H1 k (keysO k a)) := same_upd hk
  refine ⟨k, a, xs, rfl, upd_same, ⟨⟨ob, .inl (hs _ _ h3), h5⟩, h4.keys (e1.sub.trans hs)⟩, fun L hL hp l hl => ?_⟩
  obtain ⟨c1, c2⟩ := h4.cells
  have e2 : Ext B H B1 (upd H1 k (keysO k a)) := e1.trans (Ext.layH e1.sub _ hk)
  have eL : L.map (fun z => kP z.1) = sortC (kvs.map (·.1)) := by
    refine sortC_of ((hL.map _).trans (by rw [c1])) ?_
    rw [List.pairwise_map]
    exact hp.imp fun {x y} h => by
      show (!SrtO.lexB (kP y.1) (kP x.1)) = true
      rw [h]
      rfl
  rw [← eL] at g
  exact gs_lst e2.sub (gs_ext e2 g) (tpAll_keys fun z hz => c2 z (hL.mem_iff.mp hz)) hl
end
end Dw

namespace Dw
open PySem L2 PyProof.Rows
variable {c : Cl}
def less (H : Hp) (fp : List Addr) : Hp := fun a => if a ∈ fp then none else H a
theorem less_in {H : Hp} {fp : List Addr} {a : Addr} (h : a ∈ fp) : less H fp a = none := if_pos h
theorem less_out {H : Hp} {fp : List Addr} {a : Addr} (h : a ∉ fp) : less H fp a = H a := if_neg h
/-- kept but at fp -/
structure KpF (fp : List Addr) (H H' : Hp) : Prop where
  at' : ∀ a o, H a = some o → nt o = true → a ∉ fp → H' a = some o
  th : ∀ a, H a ≠ none → H' a ≠ none
  tb : ∀ P q, Dw.TabS H P q → Dw.TabS H' P q
section
variable {K : PySem.W.Frag}
/-- the slots' things, each where it lies -/
structure SlP (F : Ent) (G : Env K c) (B H : Hp) (σ : Sg) (fps : Nat → List Addr) : Prop where
  a : ∀ i s, G[i]? = some (some s) → ∃ v, σ[i]? = some (some v) ∧ s.P F.Z B H v (fps i) ∧ ∀ a ∈ fps i, if s.par = true then F.W a ∨ F.H0 a = none else F.H0 a = none
  d : ∀ i j s s', i ≠ j → G[i]? = some (some s) → G[j]? = some (some s') → ∀ a ∈ fps i, a ∉ fps j
inductive SlM (Z B H : Hp) (fp : List Addr) : List V → List (Slot K c) → Prop
  | nil : SlM Z B H fp [] []
  | cons {v : V} {vs : List V} {s : Slot K c} {ss : List (Slot K c)} : s.P Z B H v (if s.par then fp else []) → SlM Z B H fp vs ss → SlM Z B H fp (v :: vs) (s :: ss)
theorem SlM.length {Z B H : Hp} {fp : List Addr} : ∀ {vs : List V} {ss : List (Slot K c)}, SlM Z B H fp vs ss → vs.length = ss.length
  | _, _, .nil => rfl
  | _, _, .cons _ h => by simp [SlM.length h]
theorem SlM.get {Z B H : Hp} {fp : List Addr} : ∀ {vs : List V} {ss : List (Slot K c)} {i : Nat} {s : Slot K c}, SlM Z B H fp vs ss → ss[i]? = some s → ∃ v, vs[i]? = some v ∧ s.P Z B H v (if s.par then fp else [])
  | _, _, _, _, .nil, h => by simp at h
  | _, _, 0, _, .cons h _, e => by simp at e; subst e; exact ⟨_, rfl, h⟩
  | _, _, i + 1, _, .cons _ h, e => by simpa using SlM.get (i := i) h (by simpa using e)
/-- a def's promise: R tells the arguments' slots (one of them to be changed), what becomes of that one, and the value -/
def spM (K : PySem.W.Frag) (c : Cl) (j : Nat) (R : List (Slot K c) → Kind K c → D → Prop) : Sp := fun vs H Q _ => ∃ (B : Hp) (fp : List Addr) (ss : List (Slot K c)) (vm : V) (k k' : Kind K c) (d : D),
  Same B H ∧ Dw.TabsB c.tabs B H ∧ SlM (less H fp) B H fp vs ss ∧ ss[j]? = some (kn k true) ∧ vs[j]? = some vm ∧ (∀ i s, ss[i]? = some s → s.par = true → i = j) ∧ (∀ a ∈ fp, B a = none ∧ H a ≠ none) ∧ R ss k' d ∧
  ∀ B' H' v fp', Same B B' → Same B' H' → KpF fp H H' → (∀ a, B a = none → H a ≠ none → B' a = none) → k'.I B' H' vm fp' → (∀ a ∈ fp', B' a = none ∧ (a ∈ fp ∨ H a = none)) → Tp K c B' v d → Q v H'
structure DefOkM (P : Program) (w : World) (K : PySem.W.Frag) (c : Cl) (mg : Str → Option Value) (base : Heap) (x : Str) (k j : Nat) (R : List (Slot K c) → Kind K c → D → Prop) : Prop where
  ex : ∃ f fd ps, mg x = some (.ref f) ∧ PySem.W.keepIn K (.ref f) = true ∧ Binds K fd ps [] ∧ FnOk P w K mg base CX0 k f fd ps (spM K c j R)
def endM {K : PySem.W.Frag} (j : Nat) (k' : Kind K c) (d : D) : Out K c → Prop
  | .ret s G => s = sd d ∧ G[j]? = some (some (kn k' true))
  | .nx G => d = .none ∧ G[j]? = some (some (kn k' true))
  | _ => False
theorem ste_startM {N : List Str} {B H : Hp} {fp : List Addr} {vs : List V} {ss : List (Slot K c)} {j : Nat} (sb : Same B H) (tt : Dw.TabsB c.tabs B H) (h : SlM (less H fp) B H fp vs ss) (h1 : ∀ i s, ss[i]? = some s → s.par = true → i = j) (hf : ∀ a ∈ fp, B a = none ∧ H a ≠ none) (hl : ss.length ≤ N.length) :
    StE ⟨fun a => a ∈ fp, B, H, less H fp, fun i => (L2.start N vs)[i]?.getD none⟩ (G0 N ss) B H (L2.start N vs) := by
  have el := h.length
  have at_ : ∀ i s, (G0 N ss)[i]? = some (some s) → ss[i]? = some s := fun i s q => by
    unfold G0 at q
    by_cases hi : i < ss.length
    · rw [List.getElem?_append_left (by simpa using hi), List.getElem?_map] at q
      cases e : ss[i]? with
      | none => rw [e] at q; cases q
      | some s' => rw [e] at q; cases q; rfl
    · rw [List.getElem?_append_right (by simpa using hi), List.getElem?_replicate] at q
      split at q <;> cases q
  refine ⟨sb, Same.refl _, fun a o q => ?_, fun a o q _ _ => q, fun a w => (hf a w).2, fun a q => q, fun P q t => t, tt, fun a q _ => q, ?_, fun i s v _ _ hv => by show (L2.start N vs)[i]?.getD none = some v; rw [hv]; rfl,
    fun i => match ss[i]? with | some s => if s.par then fp else [] | none => [], fun i s q => ?_, fun i i' s s' ne q1 q2 a ha hb => ?_⟩
  · have q : less H fp a = some o := q
    by_cases z : a ∈ fp
    · rw [less_in z] at q; cases q
    · rw [less_out z] at q; exact ⟨q, z⟩
  · simp [L2.start, G0, el]
  · have e := at_ i s q
    obtain ⟨v, h1, h2⟩ := h.get e
    have hi : i < vs.length := (List.getElem?_eq_some_iff.mp h1).1
    refine ⟨v, ?_, ?_, fun a ha => ?_⟩
    · unfold L2.start
      rw [List.getElem?_append_left (by simpa using hi), List.getElem?_map, h1]
      rfl
    · simp only [e]; exact h2
    · simp only [e] at ha
      cases hp : s.par with
      | true => rw [hp] at ha; exact Or.inl ha
      | false => rw [hp] at ha; exact absurd ha List.not_mem_nil
  · have e1 := at_ i s q1
    have e2 := at_ i' s' q2
    simp only [e1] at ha
    simp only [e2] at hb
    cases hp : s.par with
    | false => rw [hp] at ha; exact List.not_mem_nil ha
    | true =>
      cases hp' : s'.par with
      | false => rw [hp'] at hb; exact List.not_mem_nil hb
      | true => exact ne ((h1 i s e1 hp).trans (h1 i' s' e2 hp').symm)
theorem def_fnM {P : Program} {w : World} {mg : Str → Option Value} {base : Heap} {x qual : Str} {st : Stmt} {f : Addr} {fd : FuncData} {N ps : List Str} {k j : Nat} {R : List (Slot K c) → Kind K c → D → Prop}
    (F : Fun K x qual st f fd) (S : FnScope N ps (defScope st)) (hR : ∀ ss k' d, R ss k' d → ss.length = ps.length)
    (body : ∀ (cdv : Value) (A : Around) (outer : List PySem.Env) (s : Shared) (H : Hp) (E : XK) (ss : List (Slot K c)) (k0 k' : Kind K c) (d : D), R ss k' d → ss[j]? = some (kn k0 true) → Bd (bx P w K mg base N qual st f cdv A outer s H E) k →
      DSs (c := c) (bx P w K mg base N qual st f cdv A outer s H E) (G0 N ss) (defBody st) (endM j k' d)) : FnOk P w K mg base CX0 (k + 1) f fd ps (spM K c j R) := by
  refine F.ok S (fun vs H Q E h => ?_) fun cdv A outer s H vs Q E hr h => ?_
  · obtain ⟨B, fp, ss, vm, k0, k', d, _, _, h, _, _, _, _, hq, _⟩ := h
    rw [h.length]
    exact hR ss k' d hq
  · obtain ⟨B, fp, ss, vm, k0, k', d, sb, tt, h, hj, hvm, h1, hf, hq, g⟩ := h
    have hl : ss.length ≤ N.length := by
      rw [hR ss k' d hq]
      have := congrArg List.length S.pre
      rw [List.length_take] at this
      omega
    have S0 := ste_startM (N := N) sb tt h h1 hf hl
    have fin : ∀ {G : Env K c} {B' H' : Hp} {σ : Sg} {v : V}, StE ⟨fun a => a ∈ fp, B, H, less H fp, fun i => (L2.start N vs)[i]?.getD none⟩ G B' H' σ → G[j]? = some (some (kn k' true)) → Tp K c B' v d → Q v H' := fun {G B' H' σ v} T e hv => by
      obtain ⟨fps, t1, _⟩ := T.sl
      obtain ⟨u, hu, ⟨y1, y2⟩, y3⟩ := t1 j _ e
      have pv0 := T.pn j _ u e rfl hu
      have pv1 : (L2.start N vs)[j]?.getD none = some u := pv0
      have hjl : j < vs.length := (List.getElem?_eq_some_iff.mp hvm).1
      unfold L2.start at pv1
      rw [List.getElem?_append_left (by simpa using hjl), List.getElem?_map, hvm] at pv1
      cases pv1
      exact g B' H' v (fps j) T.b0 T.sub ⟨T.h0, T.th, T.tb⟩ (fun a q r => T.new a q r) y1 (fun a ha => ⟨y2 a ha, y3 a ha⟩) hv
    refine ⟨_, pss_wp, body cdv A outer s H E ss k0 k' d hq hj ⟨S.nd, rfl, hr, PassesOwn.never⟩ _ B H _ _ S0 ⟨fun G B' H' σ T e => ?_, fun G B' H' σ T e => e.elim, fun G B' H' σ T e => e.elim, fun u G B' H' σ v fp' T p hf e => ?_, _, takes0N, fun cls G B' H' σ T e => e.elim⟩⟩
    · obtain ⟨e1, e2⟩ := e
      subst e1
      exact fin T e2 .non
    · obtain ⟨e1, e2⟩ := e
      subst e1
      exact fin T e2 (p H).2
theorem def_okM {P : Program} {w : World} {mg : Str → Option Value} {base : Heap} {x : Str} {st : Stmt} {N ps : List Str} {k j : Nat} {R : List (Slot K c) → Kind K c → D → Prop}
    (F : FunAt K mg x st ps) (S : FnScope N ps (defScope st)) (hR : ∀ ss k' d, R ss k' d → ss.length = ps.length)
    (body : ∀ (f : Addr) (cdv : Value) (A : Around) (outer : List PySem.Env) (s : Shared) (H : Hp) (E : XK) (ss : List (Slot K c)) (k0 k' : Kind K c) (d : D), R ss k' d → ss[j]? = some (kn k0 true) → Bd (bx P w K mg base N x st f cdv A outer s H E) k →
      DSs (c := c) (bx P w K mg base N x st f cdv A outer s H E) (G0 N ss) (defBody st) (endM j k' d)) : DefOkM P w K c mg base x (k + 1) j R := by
  obtain ⟨f, fd, hm, F, bn⟩ := F.ex
  exact ⟨f, fd, ps, hm, F.kp, bn, def_fnM F S hR (body f)⟩
/-- behind a call that changed the thing of the slot i -/
theorem StE.called {F : Ent} {G : Env K c} {B H B' H' : Hp} {σ : Sg} {i : Nat} {k k' : Kind K c} {par : Bool} {v : V} {fps : Nat → List Addr} {fp' : List Addr} (S : StE F G B H σ) (hP : SlP F G B H σ fps) (hi : G[i]? = some (some (kn k par))) (hv : σ[i]? = some (some v))
    (b1 : Same B B') (b2 : Same B' H') (b3 : KpF (fps i) H H') (b4 : ∀ a, B a = none → H a ≠ none → B' a = none) (hk : k'.I B' H' v fp') (hs : ∀ a ∈ fp', B' a = none ∧ (a ∈ fps i ∨ H a = none)) : StE F (G.set i (some (kn k' par))) B' H' σ := by
  obtain ⟨v0, hv0, p0, hw⟩ := hP.a i _ hi
  rw [hv] at hv0
  cases hv0
  have dm := (kn k par).dom p0
  have out : ∀ a, F.H0 a ≠ none → ¬ F.W a → a ∉ fps i := fun a q w z => by
    have := hw a z
    cases par with
    | true => exact Or.elim this w q
    | false => exact q this
  have il : i < G.length := (List.getElem?_eq_some_iff.mp hi).1
  refine ⟨b2, S.b0.trans b1, S.zf, fun a o q n w => b3.at' a o (S.h0 a o q n w) n (out a (by rw [q]; exact fun z => nomatch z) w), fun a w => b3.th a (S.hw a w), fun a q => b3.th a (S.th a q), fun P q t => b3.tb P q (S.tb P q t), ⟨fun p hp => b3.tb _ _ (S.tt.t p hp), fun p hp => b4 _ (S.tt.nb p hp) (S.tt.t p hp).ne⟩, fun a q r => b4 a (S.new a q r) (S.there r), by rw [List.length_set]; exact S.len, fun j s u q hq hu => ?_,
    fset fps i fp', fun j s q => ?_, fun j l s1 s2 ne q1 q2 a ha hb => ?_⟩
  · rcases getset q with ⟨rfl, e1, _⟩ | ⟨ne, q⟩
    · cases e1
      exact S.pn _ (kn k par) u hi hq hu
    · exact S.pn j s u q hq hu
  · rcases getset q with ⟨rfl, e1, _⟩ | ⟨ne, q⟩
    · cases e1
      refine ⟨v, hv, ⟨by rw [fset_same]; exact hk, fun a ha => ?_⟩, fun a ha => ?_⟩
      · rw [fset_same] at ha
        exact (hs a ha).1
      · rw [fset_same] at ha
        rcases (hs a ha).2 with z | z
        · exact hw a z
        · have n0 : F.H0 a = none := by
            cases q : F.H0 a with
            | none => rfl
            | some o => exact absurd z (S.there (by rw [q]; exact fun z => nomatch z))
          cases par with
          | true => exact Or.inr n0
          | false => exact n0
    · obtain ⟨u, r1, r2, r3⟩ := hP.a j s q
      have d := s.dom r2
      refine ⟨u, r1, ?_, fun a ha => ?_⟩
      · rw [fset_ne ne]
        refine s.stb r2 b1 (fun a ha => b4 a (d a ha).1 (d a ha).2.ne) fun a ha => ?_
        obtain ⟨o, e, n⟩ := (d a ha).2
        rw [e]
        exact b3.at' a o e n.nt fun z => hP.d i j _ s ne hi q a z ha
      · rw [fset_ne ne] at ha
        exact r3 a ha
  · rcases getset q1 with ⟨rfl, _, _⟩ | ⟨n1, r1⟩
    · rcases getset q2 with ⟨rfl, _, _⟩ | ⟨n2, r2⟩
      · exact ne rfl
      · rw [fset_same] at ha
        rw [fset_ne n2] at hb
        rcases (hs a ha).2 with z | z
        · exact hP.d _ l _ s2 n2 hi r2 a z hb
        · obtain ⟨u, _, r2', _⟩ := hP.a l s2 r2
          exact (s2.dom r2' a hb).2.ne z
    · rw [fset_ne n1] at ha
      rcases getset q2 with ⟨rfl, _, _⟩ | ⟨n2, r2⟩
      · rw [fset_same] at hb
        rcases (hs a hb).2 with z | z
        · exact hP.d j _ s1 _ (Ne.symm n1) r1 hi a ha z
        · obtain ⟨u, _, r1', _⟩ := hP.a j s1 r1
          exact (s1.dom r1' a ha).2.ne z
      · rw [fset_ne n2] at hb
        exact hP.d j l s1 s2 ne r1 r2 a ha hb
end
section
variable {X : Cx} {G : Env X.K c} {e value : Expr} {es : List Expr} {p pos : Pos} {x : Str} {d : D} {i : Nat}
/-- an argument (or, par, the name of slot i) -/
def DAN (X : Cx) (G : Env X.K c) (i : Nat) (e : Expr) (s : Slot X.K c) : Prop :=
  ∃ t, PE X e t ∧ ∀ F B H σ Q, StE F G B H σ → (∀ v B' H', Ext B H B' H' → (∀ B2 H2 fps, Ext B' H' B2 H2 → StE F G B2 H2 σ → SlP F G B2 H2 σ fps → s.P (less H2 (fps i)) B2 H2 v (if s.par then fps i else []) ∧ (s.par = true → σ[i]? = some (some v))) → Q v H') → t σ H Q
def DANs (X : Cx) (G : Env X.K c) (i : Nat) (es : List Expr) (ss : List (Slot X.K c)) : Prop :=
  ∃ t, PA X es t ∧ ∀ F B H σ Q, StE F G B H σ → (∀ vs B' H', Ext B H B' H' → (∀ B2 H2 fps, Ext B' H' B2 H2 → StE F G B2 H2 σ → SlP F G B2 H2 σ fps → SlM (less H2 (fps i)) B2 H2 (fps i) vs ss ∧ ∀ (j : Nat) (s : Slot X.K c) (v : V), ss[j]? = some s → s.par = true → vs[j]? = some v → σ[i]? = some (some v)) → Q vs H') → t σ H Q
theorem dan_de (h : DE X G e d) : DAN X G i e (sd d) := by
  obtain ⟨t, q, r⟩ := h
  exact ⟨t, q, fun F B H σ Q S g => r F.Z B H σ _ S.env fun v B' H' e1 hv => g v B' H' e1 fun B2 H2 fps e2 _ _ => ⟨⟨rfl, Tp.mono e2.b _ _ hv⟩, fun z => nomatch z⟩⟩
/-- the name of the slot that is changed -/
theorem dan_me {k : Kind X.K c} {par : Bool} (hG : G[i]? = some (some (kn k par)) := by rfl) (hN : X.N[i]? = some x := by rfl)
    (hv : Vis X.env.scope x := by first | exact Or.inl rfl | exact Or.inr (Or.inl rfl) | exact Or.inr (Or.inr rfl)) (hd : (x == ("__debug__" : Str)) = false := by decide)
    (hcd : (x == ("__classdict__" : Str)) = false := by decide) : DAN X G i (.Name x pos) (kn k true) := by
  refine ⟨_, pv i hN hv hd hcd, fun F B H σ Q S g => ?_⟩
  obtain ⟨v, fp, h1, h2⟩ := S.env.sl i _ hG
  refine ⟨v, h1, g v B H (Ext.refl S.sub) fun B2 H2 fps e2 _ hP => ?_⟩
  obtain ⟨u, hu, hp, _⟩ := hP.a i _ hG
  rw [h1] at hu
  cases hu
  exact ⟨hp, fun _ => h1⟩
/-- a thing that was handed in to be read -/
theorem dan_kb {k : Kind X.K c} {par : Bool} {ki : Kind X.K c} (j : Nat) (hi : G[i]? = some (some (kn ki par)) := by rfl) (hG : G[j]? = some (some (kb k)) := by rfl) (hN : X.N[j]? = some x := by rfl)
    (hv : Vis X.env.scope x := by first | exact Or.inl rfl | exact Or.inr (Or.inl rfl) | exact Or.inr (Or.inr rfl)) (hd : (x == ("__debug__" : Str)) = false := by decide)
    (hcd : (x == ("__classdict__" : Str)) = false := by decide) : DAN X G i (.Name x pos) (kb k) := by
  refine ⟨_, pv j hN hv hd hcd, fun F B H σ Q S g => ?_⟩
  obtain ⟨v, fp, h1, h2⟩ := S.env.sl j _ hG
  refine ⟨v, h1, g v B H (Ext.refl S.sub) fun B2 H2 fps e2 S2 hP => ⟨?_, fun z => nomatch z⟩⟩
  obtain ⟨u, hu, ⟨z1, fp', hp⟩, _⟩ := hP.a j _ hG
  rw [h1] at hu
  cases hu
  refine ⟨rfl, fp', k.stb hp (Same.refl _) fun a ha => ?_⟩
  obtain ⟨o, e, n⟩ := k.dom hp a ha
  obtain ⟨y1, y2⟩ := S2.zf a o e
  obtain ⟨_, _, _, hw⟩ := hP.a i _ hi
  have na : a ∉ fps i := fun z => by
    have := hw a z
    cases par with
    | true => exact Or.elim this y2 fun z => (by rw [y1] at z; cases z)
    | false =>
      have this : F.H0 a = none := this
      rw [y1] at this
      cases this
  rw [less_out na, e]
  exact S2.h0 a o y1 n.nt y2
/-- a thing of one's own, to be read -/
theorem dan_kn {k : Kind X.K c} {par par2 : Bool} {ki : Kind X.K c} (j : Nat) (ne : i ≠ j := by decide) (hi : G[i]? = some (some (kn ki par)) := by rfl) (hG : G[j]? = some (some (kn k par2)) := by rfl) (hN : X.N[j]? = some x := by rfl)
    (hv : Vis X.env.scope x := by first | exact Or.inl rfl | exact Or.inr (Or.inl rfl) | exact Or.inr (Or.inr rfl)) (hd : (x == ("__debug__" : Str)) = false := by decide)
    (hcd : (x == ("__classdict__" : Str)) = false := by decide) : DAN X G i (.Name x pos) (kb k) := by
  refine ⟨_, pv j hN hv hd hcd, fun F B H σ Q S g => ?_⟩
  obtain ⟨v, fp, h1, h2⟩ := S.env.sl j _ hG
  refine ⟨v, h1, g v B H (Ext.refl S.sub) fun B2 H2 fps e2 S2 hP => ⟨?_, fun z => nomatch z⟩⟩
  obtain ⟨u, hu, ⟨hp, _⟩, _⟩ := hP.a j _ hG
  rw [h1] at hu
  cases hu
  exact ⟨rfl, fps j, k.stb hp (Same.refl _) fun a ha => less_out fun z => hP.d i j _ _ ne hi hG a z ha⟩
theorem dans_nil : DANs X G i [] [] := ⟨_, pa_nil, fun F B H σ Q S g => g [] B H (Ext.refl S.sub) fun B2 H2 fps e2 _ _ => ⟨.nil, fun j s v e => by simp at e⟩⟩
theorem dans_cons {s : Slot X.K c} {ss : List (Slot X.K c)} (h : DAN X G i e s) (t : DANs X G i es ss) (hs : starEach (e :: es) X.env = (false, eval e X.env) :: starEach es X.env := by rfl) : DANs X G i (e :: es) (s :: ss) := by
  obtain ⟨te, pe, re⟩ := h
  obtain ⟨ts, ps, rs⟩ := t
  refine ⟨_, pa_cons pe ps hs, fun F B H σ Q S g => re F B H σ _ S fun v B1 H1 e1 q1 => rs F B1 H1 σ _ (S.ext e1) fun vs B2 H2 e2 q2 => ?_⟩
  refine g (v :: vs) B2 H2 (e1.trans e2) fun B3 H3 fps e3 S3 hP => ?_
  obtain ⟨a1, a2⟩ := q1 B3 H3 fps (e2.trans e3) S3 hP
  obtain ⟨b1, b2⟩ := q2 B3 H3 fps e3 S3 hP
  refine ⟨.cons a1 b1, fun j s' w e hp hw => ?_⟩
  cases j with
  | zero =>
    simp at e hw
    subst e hw
    exact a2 hp
  | succ j => exact b2 j s' w (by simpa using e) hp (by simpa using hw)
/-- f(.., x, ..), x's thing is changed -/
theorem dmd_call {R : List (Slot X.K c) → Kind X.K c → D → Prop} {n j : Nat} {ss : List (Slot X.K c)} {k k' : Kind X.K c} {par : Bool} {f : Str} (F : DefOkM X.prog X.w X.K c X.mg X.base f n j R) (hr : Room n X.A) (ha : DANs X G i (e :: es) ss) (hR : R ss k' d)
    (hj : ss[j]? = some (kn k true) := by rfl) (h1 : ∀ (l : Nat) (s : Slot X.K c), ss[l]? = some s → s.par = true → l = j) (hg : Gl X f := by rfl) (hdb : (f == ("__debug__" : Str)) = false := by decide)
    (he : starEach (e :: es) X.env = (false, eval e X.env) :: starEach es X.env := by rfl) (hpl : (backTo pos (starEach es X.env)).any (·.1) = false := by rfl) :
    DMD X G (.Call (.Name f p) (e :: es) [] pos) i (kn k par) (kn k' par) d := by
  obtain ⟨ta, pa, ra⟩ := ha
  obtain ⟨fa, fd, ps, hm, hk, hb, F⟩ := F.ex
  refine ⟨_, pe_call F hr hg hm hk hb .nil pass0 pa hdb he hpl, fun Fe B H σ Q S hG g => ra Fe B H σ _ S fun vs B1 H1 e1 q1 => ?_⟩
  have S1 := S.ext e1
  obtain ⟨fps, s1, s2⟩ := S1.sl
  have hP : SlP Fe G B1 H1 σ fps := ⟨s1, s2⟩
  obtain ⟨m1, m2⟩ := q1 B1 H1 fps (Ext.refl e1.sub) S1 hP
  obtain ⟨vm, hvm, _⟩ := m1.get hj
  have hσ := m2 j _ vm hj rfl hvm
  obtain ⟨u, hu, hp, _⟩ := s1 i _ hG
  rw [hσ] at hu
  cases hu
  have dm := (kn k par).dom hp
  rw [List.append_nil]
  refine ⟨B1, fps i, ss, vm, k, k', d, e1.sub, S1.tt, m1, hj, hvm, h1, fun a ha => ⟨(dm a ha).1, (dm a ha).2.ne⟩, hR, fun B' H' v fp' b1 b2 b3 b4 b5 b6 b7 => ?_⟩
  exact g v B' H' (S1.called hP hG hσ b1 b2 b3 b4 b5 b6) (e1.b.trans b1) b7
end
end Dw

namespace Dw
open PySem L2 PyProof.Rows
variable {c : Cl}
section
variable {X : Cx} {G : Env X.K c} {e : Expr} {rest : List Stmt} {Ph : Out X.K c → Prop} {pos pos' : Pos} {x : Str} {d : D} {k : Nat}
/-- name = f(.., y, ..), y's thing is changed -/
theorem dss_setM {s s' : Slot X.K c} (C : Bd X k) (i j : Nat) (he : DMD X G e i s s' d) (h : DSs X ((G.set i (some s')).set j (some (sd d))) rest Ph) (hG : G[i]? = some (some s) := by rfl) (hi : X.N[j]? = some x := by rfl) (hx : Loc X.env.scope x := by first | exact Or.inl rfl | exact Or.inr rfl)
    (hs : swapsWith e (some (.Name x pos')) pos.line X.env = pure false := by rfl) (hf : X.fn x = true ∨ X.env.scope.names.lookup x = some .local := by first | exact .inl rfl | exact .inr rfl) : DSs X G (.Assign [.Name x pos'] e pos :: rest) Ph := fun F B H σ D S E => by
  obtain ⟨t, p, r⟩ := he
  refine wp_of (pss_cons (ps_set C.nd hi hx p hs hf) pss_wp) (r F B H σ _ S hG fun v B' H' S' _ hv => ?_)
  exact h F B' H' _ D (S'.set (s := sd d) (fp := []) (Ext.refl S'.sub) ⟨rfl, hv⟩ (fun a z => absurd z List.not_mem_nil) rfl j) E
/-- return f(.., y, ..) -/
theorem dss_retM {s s' : Slot X.K c} (i : Nat) (he : DMD X G e i s s' d) (h : Ph (.ret (sd d) (G.set i (some s')))) (hG : G[i]? = some (some s) := by rfl) : DSs X G (.Return (some e) pos :: rest) Ph := fun F B H σ D S E => by
  obtain ⟨t, p, r⟩ := he
  refine wp_of (pss_cons (ps_ret p) pss_wp) (r F B H σ _ S hG fun v B' H' S' _ hv => ?_)
  exact E.rt (sd d) _ B' H' σ v [] S' (fun _ => ⟨rfl, hv⟩) (fun a z => absurd z List.not_mem_nil) h
end
inductive FsAt {K : PySem.W.Frag} (B H : Hp) : List (Str × Kind K c) → List (Str × V) → List Addr → Prop
  | nil : FsAt B H [] [] []
  | cons {m : Str} {k : Kind K c} {u : V} {f1 f2 : List Addr} {ks : List (Str × Kind K c)} {us : List (Str × V)} : k.I B H u f1 → FsAt B H ks us f2 → FsAt B H ((m, k) :: ks) ((m, u) :: us) (f1 ++ f2)
section
variable {K : PySem.W.Frag} {B H B' H' : Hp}
theorem FsAt.stb : ∀ {ks : List (Str × Kind K c)} {us : List (Str × V)} {f : List Addr}, FsAt B H ks us f → Same B B' → (∀ a ∈ f, H' a = H a) → FsAt B' H' ks us f
  | _, _, _, .nil, _, _ => .nil
  | _, _, _, .cons (k := k) h t, e, g => .cons (k.stb h e fun a ha => g a (List.mem_append_left _ ha)) (t.stb e fun a ha => g a (List.mem_append_right _ ha))
theorem FsAt.dom : ∀ {ks : List (Str × Kind K c)} {us : List (Str × V)} {f : List Addr}, FsAt B H ks us f → ∀ a ∈ f, Nt (H a)
  | _, _, _, .nil, a, h => absurd h List.not_mem_nil
  | _, _, _, .cons (k := k) h t, a, ha => (List.mem_append.mp ha).elim (k.dom h a) (t.dom a)
theorem FsAt.len : ∀ {ks : List (Str × Kind K c)} {us : List (Str × V)} {f : List Addr}, FsAt B H ks us f → us.length = ks.length
  | _, _, _, .nil => rfl
  | _, _, _, .cons _ t => by simp [t.len]
def fldK : List (Str × Kind K c) → Str → Option (Kind K c)
  | [], _ => none
  | (g, k) :: r, f => if f = g then some k else fldK r f
theorem FsAt.get : ∀ {ks : List (Str × Kind K c)} {us : List (Str × V)} {f : List Addr} {m : Str} {k : Kind K c}, FsAt B H ks us f → fldK ks m = some k → ∃ u f1, us.lookup m = some u ∧ k.I B H u f1 ∧ ∀ a ∈ f1, a ∈ f
  | _, _, _, _, _, .nil, h => by cases h
  | _, _, _, m, k, .cons (m := g) (u := u) h t, e => by
    unfold fldK at e
    by_cases q : m = g
    · rw [if_pos q] at e
      cases e
      have : (m == g) = true := beq_iff_eq.mpr q
      exact ⟨u, _, by simp [List.lookup, this], h, fun a ha => List.mem_append_left _ ha⟩
    · rw [if_neg q] at e
      have : (m == g) = false := beq_eq_false_iff_ne.mpr q
      obtain ⟨v, f1, h1, h2, h3⟩ := t.get e
      exact ⟨v, f1, by simp [List.lookup, this, h1], h2, fun a ha => List.mem_append_right _ (h3 a ha)⟩
theorem FsAt.none : ∀ {ks : List (Str × Kind K c)} {us : List (Str × V)} {f : List Addr} {m : Str}, FsAt B H ks us f → fldK ks m = none → us.lookup m = none
  | _, _, _, _, .nil, _ => rfl
  | _, _, _, m, .cons (m := g) (u := u) h t, e => by
    unfold fldK at e
    by_cases q : m = g
    · rw [if_pos q] at e
      cases e
    · rw [if_neg q] at e
      have : (m == g) = false := beq_eq_false_iff_ne.mpr q
      simp [List.lookup, this, t.none e]
end
/-- an object of the class n, its fields things of one's own -/
def kOb {K : PySem.W.Frag} (n : Int) (ks : List (Str × Kind K c)) : Kind K c where
  I := fun B H v fp => ∃ x dx C us f, v = .ref x ∧ fp = x :: f ∧ c n = some C ∧ H x = some (.ins C dx us) ∧ FsAt B H ks us f ∧ (x :: f).Nodup
  stb := fun ⟨x, dx, C, us, f, h0, h1, h2, h3, h4, h5⟩ e g => ⟨x, dx, C, us, f, h0, h1, h2, by rw [g x (by rw [h1]; exact List.mem_cons_self)]; exact h3, h4.stb e fun a ha => g a (by rw [h1]; exact List.mem_cons_of_mem _ ha), h5⟩
  dom := fun ⟨x, dx, C, us, f, h0, h1, h2, h3, h4, h5⟩ a ha => by
    rw [h1] at ha
    rcases List.mem_cons.mp ha with z | z
    · rw [z]; exact ⟨_, h3, nt_ins _ _ _⟩
    · exact h4.dom a z
section
variable {X : Cx} {G : Env X.K c} {e o : Expr} {es : List Expr} {rest : List Stmt} {Ph : Out X.K c → Prop} {pos pos' p apos : Pos} {x m : Str} {d : D} {k : Nat} {n : Int} {ks : List (Str × Kind X.K c)} {q : Kind X.K c}
/-- o.m -/
theorem dk_fld {attrs : List Str} (T : ClsAt X.K c n attrs) (ho : DK X G e (kOb n ks)) (hl : fldK ks m = some q) (hf : m ∈ attrs := by decide) (hb : attributeBase e m X.env (eval e X.env) = eval e X.env := by rfl) : DK X G (.Attribute e m pos) q := by
  obtain ⟨t, pr, r⟩ := ho
  obtain ⟨C, h1, h2, h3⟩ := T.ex
  refine ⟨_, pe_fld pr hb, fun Z B H σ Q E g => r Z B H σ _ E fun v B' H' fp e1 ⟨y, dy, C', us, f, z0, z1, z2, z3, z4, z5⟩ => ?_⟩
  rw [h1] at z2
  cases z2
  obtain ⟨u, f1, y1, y2, _⟩ := z4.get hl
  exact ⟨y, C, dy, us, u, z0, z3, h2, h3 _ hf, y1, g u B' H' f1 e1 y2⟩
end
end Dw

namespace Dw
open PySem L2 PyProof.Rows
variable {c : Cl}
theorem KpF.upd {fp : List Addr} {H H1 : Hp} {x : Addr} {o : HO} (e : Kp H H1) (hx : x ∈ fp) (n : Nt (H1 x)) : KpF fp H (upd H1 x o) := by
  obtain ⟨u, hu, n1, n2⟩ := n
  refine ⟨fun a o' q m na => by rw [upd_ne (fun z => na (by rw [z]; exact hx))]; exact e.at q m, fun a q => ?_, fun P q t => ?_⟩
  · by_cases z : a = x
    · rw [z, upd_same]; exact fun z => nomatch z
    · rw [upd_ne z]; exact e.th a q
  · obtain ⟨ps, h1, h2, h3⟩ := e.tb P q t
    refine ⟨ps, by rw [upd_ne (fun z => n1 ps (Option.some.inj (by rw [← hu, ← z]; exact h1)))]; exact h1, h2, fun pos cv hc => ?_⟩
    obtain ⟨c', e1, e2⟩ := h3 pos cv hc
    exact ⟨c', e1, by rw [upd_ne (fun z => n2 c' _ (Option.some.inj (by rw [← hu, ← z]; exact e2)))]; exact e2⟩
theorem FsAt.snoc {K : PySem.W.Frag} {B H : Hp} {m : Str} {k : Kind K c} {u : V} {f2 : List Addr} (h : k.I B H u f2) : ∀ {ks : List (Str × Kind K c)} {us : List (Str × V)} {f : List Addr}, FsAt B H ks us f → FsAt B H (ks ++ [(m, k)]) (us ++ [(m, u)]) (f ++ f2)
  | _, _, _, .nil => by
    have := FsAt.cons (m := m) h (FsAt.nil (c := c) (K := K) (B := B) (H := H))
    rw [List.append_nil] at this
    exact this
  | _, _, _, .cons (f1 := f1) h' t => by
    rw [List.append_assoc]
    exact .cons h' (FsAt.snoc h t)
/-- each address once -/
def NdK {K : PySem.W.Frag} (k : Kind K c) : Prop := ∀ B H v fp, k.I B H v fp → fp.Nodup
theorem nd_dct {K : PySem.W.Frag} {P : Program} {w : World} {kvs : List (Cell × D)} : NdK (K := K) (c := c) (kDct P w kvs) := fun _ _ _ _ ⟨_, _, _, _, h, _⟩ => by rw [h]; simp
theorem nd_ob {K : PySem.W.Frag} {n : Int} {ks : List (Str × Kind K c)} : NdK (kOb n ks) := fun _ _ _ _ ⟨_, _, _, _, _, _, h, _, _, _, hn⟩ => by rw [h]; exact hn
section
variable {X : Cx} {G : Env X.K c} {e o : Expr} {es : List Expr} {rest : List Stmt} {Ph : Out X.K c → Prop} {pos pos' p apos : Pos} {x m f : Str} {d : D} {k : Nat} {n : Int} {ks : List (Str × Kind X.K c)} {q : Kind X.K c}
/-- self.f = a new thing -/
theorem dss_fldK {attrs : List Str} {par : Bool} (T : ClsAt X.K c n attrs) (i : Nat) (he : DX X G e (kn q)) (hnd : NdK q) (h : DSs X (G.set i (some (kn (kOb n (ks ++ [(f, q)])) par))) rest Ph) (hG : G[i]? = some (some (kn (kOb n ks) par)) := by rfl) (hnew : fldK ks f = none := by rfl) (hl : ks.length < 1000 := by exact Nat.le_of_ble_eq_true rfl) (hf : f ∈ attrs := by decide)
    (hN : X.N[i]? = some x := by rfl) (hv : Vis X.env.scope x := by first | exact Or.inl rfl | exact Or.inr (Or.inl rfl) | exact Or.inr (Or.inr rfl)) (hd : (x == ("__debug__" : Str)) = false := by decide)
    (hcd : (x == ("__classdict__" : Str)) = false := by decide) (hs : swapsWith e (some (.Attribute (.Name x p) f pos')) pos.line X.env = pure false := by rfl) :
    DSs X G (.Assign [.Attribute (.Name x p) f pos'] e pos :: rest) Ph := fun F B H σ D S E => by
  obtain ⟨t, pr, r⟩ := he
  obtain ⟨C, t1, t2, t3⟩ := T.ex
  refine wp_of (pss_cons (ps_fld (pv i hN hv hd hcd) pr hs) pss_wp) ?_
  obtain ⟨fps, s1, s2⟩ := S.sl
  have hP : SlP F G B H σ fps := ⟨s1, s2⟩
  obtain ⟨u, hσ, ⟨hI, hB⟩, _⟩ := s1 i _ hG
  refine r F.Z B H σ _ S.env fun v B1 H1 fe e1 q1 hfe => ?_
  obtain ⟨q2, q3⟩ := q1 F.Z
  have dm : ∀ a ∈ fps i, Nt (H a) := fun a ha => (kOb n ks).dom hI a ha
  have hI1 : (kOb n ks).I B1 H1 u (fps i) := (kOb n ks).stb hI e1.b fun a ha => e1.h.ne (dm a ha)
  obtain ⟨y, dy, C', us, fl, z0, z1, z2, z3, z4, z5⟩ := hI1
  rw [t1] at z2
  cases z2
  refine ⟨u, hσ, y, C, dy, us, z0, z3, t2, t3 _ hf, by rw [z4.len]; exact hl, ?_⟩
  rw [putF_new (z4.none hnew)]
  have ym : y ∈ fps i := by rw [z1]; exact List.mem_cons_self
  have yfe : y ∉ fe := fun z => (dm y ym).ne (hfe y z)
  have yfl : y ∉ fl := (List.nodup_cons.mp z5).1
  have up : ∀ a, a ≠ y → upd H1 y (.ins C dy (us ++ [(f, v)])) a = H1 a := fun a ha => upd_ne ha
  refine h F B1 _ σ D (S.called (fp' := y :: (fl ++ fe)) hP hG hσ e1.b ?_ (KpF.upd e1.h ym ⟨_, z3, nt_ins _ _ _⟩) e1.new ?_ fun a ha => ?_) E
  · intro a o r
    have : a ≠ y := fun z => by
      have := e1.new y (hB y ym) (dm y ym).ne
      rw [z, this] at r
      cases r
    rw [up a this]
    exact e1.sub a o r
  · refine ⟨y, dy, C, us ++ [(f, v)], fl ++ fe, z0, rfl, t1, upd_same, ?_, ?_⟩
    · refine (FsAt.snoc q2 z4).stb (Same.refl _) fun a ha => up a fun z => ?_
      rw [z] at ha
      exact (List.mem_append.mp ha).elim yfl yfe
    · refine List.nodup_cons.mpr ⟨fun z => (List.mem_append.mp z).elim yfl yfe, List.nodup_append.mpr ⟨(List.nodup_cons.mp z5).2, hnd _ _ _ _ q2, fun a ha b hb z => ?_⟩⟩
      have hm : a ∈ fps i := by rw [z1]; exact List.mem_cons_of_mem _ ha
      exact (dm a hm).ne (hfe a (by rw [z]; exact hb))
  · rcases List.mem_cons.mp ha with z | z
    · rw [z]; exact ⟨e1.new y (hB y ym) (dm y ym).ne, .inl ym⟩
    · rcases List.mem_append.mp z with z | z
      · have hm : a ∈ fps i := by rw [z1]; exact List.mem_cons_of_mem _ z
        exact ⟨e1.new a (hB a hm) (dm a hm).ne, .inl hm⟩
      · exact ⟨q3 a z, .inr (hfe a z)⟩
theorem dx_methK {R : List (Slot X.K c) → Slot X.K c → Prop} {ss : List (Slot X.K c)} {s : Slot X.K c} {pl : Sem Bool} (F : MthOk X.prog X.w X.K c X.mg X.base n m k R) (hr : Room k X.A) (ho : DK X G o (kOb n ks)) (ha : DAs X G (e :: es) ss) (hR : R (kb (kOb n ks) :: ss) s) (hm : fldK ks m = none := by rfl)
    (hst : starEach (e :: es) X.env = (false, eval e X.env) :: starEach es X.env := by rfl) (hpl : (backTo pos (starEach es X.env)).any (·.1) = false := by rfl)
    (ht : eval (.Call (.Attribute o m apos) (e :: es) [] pos) X.env = (do
      let ov ← eval o X.env
      standAt apos.atName
      let (f, first) ← holding [ov] (getMethod ov m pl)
      callWith pos f first (backTo pos (starEach (e :: es) X.env)) (backToKw pos (keywordEach [] X.env))) := by rfl) : DX X G (.Call (.Attribute o m apos) (e :: es) [] pos) s := by
  obtain ⟨t, q, r⟩ := ho
  obtain ⟨ta, qa, ra⟩ := ha
  obtain ⟨C, f, fd, ps, h1, h2, h3, h4, h5⟩ := F.ex
  refine ⟨_, pe_meth q h2 h3 h5 hr h4 .nil pass0 qa hst hpl ht, fun Z B H σ Q E g => r Z B H σ _ E fun v B' H' fp e hI => ?_⟩
  obtain ⟨y, dy, C', us, fl, z0, z1, z2, z3, z4, z5⟩ := id hI
  rw [h1] at z2
  cases z2
  refine ⟨y, dy, us, z0, z3, z4.none hm, ra Z B' H' σ _ (E.ext e) fun vs B2 H2 e2 hv => ?_⟩
  refine ⟨B2, _, s, e2.sub, (e.trans e2).tabs E.tb, ?_, hR, gs_ext (e.trans e2) g⟩
  rw [List.append_nil]
  refine .cons ⟨rfl, fp, ?_⟩ hv
  exact (kOb n ks).stb hI e2.b fun a ha => e2.h.ne ((kOb n ks).dom hI a ha)
theorem dx_methK0 {R : List (Slot X.K c) → Slot X.K c → Prop} {s : Slot X.K c} {pl : Sem Bool} (F : MthOk X.prog X.w X.K c X.mg X.base n m k R) (hr : Room k X.A) (ho : DK X G o (kOb n ks)) (hR : R [kb (kOb n ks)] s) (hm : fldK ks m = none := by rfl)
    (ht : eval (.Call (.Attribute o m apos) [] [] pos) X.env = (do
      let ov ← eval o X.env
      standAt apos.atName
      let (f, first) ← holding [ov] (getMethod ov m pl)
      callWith pos f first (backTo pos (starEach [] X.env)) (backToKw pos (keywordEach [] X.env))) := by rfl) : DX X G (.Call (.Attribute o m apos) [] [] pos) s := by
  obtain ⟨t, q, r⟩ := ho
  obtain ⟨C, f, fd, ps, h1, h2, h3, h4, h5⟩ := F.ex
  refine ⟨_, pe_meth0 q h2 h3 h5 hr h4 .nil pass0 ht, fun Z B H σ Q E g => r Z B H σ _ E fun v B' H' fp e hI => ?_⟩
  obtain ⟨y, dy, C', us, fl, z0, z1, z2, z3, z4, z5⟩ := id hI
  rw [h1] at z2
  cases z2
  refine ⟨y, dy, us, z0, z3, z4.none hm, ?_⟩
  refine ⟨B', _, s, e.sub, e.tabs E.tb, ?_, hR, gs_ext e g⟩
  refine .cons ⟨rfl, fp, ?_⟩ .nil
  exact hI
structure MthOkM (P : Program) (w : World) (K : PySem.W.Frag) (c : Cl) (mg : Str → Option Value) (base : Heap) (n : Int) (m : Str) (k : Nat) (R : List (Slot K c) → Kind K c → D → Prop) : Prop where
  ex : ∃ C f fd ps, c n = some C ∧ Cls K C ∧ Meth K C m f ∧ Binds K fd ps [] ∧ FnOk P w K mg base CX0 k f fd ps (spM K c 0 R)
theorem mth_okM {P : Program} {w : World} {K : PySem.W.Frag} {mg : Str → Option Value} {base : Heap} {n : Int} {m qual : Str} {st : Stmt} {N ps : List Str} {k : Nat} {R : List (Slot K c) → Kind K c → D → Prop}
    (F : MethAt K c n m qual st ps) (S : FnScope N ps (defScope st)) (hR : ∀ ss k' d, R ss k' d → ss.length = ps.length)
    (body : ∀ (f : Addr) (cdv : Value) (A : Around) (outer : List PySem.Env) (s : Shared) (H : Hp) (E : XK) (ss : List (Slot K c)) (k0 k' : Kind K c) (d : D), R ss k' d → ss[0]? = some (kn k0 true) → Bd (bx P w K mg base N qual st f cdv A outer s H E) k →
      DSs (c := c) (bx P w K mg base N qual st f cdv A outer s H E) (G0 N ss) (defBody st) (endM 0 k' d)) : MthOkM P w K c mg base n m (k + 1) R := by
  obtain ⟨C, f, fd, h1, h2, h3, h4, h5⟩ := F.ex
  exact ⟨C, f, fd, ps, h1, h2, h3, h5, def_fnM h4 S hR (body f)⟩
/-- x.m(..), x's object is changed -/
theorem dmd_meth {R : List (Slot X.K c) → Kind X.K c → D → Prop} {i : Nat} {ss : List (Slot X.K c)} {k' : Kind X.K c} {par : Bool} {pl : Sem Bool} (F : MthOkM X.prog X.w X.K c X.mg X.base n m k R) (hr : Room k X.A) (ha : DANs X G i (e :: es) ss) (hR : R (kn (kOb n ks) true :: ss) k' d) (h1 : ∀ s ∈ ss, s.par = false) (hm : fldK ks m = none := by rfl)
    (hN : X.N[i]? = some x := by rfl) (hv : Vis X.env.scope x := by first | exact Or.inl rfl | exact Or.inr (Or.inl rfl) | exact Or.inr (Or.inr rfl)) (hd : (x == ("__debug__" : Str)) = false := by decide)
    (hcd : (x == ("__classdict__" : Str)) = false := by decide)
    (hst : starEach (e :: es) X.env = (false, eval e X.env) :: starEach es X.env := by rfl) (hpl : (backTo pos (starEach es X.env)).any (·.1) = false := by rfl)
    (ht : eval (.Call (.Attribute (.Name x p) m apos) (e :: es) [] pos) X.env = (do
      let ov ← eval (.Name x p) X.env
      standAt apos.atName
      let (f, first) ← holding [ov] (getMethod ov m pl)
      callWith pos f first (backTo pos (starEach (e :: es) X.env)) (backToKw pos (keywordEach [] X.env))) := by rfl) :
    DMD X G (.Call (.Attribute (.Name x p) m apos) (e :: es) [] pos) i (kn (kOb n ks) par) (kn k' par) d := by
  obtain ⟨ta, qa, ra⟩ := ha
  obtain ⟨C, f, fd, ps, c1, c2, c3, c4, c5⟩ := F.ex
  refine ⟨_, pe_meth (pv i hN hv hd hcd) c2 c3 c5 hr c4 .nil pass0 qa hst hpl ht, fun Fe B H σ Q S hG g => ?_⟩
  obtain ⟨fps0, s1, s2⟩ := S.sl
  obtain ⟨u, hσ, ⟨⟨y, dy, C', us, fl, z0, z1, z2, z3, z4, z5⟩, _⟩, _⟩ := s1 i _ hG
  subst z0
  rw [c1] at z2
  cases z2
  refine ⟨_, hσ, y, dy, us, rfl, z3, z4.none hm, ra Fe B H σ _ S fun vs B1 H1 e1 q1 => ?_⟩
  have S1 := S.ext e1
  obtain ⟨fps, t1, t2⟩ := S1.sl
  have hP : SlP Fe G B1 H1 σ fps := ⟨t1, t2⟩
  obtain ⟨m1, m2⟩ := q1 B1 H1 fps (Ext.refl e1.sub) S1 hP
  obtain ⟨u, hu, hp, _⟩ := t1 i _ hG
  rw [hσ] at hu
  cases hu
  have dm := (kn (kOb n ks) par).dom hp
  rw [List.append_nil]
  refine ⟨B1, fps i, kn (kOb n ks) true :: ss, .ref y, kOb n ks, k', d, e1.sub, S1.tt, .cons hp m1, rfl, rfl, fun l s hl hs => ?_, fun a ha => ⟨(dm a ha).1, (dm a ha).2.ne⟩, hR, fun B' H' v fp' b1 b2 b3 b4 b5 b6 b7 => ?_⟩
  · cases l with
    | zero => rfl
    | succ l =>
      have := h1 s (List.mem_of_getElem? (by simpa using hl))
      rw [this] at hs
      cases hs
  · exact g v B' H' (S1.called hP hG hσ b1 b2 b3 b4 b5 b6) (e1.b.trans b1) b7
end
end Dw

namespace Dw
open PySem L2 PyProof.Rows
variable {c : Cl}
def setK {K : PySem.W.Frag} : List (Str × Kind K c) → Str → Kind K c → List (Str × Kind K c)
  | [], _, _ => []
  | (g, k) :: r, f, q => if f = g then (g, q) :: r else (g, k) :: setK r f q
theorem FsAt.set {K : PySem.W.Frag} {B H : Hp} : ∀ {ks : List (Str × Kind K c)} {us : List (Str × V)} {f : List Addr} {m : Str} {k : Kind K c}, FsAt B H ks us f → f.Nodup → fldK ks m = some k →
    ∃ u f1, us.lookup m = some u ∧ k.I B H u f1 ∧ (∀ a ∈ f1, a ∈ f) ∧ ∀ (H' : Hp) (k' : Kind K c), k'.I B H' u f1 → (∀ a ∈ f, a ∉ f1 → H' a = H a) → FsAt B H' (setK ks m k') us f
  | _, _, _, _, _, .nil, _, h => by cases h
  | _, _, _, m, k, .cons (m := g) (k := k1) (u := u) (f1 := f1) (f2 := f2) h t, nd, e => by
    obtain ⟨n1, n2, n3⟩ := List.nodup_append.mp nd
    unfold fldK at e
    by_cases q : m = g
    · rw [if_pos q] at e
      cases e
      have : (m == g) = true := beq_iff_eq.mpr q
      refine ⟨u, f1, by simp [List.lookup, this], h, fun a ha => List.mem_append_left _ ha, fun H' k' hk' hf => ?_⟩
      unfold setK
      rw [if_pos q]
      exact .cons hk' (t.stb (Same.refl _) fun a ha => hf a (List.mem_append_right _ ha) fun z => n3 a z a ha rfl)
    · rw [if_neg q] at e
      have : (m == g) = false := beq_eq_false_iff_ne.mpr q
      obtain ⟨v, f3, h1, h2, h3, h4⟩ := t.set n2 e
      refine ⟨v, f3, by simp [List.lookup, this, h1], h2, fun a ha => List.mem_append_right _ (h3 a ha), fun H' k' hk' hf => ?_⟩
      unfold setK
      rw [if_neg q]
      exact .cons (k1.stb h (Same.refl _) fun a ha => hf a (List.mem_append_left _ ha) fun z => n3 a ha a (h3 a z) rfl) (h4 H' k' hk' fun a ha na => hf a (List.mem_append_right _ ha) na)
section
variable {X : Cx} {G : Env X.K c} {i e value : Expr} {rest : List Stmt} {Ph : Out X.K c → Prop} {pos pos' p apos : Pos} {x m : Str} {d : D} {l : Nat} {n : Int} {ks : List (Str × Kind X.K c)} {kvs : List (Cell × D)} {k : Cell}
/-- self.m[k] = e -/
theorem dss_xputF {attrs : List Str} {par : Bool} (T : ClsAt X.K c n attrs) (C : Bd X l) (j : Nat) (he : DE X G value d) (hi : DE X G i (cD k)) (h : DSs X (G.set j (some (kn (kOb n (setK ks m (kX X (put kvs k d)))) par))) rest Ph) (hl : kvs.length < sizeLine) (hfk : fldK ks m = some (kX X kvs) := by rfl)
    (hG : G[j]? = some (some (kn (kOb n ks) par)) := by rfl) (hf : m ∈ attrs := by decide) (hN : X.N[j]? = some x := by rfl)
    (hv : Vis X.env.scope x := by first | exact Or.inl rfl | exact Or.inr (Or.inl rfl) | exact Or.inr (Or.inr rfl)) (hd : (x == ("__debug__" : Str)) = false := by decide)
    (hcd : (x == ("__classdict__" : Str)) = false := by decide) (hb : attributeBase (.Name x p) m X.env (eval (.Name x p) X.env) = eval (.Name x p) X.env := by rfl)
    (hs : swapsWith value (some (.Subscript (.Attribute (.Name x p) m apos) i pos')) pos.line X.env = pure false := by rfl) :
    DSs X G (.Assign [.Subscript (.Attribute (.Name x p) m apos) i pos'] value pos :: rest) Ph := fun F B H σ D S E => by
  obtain ⟨te, pe, re⟩ := he
  obtain ⟨ti, pi, ri⟩ := hi
  obtain ⟨C0, t1, t2, t3⟩ := T.ex
  refine wp_of (pss_cons (ps_xput (units1 C) (pe_fld (pv j hN hv hd hcd) hb) pi pe hs) pss_wp) ?_
  refine re F.Z B H σ _ S.env fun v B1 H1 e1 q1 => ?_
  have S1 := S.ext e1
  obtain ⟨fps, s1, s2⟩ := S1.sl
  obtain ⟨u, hσ, ⟨⟨y, dy, C', us, fl, z0, z1, z2, z3, z4, z5⟩, _⟩, _⟩ := s1 j _ hG
  subst z0
  rw [t1] at z2
  cases z2
  obtain ⟨w, f1, w1, ⟨a, ob, xs, y1, y2, y3, y5, y4⟩, _, _⟩ := z4.set (List.nodup_cons.mp z5).2 hfk
  subst y1
  refine ⟨_, hσ, y, C0, dy, us, .ref a, rfl, z3, t2, t3 _ hf, w1, ri F.Z B1 H1 σ _ S1.env fun w' B2 H2 e2 q2 => ?_⟩
  obtain ⟨b, rfl, hb'⟩ := tp_key q2
  have y4' := y4.mono (F' := Tp X.K c B2) e2.b fun _ _ => Tp.mono e2.b _ _
  refine ⟨a, b, xs, k, ob, rfl, rfl, e2.h.at y3, y5, y4'.keys e2.sub, Same.tup e2.sub hb'.sq, by rw [y4.len]; exact hl, fun r o' hr k' => ?_⟩
  refine h F B2 _ σ D ((S1.ext e2).change hG rfl fun v' fp a1 a2 => ?_) E
  rw [hσ] at a1
  cases a1
  obtain ⟨⟨y', dy', C', us', fl', x0, x1, x2, x3, x4, x5⟩, xB⟩ := a2
  cases x0
  have eo := (e2.h.at z3).symm.trans x3
  injection eo with eo
  injection eo with eo1 eo2 eo3
  subst eo1 eo2 eo3
  obtain ⟨w2, f2, v1, ⟨a', ob', xs', g1, g2, g3, g5, g4⟩, g6, g7⟩ := x4.set (List.nodup_cons.mp x5).2 hfk
  rw [w1] at v1
  cases v1
  cases g1
  have am : a ∈ fl' := g6 a (by rw [g2]; exact List.mem_singleton.mpr rfl)
  have ay : y ≠ a := fun z => (List.nodup_cons.mp x5).1 (z ▸ am)
  refine ⟨fp, ⟨⟨y, dy, C0, us, fl', rfl, x1, t1, by rw [upd_ne ay]; exact x3, ?_, x5⟩, xB⟩, fun b h => .inl h, fun _ b h => h, fun b h1 h2 => upd_ne fun z => h1 (by rw [x1, z]; exact List.mem_cons_of_mem _ am), fun b hb => ?_⟩
  · refine g7 _ _ ⟨a, o', _, rfl, g2, upd_same, k', y4'.put hb' hr (Tp.mono e2.b _ _ q1)⟩ fun b hb nb => upd_ne fun z => nb (by rw [g2, z]; exact List.mem_singleton.mpr rfl)
  · by_cases z : b = a
    · rw [z, upd_same]; exact fun z => nomatch z
    · rw [upd_ne z]
      rw [x1] at hb
      rcases List.mem_cons.mp hb with z | z
      · rw [z, x3]; exact fun z => nomatch z
      · exact (x4.dom b z).ne
end
end Dw

namespace Dw
open PySem L2 PyProof.Rows
variable {c : Cl}
structure NewOkM (P : Program) (w : World) (K : PySem.W.Frag) (c : Cl) (mg : Str → Option Value) (base : Heap) (n : Int) (x : Str) (k : Nat) (R : List (Slot K c) → Kind K c → D → Prop) : Prop where
  ex : ∃ C f fd ps, c n = some C ∧ mg x = some (.ref C) ∧ Mk K C f ∧ Binds K fd ps [] ∧ FnOk P w K mg base CX0 k f fd ps (spM K c 0 R)
section
variable {X : Cx} {G : Env X.K c} {p pos : Pos} {x : Str} {k : Nat} {n : Int}
/-- C() -/
theorem dx_newM0 {R : List (Slot X.K c) → Kind X.K c → D → Prop} {k' : Kind X.K c} (F : NewOkM X.prog X.w X.K c X.mg X.base n x k R) (hr : Room (k + 1) X.A) (hR : R [kn (kOb n []) true] k' .none) (hg : Gl X x := by rfl) (hdb : (x == ("__debug__" : Str)) = false := by decide) : DX X G (.Call (.Name x p) [] [] pos) (kn k') := by
  obtain ⟨C, f, fd, ps, h1, h2, h3, h4, h5⟩ := F.ex
  refine ⟨_, pe_make0 h3 h5 hr hg h2 h4 .nil pass0 hdb, fun Z B H σ Q E g => ?_⟩
  intro y dy ny ndy ne
  have s1 : Same H (upd (upd H dy (.own y)) y (.ins C dy [])) := fun a o q => by
    rw [upd_ne (ne_of_none q ny), upd_ne (ne_of_none q ndy)]
    exact q
  have hI : (kOb (K := X.K) (c := c) n []).I B (upd (upd H dy (.own y)) y (.ins C dy [])) (.ref y) [y] := ⟨y, dy, C, [], [], rfl, rfl, h1, upd_same, .nil, by simp⟩
  refine ⟨B, [y], [kn (kOb n []) true], .ref y, kOb n [], k', .none, E.sub.trans s1, E.tb.ext s1, .cons ⟨hI, fun a ha => ?_⟩ .nil, rfl, rfl, fun l s hl hs => ?_, fun a ha => ?_, hR, fun B' H' v fp' b1 b2 b3 b4 b5 b6 b7 => ?_⟩
  · rw [List.mem_singleton.mp ha]; exact E.sub.free ny
  · cases l with
    | zero => rfl
    | succ l => simp at hl
  · rw [List.mem_singleton.mp ha]
    exact ⟨E.sub.free ny, by rw [upd_same]; exact fun z => nomatch z⟩
  · cases b7
    have kp : Kp H H' := ⟨fun a o q n => b3.at' a o (s1 a o q) n (by rw [List.mem_singleton]; exact ne_of_none q ny), fun a q => b3.th a (by rw [Same.ne s1 q]; exact q), fun P q t => b3.tb P q (t.ext s1)⟩
    refine ⟨rfl, g (.ref y) B' H' fp' ⟨b1, kp, b2, fun a q r => b4 a q (by rw [Same.ne s1 r]; exact r)⟩ (fun _ => ⟨b5, fun a ha => (b6 a ha).1⟩) fun a ha => ?_⟩
    rcases (b6 a ha).2 with z | z
    · rw [List.mem_singleton.mp z]; exact ny
    · cases q : H a with
      | none => rfl
      | some o => rw [s1 a o q] at z; cases z
end
end Dw

namespace Dw
open PySem L2 PyProof.Rows
variable {c : Cl}
/-- hashes apart (needed where d is empty) -/
def Apart (P : Program) (w : World) (xs : Ents) : Prop := (xs.map fun x => (tupleKind (mixKind P w)).hash x.1).Nodup
def tXUpd (X : Cx) (td ty : TE) : TE := fun σ H Q => td σ H fun x H1 => ∃ a xs, x = .ref a ∧ XD X H1 a xs ∧ ty σ H1 fun y H2 => ∃ b o ys, y = .ref b ∧ a ≠ b ∧ H2 a = some (dctO a o) ∧ DOk X.prog X.w a o xs ∧ XKeys X.K H2 xs ∧ XD X H2 b ys ∧
  (xs ≠ [] ∨ Apart X.prog X.w ys) ∧ xs.length + ys.length ≤ sizeLine ∧ ∀ o', DOk X.prog X.w a o' (storedAllH xs ys) → Q .non (upd H2 a (dctO a o'))
theorem len_storedAll (ys : Ents) : ∀ xs : Ents, (storedAllH xs ys).length ≤ xs.length + ys.length := by
  induction ys with
  | nil => intro xs; exact Nat.le_refl _
  | cons y ys ih =>
    intro xs
    have h1 := ih (storedH xs y.1 y.2.1 y.2.2)
    have h2 := len_stored xs y.1 y.2.1 y.2.2
    show (storedAllH (storedH xs y.1 y.2.1 y.2.2) ys).length ≤ _
    rw [List.length_cons]
    omega
section
variable {X : Cx} {o e : Expr} {apos cpos : Pos} {td ty : TE}
theorem pe_xupd (hu : X.A.units + 1 < cLine) (ho : PE X o td) (he : PE X e ty) (m : M1 X o "update" apos e cpos) : PE X (.Call (.Attribute o "update" apos) [e] [] cpos) (tXUpd X td ty) := by
  refine ⟨fun pins s σ H Q I h => ?_⟩
  refine wpAny_Call_method m.base m.few m.line PySem.F.plainAttrs_dict PySem.F.slot_dict_update PySem.F.type_dict_update (thn (ho.run pins s σ H _ I h) fun u s1 ⟨x, H1, I1, rx, a, xs, ex, hd, q1⟩ => ?_)
  subst ex
  obtain rfl : u = Value.ref a := rx
  obtain ⟨t1, t2⟩ := xd_there I1 hd
  refine ⟨t1, t2, ?_⟩
  rw [m.trees]
  refine Calls.callWith_builtin rfl (Calls.evalArgs_plain (Calls.spliced_cons (thn (he.run pins s1 σ H1 _ I1 q1) fun iv s2 ⟨y, H2, I2, ry, b, ob, ys, ey, ne, ha, ok, hks, hb, hap, hl, q2⟩ => Calls.spliced_nil ?_)))
  subst ey
  obtain rfl : iv = Value.ref b := ry
  obtain ⟨z1, z2, d1⟩ := xd_of I2 ⟨⟨ob, .inl ha, ok⟩, hks⟩
  obtain ⟨y1, y2, d2⟩ := xd_of I2 hb
  have tt : ∀ x ∈ ys, s2.TypeIs (.ref x.2.1) "tuple" := fun x hx => by
    obtain ⟨k, _, hk⟩ := hb.keys x hx
    obtain ⟨_, _, ⟨ot, h1, h2, _⟩, _⟩ := I2.tuple hk
    exact ⟨ot, h1, h2⟩
  refine call_update_dictH (tupleKind_room_in1 hu) ne y1 d1 d2 (hap.imp id fun h => ⟨tt, h⟩) hl fun h' d' _ hs => ?_
  obtain ⟨o', k', I'⟩ := x_write (tk := s2.toks) I2 ha z1 (Nat.le_trans (len_storedAll ys xs) hl) d' hs
  exact ⟨.non, _, I', rfl, q2 o' k'⟩
end
section
variable {α : Type}
def upds (kvs more : List (Cell × α)) : List (Cell × α) := more.foldl (fun acc p => put acc p.1 p.2) kvs
theorem EntG.upds {K : PySem.W.Frag} {B : Hp} {F : V → α → Prop} {ys : Ents} {more : List (Cell × α)} (h : EntG K B F ys more) : ∀ {xs : Ents} {kvs : List (Cell × α)}, EntG K B F xs kvs → EntG K B F (storedAllH xs ys) (Dw.upds kvs more) := by
  unfold EntG at h
  induction h with
  | nil => exact fun h => h
  | @cons q p qs ps a t ih =>
    intro xs kvs h
    obtain ⟨h1, h2, v, h3, h4⟩ := a
    have := ih (h.put h2 h3 h4)
    rw [← h1] at this
    exact this
theorem len_upds (more : List (Cell × α)) : ∀ kvs : List (Cell × α), (upds kvs more).length ≤ kvs.length + more.length := by
  induction more with
  | nil => intro kvs; exact Nat.le_refl _
  | cons p ps ih =>
    intro kvs
    have h1 := ih (put kvs p.1 p.2)
    have h2 := len_put kvs p.1 p.2
    show (upds (put kvs p.1 p.2) ps).length ≤ _
    rw [List.length_cons]
    omega
def hashC (P : Program) (w : World) (k : Cell) : Int := (tupleKind (mixKind P w)).hash (cK k)
theorem EntG.apart {K : PySem.W.Frag} {B : Hp} {F : V → α → Prop} {ys : Ents} {more : List (Cell × α)} {P : Program} {w : World} (h : EntG K B F ys more) (n : (more.map fun p => hashC P w p.1).Nodup) : Apart P w ys := by
  have e : ys.map (fun x => (tupleKind (mixKind P w)).hash x.1) = more.map fun p => hashC P w p.1 := by
    clear n
    unfold EntG at h
    induction h with
    | nil => rfl
    | cons a t ih => rw [List.map_cons, List.map_cons, ih, a.1]; rfl
  unfold Apart
  rw [e]
  exact n
end
section
variable {X : Cx} {G : Env X.K c} {e : Expr} {p apos apos2 cpos : Pos} {x m : Str} {l : Nat} {n : Int} {ks : List (Str × Kind X.K c)} {kvs more : List (Cell × D)}
/-- self.m.update(e), e another dict of one's own (or read) -/
theorem dmd_updF {attrs : List Str} {par : Bool} (T : ClsAt X.K c n attrs) (C : Bd X l) (j : Nat) (he : ∃ t, PE X e t ∧ ∀ F B H σ Q, StE F G B H σ → (∀ v B' H', Ext B H B' H' → (∀ fps, SlP F G B' H' σ fps → ∃ fp, (kX (c := c) X more).I B' H' v fp ∧ ∀ a ∈ fp, a ∉ fps j) → Q v H') → t σ H Q) (hap : kvs ≠ [] ∨ (more.map fun q => hashC X.prog X.w q.1).Nodup) (hl : kvs.length + more.length ≤ sizeLine) (hfk : fldK ks m = some (kX X kvs) := by rfl)
    (hf : m ∈ attrs := by decide) (hN : X.N[j]? = some x := by rfl)
    (hv : Vis X.env.scope x := by first | exact Or.inl rfl | exact Or.inr (Or.inl rfl) | exact Or.inr (Or.inr rfl)) (hd : (x == ("__debug__" : Str)) = false := by decide)
    (hcd : (x == ("__classdict__" : Str)) = false := by decide) (hb : attributeBase (.Name x p) m X.env (eval (.Name x p) X.env) = eval (.Name x p) X.env := by rfl) (m1 : M1 X (.Attribute (.Name x p) m apos) "update" apos2 e cpos := by exact ⟨rfl, rfl, rfl, rfl⟩) :
    DMD X G (.Call (.Attribute (.Attribute (.Name x p) m apos) "update" apos2) [e] [] cpos) j (kn (kOb n ks) par) (kn (kOb n (setK ks m (kX X (upds kvs more)))) par) .none := by
  obtain ⟨ti, pi, ri⟩ := he
  obtain ⟨C0, t1, t2, t3⟩ := T.ex
  refine ⟨_, pe_xupd (units1 C) (pe_fld (pv j hN hv hd hcd) hb) pi m1, fun F B H σ Q S hG g => ?_⟩
  obtain ⟨fps0, s1, s2⟩ := S.sl
  obtain ⟨u, hσ, ⟨⟨y, dy, C', us, fl, z0, z1, z2, z3, z4, z5⟩, _⟩, _⟩ := s1 j _ hG
  subst z0
  rw [t1] at z2
  cases z2
  obtain ⟨w, f1, w1, ⟨a, ob, xs, y1, y2, y3, y5, y4⟩, _, _⟩ := z4.set (List.nodup_cons.mp z5).2 hfk
  subst y1
  refine ⟨_, hσ, y, C0, dy, us, .ref a, rfl, z3, t2, t3 _ hf, w1, a, xs, rfl, ⟨⟨ob, .inl y3, y5⟩, y4.keys S.sub⟩, ri F B H σ _ S fun v B2 H2 e2 q2 => ?_⟩
  have S2 := S.ext e2
  obtain ⟨fps, s1', s2'⟩ := S2.sl
  obtain ⟨u', hσ', ⟨⟨y', dy', C', us', fl', x0, x1, x2, x3, x4, x5⟩, _⟩, _⟩ := s1' j _ hG
  rw [hσ] at hσ'
  cases hσ'
  cases x0
  have eo := (e2.h.at z3).symm.trans x3
  injection eo with eo
  injection eo with eo1 eo2 eo3
  subst eo1 eo2 eo3
  obtain ⟨w2, f2, v1, ⟨a', ob', xs', g1, g2, g3, g5, g4⟩, g6, _⟩ := x4.set (List.nodup_cons.mp x5).2 hfk
  rw [w1] at v1
  cases v1
  cases g1
  have am : a ∈ fps j := by rw [x1]; exact List.mem_cons_of_mem _ (g6 a (by rw [g2]; exact List.mem_singleton.mpr rfl))
  obtain ⟨fe, ⟨b, oe, ys, h1, h2, h3, h5, h4⟩, hdis⟩ := q2 fps ⟨s1', s2'⟩
  subst h1
  have ne : a ≠ b := fun z => hdis b (by rw [h2]; exact List.mem_singleton.mpr rfl) (z ▸ am)
  have y4' := y4.mono (F' := Tp X.K c B2) e2.b fun _ _ => Tp.mono e2.b _ _
  refine ⟨b, ob, ys, rfl, ne, e2.h.at y3, y5, y4'.keys e2.sub, ⟨⟨oe, .inl h3, h5⟩, h4.keys e2.sub⟩, ?_, by rw [y4.len, h4.len]; exact hl, fun o' k' => ?_⟩
  · rcases hap with z | z
    · refine .inl fun q => z ?_
      have := y4.len
      rw [q] at this
      exact List.length_eq_zero_iff.mp this.symm
    · exact .inr (h4.apart z)
  refine g .non B2 _ (S2.change hG rfl fun v' fp a1 a2 => ?_) e2.b .non
  rw [hσ] at a1
  cases a1
  obtain ⟨⟨y', dy', C', us', fl2, x0, x1, x2, x3, x4, x5⟩, xB⟩ := a2
  cases x0
  have eo := (e2.h.at z3).symm.trans x3
  injection eo with eo
  injection eo with eo1 eo2 eo3
  subst eo1 eo2 eo3
  obtain ⟨w2, f2, v1, ⟨a', ob', xs', g1, g2, g3, g5, g4⟩, g6, g7⟩ := x4.set (List.nodup_cons.mp x5).2 hfk
  rw [w1] at v1
  cases v1
  cases g1
  have am : a ∈ fl2 := g6 a (by rw [g2]; exact List.mem_singleton.mpr rfl)
  have ay : y ≠ a := fun z => (List.nodup_cons.mp x5).1 (z ▸ am)
  refine ⟨fp, ⟨⟨y, dy, C0, us, fl2, rfl, x1, t1, by rw [upd_ne ay]; exact x3, ?_, x5⟩, xB⟩, fun b h => .inl h, fun _ b h => h, fun b h1 h2 => upd_ne fun z => h1 (by rw [x1, z]; exact List.mem_cons_of_mem _ am), fun b hb => ?_⟩
  · exact g7 _ _ ⟨a, o', _, rfl, g2, upd_same, k', h4.upds y4'⟩ fun b hb nb => upd_ne fun z => nb (by rw [g2, z]; exact List.mem_singleton.mpr rfl)
  · by_cases z : b = a
    · rw [z, upd_same]; exact fun z => nomatch z
    · rw [upd_ne z]
      rw [x1] at hb
      rcases List.mem_cons.mp hb with z | z
      · rw [z, x3]; exact fun z => nomatch z
      · exact (x4.dom b z).ne
end
section
variable {X : Cx} {G : Env X.K c} {pos : Pos} {x : Str} {more : List (Cell × D)}
/-- the name of another own dict, for dmd_updF -/
theorem upd_arg {par2 parj : Bool} {kj : Kind X.K c} (i j : Nat) (ne : i ≠ j := by decide) (hG : G[i]? = some (some (kn (kX X more) par2)) := by rfl) (hJ : G[j]? = some (some (kn kj parj)) := by rfl) (hN : X.N[i]? = some x := by rfl)
    (hv : Vis X.env.scope x := by first | exact Or.inl rfl | exact Or.inr (Or.inl rfl) | exact Or.inr (Or.inr rfl)) (hd : (x == ("__debug__" : Str)) = false := by decide)
    (hcd : (x == ("__classdict__" : Str)) = false := by decide) :
    ∃ t, PE X (.Name x pos) t ∧ ∀ F B H σ Q, StE F G B H σ → (∀ v B' H', Ext B H B' H' → (∀ fps, SlP F G B' H' σ fps → ∃ fp, (kX (c := c) X more).I B' H' v fp ∧ ∀ a ∈ fp, a ∉ fps j) → Q v H') → t σ H Q := by
  refine ⟨_, pv i hN hv hd hcd, fun F B H σ Q S g => ?_⟩
  obtain ⟨v, fp, h1, h2⟩ := S.env.sl i _ hG
  refine ⟨v, h1, g v B H (Ext.refl S.sub) fun fps hP => ?_⟩
  obtain ⟨u, hu, ⟨hp, _⟩, _⟩ := hP.a i _ hG
  rw [h1] at hu
  cases hu
  exact ⟨fps i, hp, fun a ha => hP.d i j _ _ ne hG hJ a ha⟩
end
end Dw

namespace Dw
open PySem L2 PyProof.Rows
variable {c : Cl}
def tXNew1 (X : Cx) (tk tv : TE) : TE := fun σ H Q => ∀ p, H p = none → (p == sysModules) = false → tPairs [(tk, tv)] σ (upd H p (dctO p dct0)) fun ps H2 => ∃ v b k, ps = [(.ref b, v)] ∧ H2 p = some (dctO p dct0) ∧ XKey X.K H2 b k ∧
  ∀ r o', L2.RelV v r → DOk X.prog X.w p o' [(cK k, b, r)] → Q (.ref p) (upd H2 p (dctO p o'))
section
variable {X : Cx} {ke e : Expr} {tk tv : TE} {pos : Pos}
theorem pe_xnew1 (hu : X.A.units < cLine) (hk : PE X ke tk) (hv : PE X e tv) : PE X (.Dict [some ke] [e] pos) (tXNew1 X tk tv) := by
  refine ⟨fun pins s σ H Q I q => ?_⟩
  have hn := I.hok.fresh (Nat.le_refl s.heap.objs.size)
  have hm : (s.heap.objs.size == sysModules) = false := beq_eq_false_iff_ne.mpr (Ne.symm (Nat.ne_of_lt I.big))
  have I1 := I.laid (a := s.heap.objs.size) (o := dctO s.heap.objs.size dct0) (h' := s.heap.push { cls := .type "dict", data := .dict #[] }) (t' := s.toks) (fun _ _ q => Heap.get?_push_of_some _ q) (Nat.le_refl _) (dctO_ok (Heap.get?_push_size _ rfl))
  rw [arm_eval_Dict, show (evalEachOpt [some ke] X.env).zip ((evalEach [e] X.env).map fun v => do let x ← v; standAt pos; pure x) = ([(eval ke X.env, (do let x ← eval e X.env; standAt pos; pure x))] : List (Sem Value × Sem Value)).map fun p => (some p.1, p.2) from rfl, dictDisplay_pairs _ (by simp) (by simp)]
  refine wpAny_bind (wpAny_standAt (wpAny_bind (wpAny_subDictH (knd := tupleKind (mixKind X.prog X.w)) (Q := fun d s' => wpAny (model X.prog X.w) X.A (pure (Value.ref d)) (EP X pins σ Q) X.xe s') hu (by simp) ?_)))
  have ev := (pps_cons (pos := pos) hk hv pps_nil).run pins { s with heap := s.heap.push { cls := .type "dict", data := .dict #[] } } σ _ (fun ps H2 => ∃ v b k, ps = [(.ref b, v)] ∧ H2 s.heap.objs.size = some (dctO s.heap.objs.size dct0) ∧ XKey X.K H2 b k ∧
    ∀ r o', L2.RelV v r → DOk X.prog X.w s.heap.objs.size o' [(cK k, b, r)] → Q (.ref s.heap.objs.size) (upd H2 s.heap.objs.size (dctO s.heap.objs.size o'))) I1 (q _ hn hm)
  · refine wpAny_mono (show wpAny _ _ (evalPairs (pairTrees [some ke] [e] X.env pos)) _ _ _ from ev) (fun vs s2 h2 => ?_) fun _ _ z => z
    obtain ⟨ps, H2, I2, rel, v, b, k, rfl, e1, e2, q2⟩ := h2
    cases rel with
    | cons r0 t0 =>
      cases t0
      rename_i pr
      obtain ⟨u, r⟩ := pr
      obtain ⟨r1, r2⟩ := r0
      obtain rfl : u = Value.ref b := r1
      obtain ⟨z1, z2, d0⟩ := xd_of I2 (xs := []) ⟨⟨dct0, .inl e1, dok_nil hm⟩, fun z hz => absurd hz List.not_mem_nil⟩
      refine ⟨[(cK k, b, r)], ⟨rfl, rfl, k_of I2 e2, trivial⟩, d0, fun h' tk d' hs => ?_⟩
      obtain ⟨o', k', I'⟩ := x_write (tk := tk) I2 e1 hm (by rw [sizeLine_eq]; simp) (show h'.DictOfH _ _ [(cK k, b, r)] from d') hs
      exact wpAny_pure ⟨.ref s.heap.objs.size, _, I', rfl, q2 r o' r2 k'⟩
end
section
variable {X : Cx} {G : Env X.K c} {ke e : Expr} {pos : Pos} {k : Cell} {d : D} {n : Nat}
/-- {k: v} -/
theorem dx_xnew1 (C : Bd X n) (hk : DE X G ke (cD k)) (hv : DE X G e d) : DX X G (.Dict [some ke] [e] pos) (kn (kX (c := c) X [(k, d)])) := by
  obtain ⟨tk, pk, rk⟩ := hk
  obtain ⟨tv, pv', rv⟩ := hv
  refine ⟨_, pe_xnew1 (by have := units1 C; omega) pk pv', fun Z B H σ Q E g p hp hm => ?_⟩
  have E1 : EnvE G Z B (upd H p (dctO p dct0)) σ := E.ext (Ext.layH E.sub _ hp)
  have bp : B p = none := E.sub.free hp
  refine rk Z B _ σ _ E1 fun u B1 H1 e1 h1 => rv Z B1 H1 σ _ (E1.ext e1) fun v B2 H2 e2 h2 => ?_
  obtain ⟨b, rfl, hb⟩ := tp_key h1
  have e12 := e1.trans e2
  have p2 : H2 p = some (dctO p dct0) := e12.h.at upd_same
  have b2 : B2 p = none := e12.new p bp (by rw [upd_same]; exact fun z => nomatch z)
  refine ⟨v, b, k, rfl, p2, Same.tup e2.sub (Same.tupD e2.b hb).sq, fun r o' hr k' => ?_⟩
  have e02 : Ext B H B2 H2 := (Ext.layH E.sub _ hp).trans e12
  have nn : Nt (H2 p) := ⟨_, p2, nt_dct (dok_nil (P := X.prog) (w := X.w) hm)⟩
  exact g _ B2 _ [p] (ext_over e02 hp b2 nn) (fun _ => ⟨⟨p, o', _, rfl, rfl, upd_same, k', .cons ⟨rfl, Same.tupD e2.b hb, v, hr, h2⟩ .nil⟩, fun a ha => by rw [List.mem_singleton.mp ha]; exact b2⟩) fun a ha => by rw [List.mem_singleton.mp ha]; exact hp
end
end Dw

namespace Dw
abbrev Cs := List (Cell × Int)
inductive Way (adj : Cell → Cs) (s : Cell) : Cell → Int → Prop
  | here : Way adj s s 0
  | step {a b : Cell} {k w : Int} : Way adj s a k → (b, w) ∈ adj a → Way adj s b (k + w)
structure Dj (adj : Cell → Cs) (s : Cell) (left found : Cs) : Prop where
  f : ∀ a k, look found a = some k → Way adj s a k ∧ ∀ k', Way adj s a k' → k ≤ k'
  l : ∀ a k, look left a = some k → Way adj s a k ∧ look found a = none
  e : ∀ a k b w, look found a = some k → (b, w) ∈ adj a → look found b = none → ∃ v, look left b = some v ∧ v ≤ k + w
  s0 : look found s = none → look left s = some 0
theorem Way.nn {adj : Cell → Cs} {s a : Cell} {k : Int} (pos : ∀ a b w, (b, w) ∈ adj a → 0 ≤ w) (h : Way adj s a k) : 0 ≤ k := by
  induction h with
  | here => exact Int.le_refl _
  | step _ hw ih => have := pos _ _ _ hw; omega
theorem Dj.start (adj : Cell → Cs) (s : Cell) : Dj adj s [(s, 0)] [] := by
  refine ⟨fun a k h => (by cases h), fun a k h => ?_, fun a k b w h => (by cases h), fun _ => look_pos rfl⟩
  by_cases z : s = a
  · subst z
    rw [look_pos rfl] at h
    cases h
    exact ⟨.here, rfl⟩
  · rw [look_neg z] at h
    cases h
theorem Dj.ahead {adj : Cell → Cs} {s : Cell} {left found : Cs} (D : Dj adj s left found) (pos : ∀ a b w, (b, w) ∈ adj a → 0 ≤ w) {a : Cell} {k : Int} (h : Way adj s a k) : look found a = none → ∃ b v, look left b = some v ∧ v ≤ k := by
  induction h with
  | here => exact fun n => ⟨_, _, D.s0 n, Int.le_refl _⟩
  | @step a b k w h hw ih =>
    intro n
    cases q : look found a with
    | none =>
      obtain ⟨o, v, h1, h2⟩ := ih q
      exact ⟨o, v, h1, by have := pos a b w hw; omega⟩
    | some k0 =>
      obtain ⟨v, h1, h2⟩ := D.e a k0 b w q hw n
      exact ⟨b, v, h1, by have := (D.f a k0 q).2 k h; omega⟩
/-- all is found -/
theorem Dj.done {adj : Cell → Cs} {s : Cell} {found : Cs} (D : Dj adj s [] found) (pos : ∀ a b w, (b, w) ∈ adj a → 0 ≤ w) {a : Cell} {k : Int} (h : Way adj s a k) : ∃ v, look found a = some v ∧ v ≤ k := by
  cases q : look found a with
  | none =>
    obtain ⟨b, v, h1, _⟩ := D.ahead pos h q
    cases h1
  | some v => exact ⟨v, rfl, (D.f a v q).2 k h⟩
def relax (found : Cs) (k : Int) (left : Cs) (es : Cs) : Cs := es.foldl (fun l e => if (look found e.1).isSome then l else put l e.1 (min ((look l e.1).getD (k + e.2)) (k + e.2))) left
theorem relax_all (found : Cs) (k : Int) : ∀ (es left : Cs), (∀ a v, look (relax found k left es) a = some v → look left a = some v ∨ (look found a = none ∧ ∃ w, (a, w) ∈ es ∧ v = k + w)) ∧
    (∀ a v, look left a = some v → ∃ v', look (relax found k left es) a = some v' ∧ v' ≤ v) ∧ ∀ a w, (a, w) ∈ es → look found a = none → ∃ v, look (relax found k left es) a = some v ∧ v ≤ k + w
  | [], left => ⟨fun a v h => .inl h, fun a v h => ⟨v, h, Int.le_refl _⟩, fun a w h => absurd h List.not_mem_nil⟩
  | e :: es, left => by
    have hd : relax found k left (e :: es) = relax found k (if (look found e.1).isSome then left else put left e.1 (min ((look left e.1).getD (k + e.2)) (k + e.2))) es := rfl
    rw [hd]
    cases q : look found e.1 with
    | some y =>
      simp only [Option.isSome_some, if_true]
      obtain ⟨h1, h2, h3⟩ := relax_all found k es left
      refine ⟨fun a v h => (h1 a v h).imp id fun ⟨n, w, hw, ev⟩ => ⟨n, w, List.mem_cons_of_mem _ hw, ev⟩, h2, fun a w h n => ?_⟩
      rcases List.mem_cons.mp h with z | z
      · rw [show e.1 = a from by rw [← z]] at q
        rw [n] at q
        cases q
      · exact h3 a w z n
    | none =>
      simp only [Option.isSome_none, Bool.false_eq_true, if_false]
      obtain ⟨h1, h2, h3⟩ := relax_all found k es (put left e.1 (min ((look left e.1).getD (k + e.2)) (k + e.2)))
      refine ⟨fun a v h => ?_, fun a v h => ?_, fun a w h n => ?_⟩
      · rcases h1 a v h with z | ⟨n, w, hw, ev⟩
        · rw [look_put] at z
          by_cases ea : a = e.1
          · rw [if_pos ea] at z
            subst ea
            cases ql : look left e.1 with
            | none =>
              rw [ql] at z
              simp at z
              exact .inr ⟨q, e.2, List.mem_cons_self, z.symm⟩
            | some y =>
              rw [ql] at z
              simp only [Option.getD_some, Option.some.injEq] at z
              by_cases hy : y ≤ k + e.2
              · rw [Int.min_eq_left hy] at z
                exact .inl (by rw [z])
              · rw [Int.min_eq_right (by omega)] at z
                exact .inr ⟨q, e.2, List.mem_cons_self, z.symm⟩
          · rw [if_neg ea] at z
            exact .inl z
        · exact .inr ⟨n, w, List.mem_cons_of_mem _ hw, ev⟩
      · by_cases ea : a = e.1
        · subst ea
          obtain ⟨v', g1, g2⟩ := h2 e.1 (min v (k + e.2)) (by rw [look_put, if_pos rfl, h]; rfl)
          exact ⟨v', g1, by omega⟩
        · exact h2 a v (by rw [look_put, if_neg ea]; exact h)
      · rcases List.mem_cons.mp h with z | z
        · subst z
          obtain ⟨v', g1, g2⟩ := h2 a _ (by rw [look_put, if_pos rfl])
          exact ⟨v', g1, by omega⟩
        · exact h3 a w z n
/-- one turn -/
theorem Dj.turn {adj : Cell → Cs} {s : Cell} {left found : Cs} (D : Dj adj s left found) (pos : ∀ a b w, (b, w) ∈ adj a → 0 ≤ w) {c : Cell} {k : Int} (hc : look left c = some k) (hm : ∀ b v, look left b = some v → k ≤ v) :
    Dj adj s (relax (put found c k) k (drop left c) (adj c)) (put found c k) := by
  obtain ⟨wc, nc⟩ := D.l c k hc
  obtain ⟨r1, r2, r3⟩ := relax_all (put found c k) k (adj c) (drop left c)
  refine ⟨fun a v h => ?_, fun a v h => ?_, fun a v b w h hw n => ?_, fun n => ?_⟩
  · rw [look_put] at h
    by_cases ea : a = c
    · rw [if_pos ea] at h
      cases h
      subst ea
      refine ⟨wc, fun k' hk' => ?_⟩
      obtain ⟨b, v, h1, h2⟩ := D.ahead pos hk' nc
      have := hm b v h1
      omega
    · rw [if_neg ea] at h
      exact D.f a v h
  · rcases r1 a v h with z | ⟨n, w, hw, ev⟩
    · rw [look_drop] at z
      by_cases ea : a = c
      · rw [if_pos ea] at z; cases z
      · rw [if_neg ea] at z
        obtain ⟨h1, h2⟩ := D.l a v z
        exact ⟨h1, by rw [look_put, if_neg ea]; exact h2⟩
    · rw [ev]
      exact ⟨.step wc hw, n⟩
  · rw [look_put] at h
    by_cases ea : a = c
    · rw [if_pos ea] at h
      cases h
      subst ea
      exact r3 b w hw n
    · rw [if_neg ea] at h
      have nb : look found b = none ∧ b ≠ c := by
        rw [look_put] at n
        by_cases eb : b = c
        · rw [if_pos eb] at n; cases n
        · rw [if_neg eb] at n; exact ⟨n, eb⟩
      obtain ⟨v', h1, h2⟩ := D.e a v b w h hw nb.1
      obtain ⟨v'', g1, g2⟩ := r2 b v' (by rw [look_drop, if_neg nb.2]; exact h1)
      exact ⟨v'', g1, by omega⟩
  · rw [look_put] at n
    by_cases es : s = c
    · rw [if_pos es] at n; cases n
    · rw [if_neg es] at n
      have l0 := D.s0 n
      obtain ⟨v'', g1, g2⟩ := r2 s 0 (by rw [look_drop, if_neg es]; exact l0)
      rcases r1 s v'' g1 with z | ⟨_, w, hw, ev⟩
      · rw [look_drop, if_neg es, l0] at z
        cases z
        exact g1
      · have h1 := hm s 0 l0
        have h2 := pos c s w hw
        obtain ⟨wk, _⟩ := D.l c k hc
        have h3 : 0 ≤ k := wc.nn pos
        have : v'' = 0 := by omega
        rw [this] at g1
        exact g1
end Dw

namespace Dw
open PySem L2 PyProof.Rows
variable {c : Cl}
/-- one of the things f a, a as p says -/
def sE {K : PySem.W.Frag} {α : Type} (f : α → Slot K c) (p : α → Prop) : Slot K c where
  par := false
  P := fun Z B H v fp => ∃ a, p a ∧ (f a).P Z B H v fp
  stb := fun ⟨a, h, q⟩ e f' g => ⟨a, h, (f a).stb q e f' g⟩
  dom := fun ⟨a, _, q⟩ => (f a).dom q
section
variable {X : Cx} {G : Env X.K c} {a b e : Expr} {rest : List Stmt} {Ph : Out X.K c → Prop} {pos p : Pos} {d : D} {k : Nat} {x : Str}
theorem dss_exE {α : Type} {f : α → Slot X.K c} {q : α → Prop} (i : Nat) (h : ∀ a, q a → DSs X (G.set i (some (f a))) rest Ph) (hG : G[i]? = some (some (sE f q)) := by rfl) (hp : ∀ a, (f a).par = false := by intro _; rfl) : DSs X G rest Ph := fun F B H σ D S E => by
  obtain ⟨fps, h1, h2⟩ := S.sl
  obtain ⟨v, hv, ⟨a, qa, pa⟩, ho⟩ := h1 i _ hG
  refine h a qa F B H σ D ?_ E
  have at_ : ∀ j s, (G.set i (some (f a)))[j]? = some (some s) → (i = j ∧ s = f a) ∨ (i ≠ j ∧ G[j]? = some (some s)) := fun j s hj => by
    rcases getset hj with ⟨e1, e2, _⟩ | ⟨e1, e2⟩
    · exact .inl ⟨e1, (Option.some.inj e2).symm⟩
    · exact .inr ⟨e1, e2⟩
  have un_ : ∀ j s, (G.set i (some (f a)))[j]? = some (some s) → ∃ s', G[j]? = some (some s') := fun j s hj => by
    rcases at_ j s hj with ⟨e1, _⟩ | ⟨_, e2⟩
    · exact ⟨_, e1 ▸ hG⟩
    · exact ⟨_, e2⟩
  refine { S with len := by rw [List.length_set]; exact S.len, pn := fun j s u hj hs hu => ?_, sl := ⟨fps, fun j s hj => ?_, fun j l s s' ne hj hl => ?_⟩ }
  · rcases at_ j s hj with ⟨_, e2⟩ | ⟨_, e2⟩
    · rw [e2, hp] at hs; cases hs
    · exact S.pn j s u e2 hs hu
  · rcases at_ j s hj with ⟨e1, e2⟩ | ⟨_, e2⟩
    · subst e1; subst e2
      refine ⟨v, hv, pa, fun y hy => ?_⟩
      have := ho y hy
      rw [if_neg (show ¬ (sE f q).par = true from Bool.false_ne_true)] at this
      rw [hp, if_neg Bool.false_ne_true]
      exact this
    · exact h1 j s e2
  · obtain ⟨t, ht⟩ := un_ j s hj
    obtain ⟨t', ht'⟩ := un_ l s' hl
    exact h2 j l t t' ne ht ht'
theorem dss_exI {α : Type} {f : α → Slot X.K c} {q : α → Prop} (i : Nat) (a : α) (qa : q a) (h : DSs X (G.set i (some (sE f q))) rest Ph) (hG : G[i]? = some (some (f a)) := by rfl) (hp : (f a).par = false := by rfl) : DSs X G rest Ph :=
  dss_cast i (s' := sE f q) (fun Z B H v fp z => ⟨a, qa, z⟩) h hG hp.symm
theorem DX.sub {s s' : Slot X.K c} (h : DX X G e s) (w : ∀ Z B H v fp, s.P Z B H v fp → s'.P Z B H v fp) : DX X G e s' := by
  obtain ⟨t, pt, r⟩ := h
  exact ⟨t, pt, fun Z B H σ Q E g => r Z B H σ Q E fun v B' H' fp e1 h1 h2 => g v B' H' fp e1 (fun Z => w _ _ _ _ _ (h1 Z)) h2⟩
theorem DE.dxE {α : Type} {f : α → D} {q : α → Prop} (a : α) (qa : q a) (h : DE X G e (f a)) : DX X G e (sE (fun a => sd (f a)) q) := DX.sub (s' := sE (fun a => sd (f a)) q) h.dx fun _ _ _ _ _ z => ⟨a, qa, z⟩
theorem cd_intB (k : Bool) : CallD c X (.type "int") [.bool k] (.int (if k then 1 else 0)) := ⟨_, call_int1, fun B H xs Q s h g => by
  obtain ⟨v, rfl, hv⟩ := tm1 h
  rw [hv.bool]
  exact .inr ⟨k, rfl, gv_of s g (.int _)⟩⟩
theorem cd_min2 (C : Bd X k) (i j : Int) : CallD c X (.builtin "min") [.int i, .int j] (.int (min i j)) := ⟨_, call_min2 C.calm, fun B H xs Q s h g => by
  obtain ⟨v, u, rfl, hv, hu⟩ := tm2 h
  rw [hv.int, hu.int]
  refine ⟨i, j, rfl, ?_⟩
  have : (if j < i then j else i) = min i j := by rw [Int.min_def]; split <;> split <;> omega
  rw [this]
  exact gv_of s g (.int _)⟩
theorem DIp.cast {Pp : TI → Prop} {n : Nat} {g g' : Nat → Slot X.K c} (h : DIp Pp X G n g) (q : ∀ i, i < n → g i = g' i) : DIp Pp X G n g' := by
  obtain ⟨wi, pw, r⟩ := h
  refine ⟨wi, pw, fun Z B H σ R E k => r Z B H σ R E fun J B' H' e1 w => k J B' H' e1 fun i B2 H2 s1 s2 s3 => ⟨fun hi => ?_, (w i B2 H2 s1 s2 s3).2⟩⟩
  obtain ⟨w1, w2⟩ := (w i B2 H2 s1 s2 s3).1 hi
  exact ⟨w1, fun u H' y => by obtain ⟨B', e2, e3⟩ := w2 u H' y; exact ⟨B', e2, q i hi ▸ e3⟩⟩
theorem di_text {tg : Expr} {z : Str} (h : DE X G e (.str z)) : DI X G tg e z.cps.size fun i => sd (.str ⟨#[z.cps.getD i 0]⟩) := by
  obtain ⟨t, q, r⟩ := h
  refine ⟨_, pi_str q, fun Z B H σ R E g => r Z B H σ _ E fun v B' H' e1 h1 => ?_⟩
  cases h1
  refine ⟨z, rfl, g _ B' H' e1 fun i B2 H2 s1 s2 s3 => ⟨fun hi => ⟨hi, fun u H' y => ?_⟩, fun hi => hi⟩⟩
  obtain ⟨rfl, cc, hc, rfl⟩ := y
  refine ⟨B2, Ext.refl s2, rfl, ?_⟩
  have : z.cps.getD i 0 = cc := by rw [Array.getD_eq_getD_getElem?, hc]; rfl
  rw [this]
  exact .str _
def f4 : Nat → Fin 4
  | 0 => 0
  | 1 => 1
  | 2 => 2
  | _ => 3
theorem lt4 {i : Nat} (h : i < 4) : i = 0 ∨ i = 1 ∨ i = 2 ∨ i = 3 := by omega
theorem di_nesw {tg : Expr} (h : DE X G e (.str "nesw")) : DI X G tg e 4 fun i => sd (.str (sideS (f4 i))) :=
  (di_text h).cast fun i hi => by rcases lt4 hi with rfl | rfl | rfl | rfl <;> rfl
abbrev sidesD : D := .tuple [.str "n", .str "e", .str "s", .str "w"]
theorem di_sides {tg : Expr} (h : DE X G e sidesD) : DI X G tg e 4 fun i => sd (.str (sideS (f4 i))) :=
  (di_tup h).cast fun i hi => by rcases lt4 hi with rfl | rfl | rfl | rfl <;> rfl
end
end Dw

namespace Dw
open PySem PySem.Spec L2 PyProof.Rows
section
variable {X : Cx} {pins : List (Addr × Obj)} {σ : Sg} {H : Hp} {s : Shared}
/-- its function is made; its code object is new, or found in the table -/
theorem lam_makeN {cc P : Addr} {params : Arguments} {body : Expr} {scope : Scope} {pos : Pos} {E Q : Value → Shared → Prop} (I : Inv X pins σ H s) (TB : LamX.TabB X.base X.mg cc P) (hcode : X.env.code = .ref cc) (hT : TabS H P "") (hn : nmG pos.line pos.col = X.env.qual ++ "<lambda>")
    (hdef : defaultsOf params X.env = ([], [])) (hfree : ∀ y ∈ scope.names, y.2 = .free → ∃ c, X.env.cells.lookup y.1 = some c)
    (h : ∀ (f c' : Addr) (pm ctv : Value) (H1 : Hp) (s' : Shared), Inv X pins σ H1 s' → Kp H H1 → (∀ b o, b ≠ P → H b = some o → H1 b = some o) →
      s'.heap.get? f = some (PySem.W.kla_obj "<lambda>" (X.env.qual ++ "<lambda>") params body scope (cloFrom X.env.cells scope.names []) pm c' ctv) → H1 f = none → f ∉ frs X.stack → H1 c' = some (LamX.CodeO c' (X.env.qual ++ "<lambda>")) → Q (.ref f) s') :
    wpAny (model X.prog X.w) X.A (eval (.Lambda params body scope pos) X.env) Q E s := by
  obtain ⟨ps, hP, ht, ha⟩ := hT
  refine PySem.W.kla_eval hdef ?_
  have oP : s.heap.get? P = some { cls := .none, data := .fields ps } := I.hok P _ hP
  have out : ∀ f, s.heap.objs.size ≤ f → f ∉ frs X.stack := fun f hf z => (List.mem_cons.mp (I.stkSub _ z)).elim (fun e => absurd I.lt (by rw [← e]; exact Nat.not_lt.mpr hf)) (I.nofs hf)
  cases hc : codeAmong pos ps.toList with
  | some cv =>
    obtain ⟨c', rfl, hco⟩ := ha pos cv hc
    rw [hn] at hco
    refine PySem.W.kla_makeFunctionHit (mg := X.mg) (c := cc) (P := P) (ps := ps) (closure_ok hfree) I.ok.glob (I.mod.glob.keeps I.bk) hcode (TB.code.keeps I.bk) oP ht hc (TB.bm.keeps I.bk) fun ctv h' tk hx hsz => ?_
    exact h h'.objs.size c' ((X.mg "__name__").getD .none) ctv H _ (I.kept fun b o e => Heap.get?_push_of_some _ (hx b o e)) (Kp.refl H) (fun _ _ _ z => z) (Heap.get?_push_size _ rfl) (I.hok.fresh hsz) (out _ hsz) hco
  | none =>
    refine PySem.W.kla_makeFunction (mg := X.mg) (c := cc) (P := P) (ps := ps) (closure_ok hfree) I.ok.glob (I.mod.glob.keeps I.bk) hcode (TB.code.keeps I.bk) oP ht hc TB.gP (TB.bm.keeps I.bk) fun c' ctv h' tk hx hge hlt hrec htb => ?_
    obtain ⟨c2, oc, vs, t, e2, hoc, hd, hv⟩ := hrec
    cases e2
    have sz : s.heap.objs.size ≤ h'.objs.size := Nat.le_trans hge (Nat.le_of_lt hlt)
    have nC : H c' = none := I.hok.fresh hge
    have nPc : P ≠ c' := ne_of_none hP nC
    have I1 := LamX.inv_table (t' := tk) (more := #[rawInt pos.line, rawInt pos.col, .ref c']) (h' := h'.push (PySem.W.kla_obj "<lambda>" (X.env.qual ++ "<lambda>") params body scope (cloFrom X.env.cells scope.names []) ((X.mg "__name__").getD .none) c' ctv)) I hP
      (fun b o hb e => Heap.get?_push_of_some _ (hx b o hb e)) (Heap.get?_push_of_some _ htb) hge ⟨oc, vs, t, Heap.get?_push_of_some _ hoc, hd, hv⟩
    have old : ∀ b o, H b = some o → b ≠ P → upd (upd H P (.tbl (ps ++ #[rawInt pos.line, rawInt pos.col, .ref c']))) c' (LamX.CodeO c' (X.env.qual ++ "<lambda>")) b = some o := fun b o e n => by rw [upd_ne (ne_of_none e nC), upd_ne n]; exact e
    have code : ∀ b q, H b = some (LamX.CodeO b q) → upd (upd H P (.tbl (ps ++ #[rawInt pos.line, rawInt pos.col, .ref c']))) c' (LamX.CodeO c' (X.env.qual ++ "<lambda>")) b = some (LamX.CodeO b q) := fun b q e => old b _ e fun z => LamX.codeO_ne ps (Option.some.inj (by rw [← e, z, hP]))
    have tP : upd (upd H P (.tbl (ps ++ #[rawInt pos.line, rawInt pos.col, .ref c']))) c' (LamX.CodeO c' (X.env.qual ++ "<lambda>")) P = some (.tbl (ps ++ #[rawInt pos.line, rawInt pos.col, .ref c'])) := by rw [upd_ne nPc, upd_same]
    refine h h'.objs.size c' ((X.mg "__name__").getD .none) ctv _ _ I1 ⟨fun b o e n => old b o e fun z => ?_, fun b e => ?_, fun P2 q ⟨ps2, t1, t2, t3⟩ => ?_⟩ (fun b o n e => old b o e n) (Heap.get?_push_size _ rfl) ?_ (out _ sz) upd_same
    · rw [z, hP] at e
      cases e
      cases n
    · by_cases z : b = P
      · rw [z, tP]; exact fun z => nomatch z
      · cases q : H b with
        | none => exact absurd q e
        | some o => rw [old b o q z]; exact fun z => nomatch z
    · by_cases z : P2 = P
      · subst z
        rw [hP] at t1
        cases t1
        have eL : (ps ++ #[rawInt pos.line, rawInt pos.col, .ref c']).toList = ps.toList ++ [rawInt pos.line, rawInt pos.col, .ref c'] := by simp
        refine ⟨_, tP, by rw [eL]; exact TriplesOk_snoc _ _ _ _ t2, fun p' cv hcv => ?_⟩
        rw [eL] at hcv
        rcases NdefX.among_app2 _ t2 hcv with z | ⟨z, z1, z2⟩
        · obtain ⟨c0, e1, e2⟩ := t3 p' cv z
          exact ⟨c0, e1, code _ _ e2⟩
        · exact ⟨c', z, by rw [← z1, ← z2, hn]; exact upd_same⟩
      · refine ⟨ps2, old _ _ t1 z, t2, fun p' cv hcv => ?_⟩
        obtain ⟨c0, e1, e2⟩ := t3 p' cv hcv
        exact ⟨c0, e1, code _ _ e2⟩
    · rw [upd_ne (Nat.ne_of_gt hlt), upd_ne (Nat.ne_of_gt (Nat.lt_of_lt_of_le (Heap.lt_size oP) sz))]
      exact I.hok.fresh sz
structure Lam1 (sc scope : Scope) (y z : Str) : Prop where
  kind : scope.kind = .function
  co : scope.isCoroutine = false
  gen : scope.isGenerator = false
  loc : scope.names.lookup y = some .local
  zf : scope.names.lookup z = some .free
  own : ∀ p ∈ scope.names, p.2 ≠ .cell ∧ (p.2 = .free → p.1 = z)
  zc : sc.names.lookup z = some .cell ∨ sc.names.lookup z = some .free
def lam1B (sc scope : Scope) (y z : Str) : Bool :=
  decide (scope.kind = .function) && (!scope.isCoroutine && (!scope.isGenerator && (decide (scope.names.lookup y = some .local) && (decide (scope.names.lookup z = some .free) && (scope.names.all (fun p => !decide (p.2 = .cell) && (!decide (p.2 = .free) || decide (p.1 = z))) && (decide (sc.names.lookup z = some .cell) || decide (sc.names.lookup z = some .free)))))))
theorem lam1_by {sc scope : Scope} {y z : Str} (h : lam1B sc scope y z = true) : Lam1 sc scope y z := by
  simp only [lam1B, Bool.and_eq_true, Bool.or_eq_true, Bool.not_eq_true', decide_eq_true_eq, decide_eq_false_iff_not, List.all_eq_true] at h
  obtain ⟨h1, h2, h3, h4, h5, h6, h7⟩ := h
  exact ⟨h1, h2, h3, h4, h5, fun p hp => ⟨(h6 p hp).1, fun e => (h6 p hp).2.resolve_left fun n => n e⟩, h7⟩
theorem Lam1.has {scope : Scope} {y z : Str} (L : Lam1 X.env.scope scope y z) (ok : X.Ok) : ∀ p ∈ scope.names, p.2 = .free → ∃ c, X.env.cells.lookup p.1 = some c := fun p hp e => by
  rw [(L.own p hp).2 e]
  exact ok.has _ L.zc
abbrev E00 : XK := fun _ _ _ => False
def lam1Cx (X : Cx) (y z : Str) (A : Around) (outer : List PySem.Env) (s : Shared) (H : Hp) (scope : Scope) (f c' : Addr) : Cx := { LamX.lamCx X A outer s H E00 scope f c' with N := [y, z] }
theorem lam1_start {A : Around} {outer : List PySem.Env} {scope : Scope} {f c' : Addr} {h₁ : Heap} {tk : Nat} {y z : Str} {j : Nat} {vy vz : V} {uy : Value} (I : Inv X pins σ H s) (L : Lam1 X.env.scope scope y z) (e0 : Env0 X.prog X.w X.K X.mg X.base A outer s H) (hd : A.handled = none)
    (hns : h₁.Ns s.heap.objs.size fun x => ([(y, uy)] : List (Str × Value)).reverse.lookup x) (kp : ∀ b o, s.heap.get? b = some o → h₁.get? b = some o) (hz : X.N[j]? = some z) (hσ : σ[j]? = some (some vz)) (ry : RelV vy uy) :
    Inv (lam1Cx X y z A outer s H scope f c') [] [some vy, some vz] H { s with heap := h₁, toks := tk } := by
  have cm : ∀ {x c}, (cloFrom X.env.cells scope.names []).lookup x = some c → X.env.cells.lookup x = some c := fun {x c} e => by
    rcases cloFrom_mem (mem_of_lookup e) with hm | ⟨h1, h2⟩
    · cases hm
    · obtain ⟨c1, hc⟩ := L.has I.ok _ h1 rfl
      have e2 : c = c1 := by rw [h2, show X.env.cells.lookup x = some c1 from hc] <;> rfl
      rw [e2]; exact hc
  have look : ∀ {x}, scope.names.lookup x = some .free → ∃ c, (cloFrom X.env.cells scope.names []).lookup x = some c := fun {x} hl => mem_lookup (cloFrom_has (cells := X.env.cells) (acc := []) (show (x, NameKind.free) ∈ scope.names from mem_of_lookup hl))
  have cellK : ∀ {c : Addr} {v : Option Value}, s.heap.IsCell c v → h₁.IsCell c v := fun {c v} ⟨o, ho, hd⟩ => ⟨o, kp _ _ ho, hd⟩
  have none_ : ∀ b : Addr, b ∉ ([] : List Addr) := fun b => List.not_mem_nil
  refine
    { ok := { mod := e0.mod, kind := L.kind, glob := rfl, blt := rfl, above := Nat.le_refl _, inj := fun x x' c e1 e2 => I.ok.inj x x' c (cm e1) (cm e2), has := fun x hx => ?_, cab := fun x c q => (nomatch q), hd := fun _ => hd, frames := Around.frames_deeper e0.frames,
              stk := .inr ⟨rfl, rfl⟩, exf := fun b q => absurd q (none_ b), bs := e0.bs, bsz := e0.bsz, noex := fun b _ _ => none_ b, exfs := fun b q => absurd q (none_ b), funs := e0.funs, frf := e0.frf },
      os := rfl, bare := e0.bare, base := Un.kept kp, loc := ⟨_, hns, fun i x v e1 e2 e3 => ?_⟩, cell := fun x c e => ?_, free := e0.hok.fresh (Nat.le_refl _), freeC := fun x c e => I.freeC x c (cm e), pin := fun p hp => absurd (show p ∈ ([] : List (Addr × Obj)) ++ [] from hp) (by simp), hok := e0.hok.kept kp, len := rfl }
  · rcases (show scope.names.lookup x = some .cell ∨ scope.names.lookup x = some .free from hx) with q | q
    · exact absurd rfl (L.own _ (mem_of_lookup q)).1
    · exact look q
  · match i with
    | 0 =>
      cases e1
      cases e2
      exact ⟨uy, ry, .inl ⟨L.loc, by simp⟩⟩
    | 1 =>
      cases e1
      cases e2
      obtain ⟨m, hn, hl⟩ := I.loc
      obtain ⟨w', r, q⟩ := hl j z vz hz hσ (L.zc.elim (fun k => .inr (.inl k)) fun k => .inr (.inr k))
      obtain ⟨c2, h2⟩ := look L.zf
      refine ⟨w', r, .inr ⟨.inr L.zf, c2, h2, ?_⟩⟩
      rcases q with ⟨k', _⟩ | ⟨_, c3, e', q⟩
      · have k' : X.env.scope.names.lookup z = some .local := k'
        rcases L.zc with k | k <;> rw [k] at k' <;> cases k'
      · rw [cm h2] at e'
        cases e'
        exact cellK q
    | i + 2 => simp at e2
  · obtain ⟨v, q⟩ := I.cell x c (cm e)
    exact ⟨v, cellK q⟩
/-- it is called -/
theorem lam1_call {params : Arguments} {body : Expr} {scope : Scope} {f c' : Addr} {pm ctv : Value} {y z : Str} {j k : Nat} {vy vz : V} {uy : Value} {tb : TE} {Q : VK} {R E : Value → Shared → Prop} (I : Inv X pins σ H s) (L : Lam1 X.env.scope scope y z)
    (hf : s.heap.get? f = some (PySem.W.kla_obj "<lambda>" (X.env.qual ++ "<lambda>") params body scope (cloFrom X.env.cells scope.names []) pm c' ctv)) (hco : H c' = some (LamX.CodeO c' (X.env.qual ++ "<lambda>")))
    (hbind : ∀ (q : Str) (cl : List (Str × Addr)) (pm cv ctv u : Value), bindArgs (PySem.W.kla_fn "<lambda>" q params body scope cl pm cv ctv) ⟨[u], []⟩ = pure [(y, u)]) (hr : Room (k + 2) X.A)
    (hbody : ∀ (A : Around) (outer : List PySem.Env) (s : Shared) (H : Hp) (f c' : Addr), Room k (A.deeper (LamX.lamEnv X scope s.heap.objs.size f c')) → PE (lam1Cx X y z A outer s H scope f c') body tb)
    (hz : X.N[j]? = some z) (hσ : σ[j]? = some (some vz)) (ry : RelV vy uy) (h : tb [some vy, some vz] H Q) (g : ∀ u s', CE X.stack X.prog X.w H s Q u s' → R u s') : wpAny (model X.prog X.w) X.A.in1 (call (.ref f) [uy]) R E s := by
  have hr1 : Room (k + 1) X.A.in1 := hr.in1
  refine wpAny_call (codeAny_mono (R := CR (L2.CX X.prog X.w) X.stack X.prog X.w H s Q E00) (PySem.W.kla_callFunE hr1.depth hf rfl L.co L.gen rfl (NdefX.codeO_at I.hok hco) ?_) fun r s' q => ?_)
  · rw [hbind]
    refine wpAny_pure (wpAny_newFunctionEnv (fun p hp => (L.own p hp).1) (fun p hp => by rw [List.mem_singleton.mp hp]; exact L.loc) (fun h₁ hns hsb => ⟨I.nolimit.fresh _ hsb, ?_⟩) L.kind)
    show codeAny _ _ (.expr body (LamX.lamEnv X scope s.heap.objs.size f c')) _ _
    have kp : ∀ b o, s.heap.get? b = some o → h₁.get? b = some o := fun b o e => hsb.extBut b o (Nat.ne_of_lt (Heap.lt_size e)) (Heap.get?_push_of_some _ e)
    have J := lam1_start (f := f) (c' := c') (tk := s.toks + 1) I L I.env0.in1 hr1.hd hns kp hz hσ ry
    refine PySem.W.kla_codeExpr (wpAny_mono ((hbody _ _ s H f c' (hr1.deeper _)).run [] _ _ H Q J h) (fun v s' q => ?_) fun e s' q => q)
    obtain ⟨w', H', J', rv, q⟩ := q
    exact ⟨w', H', J'.os, J'.bare, J'.base, J'.hok, rv, q⟩
  · cases r with
    | error e =>
      obtain ⟨_, _, _, _, _, _, _, _, _, _, _, _, _, _, _, _, q⟩ := (show L2.CX X.prog X.w X.stack H s E00 e s' from q)
    | ok fl =>
      cases fl with
      | ret u => exact g u s' q
      | next => exact False.elim q
      | brk => exact False.elim q
      | cont => exact False.elim q
end
end Dw

namespace Dw
open PySem PySem.Spec L2 PyProof.Rows
section
variable {X : Cx} {pins : List (Addr × Obj)} {σ : Sg} {H : Hp} {s : Shared}
theorem XD.kp {H' : Hp} {a : Addr} {xs : Ents} (e : Kp H H') (h : XD X H a xs) : XD X H' a xs := by
  obtain ⟨⟨o, r, k⟩, ks⟩ := h
  refine ⟨⟨o, e.rd r (NT.nt (nt_dct k)), k⟩, fun q hq => ?_⟩
  obtain ⟨c, h1, h2⟩ := ks q hq
  exact ⟨c, h1, e.tup h2⟩
theorem atKey_mem {xs : Ents} (nd : (xs.map (·.1)).Nodup) {q : List Key × Addr × Value} (hq : q ∈ xs) : atKey xs q.1 = some q.2 := by
  induction xs with
  | nil => cases hq
  | cons p r ih =>
    rw [List.map_cons, List.nodup_cons] at nd
    unfold atKey
    rcases List.mem_cons.mp hq with rfl | hq
    · rw [List.find?_cons_of_pos (by simp)]; rfl
    · have ne : p.1 ≠ q.1 := fun z => nd.1 (by rw [z]; exact List.mem_map_of_mem hq)
      rw [List.find?_cons_of_neg (by simpa using ne)]
      exact ih nd.2 hq
/-- what the lambda's body is to give for an entry: its int, or (its int, its key) -/
def KeyTb (X : Cx) (pr : Bool) (tb : TE) : Prop := ∀ (a : Addr) (xs : Ents) (q : List Key × Addr × Value) (n : Int) (t : Tok) (HZ : Hp) (Q : VK), XD X HZ a xs → q ∈ xs → q.2.2 = .int n t →
  (if pr then ∀ p, HZ p = none → Q (.ref p) (upd HZ p (.tup [.int n, .ref q.2.1])) else Q (.int n) HZ) → tb [some (.ref q.2.1), some (.ref a)] HZ Q
abbrev tbOne (X : Cx) : TE := tXGet X (tVar 1) (tVar 0)
abbrev tbTwo (X : Cx) : TE := tTup (tCons (tXGet X (tVar 1) (tVar 0)) (tCons (tVar 0) tNil))
theorem key_get {a : Addr} {xs : Ents} {q : List Key × Addr × Value} {n : Int} {t : Tok} {HZ : Hp} {Q : VK} (hx : XD X HZ a xs) (hq : q ∈ xs) (e : q.2.2 = .int n t) (g : Q (.int n) HZ) : tbOne X [some (.ref q.2.1), some (.ref a)] HZ Q := by
  obtain ⟨k, h1, h2⟩ := hx.keys q hq
  obtain ⟨o, _, _, _, _, _, _, _, _, nd⟩ := hx.ex
  exact ⟨.ref a, rfl, .ref q.2.1, rfl, a, q.2.1, xs, k, q.2, .int n, rfl, rfl, hx, h2, h1 ▸ atKey_mem nd hq, ⟨t, e⟩, g⟩
theorem key_one : KeyTb X false (tbOne X) := fun a xs q n t HZ Q hx hq e g => key_get hx hq e g
theorem key_two : KeyTb X true (tbTwo X) := fun a xs q n t HZ Q hx hq e g => key_get hx hq e ⟨.ref q.2.1, rfl, tw_le, fun p hp => g p hp⟩
def nOf (q : List Key × Addr × Value) : Int := match q.2.2 with
  | .int n _ => n
  | _ => 0
theorem nOf_eq {q : List Key × Addr × Value} {n : Int} {t : Tok} (e : q.2.2 = .int n t) : nOf q = n := by unfold nOf; rw [e]
def ltC (p q : Cell) : Bool := decide (p.1 < q.1) || (decide (p.1 = q.1) && decide (p.2 < q.2))
/-- which key is less -/
def bt (pr : Bool) (xs : Ents) (i j : Nat) : Bool := match xs[i]?, xs[j]? with
  | some p, some q => decide (nOf p < nOf q) || (pr && (decide (nOf p = nOf q) && ltC (kP p.1) (kP q.1)))
  | _, _ => false
theorem bt_at {pr : Bool} {xs : Ents} {i j : Nat} {p q : List Key × Addr × Value} (h1 : xs[i]? = some p) (h2 : xs[j]? = some q) : bt pr xs i j = (decide (nOf p < nOf q) || (pr && (decide (nOf p = nOf q) && ltC (kP p.1) (kP q.1)))) := by unfold bt; rw [h1, h2]
theorem best_lt {pr : Bool} {xs : Ents} : ∀ m, m < xs.length → argBest (bt pr xs) m < xs.length ∧ ∀ j (hj : j ≤ m) p q, xs[argBest (bt pr xs) m]? = some p → xs[j]? = some q → nOf p ≤ nOf q
  | 0, h => ⟨h, fun j hj p q hp hq => by
    have : j = 0 := by omega
    subst this
    rw [show argBest (bt pr xs) 0 = 0 from rfl, hq] at hp
    cases hp; exact Int.le_refl _⟩
  | m + 1, h => by
    obtain ⟨h1, h2⟩ := best_lt (pr := pr) (xs := xs) m (by omega)
    have hm : xs[m + 1]? = some xs[m + 1] := List.getElem?_eq_getElem h
    have hb : xs[argBest (bt pr xs) m]? = some xs[argBest (bt pr xs) m] := List.getElem?_eq_getElem h1
    have e : argBest (bt pr xs) (m + 1) = if bt pr xs (m + 1) (argBest (bt pr xs) m) = true then m + 1 else argBest (bt pr xs) m := rfl
    rw [e]
    cases hc : bt pr xs (m + 1) (argBest (bt pr xs) m) with
    | true =>
      rw [if_pos rfl]
      refine ⟨h, fun j hj p q hp hq => ?_⟩
      rw [hm] at hp
      cases hp
      have : nOf xs[m + 1] ≤ nOf xs[argBest (bt pr xs) m] := by
        rw [bt_at hm hb] at hc
        simp only [Bool.or_eq_true, Bool.and_eq_true, decide_eq_true_eq] at hc
        omega
      rcases Nat.lt_or_ge j (m + 1) with z | z
      · exact Int.le_trans this (h2 j (by omega) _ q hb hq)
      · have : j = m + 1 := by omega
        subst this
        rw [hm] at hq
        cases hq; exact Int.le_refl _
    | false =>
      rw [if_neg Bool.false_ne_true]
      refine ⟨h1, fun j hj p q hp hq => ?_⟩
      rcases Nat.lt_or_ge j (m + 1) with z | z
      · exact h2 j (by omega) p q hp hq
      · have : j = m + 1 := by omega
        subst this
        rw [hm] at hq
        rw [hb] at hp
        cases hq
        cases hp
        rw [bt_at hm hb] at hc
        simp only [Bool.or_eq_false_iff, decide_eq_false_iff_not] at hc
        omega
/-- two of them compared -/
theorem cmp_key {A : Around} (I : Inv X pins σ H s) (hu : A.units + 70 < cLine) {a : Addr} {xs : Ents} {p q : List Key × Addr × Value} {kp kq : Addr} {mp mq : Tok} (hx : XD X H a xs) (hp : p ∈ xs) (hq : q ∈ xs)
    (tp : s.heap.IsTuple kp #[.int (nOf p) mp, .ref p.2.1]) (tq : s.heap.IsTuple kq #[.int (nOf q) mq, .ref q.2.1]) :
    SeqAt.RcLt A s (.ref kp) (.ref kq) (decide (nOf p < nOf q) || (decide (nOf p = nOf q) && ltC (kP p.1) (kP q.1))) := by
  obtain ⟨c1, e1, h1⟩ := hx.keys p hp
  obtain ⟨c2, e2, h2⟩ := hx.keys q hq
  rw [e1, e2, kP_cK, kP_cK]
  obtain ⟨i1, r1, t1, _⟩ := I.tuple (show SqT X.K H p.2.1 (cV c1) from h1)
  obtain ⟨i2, r2, t2, _⟩ := I.tuple (show SqT X.K H q.2.1 (cV c2) from h2)
  cases r1 with | cons ra r1 => cases r1 with | cons rb r1 => cases r1 with | nil =>
  cases r2 with | cons rc r2 => cases r2 with | cons rd r2 => cases r2 with | nil =>
  obtain ⟨ta, rfl⟩ := ra
  obtain ⟨tb, rfl⟩ := rb
  obtain ⟨tc, rfl⟩ := rc
  obtain ⟨td, rfl⟩ := rd
  have ltI : ∀ (A : Around) (x y : Int) (t u : Tok), SeqAt.RcLt A s (.int x t) (.int y u) (decide (x < y)) := fun A x y t u prog w E Q h => HT.rcLt_int A s x t y u prog w E Q h
  have eqC : SeqAt.EqAt A.in1 s (.ref p.2.1) (.ref q.2.1) (decide (c1 = c2)) := by
    obtain ⟨as, z1⟩ := Dp.reads I (enc c1) (.ref p.2.1) (.ref p.2.1) (.tup h1 (.cons (.int _) (.cons (.int _) .nil))) rfl
    obtain ⟨bs, z2⟩ := Dp.reads I (enc c2) (.ref q.2.1) (.ref q.2.1) (.tup h2 (.cons (.int _) (.cons (.int _) .nil))) rfl
    have s1 := En.shp c1
    have s2 := En.shp c2
    have hd : (enc c1).depth ≤ 1 := s1.2
    have := SeqAt.eqAt_reads (enc c1) (enc c2) A.in1 s _ _ as bs z1 z2 s1.1 s2.1 (by
      have : A.in1.units = A.units + 1 := rfl
      have hm := Nat.min_le_left (enc c1).depth (enc c2).depth
      omega)
    rw [En.eqv] at this
    exact this
  have ltC' : SeqAt.RcLt A.in1 s (.ref p.2.1) (.ref q.2.1) (ltC c1 c2) := by
    have := SeqAt.RcLt.tuples (A := A.in1) (e := fun j => if j = 0 then c1.1 == c2.1 else c1.2 == c2.2) (r := fun j => if j = 0 then decide (c1.1 < c2.1) else decide (c1.2 < c2.2)) t1 t2 (by have : A.in1.units = A.units + 1 := rfl; omega) (fun j h1 h2 => ?_) (fun j h1 h2 _ => ?_)
    · refine cast (congrArg (SeqAt.RcLt A.in1 s (.ref p.2.1) (.ref q.2.1)) ?_) this
      show SeqAt.firstLt _ _ (decide (2 < 2)) [0, 1] = _
      unfold ltC
      simp only [SeqAt.firstLt]
      by_cases z : c1.1 = c2.1
      · by_cases z2 : c1.2 = c2.2
        · simp [z, z2]
        · simp [z, z2]
      · simp [z]
    · have : j < 2 := h1
      match j with
      | 0 => exact SeqAt.EqAt.int_int _ _ _ _
      | 1 => exact SeqAt.EqAt.int_int _ _ _ _
    · have : j < 2 := h1
      match j with
      | 0 => exact ltI _ _ _ _ _
      | 1 => exact ltI _ _ _ _ _
  have := SeqAt.RcLt.tuples (A := A) (e := fun j => if j = 0 then nOf p == nOf q else decide (c1 = c2)) (r := fun j => if j = 0 then decide (nOf p < nOf q) else ltC c1 c2) tp tq (by omega) (fun j h1 h2 => ?_) (fun j h1 h2 _ => ?_)
  · refine cast (congrArg (SeqAt.RcLt A s (.ref kp) (.ref kq)) ?_) this
    show SeqAt.firstLt _ _ (decide (2 < 2)) [0, 1] = _
    simp only [SeqAt.firstLt]
    by_cases z : nOf p = nOf q
    · by_cases z2 : c1 = c2
      · have : ltC c2 c2 = false := by unfold ltC; simp
        simp [z, z2, this]
      · simp [z, z2]
    · simp [z]
  · have : j < 2 := h1
    match j with
    | 0 => exact SeqAt.EqAt.int_int _ _ _ _
    | 1 => exact eqC
  · have : j < 2 := h1
    match j with
    | 0 => exact ltI _ _ _ _ _
    | 1 => exact ltC'
end
end Dw

namespace Dw
open PySem PySem.Spec L2 PyProof.Rows
def tMinL (X : Cx) (P : Addr) (j : Nat) : TE := fun σ H Q => ∃ a xs, σ[j]? = some (some (.ref a)) ∧ XD X H a xs ∧ xs ≠ [] ∧ (∀ q ∈ xs, ∃ n t, q.2.2 = .int n t) ∧ TabS H P "" ∧
  ∀ H' q, Kp H H' → (∀ b o, b ≠ P → H b = some o → H' b = some o) → q ∈ xs → (∀ q' ∈ xs, nOf q ≤ nOf q') → Q (.ref q.2.1) H'
section
variable {X : Cx} {pins : List (Addr × Obj)} {σ : Sg} {H : Hp} {s : Shared}
theorem vals_ri {n : Int} {a : Addr} {us : List Value} (h : Vals [.int n, .ref a] us) : ∃ t, us = [.int n t, .ref a] := by
  cases h with | cons r1 h => cases h with | cons r2 h => cases h with | nil =>
  obtain ⟨t, rfl⟩ := r1
  cases r2
  exact ⟨t, rfl⟩
theorem vals_ri' {n : Int} {m : Tok} {a : Addr} {ys : List V} (h : Vals ys [.int n m, .ref a]) : ys = [.int n, .ref a] := by
  cases h with | cons r1 h => cases h with | cons r2 h => cases h with | nil =>
  rename_i y1 y2
  cases y1 <;> first | (cases r1; done) | skip
  all_goals cases y2 <;> first | (cases r2; done) | skip
  all_goals first | (obtain ⟨t, e⟩ := r1; cases e; cases r2; rfl) | (exfalso; obtain ⟨t, e⟩ := r1; cases e; done) | (exfalso; obtain ⟨t, e⟩ := r2; cases e; done) | skip
/-- the state while the keys are looked at -/
structure MinJ (X : Cx) (pins : List (Addr × Obj)) (σ : Sg) (H1 : Hp) (S I0 f : Addr) (fo : Obj) (s : Shared) (H' : Hp) : Prop where
  i : Inv X pins σ H' s
  e : Same H1 H'
  nS : H' S = none
  nI : H' I0 = none
  nf : H' f = none
  of : s.heap.get? f = some fo
  tp : ∀ b, H1 b = none → H' b = none ∨ ∃ ys, H' b = some (.tup ys)
def MinV (pr : Bool) (xs : Ents) (H1 : Hp) (S I0 : Addr) (i : Nat) (k : Value) (s : Shared) : Prop := ∃ q, xs[i]? = some q ∧
  (if pr then ∃ p m, k = .ref p ∧ H1 p = none ∧ p ≠ S ∧ p ≠ I0 ∧ s.heap.IsTuple p #[.int (nOf q) m, .ref q.2.1] else ∃ m, k = .int (nOf q) m)
theorem MinJ.k {pins : List (Addr × Obj)} {σ : Sg} {H1 H' : Hp} {S I0 f : Addr} {fo : Obj} {s : Shared} (m : MinJ X pins σ H1 S I0 f fo s H') : Kp H1 H' := Same.kp m.e
theorem pe_minlam {j k : Nat} {pr : Bool} {y z : Str} {cc P : Addr} {params : Arguments} {body : Expr} {scope : Scope} {lpos kpos p pz pos : Pos} {tb : TE} (hg : Gl X "min") (hm : X.mg "min" = none) (hN : X.N[j]? = some z) (L : Lam1 X.env.scope scope y z) (TB : LamX.TabB X.base X.mg cc P)
    (hcode : X.env.code = .ref cc) (hn : nmG lpos.line lpos.col = X.env.qual ++ "<lambda>") (hdef : defaultsOf params X.env = ([], []))
    (hbind : ∀ (q : Str) (cl : List (Str × Addr)) (pm cv ctv u : Value), bindArgs (PySem.W.kla_fn "<lambda>" q params body scope cl pm cv ctv) ⟨[u], []⟩ = pure [(y, u)]) (hr : Room (k + 2) X.A)
    (hbody : ∀ (A : Around) (outer : List PySem.Env) (s : Shared) (H : Hp) (f c' : Addr), Room k (A.deeper (LamX.lamEnv X scope s.heap.objs.size f c')) → PE (lam1Cx X y z A outer s H scope f c') body tb) (hkey : KeyTb X pr tb)
    (hd : (z == ("__debug__" : Str)) = false := by decide) (hcd : (z == ("__classdict__" : Str)) = false := by decide) : PE X (.Call (.Name "min" p) [.Name z pz] [⟨some "key", .Lambda params body scope lpos, kpos⟩] pos) (tMinL X P j) := by
  refine ⟨fun pins s σ H Q I h => ?_⟩
  obtain ⟨a, xs, hσ, hx, hne, hint, hT, hQ⟩ := h
  have hvz : Vis X.env.scope z := L.zc.elim (fun k => .inr (.inl k)) fun k => .inr (.inr k)
  refine wpAny_Call_Name_kw (ld_blt I hg hm (show bootBuiltins "min" = some (.builtin "min") by decide +kernel) ?_)
  refine PyProof.Rows.callWith_kw (thn ((pa_cons (pe_var hN hvz hd hcd) pa_nil).run pos pins s σ H (fun vs H1 => vs = [.ref a] ∧ H1 = H) I ⟨.ref a, hσ, rfl, rfl⟩) fun us s1 ⟨vs, H1, I1, r1, q1⟩ => ?_)
  obtain ⟨rfl, rfl⟩ := q1
  obtain rfl := Vals.ref1 r1
  refine wpAny_evalAll_cons (wpAny_bind (lam_makeN I1 TB hcode hT hn hdef (L.has I1.ok) fun f c' pm ctv H2 s2 I2 kp2 nn hf hfn hfr hco => wpAny_bind (wpAny_standAt (wpAny_pure (wpAny_evalAll_nil ?_)))))
  have hx2 := hx.kp kp2
  obtain ⟨o, ho, sm, hlen, es, ep, hex, hdat, hes, hnd⟩ := xd_raw I2 hx2
  have esz : es.size = xs.length := by rw [← Array.length_toList, hes, List.length_map]
  have pos_ : 0 < es.size := by
    rw [esz]
    cases xs with
    | nil => exact absurd rfl hne
    | cons _ _ => exact Nat.succ_pos _
  have ai : a ≠ s2.heap.objs.size := Nat.ne_of_lt (Heap.lt_size ho)
  have fi : f < s2.heap.objs.size := Heap.lt_size hf
  have hh : X.A.in1.handled = none := hr.hd
  have gt_ : ∀ b, s2.heap.objs.size ≤ b → H2 b = none := fun b hb => I2.hok.fresh hb
  refine call_min_walkK (wpAny_pyIter_dict_raw sm ⟨o, ho, hex, hdat⟩ ?_)
  have sz3 : (s2.heap.push ({ cls := .type "dict_keyiterator", data := .fields #[.ref a, .int 0 0, .int es.size 0, .int ep 0] } : Obj)).objs.size = s2.heap.objs.size + 1 := Heap.size_push ..
  have I3 : Inv X pins σ H2 { s2 with heap := s2.heap.push ({ cls := .type "dict_keyiterator", data := .fields #[.ref a, .int 0 0, .int es.size 0, .int ep 0] } : Obj) } := I2.kept (t' := s2.toks) fun b o e => Heap.get?_push_of_some _ e
  have hS : s2.heap.objs.size ≤ (s2.heap.push ({ cls := .type "dict_keyiterator", data := .fields #[.ref a, .int 0 0, .int es.size 0, .int ep 0] } : Obj)).objs.size := by rw [sz3]; exact Nat.le_succ _
  generalize hSv : (s2.heap.push ({ cls := .type "dict_keyiterator", data := .fields #[.ref a, .int 0 0, .int es.size 0, .int ep 0] } : Obj)).objs.size = S at hS sz3
  have fpS : ∀ {H' : Hp}, H' S = none → FpOk X pins H' S := fun hn => I2.fpOk hS hn
  have fpI : ∀ {H' : Hp}, H' s2.heap.objs.size = none → FpOk X pins H' s2.heap.objs.size := fun hn => I2.fpOk (Nat.le_refl _) hn
  have frS : S ∉ frs X.stack := fun z => (List.mem_cons.mp (I2.stkSub _ z)).elim (fun e => absurd I2.lt (by rw [← e]; exact Nat.not_lt.mpr hS)) (I2.nofs hS)
  have frI : s2.heap.objs.size ∉ frs X.stack := fun z => (List.mem_cons.mp (I2.stkSub _ z)).elim (fun e => absurd I2.lt (by rw [← e]; exact Nat.lt_irrefl _)) (I2.nofs (Nat.le_refl _))
  have fS : f ≠ S := Nat.ne_of_lt (Nat.lt_of_lt_of_le fi hS)
  have fI : f ≠ s2.heap.objs.size := Nat.ne_of_lt fi
  have SI : S ≠ s2.heap.objs.size := by omega
  let J : Shared → Prop := fun s => ∃ H', MinJ X pins σ H2 S s2.heap.objs.size f (PySem.W.kla_obj "<lambda>" (X.env.qual ++ "<lambda>") params body scope (cloFrom X.env.cells scope.names []) pm c' ctv) s H'
  refine ⟨s2.heap.objs.size, [s2.heap.objs.size, a], [s2.heap.objs.size], fun a b => b = a, es.size, fun i v => ∃ y, xs[i]? = some y ∧ v = .ref y.2.1, fun i s => s.heap.IsKeyIter s2.heap.objs.size a i es.size ep ∧ s.heap.DictRaw a es ep, J, MinV pr xs H2 S s2.heap.objs.size, bt pr xs, rfl,
    (Walks.keysH hh s2.heap.objs.size a ai es ep fun i hi => ?_).toS, ⟨⟨_, Heap.get?_push_size _ rfl, rfl, rfl⟩, ⟨o, Heap.get?_push_of_some _ ho, hex, hdat⟩⟩, fun b hb => ?_, pos_, ?_, ⟨H2, I3, Same.refl _, gt_ _ hS, gt_ _ (Nat.le_refl _), hfn, Heap.get?_push_of_some _ hf, fun b hb => .inl hb⟩, fun v s' hP hJ => ?_⟩
  · have hl : i < xs.length := esz ▸ hi
    obtain ⟨hi', k1, k2⟩ := entry_get hes (List.getElem?_eq_getElem hl)
    exact ⟨_, List.getElem?_eq_getElem hl, k1, k2⟩
  · show b < S
    rw [sz3]
    rcases List.mem_cons.mp hb with rfl | hb
    · exact Nat.lt_succ_self _
    · rw [List.mem_singleton.mp hb]; exact Nat.lt_succ_of_lt (Heap.lt_size ho)
  · refine ⟨fun s s' ⟨H', m⟩ mv => ?_, fun i k s s' hV mv => ?_, fun i v s oS Q E hi hP hJ hst hoS g => ?_, fun i j' ki kj s Q E ⟨H', m⟩ hVi hVj g => ?_⟩
    · obtain ⟨hp, gg, dd, tt, os⟩ := s'
      obtain rfl : gg = s.gens := mv.gens
      obtain rfl : dd = s.drawn := mv.drawn
      obtain rfl : os = s.os := mv.os
      have of' : hp.get? f = some _ := mv.heap f _ (fun z => by rcases List.mem_cons.mp z with e | z; exact fS e; exact fI (List.mem_singleton.mp z)) m.of
      refine ⟨H', m.i.turnedL (t' := tt) (ch := [S, s2.heap.objs.size]) (fun b o hb e => mv.heap b o hb e) fun b hb => ?_, m.e, m.nS, m.nI, m.nf, of', m.tp⟩
      rcases List.mem_cons.mp hb with rfl | hb
      · exact fpS m.nS
      · rw [List.mem_singleton.mp hb]; exact fpI m.nI
    · obtain ⟨q, hq, hk⟩ := hV
      refine ⟨q, hq, ?_⟩
      cases pr with
      | false => exact hk
      | true =>
        obtain ⟨p, m, h1, h2, h3, h4, oo, h5, h6⟩ := hk
        exact ⟨p, m, h1, h2, h3, h4, oo, mv.heap p oo (fun z => by rcases List.mem_cons.mp z with e | z; exact h3 e; exact h4 (List.mem_singleton.mp z)) h5, h6⟩
    · obtain ⟨q, hq, rfl⟩ := hP
      obtain ⟨H', m⟩ := hJ
      obtain ⟨oI, hoI, _⟩ := hst.1
      have qm : q ∈ xs := List.mem_of_getElem? hq
      obtain ⟨n, t, en⟩ := hint q qm
      have enn : nOf q = n := nOf_eq en
      have hx' := hx2.kp m.k
      have hco' : H' c' = some (LamX.CodeO c' (X.env.qual ++ "<lambda>")) := m.k.at hco rfl
      refine lam1_call (vz := .ref a) (vy := .ref q.2.1) (Q := fun v H'' => if pr then ∃ p, H' p = none ∧ v = .ref p ∧ H'' = upd H' p (.tup [.int n, .ref q.2.1]) else v = .int n ∧ H'' = H') m.i L m.of hco' hbind hr hbody hN hσ rfl (hkey a xs q n t H' _ hx' qm en ?_) fun u s' ce => ?_
      · cases pr with
        | false => exact ⟨rfl, rfl⟩
        | true => exact fun p hp => ⟨p, hp, rfl, rfl⟩
      obtain ⟨v, H'', os, bare, un, hok, rv, hv⟩ := ce
      have keepU : ∀ b o, s.heap.get? b = some o → H' b = none → b ∉ frs X.stack → s'.heap.get? b = some o := fun b o e n hb => un.keep b o e n hb List.not_mem_nil
      have In : Inv X pins σ H'' s' := m.i.call' (ch := []) os un hok bare (fun b z => absurd z List.not_mem_nil)
      have nS' : H'' S = none := un.free S oS hoS m.nS List.not_mem_nil
      have nI' : H'' s2.heap.objs.size = none := un.free _ oI hoI m.nI List.not_mem_nil
      have nf' : H'' f = none := un.free f _ m.of m.nf List.not_mem_nil
      have kp' : Same H' H'' ∧ ∀ b, H2 b = none → H'' b = none ∨ ∃ ys, H'' b = some (.tup ys) := by
        cases pr with
        | false =>
          obtain ⟨_, e2⟩ := hv
          rw [e2]
          exact ⟨Same.refl _, m.tp⟩
        | true =>
          obtain ⟨p, hp, _, e2⟩ := hv
          rw [e2]
          refine ⟨same_upd hp, fun b hb => ?_⟩
          by_cases z : b = p
          · rw [z, upd_same]; exact .inr ⟨_, rfl⟩
          · rw [upd_ne z]; exact m.tp b hb
      refine g u s' ⟨H'', In, m.e.trans kp'.1, nS', nI', nf', keepU f _ m.of m.nf hfr, kp'.2⟩ ?_ (keepU S oS hoS m.nS frS) ?_ fun j' k' hV => ?_
      · refine ⟨?_, ?_⟩
        · obtain ⟨ob, e1, e2⟩ := hst.1
          exact ⟨ob, keepU _ ob e1 m.nI frI, e2⟩
        · obtain ⟨o0, r0, k0⟩ := hx'.ex
          have z0 : s.heap.get? a = some o0 := (r0.ok m.i.hok).1
          have r1 : Rd H'' a (dctO a o0) := (Same.kp kp'.1).rd r0 (NT.nt (nt_dct k0))
          have z2 : s'.heap.get? a = some o0 := (r1.ok In.hok).1
          obtain ⟨od, ed, xd, dd⟩ := hst.2
          rw [z0] at ed
          cases ed
          exact ⟨_, z2, xd, dd⟩
      · refine ⟨q, hq, ?_⟩
        cases pr with
        | false =>
          obtain ⟨e1, _⟩ := hv
          subst e1
          obtain ⟨m', rfl⟩ := rv
          exact ⟨m', by rw [enn]⟩
        | true =>
          obtain ⟨p, hp, e1, e2⟩ := hv
          subst e1
          obtain rfl : u = Value.ref p := rv
          have hpp : H'' p = some (.tup [.int n, .ref q.2.1]) := by rw [e2, upd_same]
          obtain ⟨_, us, hv2, ht⟩ := hok p _ hpp
          obtain ⟨m', rfl⟩ := vals_ri hv2
          refine ⟨p, m', rfl, m.k.free hp, fun z => ?_, fun z => ?_, by rw [enn]; exact ht⟩
          · rw [z, nS'] at hpp; cases hpp
          · rw [z, nI'] at hpp; cases hpp
      · obtain ⟨q', hq', hk⟩ := hV
        refine ⟨q', hq', ?_⟩
        cases pr with
        | false => exact hk
        | true =>
          obtain ⟨p, m', h1, h2, h3, h4, h5⟩ := hk
          rcases m.tp p h2 with z | ⟨ys, z⟩
          · obtain ⟨oo, e1, e2⟩ := h5
            obtain ⟨sl, e3⟩ := un.any e1 z List.not_mem_nil
            exact ⟨p, m', h1, h2, h3, h4, _, e3, e2⟩
          · obtain ⟨_, us, hv1, o1, d1, _, n1, s1⟩ := m.i.hok p _ z
            obtain ⟨_, us2, hv2, t2⟩ := hok p _ (un.tups p ys z)
            obtain ⟨o2, d2, _, n2, s2'⟩ := h5
            rw [d1] at d2
            cases d2
            rw [s1] at s2'
            injection s2' with e3 _
            have e4 : us = [.int (nOf q') m', .ref q'.2.1] := by have := congrArg Array.toList e3; simpa using this
            subst e4
            have e5 := vals_ri' hv1
            subst e5
            obtain ⟨m2, rfl⟩ := vals_ri hv2
            exact ⟨p, m2, h1, h2, h3, h4, t2⟩
    · obtain ⟨p, hp, hki⟩ := hVi
      obtain ⟨q, hq, hkj⟩ := hVj
      rw [bt_at hp hq] at g
      cases pr with
      | false =>
        obtain ⟨m1, rfl⟩ := hki
        obtain ⟨m2, rfl⟩ := hkj
        rw [Bool.false_and, Bool.or_false] at g
        exact HT.rcLt_int _ _ _ _ _ _ _ _ _ _ g
      | true =>
        obtain ⟨a1, m1, rfl, _, _, _, t1⟩ := hki
        obtain ⟨a2, m2, rfl, _, _, _, t2⟩ := hkj
        rw [Bool.true_and] at g
        exact cmp_key m.i (by have := hr.un; show X.A.units + 1 + 70 < _; omega) (hx2.kp m.k) (List.mem_of_getElem? hp) (List.mem_of_getElem? hq) t1 t2 _ _ _ _ g
  · obtain ⟨y', hy, rfl⟩ := hP
    obtain ⟨H', m⟩ := hJ
    have bl := best_lt (pr := pr) (xs := xs) (es.size - 1) (by omega)
    refine ⟨.ref y'.2.1, H', m.i, rfl, hQ H' y' (kp2.trans m.k) (fun b o n e => m.e _ _ (nn b o n e)) (List.mem_of_getElem? hy) fun q' hq' => ?_⟩
    obtain ⟨i, hi, e⟩ := List.getElem_of_mem hq'
    exact bl.2 i (by omega) _ _ hy (by rw [List.getElem?_eq_getElem hi, e])
end
end Dw

namespace Dw
open PySem PySem.Spec L2 PyProof.Rows
variable {c : Cl}
abbrev Cs' := List (Cell × Int)
def encI (m : Cs') : List (Cell × D) := m.map fun p => (p.1, .int p.2)
theorem look_encI (m : Cs') (k : Cell) : look (encI m) k = (look m k).map .int := by
  induction m with
  | nil => rfl
  | cons p r ih =>
    show look ((p.1, PyData.int p.2) :: encI r) k = _
    by_cases e : p.1 = k
    · rw [look_pos (show (p.1, PyData.int p.2).1 = k from e), look_pos e]; rfl
    · rw [look_neg (show ¬ (p.1, PyData.int p.2).1 = k from e), look_neg e, ih]
theorem put_encI (m : Cs') (k : Cell) (n : Int) : put (encI m) k (.int n) = encI (put m k n) := by
  unfold put
  rw [look_encI, Option.isSome_map]
  by_cases h : (look m k).isSome = true
  · rw [if_pos h, if_pos h, encI, encI, List.map_map, List.map_map]
    refine List.map_congr_left fun p _ => ?_
    show (if p.1 = k then (p.1, PyData.int n) else (p.1, PyData.int p.2)) = ((if p.1 = k then (p.1, n) else p).1, PyData.int (if p.1 = k then (p.1, n) else p).2)
    split <;> rfl
  · rw [if_neg h, if_neg h, encI, encI, List.map_append]; rfl
theorem drop_encI (m : Cs') (k : Cell) : drop (encI m) k = encI (drop m k) := by
  unfold drop encI
  rw [List.filter_map]
  rfl
/-- a key whose value is least -/
def Least (m : Cs') (k : Cell) : Prop := ∃ n, look m k = some n ∧ ∀ k' n', look m k' = some n' → n ≤ n'
section
variable {X : Cx} {G : Env X.K c} {o i e f value ki : Expr} {rest : List Stmt} {Ph : Out X.K c → Prop} {pos pos' apos cpos p1 p2 : Pos} {k : Cell} {d d2 : D} {n : Nat} {x : Str}
theorem dx_minlam {j l : Nat} {pr : Bool} {m : Cs'} {y z : Str} {cc P : Addr} {params : Arguments} {body : Expr} {scope : Scope} {lpos kpos p pz pos : Pos} {tb : TE} (hG : (∃ par, G[j]? = some (some (kn (kX (c := c) X (encI m)) par))) ∨ G[j]? = some (some (kb (kX (c := c) X (encI m))))) (hne : m ≠ [])
    (hP : (P, ("" : Str)) ∈ c.tabs) (hg : Gl X "min") (hm : X.mg "min" = none) (hN : X.N[j]? = some z) (L : Lam1 X.env.scope scope y z) (TB : LamX.TabB X.base X.mg cc P)
    (hcode : X.env.code = .ref cc) (hn : nmG lpos.line lpos.col = X.env.qual ++ "<lambda>") (hdef : defaultsOf params X.env = ([], []))
    (hbind : ∀ (q : Str) (cl : List (Str × Addr)) (pm cv ctv u : Value), bindArgs (PySem.W.kla_fn "<lambda>" q params body scope cl pm cv ctv) ⟨[u], []⟩ = pure [(y, u)]) (hr : Room (l + 2) X.A)
    (hbody : ∀ (A : Around) (outer : List PySem.Env) (s : Shared) (H : Hp) (f c' : Addr), Room l (A.deeper (LamX.lamEnv X scope s.heap.objs.size f c')) → PE (lam1Cx X y z A outer s H scope f c') body tb) (hkey : KeyTb X pr tb)
    (hd : (z == ("__debug__" : Str)) = false := by decide) (hcd : (z == ("__classdict__" : Str)) = false := by decide) :
    DX X G (.Call (.Name "min" p) [.Name z pz] [⟨some "key", .Lambda params body scope lpos, kpos⟩] pos) (sE (fun k => sd (cD k)) (Least m)) := by
  refine ⟨_, pe_minlam hg hm hN L TB hcode hn hdef hbind hr hbody hkey hd hcd, fun Z B H σ Q E g => ?_⟩
  have hx : ∃ v fp, σ[j]? = some (some v) ∧ (kX (c := c) X (encI m)).I B H v fp := by
    rcases hG with ⟨par, hG⟩ | hG
    · obtain ⟨v, fp, h1, h2, _⟩ := E.sl j _ hG
      exact ⟨v, fp, h1, h2⟩
    · obtain ⟨v, fp, h1, _, fp', h2⟩ := E.sl j _ hG
      exact ⟨v, fp', h1, (kX (c := c) X (encI m)).stb h2 (Same.refl _) fun a ha => E.z.ne ((kX (c := c) X (encI m)).dom h2 a ha)⟩
  obtain ⟨v, fp, h1, a, o, xs, rfl, _, h3, h5, h4⟩ := hx
  have ent : ∀ q ∈ xs, ∃ k n t, (k, n) ∈ m ∧ q.1 = cK k ∧ TupD X.K B q.2.1 (cV k) ∧ q.2.2 = .int n t := fun q hq => by
    obtain ⟨i, hi, e⟩ := List.getElem_of_mem hq
    obtain ⟨pd, z1, z2, z3, v, z4, z5⟩ := h4.get (show xs[i]? = some q by rw [List.getElem?_eq_getElem hi, e])
    have hm' : pd ∈ encI m := List.mem_of_getElem? z1
    unfold encI at hm'
    obtain ⟨pm, m1, rfl⟩ := List.mem_map.mp hm'
    cases z5
    obtain ⟨t, z6⟩ := z4
    exact ⟨pm.1, pm.2, t, m1, z2, z3, z6⟩
  have nd : (xs.map (·.1)).Nodup := by obtain ⟨_, _, _, _, _, _, _, nd⟩ := h5; exact nd
  have ndm : (m.map (·.1)).Nodup := by
    have e1 := h4.cells.1
    have e2 : (encI m).map (·.1) = m.map (·.1) := by unfold encI; rw [List.map_map]; rfl
    rw [← e2, ← e1]
    have : xs.map (fun z => kP z.1) = (xs.map (·.1)).map kP := by rw [List.map_map]; rfl
    rw [this]
    refine List.Pairwise.map _ ?_ (List.Pairwise.and_mem.mp nd)
    rintro u w ⟨hu, hw, ne⟩ ee
    obtain ⟨q1, q2, rfl⟩ := List.mem_map.mp hu
    obtain ⟨r1, r2, rfl⟩ := List.mem_map.mp hw
    obtain ⟨k1, _, _, _, e1, _⟩ := ent q1 q2
    obtain ⟨k2, _, _, _, e2, _⟩ := ent r1 r2
    rw [e1, e2, kP_cK, kP_cK] at ee
    exact ne (by rw [e1, e2, ee])
  have lk : ∀ (l : Cs'), (l.map (·.1)).Nodup → ∀ k n, (k, n) ∈ l → look l k = some n := fun l => by
    induction l with
    | nil => intro _ k n h; cases h
    | cons p r ih =>
      intro nd k n h
      rw [List.map_cons, List.nodup_cons] at nd
      rcases List.mem_cons.mp h with rfl | h
      · exact look_pos rfl
      · rw [look_neg fun z => nd.1 (by rw [z]; exact List.mem_map.mpr ⟨_, h, rfl⟩)]; exact ih nd.2 k n h
  refine ⟨a, xs, h1, ⟨⟨o, .inl h3, h5⟩, h4.keys E.sub⟩, fun z => ?_, fun q hq => ?_, E.tb.t (P, ("" : Str)) hP, fun H' q kp kq hq hmin => ?_⟩
  · subst z
    have := h4.len
    cases m with
    | nil => exact hne rfl
    | cons _ _ => cases this
  · obtain ⟨_, n, t, _, _, _, e⟩ := ent q hq
    exact ⟨n, t, e⟩
  · obtain ⟨k1, n1, t1, m1, e1, tp1, f1⟩ := ent q hq
    have sub' : Same B H' := fun b o' q' => kq b o' (fun z => by rw [z, E.tb.nb (P, ("" : Str)) hP] at q'; cases q') (E.sub b o' q')
    refine g (.ref q.2.1) B H' [] ⟨Same.refl _, kp, sub', fun _ z _ => z⟩ (fun Z' => ⟨k1, ⟨n1, lk m ndm _ _ m1, fun k' n' h' => ?_⟩, rfl, .tup tp1 (.cons (.int _) (.cons (.int _) .nil))⟩) fun a ha => absurd ha List.not_mem_nil
    have hin : (k', n') ∈ m := by
      unfold look at h'
      obtain ⟨p', hp', e'⟩ := Option.map_eq_some_iff.mp h'
      have := List.mem_of_find?_eq_some hp'
      have e3 := List.find?_some hp'
      simp at e3
      rw [← e3, ← e']; exact this
    obtain ⟨i, hi, e⟩ := List.getElem_of_mem hin
    obtain ⟨q', hq'⟩ : ∃ q', xs[i]? = some q' := ⟨xs[i]'(by rw [h4.len]; unfold encI; rw [List.length_map]; exact hi), List.getElem?_eq_getElem _⟩
    obtain ⟨pd, z1, z2, z3, v, z4, z5⟩ := h4.get hq'
    have : (encI m)[i]? = some (k', .int n') := by unfold encI; rw [List.getElem?_map, List.getElem?_eq_getElem hi, e]; rfl
    rw [this] at z1
    cases z1
    cases z5
    obtain ⟨t, z6⟩ := z4
    have := hmin q' (List.mem_of_getElem? hq')
    rw [nOf_eq f1, nOf_eq z6] at this
    exact this
end
end Dw

namespace Dw
open PySem PySem.Spec L2 PyProof.Rows
variable {c : Cl}
section
variable {α : Type}
def putA (m : List (Cell × List α)) (k : Cell) (x : α) : List (Cell × List α) := put m k ((look m k).getD [] ++ [x])
def putE (m : List (Cell × List α)) (k : Cell) : List (Cell × List α) := put m k ((look m k).getD [])
theorem look_putA (m : List (Cell × List α)) (k j : Cell) (x : α) : look (putA m k x) j = if j = k then some ((look m k).getD [] ++ [x]) else look m j := look_put m k j _
theorem len_putA (m : List (Cell × List α)) (k : Cell) (x : α) : (putA m k x).length ≤ m.length + 1 := len_put m k _
end
inductive LE (K : PySem.W.Frag) (c : Cl) (B H : Hp) : Ents → List Addr → List (Cell × List D) → Prop
  | nil : LE K c B H [] [] []
  | cons {k : Cell} {b q : Addr} {vs : List V} {ds : List D} {xs : Ents} {qs : List Addr} {m : List (Cell × List D)} : TupD K B b (cV k) → H q = some (.lst vs) → TpAll K c B vs ds → LE K c B H xs qs m → LE K c B H ((cK k, b, .ref q) :: xs) (q :: qs) ((k, ds) :: m)
section
variable {K : PySem.W.Frag} {B B' H H' : Hp} {xs : Ents} {qs : List Addr} {m : List (Cell × List D)} {k : Cell}
theorem LE.stb (h : LE K c B H xs qs m) (e : Same B B') (f : ∀ a ∈ qs, H' a = H a) : LE K c B' H' xs qs m := by
  induction h with
  | nil => exact .nil
  | cons h1 h2 h3 _ ih => exact .cons (Same.tupD e h1) (by rw [f _ List.mem_cons_self]; exact h2) (TpAll.mono e _ _ h3) (ih fun a ha => f a (List.mem_cons_of_mem _ ha))
theorem LE.nt (h : LE K c B H xs qs m) : ∀ a ∈ qs, Nt (H a) := by
  induction h with
  | nil => intro a ha; cases ha
  | cons h1 h2 h3 _ ih => intro a ha; rcases List.mem_cons.mp ha with rfl | ha; exact .lst h2; exact ih a ha
/-- a list of ours -/
def FL (K : PySem.W.Frag) (c : Cl) (B H : Hp) (qs : List Addr) (v : V) (ds : List D) : Prop := ∃ q vs, v = .ref q ∧ q ∈ qs ∧ H q = some (.lst vs) ∧ TpAll K c B vs ds
theorem LE.ent (h : LE K c B H xs qs m) : EntG K B (FL K c B H qs) xs m := by
  induction h with
  | nil => exact .nil
  | @cons k b q vs ds xs qs m h1 h2 h3 _ ih =>
    exact .cons ⟨rfl, h1, .ref q, rfl, q, vs, rfl, List.mem_cons_self, h2, h3⟩ (ih.mono (Same.refl _) fun v x ⟨q', vs', e1, e2, e3⟩ => ⟨q', vs', e1, List.mem_cons_of_mem _ e2, e3⟩)
theorem LE.snoc {b q : Addr} {vs : List V} {ds : List D} (h : LE K c B H xs qs m) (h1 : TupD K B b (cV k)) (h2 : H q = some (.lst vs)) (h3 : TpAll K c B vs ds) : LE K c B H (xs ++ [(cK k, b, .ref q)]) (qs ++ [q]) (m ++ [(k, ds)]) := by
  induction h with
  | nil => exact .cons h1 h2 h3 .nil
  | cons a1 a2 a3 _ ih => exact .cons a1 a2 a3 ih
/-- one of the lists is written -/
theorem LE.app {b q : Addr} {us : List V} {es : List D} (h : LE K c B H xs qs m) (hq : qs.Nodup) (nd : (xs.map (·.1)).Nodup) (hk : atKey xs (cK k) = some (b, .ref q)) (he : TpAll K c B us es) : LE K c B (upd H q (.lst us)) xs qs (m.map fun p => if p.1 = k then (p.1, es) else p) := by
  induction h with
  | nil => exact .nil
  | @cons j b2 q2 vs ds xs qs m h1 h2 h3 t ih =>
    rw [List.nodup_cons] at hq
    rw [List.map_cons, List.nodup_cons] at nd
    rw [List.map_cons]
    by_cases z : j = k
    · subst z
      unfold atKey at hk
      rw [List.find?_cons_of_pos (by simp)] at hk
      cases hk
      rw [if_pos rfl]
      refine .cons h1 upd_same he ?_
      have same : m.map (fun p => if p.1 = j then (p.1, es) else p) = m := by
        have ek : ∀ p ∈ m, p.1 ≠ j := fun p hp e => by
          have e1 := t.ent.cells.1
          obtain ⟨z1, hz1, hz2⟩ : ∃ z1 ∈ xs, kP z1.1 = p.1 := by
            have : p.1 ∈ xs.map (fun z => kP z.1) := by rw [e1]; exact List.mem_map_of_mem hp
            exact List.mem_map.mp this
          obtain ⟨c', e2, _⟩ := (t.ent (H := H)).keys (H := B) (Same.refl _) z1 hz1
          rw [e2, kP_cK] at hz2
          refine nd.1 (List.mem_map.mpr ⟨z1, hz1, ?_⟩)
          show z1.1 = cK j
          rw [e2, hz2, e]
        exact (List.map_congr_left fun p hp => if_neg (ek p hp)).trans (List.map_id' m)
      rw [same]
      exact t.stb (Same.refl _) fun a ha => upd_ne (fun e : a = q => hq.1 (by rw [← e]; exact ha))
    · unfold atKey at hk
      rw [List.find?_cons_of_neg (by simpa using fun e => z (cK_inj e))] at hk
      have hqm : q ∈ qs := by
        rcases (t.ent (H := H)).at k with ⟨_, y⟩ | ⟨x, p, w, _, y1, y2, q', vs', e1, e2, _⟩
        · rw [show atKey xs (cK k) = some (b, .ref q) from hk] at y; cases y
        · rw [show atKey xs (cK k) = some (b, .ref q) from hk] at y1
          cases y1
          subst e1
          cases (show Value.ref q = Value.ref q' from y2)
          exact e2
      rw [if_neg z]
      exact .cons h1 (by rw [upd_ne (fun e : q2 = q => hq.1 (by rw [e]; exact hqm))]; exact h2) h3 (ih hq.2 nd.2 hk)
end
/-- a dict of lists of data -/
def kDL {K : PySem.W.Frag} (P : Program) (w : World) (m : List (Cell × List D)) : Kind K c where
  I := fun B H v fp => ∃ p o xs qs, v = .ref p ∧ fp = p :: qs ∧ (p :: qs).Nodup ∧ H p = some (dctO p o) ∧ DOk P w p o xs ∧ LE K c B H xs qs m
  stb := fun ⟨p, o, xs, qs, h1, h2, h3, h4, h5, h6⟩ e f => ⟨p, o, xs, qs, h1, h2, h3, by rw [f p (by rw [h2]; exact List.mem_cons_self)]; exact h4, h5, h6.stb e fun a ha => f a (by rw [h2]; exact List.mem_cons_of_mem _ ha)⟩
  dom := fun ⟨p, o, xs, qs, h1, h2, h3, h4, h5, h6⟩ a ha => by
    rw [h2] at ha
    rcases List.mem_cons.mp ha with rfl | ha
    · exact ⟨_, h4, nt_dct h5⟩
    · exact h6.nt a ha
/-- laid down for good, as it is -/
def kz {K : PySem.W.Frag} (k : Kind K c) : Slot K c where
  par := false
  P := fun _ B _ v fp => fp = [] ∧ ∃ fp', k.I B B v fp'
  stb := fun ⟨h1, fp', h⟩ e _ _ => ⟨h1, fp', k.stb h e fun a ha => by obtain ⟨u, q, _⟩ := k.dom h a ha; rw [q]; exact e a u q⟩
  dom := fun ⟨h1, _⟩ a h => absurd (h1 ▸ h) List.not_mem_nil
section
variable {X : Cx} {G : Env X.K c} {o i e f value ki : Expr} {rest : List Stmt} {Ph : Out X.K c → Prop} {pos pos' apos cpos p1 p2 : Pos} {k : Cell} {d d2 : D} {n : Nat} {x : Str} {m : List (Cell × List D)} {kd : Kind X.K c}
theorem dk_frz (i : Nat) (hG : G[i]? = some (some (kz kd)) := by rfl) (hN : X.N[i]? = some x := by rfl)
    (hv : Vis X.env.scope x := by first | exact Or.inl rfl | exact Or.inr (Or.inl rfl) | exact Or.inr (Or.inr rfl)) (hd : (x == ("__debug__" : Str)) = false := by decide)
    (hcd : (x == ("__classdict__" : Str)) = false := by decide) : DK X G (.Name x pos) kd :=
  ⟨_, pv i hN hv hd hcd, fun Z B H σ Q E g => by
    obtain ⟨v, fp, h1, _, fp', h2⟩ := E.sl i _ hG
    exact ⟨v, h1, g v B H fp' (Ext.refl E.sub) (kd.stb h2 (Same.refl _) fun a ha => by obtain ⟨u, q, _⟩ := kd.dom h2 a ha; rw [q]; exact E.sub a u q)⟩⟩
/-- a thing of one's own is laid down -/
theorem dss_freezeS (i : Nat) {s' : Slot X.K c} (hp' : s'.par = false) (hf : ∀ Z B H v fp, Same B H → kd.I B H v fp → (∀ a ∈ fp, B a = none) → s'.P Z (layB B H fp) H v []) (h : DSs X (G.set i (some s')) rest Ph) (hG : G[i]? = some (some (kn kd)) := by rfl) : DSs X G rest Ph := fun F B H σ D S E => by
  obtain ⟨fps, h1, h2⟩ := S.sl
  obtain ⟨v, hv, ⟨q1, q2⟩, hw⟩ := h1 i _ hG
  have new : ∀ a ∈ fps i, F.H0 a = none := fun a ha => by simpa [kn] using hw a ha
  have up : Same B (layB B H (fps i)) := same_lay q2
  refine h F (layB B H (fps i)) H σ D { S with sub := lay_same S.sub, b0 := S.b0.trans up, tt := S.tt.re fun a ps q r => (by rw [lay_out fun z => (by obtain ⟨u, hu, n1, _⟩ := (kd.dom q1 a z); exact n1 ps (Option.some.inj (hu.symm.trans q)))]; exact r), new := fun a q r => ?_, len := (by rw [List.length_set]; exact S.len), pn := fun j s w q hq hw => ?_, sl := ⟨fset fps i [], fun j s q => ?_, fun j l s1 s2 ne r1 r2 a ha hb => ?_⟩ } E
  · by_cases z : a ∈ fps i
    · exact absurd (new a z) r
    · rw [lay_out z]; exact S.new a q r
  · rcases getset q with ⟨rfl, q1, _⟩ | ⟨ne, q⟩
    · cases q1
      rw [hp'] at hq
      cases hq
    · exact S.pn j s w q hq hw
  · rcases getset q with ⟨rfl, e1, _⟩ | ⟨ne, q⟩
    · cases e1
      refine ⟨v, hv, ?_, fun a ha => ?_⟩
      · rw [fset_same]; exact hf F.Z B H v (fps i) S.sub q1 q2
      · rw [fset_same] at ha
        exact absurd ha List.not_mem_nil
    · obtain ⟨u, r1, r2, r3⟩ := h1 j s q
      refine ⟨u, r1, ?_, fun a ha => ?_⟩
      · rw [fset_ne ne]
        refine s.stb r2 up (fun a ha => ?_) fun a ha => rfl
        rw [lay_out fun z => h2 i j _ s ne hG q a z ha]
        exact (s.dom r2 a ha).1
      · rw [fset_ne ne] at ha
        exact r3 a ha
  · have off : ∀ t s, (G.set i (some s'))[t]? = some (some s) → ∀ b ∈ fset fps i [] t, i ≠ t ∧ G[t]? = some (some s) ∧ b ∈ fps t := fun t s q b hb => by
      rcases getset q with ⟨rfl, _, _⟩ | ⟨n1, q⟩
      · rw [fset_same] at hb; exact absurd hb List.not_mem_nil
      · rw [fset_ne n1] at hb; exact ⟨n1, q, hb⟩
    obtain ⟨_, y1, y2⟩ := off j s1 r1 a ha
    obtain ⟨_, y3, y4⟩ := off l s2 r2 a hb
    exact h2 j l s1 s2 ne y1 y3 a y2 y4
theorem dss_freezeZ (i : Nat) (h : DSs X (G.set i (some (kz kd))) rest Ph) (hG : G[i]? = some (some (kn kd)) := by rfl) : DSs X G rest Ph :=
  dss_freezeS i (s' := kz kd) rfl (fun Z B H v fp s h0 hb => ⟨rfl, fp, kd.stb h0 (same_lay hb) fun a ha => lay_in ha⟩) h hG
theorem dx_xnewL : DX X G (.Dict [] [] pos) (kn (kDL (c := c) X.prog X.w [])) :=
  ⟨_, pe_xnew, fun Z B H σ Q E g p hp hm => g _ B _ [p] (Ext.layH E.sub _ hp) (fun _ => ⟨⟨p, dct0, [], [], rfl, rfl, by simp, upd_same, dok_nil hm, .nil⟩, fun a ha => by rw [List.mem_singleton.mp ha]; exact E.sub.free hp⟩) fun a ha => by rw [List.mem_singleton.mp ha]; exact hp⟩
end
end Dw

namespace Dw
open PySem PySem.Spec L2 PyProof.Rows
variable {c : Cl}
theorem SlP.ext {K : PySem.W.Frag} {F : Ent} {G : Env K c} {B H B' H' : Hp} {σ : Sg} {fps : Nat → List Addr} (h : SlP F G B H σ fps) (e : Ext B H B' H') : SlP F G B' H' σ fps :=
  ⟨fun i s q => by
    obtain ⟨v, h1, h2, h3⟩ := h.a i s q
    have d := s.dom h2
    exact ⟨v, h1, s.stb h2 e.b (fun a ha => e.new a (d a ha).1 (d a ha).2.ne) fun a ha => e.h.ne (d a ha).2, h3⟩, h.d⟩
theorem StE.slp {K : PySem.W.Frag} {F : Ent} {G : Env K c} {B H : Hp} {σ : Sg} (S : StE F G B H σ) : ∃ fps, SlP F G B H σ fps := by
  obtain ⟨fps, h1, h2⟩ := S.sl
  exact ⟨fps, h1, h2⟩
theorem SlP.called {K : PySem.W.Frag} {F : Ent} {G : Env K c} {B H B' H' : Hp} {σ : Sg} {i : Nat} {k k' : Kind K c} {par : Bool} {v : V} {fps : Nat → List Addr} {fp' : List Addr} (S : StE F G B H σ) (hP : SlP F G B H σ fps) (hi : G[i]? = some (some (kn k par))) (hv : σ[i]? = some (some v))
    (b1 : Same B B') (b3 : KpF (fps i) H H') (b4 : ∀ a, B a = none → H a ≠ none → B' a = none) (hk : k'.I B' H' v fp') (hs : ∀ a ∈ fp', B' a = none ∧ (a ∈ fps i ∨ H a = none)) : SlP F (G.set i (some (kn k' par))) B' H' σ (fset fps i fp') := by
  obtain ⟨v0, hv0, p0, hw⟩ := hP.a i _ hi
  rw [hv] at hv0
  cases hv0
  have ins : ∀ j s, (G.set i (some (kn k' par)))[j]? = some (some s) → (i = j ∧ s = kn k' par) ∨ (i ≠ j ∧ G[j]? = some (some s)) := fun j s hj => by
    rcases getset hj with ⟨e1, e2, _⟩ | ⟨e1, e2⟩
    · exact .inl ⟨e1, (Option.some.inj e2).symm⟩
    · exact .inr ⟨e1, e2⟩
  refine ⟨fun j s q => ?_, fun j l s1 s2 ne q1 q2 a ha hb => ?_⟩
  · rcases ins j s q with ⟨rfl, rfl⟩ | ⟨ne, q⟩
    · refine ⟨v, hv, ⟨by rw [fset_same]; exact hk, fun a ha => (by rw [fset_same] at ha; exact (hs a ha).1)⟩, fun a ha => ?_⟩
      rw [fset_same] at ha
      rcases (hs a ha).2 with z | z
      · exact hw a z
      · have n0 : F.H0 a = none := by
          cases q : F.H0 a with
          | none => rfl
          | some o => exact absurd z (S.there (by rw [q]; exact fun z => nomatch z))
        cases par with
        | true => exact Or.inr n0
        | false => exact n0
    · obtain ⟨u, r1, r2, r3⟩ := hP.a j s q
      have d := s.dom r2
      refine ⟨u, r1, ?_, fun a ha => (by rw [fset_ne ne] at ha; exact r3 a ha)⟩
      rw [fset_ne ne]
      refine s.stb r2 b1 (fun a ha => b4 a (d a ha).1 (d a ha).2.ne) fun a ha => ?_
      obtain ⟨o, e, n⟩ := (d a ha).2
      rw [e]
      exact b3.at' a o e n.nt fun z => hP.d i j _ s ne hi q a z ha
  · have new : ∀ t s, G[t]? = some (some s) → i ≠ t → ∀ b ∈ fps t, b ∉ fp' := fun t s q ne b hb z => by
      rcases (hs b z).2 with y | y
      · exact hP.d i t _ s ne hi q b y hb
      · obtain ⟨u, _, r2, _⟩ := hP.a t s q
        exact (s.dom r2 b hb).2.ne y
    rcases ins j s1 q1 with ⟨rfl, _⟩ | ⟨n1, q1⟩
    · rcases ins l s2 q2 with ⟨rfl, _⟩ | ⟨n2, q2⟩
      · exact ne rfl
      · rw [fset_same] at ha
        rw [fset_ne n2] at hb
        exact new l s2 q2 n2 a hb ha
    · rw [fset_ne n1] at ha
      rcases ins l s2 q2 with ⟨rfl, _⟩ | ⟨n2, q2⟩
      · rw [fset_same] at hb
        exact new j s1 q1 n1 a ha hb
      · rw [fset_ne n2] at hb
        exact hP.d j l s1 s2 ne q1 q2 a ha hb
theorem KpF.of {fp : List Addr} {H H' : Hp} (h : ∀ a o, H a = some o → a ∉ fp → H' a = some o) (t : ∀ a ∈ fp, H' a ≠ none) (d : ∀ a ∈ fp, Nt (H a)) : KpF fp H H' where
  at' := fun a o e _ n => h a o e n
  th := fun a n => by
    by_cases z : a ∈ fp
    · exact t a z
    · cases q : H a with
      | none => exact absurd q n
      | some o => rw [h a o q z]; exact fun z => nomatch z
  tb := fun P q ⟨ps, t1, t2, t3⟩ => by
    refine ⟨ps, h P _ t1 fun z => ?_, t2, fun pos cv hc => ?_⟩
    · obtain ⟨u, hu, n1, _⟩ := d P z
      exact n1 ps (Option.some.inj (hu.symm.trans t1))
    · obtain ⟨c', e1, e2⟩ := t3 pos cv hc
      refine ⟨c', e1, h c' _ e2 fun z => ?_⟩
      obtain ⟨u, hu, _, n2⟩ := d c' z
      exact n2 c' _ (Option.some.inj (hu.symm.trans e2))
section
variable {X : Cx} {pins : List (Addr × Obj)} {σ : Sg} {H : Hp} {s : Shared} {a b : Addr} {xs : Ents} {k : Cell} {u r : Value} {A : Around} {E : Value → Shared → Prop}
theorem x_setdef {Q : Value → Shared → Prop} {o : Obj} (hu : A.units + 1 < cLine) (I : Inv X pins σ H s) (e : H a = some (dctO a o)) (ok : DOk X.prog X.w a o xs) (hks : XKeys X.K H xs) (hk : XKey X.K H b k) (hl : xs.length < sizeLine) (g1 : ∀ p s', atKey xs (cK k) = some p → Inv X pins σ H s' → Q p.2 s')
    (g2 : ∀ o' s', atKey xs (cK k) = none → DOk X.prog X.w a o' (xs ++ [(cK k, b, r)]) → Inv X pins σ (upd H a (dctO a o')) s' → Q r s') : wpAny (model X.prog X.w) A (call (.builtin "dict.setdefault") [.ref a, .ref b, r]) Q E s := by
  obtain ⟨hd, hz, dd⟩ := xd_of I ⟨⟨o, .inl e, ok⟩, hks⟩
  refine call_setdefault_heap (tupleKind_room_in1 hu) (k_of I hk) hd dd (fun p hp => g1 p _ hp (I.tok _)) (fun hn h' dd' hs => ?_) hz
  have e2 : storedH xs (cK k) b r = xs ++ [(cK k, b, r)] := storedH_new hn b r
  obtain ⟨o', k', I'⟩ := x_write (tk := s.toks + (tupleKind (mixKind X.prog X.w)).draws (cK k)) I e hd (by have := len_stored xs (cK k) b r; omega) dd' hs
  exact g2 o' _ hn (e2 ▸ k') I'
end
section
variable {X : Cx} {o i e f value ki : Expr} {pos pos' apos cpos lpos : Pos} {td ty tx tv : TE}
def tXSetd (X : Cx) (td ty : TE) : TE := fun σ H Q => td σ H fun x H1 => ∃ a xs, x = .ref a ∧ XD X H1 a xs ∧ ty σ H1 fun y H2 => ∀ q, H2 q = none → ∃ b k o, y = .ref b ∧ upd H2 q (.lst []) a = some (dctO a o) ∧ DOk X.prog X.w a o xs ∧ XKeys X.K (upd H2 q (.lst [])) xs ∧ XKey X.K (upd H2 q (.lst [])) b k ∧ xs.length < sizeLine ∧
  (∀ p, atKey xs (cK k) = some p → ∃ v, RelV v p.2 ∧ Q v (upd H2 q (.lst []))) ∧ (atKey xs (cK k) = none → ∀ o', DOk X.prog X.w a o' (xs ++ [(cK k, b, .ref q)]) → Q (.ref q) (upd (upd H2 q (.lst [])) a (dctO a o')))
theorem pe_xsetd (hu : X.A.units + 1 < cLine) (ho : PE X o td) (he : PE X e ty) (m : M2 X o "setdefault" apos e (.List [] lpos) cpos) : PE X (.Call (.Attribute o "setdefault" apos) [e, .List [] lpos] [] cpos) (tXSetd X td ty) := by
  refine ⟨fun pins s σ H Q I h => ?_⟩
  refine wpAny_Call_method m.base m.few m.line PySem.F.plainAttrs_dict PySem.F.slot_dict_setdefault PySem.F.type_dict_setdefault (thn (ho.run pins s σ H _ I h) fun u s1 ⟨x, H1, I1, rx, a, xs, ex, hd, q1⟩ => ?_)
  subst ex
  obtain rfl : u = Value.ref a := rx
  obtain ⟨t1, t2⟩ := xd_there I1 hd
  refine ⟨t1, t2, ?_⟩
  rw [m.trees]
  have nl : PE X (.List [] lpos) (tLst tNil) := pe_lst pa_nil
  refine Calls.callWith_builtin rfl (Calls.evalArgs_plain (Calls.spliced_cons (thn (he.run pins s1 σ H1 _ I1 q1) fun iv s2 ⟨y, H2, I2, ry, q2⟩ => Calls.spliced_cons (thn (nl.run pins s2 σ H2 (fun z H3 => ∃ q, H2 q = none ∧ z = .ref q ∧ H3 = upd H2 q (.lst [])) I2 ⟨Nat.zero_le _, fun q hq => ⟨q, hq, rfl, rfl⟩⟩) fun fv s3 ⟨z, H3, I3, rz, q, hq, ez, eh⟩ => Calls.spliced_nil ?_))))
  subst ez eh
  obtain ⟨b, k, ob, ey, hda, ok, hks, hk, hl, h1, h2⟩ := q2 q hq
  subst ey
  obtain rfl : iv = Value.ref b := ry
  obtain rfl : fv = Value.ref q := rz
  exact x_setdef hu I3 hda ok hks hk hl (fun p s4 hp I4 => by obtain ⟨v, rv, g⟩ := h1 p hp; exact ⟨v, _, I4, rv, g⟩) fun o' s4 hn k' I4 => ⟨.ref q, _, I4, rfl, h2 hn o' k'⟩
end
section
variable {X : Cx} {G : Env X.K c} {o i e f value ki : Expr} {rest : List Stmt} {Ph : Out X.K c → Prop} {pos pos' apos cpos a1 a2 c1 c2 lpos : Pos} {k : Cell} {d d2 : D} {n : Nat} {x : Str} {m : List (Cell × List D)}
theorem set_same {α : Type} {l : List α} {i : Nat} {y : α} (h : l[i]? = some y) : l.set i y = l := by
  refine List.ext_getElem? fun j => ?_
  by_cases e : i = j
  · subst e; rw [List.getElem?_set_self (List.getElem?_eq_some_iff.mp h).1, h]
  · rw [List.getElem?_set_ne e]
/-- d.setdefault(k, []).append(e) -/
def putM (m : List (Cell × List D)) (k : Cell) : List (Cell × List D) := if (look m k).isSome then m else m ++ [(k, [])]
theorem dm_setdef (C : Bd X n) (j : Nat) {par : Bool} (hi : DE X G ki (cD k)) (he : DE X (G.set j (some (kn (kDL (c := c) X.prog X.w (putM m k)) par))) value d) (hl : m.length < sizeLine) (hll : ∀ ds, look m k = some ds → ds.length < sizeLine) (hN : X.N[j]? = some x := by rfl)
    (hv : Vis X.env.scope x := by first | exact Or.inl rfl | exact Or.inr (Or.inl rfl) | exact Or.inr (Or.inr rfl)) (hd : (x == ("__debug__" : Str)) = false := by decide)
    (hcd : (x == ("__classdict__" : Str)) = false := by decide) (mm : M2 X (.Name x pos) "setdefault" a1 ki (.List [] lpos) c1 := by exact ⟨rfl, rfl, rfl, rfl⟩) (hs : starEach [value] X.env = (false, eval value X.env) :: starEach [] X.env := by rfl)
    (hbase : attributeBase (.Call (.Attribute (.Name x pos) "setdefault" a1) [ki, .List [] lpos] [] c1) "append" X.env (eval (.Call (.Attribute (.Name x pos) "setdefault" a1) [ki, .List [] lpos] [] c1) X.env) = eval (.Call (.Attribute (.Name x pos) "setdefault" a1) [ki, .List [] lpos] [] c1) X.env := by rfl)
    (hfew : ((backTo c2 (starEach (value :: []) X.env)).all (fun x => !x.1) && (backToKw c2 (keywordEach [] X.env)).all (fun x => x.1.isSome)
      && decide ((value :: []).length + ([] : List Keyword).length + (if ([] : List Keyword).isEmpty then 0 else 1) < 30)) = true := by rfl)
    (hline : (a2.endLine == c2.line) = true := by rfl) (hplain : (backTo c2 (starEach [] X.env)).any (·.1) = false := by rfl) :
    DM X G (.Call (.Attribute (.Call (.Attribute (.Name x pos) "setdefault" a1) [ki, .List [] lpos] [] c1) "append" a2) [value] [] c2) j (kn (kDL (c := c) X.prog X.w m) par) (kn (kDL (c := c) X.prog X.w (putA m k d)) par) := by
  obtain ⟨ti, pi, ri⟩ := hi
  obtain ⟨tv, pv', rv⟩ := he
  refine ⟨_, pe_bm PySem.F.plainAttrs_list PySem.F.slot_list_append PySem.F.type_list_append mt_append (pe_xsetd (units1 C) (pv j hN hv hd hcd) pi mm) (pa_cons pv' pa_nil hs) hbase hfew hline hs hplain, fun F B H σ Q S hG g => ?_⟩
  obtain ⟨fps, hP⟩ := S.slp
  obtain ⟨u, hσ, ⟨⟨p, ob, xs, qs, rfl, hfp, hnd, hp, hok, hle⟩, hB⟩, hw⟩ := hP.a j _ hG
  have nds : (xs.map (·.1)).Nodup := by obtain ⟨_, _, _, _, _, _, _, z⟩ := hok; exact z
  have jl : j < G.length := (List.getElem?_eq_some_iff.mp hG).1
  refine ⟨_, hσ, p, xs, rfl, ⟨⟨ob, .inl hp, hok⟩, hle.ent.keys S.sub⟩, ri F.Z B H σ _ S.env fun w B2 H2 e2 q2 q hq => ?_⟩
  obtain ⟨b, rfl, hb⟩ := tp_key q2
  have e3 : Ext B2 H2 B2 (upd H2 q (.lst [])) := Ext.layH e2.sub _ hq
  have e23 := e2.trans e3
  have hp2 : H2 p = some (dctO p ob) := e2.h.at hp (NT.nt (nt_dct hok))
  have le2 : LE X.K c B2 H2 xs qs m := hle.stb e2.b fun a ha => e2.h.ne (hle.nt a ha)
  have live : ∀ a ∈ p :: qs, Nt (H2 a) := fun a ha => by
    rcases List.mem_cons.mp ha with rfl | ha
    · exact ⟨_, hp2, nt_dct hok⟩
    · exact le2.nt a ha
  have nq : q ∉ p :: qs := fun z => (live q z).ne hq
  have hB2 : ∀ a ∈ p :: qs, B2 a = none := fun a ha => by
    have n : Nt (H a) := (kDL (c := c) X.prog X.w m).dom ⟨p, ob, xs, qs, rfl, rfl, hnd, hp, hok, hle⟩ a ha
    exact e2.new a (hB a (hfp ▸ ha)) n.ne
  have hp3 : upd H2 q (.lst []) p = some (dctO p ob) := by rw [upd_ne fun z => nq (by rw [← z]; exact List.mem_cons_self)]; exact hp2
  have le3 : LE X.K c B2 (upd H2 q (.lst [])) xs qs m := le2.stb (Same.refl _) fun a ha => upd_ne fun z => nq (by rw [← z]; exact List.mem_cons_of_mem _ ha)
  refine ⟨b, k, ob, rfl, hp3, hok, le3.ent.keys e3.sub, Same.tup e3.sub hb.sq, by rw [hle.ent.len]; exact hl, fun p' hp' => ?_, fun hn o' k' => ?_⟩
  · rcases le3.ent.at k with ⟨z, y⟩ | ⟨ds, p2, w, z, y1, y2, q0, vs, rfl, m0, h0, t0⟩
    · rw [hp'] at y; cases y
    rw [hp'] at y1
    cases y1
    obtain ⟨b', r'⟩ := p'
    obtain rfl : r' = Value.ref q0 := y2
    have em : putM m k = m := by unfold putM; rw [z]; rfl
    have S3 : StE F (G.set j (some (kn (kDL (c := c) X.prog X.w (putM m k)) par))) B2 (upd H2 q (.lst [])) σ := by rw [em, set_same hG]; exact S.ext e23
    refine ⟨.ref q0, rfl, Or.inl ⟨rfl, _, Or.inl (Or.inl h0)⟩, rv F.Z B2 _ σ _ S3.env fun v B5 H5 e5 hv5 => ?_⟩
    have S5 := (S.ext e23).ext e5
    have P5 := (hP.ext e23).ext e5
    have n0 : Nt (upd H2 q (.lst []) q0) := .lst h0
    have h5 : H5 q0 = some (.lst vs) := by rw [e5.h.ne n0]; exact h0
    have le5 := le3.stb (H' := H5) e5.b fun a ha => e5.h.ne (le3.nt a ha)
    have hp5 : H5 p = some (dctO p ob) := e5.h.at hp3 (NT.nt (nt_dct hok))
    have ep : putA m k d = m.map fun q => if q.1 = k then (q.1, ds ++ [d]) else q := by unfold putA put; rw [z]; rfl
    have pq0 : q0 ≠ p := fun e => (List.nodup_cons.mp hnd).1 (e ▸ m0)
    refine ⟨q0, vs, v, rfl, rfl, h5, by rw [t0.length]; exact hll ds z, g _ B5 _ (StE.called S5 P5 hG hσ (Same.refl _) (fun a o' y => ?_) (KpF.of (fun a o' y n => ?_) (fun a ha => ?_) fun a ha => ?_) (fun a y _ => y) (fp' := p :: qs) ⟨p, ob, xs, qs, rfl, rfl, hnd, ?_, hok, ep ▸ le5.app (List.nodup_cons.mp hnd).2 nds hp' ((TpAll.mono e5.b _ _ t0).append (.cons hv5 .nil))⟩ fun a ha => ?_)⟩
    · rw [upd_ne fun e => (by
        have := e5.new a (hB2 a (e ▸ List.mem_cons_of_mem _ m0)) (e ▸ n0.ne)
        rw [this] at y; cases y)]
      exact S5.sub a o' y
    · rw [upd_ne fun e => n (by rw [hfp, e]; exact List.mem_cons_of_mem _ m0)]; exact y
    · rw [hfp] at ha
      by_cases e : a = q0
      · rw [e, upd_same]; exact fun z => nomatch z
      · rw [upd_ne e]
        rcases List.mem_cons.mp ha with rfl | ha
        · rw [hp5]; exact fun z => nomatch z
        · exact (le5.nt a ha).ne
    · rw [hfp] at ha
      rcases List.mem_cons.mp ha with rfl | ha
      · exact ⟨_, hp5, nt_dct hok⟩
      · exact le5.nt a ha
    · rw [upd_ne (Ne.symm pq0)]; exact hp5
    · refine ⟨?_, .inl (hfp ▸ ha)⟩
      have n3 : upd H2 q (.lst []) a ≠ none := by
        rcases List.mem_cons.mp ha with rfl | ha
        · rw [hp3]; exact fun z => nomatch z
        · exact (le3.nt a ha).ne
      exact e5.new a (hB2 a ha) n3
  · have lk : look m k = none := by
      rcases le3.ent.at k with ⟨z, _⟩ | ⟨_, p2, _, _, y1, _⟩
      · exact z
      · rw [hn] at y1; cases y1
    have em : putM m k = m ++ [(k, [])] := by unfold putM; rw [lk]; rfl
    have ep : putA m k d = m ++ [(k, [d])] := by unfold putA; rw [put_new lk, lk]; rfl
    have qp : q ≠ p := fun e => nq (by rw [e]; exact List.mem_cons_self)
    have h4p : upd (upd H2 q (.lst [])) p (dctO p o') p = some (dctO p o') := upd_same
    have h4q : upd (upd H2 q (.lst [])) p (dctO p o') q = some (.lst []) := by rw [upd_ne qp, upd_same]
    have pqs : p ∉ qs := (List.nodup_cons.mp hnd).1
    have le4 : LE X.K c B2 (upd (upd H2 q (.lst [])) p (dctO p o')) xs qs m := le3.stb (Same.refl _) fun a ha => upd_ne fun e => pqs (by rw [← e]; exact ha)
    have nd4 : (p :: (qs ++ [q])).Nodup := by
      rw [List.nodup_cons] at hnd ⊢
      refine ⟨fun z => (List.mem_append.mp z).elim hnd.1 fun z => qp (List.mem_singleton.mp z).symm, List.nodup_append.mpr ⟨hnd.2, by simp, fun a ha b hb e => nq ?_⟩⟩
      rw [← List.mem_singleton.mp hb, ← e]
      exact List.mem_cons_of_mem _ ha
    have B2q : B2 q = none := e2.sub.free hq
    have S2 := S.ext e2
    have P2 := hP.ext e2
    have b3 : KpF (fps j) H2 (upd (upd H2 q (.lst [])) p (dctO p o')) := KpF.of (fun a o' y n => by
        rw [upd_ne fun e => n (by rw [hfp, e]; exact List.mem_cons_self), upd_ne (ne_of_none y hq)]; exact y) (fun a ha => by
        rw [hfp] at ha
        rcases List.mem_cons.mp ha with rfl | ha
        · rw [h4p]; exact fun z => nomatch z
        · exact (le4.nt a ha).ne) fun a ha => live a (hfp ▸ ha)
    have sb4 : Same B2 (upd (upd H2 q (.lst [])) p (dctO p o')) := fun a o2 y => by
      rw [upd_ne fun e => (by rw [e, hB2 p List.mem_cons_self] at y; cases y), upd_ne fun e => (by rw [e, B2q] at y; cases y)]
      exact e2.sub a o2 y
    have I4 : (kDL (c := c) X.prog X.w (putM m k)).I B2 (upd (upd H2 q (.lst [])) p (dctO p o')) (.ref p) (p :: (qs ++ [q])) := ⟨p, o', xs ++ [(cK k, b, .ref q)], qs ++ [q], rfl, rfl, nd4, h4p, k', em ▸ le4.snoc hb h4q .nil⟩
    have hs4 : ∀ a ∈ p :: (qs ++ [q]), B2 a = none ∧ (a ∈ fps j ∨ H2 a = none) := fun a ha => by
      rcases List.mem_cons.mp ha with rfl | ha
      · exact ⟨hB2 a List.mem_cons_self, .inl (hfp ▸ List.mem_cons_self)⟩
      · rcases List.mem_append.mp ha with ha | ha
        · exact ⟨hB2 a (List.mem_cons_of_mem _ ha), .inl (hfp ▸ List.mem_cons_of_mem _ ha)⟩
        · rw [List.mem_singleton.mp ha]; exact ⟨B2q, .inr hq⟩
    have S4 := StE.called S2 P2 hG hσ (Same.refl _) sb4 b3 (fun a y _ => y) I4 hs4
    have P4 := SlP.called S2 P2 hG hσ (Same.refl _) b3 (fun a y _ => y) I4 hs4
    refine ⟨.inl ⟨rfl, _, .inl (.inl h4q)⟩, rv F.Z B2 _ σ _ S4.env fun v B5 H5 e5 hv5 => ?_⟩
    have S5 := S4.ext e5
    have P5 := P4.ext e5
    have h5q : H5 q = some (.lst []) := by rw [e5.h.ne (.lst h4q)]; exact h4q
    have h5p : H5 p = some (dctO p o') := e5.h.at h4p (NT.nt (nt_dct k'))
    have le5 := le4.stb (H' := H5) e5.b fun a ha => e5.h.ne (le4.nt a ha)
    have qqs : q ∉ qs := fun z => nq (List.mem_cons_of_mem _ z)
    have f5 : fset fps j (p :: (qs ++ [q])) j = p :: (qs ++ [q]) := fset_same
    have B5n : ∀ a ∈ p :: (qs ++ [q]), B5 a = none := fun a ha => e5.new a (hs4 a ha).1 (by
      rcases List.mem_cons.mp ha with rfl | ha
      · rw [h4p]; exact fun z => nomatch z
      · rcases List.mem_append.mp ha with ha | ha
        · exact (le4.nt a ha).ne
        · rw [List.mem_singleton.mp ha, h4q]; exact fun z => nomatch z)
    have n5 : ∀ a ∈ p :: (qs ++ [q]), Nt (H5 a) := fun a ha => by
      rcases List.mem_cons.mp ha with rfl | ha
      · exact ⟨_, h5p, nt_dct k'⟩
      · rcases List.mem_append.mp ha with ha | ha
        · exact le5.nt a ha
        · rw [List.mem_singleton.mp ha]; exact .lst h5q
    have fin := StE.called (k' := kDL (c := c) X.prog X.w (putA m k d)) (fp' := p :: (qs ++ [q])) (B' := B5) (H' := upd H5 q (.lst ([] ++ [v]))) S5 P5 (show (G.set j (some (kn (kDL (c := c) X.prog X.w (putM m k)) par)))[j]? = _ from List.getElem?_set_self jl) hσ (Same.refl _) (fun a o2 y => by
        rw [upd_ne fun e => (by rw [e, B5n q (List.mem_cons_of_mem _ (List.mem_append_right _ (List.mem_singleton.mpr rfl)))] at y; cases y)]; exact S5.sub a o2 y)
      (KpF.of (fun a o2 y n => by rw [upd_ne fun e => n (by rw [f5, e]; exact List.mem_cons_of_mem _ (List.mem_append_right _ (List.mem_singleton.mpr rfl)))]; exact y) (fun a ha => by
        by_cases e : a = q
        · rw [e, upd_same]; exact fun z => nomatch z
        · rw [upd_ne e]; exact (n5 a (f5 ▸ ha)).ne) fun a ha => n5 a (f5 ▸ ha)) (fun a y _ => y)
      ⟨p, o', xs ++ [(cK k, b, .ref q)], qs ++ [q], rfl, rfl, nd4, by rw [upd_ne (Ne.symm qp)]; exact h5p, k', by
        rw [ep]
        exact (le5.stb (Same.refl _) fun a ha => upd_ne fun e => qqs (by rw [← e]; exact ha)).snoc (Same.tupD e5.b hb) upd_same (.cons hv5 .nil)⟩
      fun a ha => ⟨B5n a ha, .inl (by rw [f5]; exact ha)⟩
    rw [List.set_set] at fin
    exact ⟨q, [], v, rfl, rfl, h5q, Nat.zero_lt_of_lt (show 0 < sizeLine by decide), g _ B5 _ fin⟩
end
end Dw

namespace Dw
open PySem PySem.Spec L2 PyProof.Rows
variable {c : Cl}
section
variable {X : Cx} {G : Env X.K c} {o i e f value ki : Expr} {rest : List Stmt} {Ph : Out X.K c → Prop} {pos pos' apos cpos a1 a2 c1 c2 lpos : Pos} {k : Cell} {d d2 : D} {n : Nat} {x : Str} {m : List (Cell × List D)}
/-- an entry's value, to be read -/
def FZ (K : PySem.W.Frag) (c : Cl) (Z B : Hp) (v : V) (ds : List D) : Prop := Tm K c Z B v (.list ds)
theorem FZ.mono {K : PySem.W.Frag} {Z B B' : Hp} {v : V} {ds : List D} (e : Same B B') (h : FZ K c Z B v ds) : FZ K c Z B' v ds := Tm.mono (Kp.refl _) e _ _ h
theorem dz_getL (C : Bd X n) (j0 : Nat) (hsl : ∀ Z B H σ, EnvE G Z B H σ → ∃ p o xs, σ[j0]? = some (some (.ref p)) ∧ H p = some (dctO p o) ∧ DOk X.prog X.w p o xs ∧ EntG X.K B (FZ X.K c Z B) xs m) (he : DE X G e (cD k)) (hN : X.N[j0]? = some x)
    (hv : Vis X.env.scope x) (hd : (x == ("__debug__" : Str)) = false) (hcd : (x == ("__classdict__" : Str)) = false) (mm : M2 X (.Name x pos) "get" apos e (.List [] lpos) cpos) : DZ X G (.Call (.Attribute (.Name x pos) "get" apos) [e, .List [] lpos] [] cpos) (.list ((look m k).getD [])) := by
  obtain ⟨ti, pi, ri⟩ := he
  refine ⟨_, pe_xget2 (units1 C) (pv j0 hN hv hd hcd) pi (pe_lst pa_nil) mm, fun Z B H σ Q E g => ?_⟩
  obtain ⟨p, o, xs, hσ, hp, hok, hen⟩ := hsl Z B H σ E
  refine ⟨_, hσ, p, xs, rfl, ⟨⟨o, .inl hp, hok⟩, hen.keys E.sub⟩, ri Z B H σ _ E fun u B2 H2 e2 hu => ⟨Nat.zero_le _, fun q hq => ?_⟩⟩
  obtain ⟨b, rfl, hb⟩ := tp_key hu
  have e3 : Ext B2 H2 (upd B2 q (.lst [])) (upd H2 q (.lst [])) := Ext.lay e2.sub _ hq
  have e23 := e2.trans e3
  have hen' := hen.mono (F' := FZ X.K c Z (upd B2 q (.lst []))) e23.b fun _ _ h => h.mono e23.b
  have kb : XKey X.K (upd H2 q (.lst [])) b k := Same.tup e3.sub (Same.tupD e3.b hb).sq
  have xd : XD X (upd H2 q (.lst [])) p xs := ⟨⟨o, .inl (e23.h.at hp (NT.nt (nt_dct hok))), hok⟩, hen'.keys e3.sub⟩
  rcases hen'.at k with ⟨z, y⟩ | ⟨ds, p2, w, z, y1, y2, y3⟩
  · rw [z] at g
    exact ⟨b, k, .ref q, rfl, xd, kb, fun r hr => by rw [y]; exact hr, g _ _ _ e23 (.of (.lst (.inl upd_same) .nil))⟩
  · rw [z] at g
    exact ⟨b, k, w, rfl, xd, kb, fun r hr => by rw [y1]; exact y2, g _ _ _ e23 y3⟩
theorem LE.fz {K : PySem.W.Frag} {Z B : Hp} {xs : Ents} {qs : List Addr} (h : LE K c B Z xs qs m) : EntG K B (FZ K c Z B) xs m :=
  h.ent.mono (Same.refl _) fun v ds ⟨q, vs, e1, _, e2, e3⟩ => e1 ▸ .lst (.inl (.inl e2)) (TmAll.of e3)
/-- .. of a dict that was handed in to be read -/
theorem dz_getB (C : Bd X n) (j : Nat) (he : DE X G e (cD k)) (hG : G[j]? = some (some (kb (kDL (c := c) X.prog X.w m))) := by rfl) (hN : X.N[j]? = some x := by rfl)
    (hv : Vis X.env.scope x := by first | exact Or.inl rfl | exact Or.inr (Or.inl rfl) | exact Or.inr (Or.inr rfl)) (hd : (x == ("__debug__" : Str)) = false := by decide)
    (hcd : (x == ("__classdict__" : Str)) = false := by decide) (mm : M2 X (.Name x pos) "get" apos e (.List [] lpos) cpos := by exact ⟨rfl, rfl, rfl, rfl⟩) :
    DZ X G (.Call (.Attribute (.Name x pos) "get" apos) [e, .List [] lpos] [] cpos) (.list ((look m k).getD [])) :=
  dz_getL C j (fun Z B H σ E => by
    obtain ⟨v, fp, h1, _, fp', p, o, xs, qs, rfl, _, _, h4, h5, h6⟩ := E.sl j _ hG
    exact ⟨p, o, xs, h1, E.z.at h4 (NT.nt (nt_dct h5)), h5, h6.fz⟩) he hN hv hd hcd mm
/-- .. of one that was laid down for good -/
theorem dz_getZ (C : Bd X n) (j : Nat) (he : DE X G e (cD k)) (hG : G[j]? = some (some (kz (kDL (c := c) X.prog X.w m))) := by rfl) (hN : X.N[j]? = some x := by rfl)
    (hv : Vis X.env.scope x := by first | exact Or.inl rfl | exact Or.inr (Or.inl rfl) | exact Or.inr (Or.inr rfl)) (hd : (x == ("__debug__" : Str)) = false := by decide)
    (hcd : (x == ("__classdict__" : Str)) = false := by decide) (mm : M2 X (.Name x pos) "get" apos e (.List [] lpos) cpos := by exact ⟨rfl, rfl, rfl, rfl⟩) :
    DZ X G (.Call (.Attribute (.Name x pos) "get" apos) [e, .List [] lpos] [] cpos) (.list ((look m k).getD [])) :=
  dz_getL C j (fun Z B H σ E => by
    obtain ⟨v, fp, h1, _, fp', p, o, xs, qs, rfl, _, _, h4, h5, h6⟩ := E.sl j _ hG
    exact ⟨p, o, xs, h1, E.sub _ _ h4, h5, h6.ent.mono (Same.refl _) fun v ds ⟨q, vs, e1, _, e2, e3⟩ => e1 ▸ .of (.lst (.inl e2) e3)⟩) he hN hv hd hcd mm
end
end Dw

namespace Dw
open PySem PySem.Spec L2 PyProof.Rows
open Sem (wp)
variable {c : Cl}
abbrev zM1 (h : Heap) (l1 : Addr) : Heap := h.push { cls := .type "tuple_iterator", data := .fields #[.ref l1, .int 0 0] }
abbrev zM2 (h : Heap) (l1 l2 : Addr) : Heap := (zM1 h l1).push { cls := .type "list_iterator", data := .fields #[.ref l2, .int 0 0] }
abbrev zM3 (h : Heap) (l1 l2 : Addr) : Heap := (zM2 h l1 l2).push { cls := .type "tuple", data := .seq #[.ref h.objs.size, .ref (zM1 h l1).objs.size] }
abbrev zM4 (h : Heap) (l1 l2 : Addr) : Heap := (zM3 h l1 l2).push { cls := .type "tuple", data := .seq #[.none, .none] }
abbrev zM5 (h : Heap) (l1 l2 : Addr) : Heap := (zM4 h l1 l2).push { cls := .type "zip", data := .fields #[.none, .bool false, .bool false, .ref (zM2 h l1 l2).objs.size, .ref (zM3 h l1 l2).objs.size] }
theorem meets_zM (l1 l2 : Addr) (xs ys : Array Value) : Meets (Builtin.«zip.__new__» ⟨[.type "zip", .ref l1, .ref l2], []⟩) (fun _ R s => s.heap.IsTuple l1 xs ∧ s.heap.IsList l2 ys ∧ R (.ok (.ret (.ref (zM4 s.heap l1 l2).objs.size))) { s with heap := zM5 s.heap l1 l2 }) :=
  .of_wp fun prog w A R s h => by
    obtain ⟨hp, g, d, tk, os⟩ := s
    obtain ⟨hl1, hl2, h⟩ := h
    have sub0 := sub_zip
    have i1 : Heap.IsTuple (Shared.heap ⟨hp, g, d, tk, os⟩) l1 xs := hl1
    have i2 : Heap.IsList (Shared.heap ⟨zM1 hp l1, g, d, tk, os⟩) l2 ys := Heap.IsList.push hl2 _
    wp_walk using wpAny_pyIter_tuple i1, wpAny_pyIter_list i2
    exact ⟨_, rfl, h⟩
section
variable {prog : Program} {w : World} {A : Around} {E : Value → Shared → Prop} {s : Shared}
theorem call_zM {l1 l2 : Addr} {xs ys : Array Value} {Q : Value → Shared → Prop} (hl1 : s.heap.IsTuple l1 xs) (hl2 : s.heap.IsList l2 ys)
    (h : ∀ h' (n : Nat), n = s.heap.objs.size → IsZip h' (n + 4) (n + 2) (n + 3) .none → IsPair h' (n + 2) (.ref n) (.ref (n + 1)) → IsPair h' (n + 3) .none .none → h'.IsTupleIter n l1 0 → h'.IsListIter (n + 1) l2 0 → (∀ c o, s.heap.get? c = some o → h'.get? c = some o) → Q (.ref (n + 4)) { s with heap := h' }) :
    wpAny (model prog w) A (call (.type "zip") [.ref l1, .ref l2]) Q E s := by
  refine callType_new F.called_zip (by decide) (F.typeCall_zip_2 _ _) (F.newCall_zip_2 _ _) (fun obj => F.args_object_init_3 obj _ _) F.entry_zip_new (meets_zM l1 l2 xs ys) ⟨hl1, hl2, ?_⟩
  have n1 : (zM1 s.heap l1).objs.size = s.heap.objs.size + 1 := Heap.size_push ..
  have n2 : (zM2 s.heap l1 l2).objs.size = s.heap.objs.size + 2 := by rw [Heap.size_push, n1]
  have n3 : (zM3 s.heap l1 l2).objs.size = s.heap.objs.size + 3 := by rw [Heap.size_push, n2]
  have n4 : (zM4 s.heap l1 l2).objs.size = s.heap.objs.size + 4 := by rw [Heap.size_push, n3]
  have up : ∀ {h : Heap} {o ob : Obj} {c : Addr}, h.get? c = some ob → (h.push o).get? c = some ob := fun e => Heap.get?_push_of_some _ e
  have o5 : (zM5 s.heap l1 l2).get? (zM4 s.heap l1 l2).objs.size = some _ := Heap.get?_push_size _ rfl
  have o4 : (zM5 s.heap l1 l2).get? (zM3 s.heap l1 l2).objs.size = some _ := up (Heap.get?_push_size _ rfl)
  have o3 : (zM5 s.heap l1 l2).get? (zM2 s.heap l1 l2).objs.size = some _ := up (up (Heap.get?_push_size _ rfl))
  have o2 : (zM5 s.heap l1 l2).get? (zM1 s.heap l1).objs.size = some _ := up (up (up (Heap.get?_push_size _ rfl)))
  have o1 : (zM5 s.heap l1 l2).get? s.heap.objs.size = some _ := up (up (up (up (Heap.get?_push_size _ rfl))))
  show _ ∧ _
  rw [n2, n3, n4] at o5
  rw [n1, n2] at o3
  rw [n3] at o4
  rw [n1] at o2
  rw [n4]
  exact ⟨⟨_, o5, rfl⟩, h _ s.heap.objs.size rfl o5 o3 o4 ⟨_, o1, rfl, rfl⟩ ⟨_, o2, rfl, rfl⟩ fun c o e => up (up (up (up (up e))))⟩
end
/-- the tuple at a, the list at b: the items in new pairs, as long as both have one -/
def ItzM (K : PySem.W.Frag) (a b : Addr) (m : Nat) : It :=
  ⟨fun i H => i < m ∧ ∃ (xs ys : List V) (x y : V), SqT K H a xs ∧ SqL K H b ys ∧ xs[i]? = some x ∧ ys[i]? = some y, fun i H v H' => ∃ T x y, v = .ref T ∧ H T = none ∧ H' = upd H T (.tup [x, y]) ∧ (∀ xs, SqT K H a xs → xs[i]? = some x) ∧ ∀ ys, SqL K H b ys → ys[i]? = some y,
    fun i H => m ≤ i ∧ ∃ xs ys : List V, SqT K H a xs ∧ SqL K H b ys ∧ xs.length = m ∧ ys.length = m⟩
theorem turn_zM {P : Program} {w : World} {K : PySem.W.Frag} {elts : List Expr} {kk : Nat} {tpos : Pos} {a b n : Nat} {m : Nat} (la : a < n) (lb : b < n) :
    Turn P w K (.Tuple elts kk tpos) (ItzM K a b m) [n + 4, n + 2, n + 3, n, n + 1] (n + 4) (fun i h => IsZip h (n + 4) (n + 2) (n + 3) .none ∧ IsPair h (n + 2) (.ref n) (.ref (n + 1)) ∧ (∃ x y, IsPair h (n + 3) x y) ∧ h.IsTupleIter n a i ∧ h.IsListIter (n + 1) b i ∧ i ≤ m) := by
  have inn : ∀ {q : Nat}, q ∈ [n + 4, n + 2, n + 3, n, n + 1] → q = n + 4 ∨ q = n + 2 ∨ q = n + 3 ∨ q = n ∨ q = n + 1 := fun h => by simpa using h
  have sep : ZipSep2 (n + 4) (n + 2) (n + 3) n (n + 1) [n, a] [n + 1, b] := by
    have l4 : ∀ {x y : Nat}, x < y → (x : Addr) ≠ y := fun h => Nat.ne_of_lt h
    have g4 : ∀ {x y : Nat}, y < x → (x : Addr) ≠ y := fun h => Nat.ne_of_gt h
    have no : ∀ {x y z : Nat}, x ≠ y → x ≠ z → (x : Addr) ∉ ([y, z] : List Addr) := fun h1 h2 h => (List.mem_cons.mp h).elim h1 fun h => h2 (List.mem_singleton.mp h)
    exact ⟨l4 (by omega), l4 (by omega), l4 (by omega), g4 (by omega), List.mem_cons_self, no (by omega) (by omega), no (by omega) (by omega), g4 (by omega), List.mem_cons_self, no (by omega) (by omega), no (by omega) (by omega), no (by omega) (by omega), no (by omega) (by omega)⟩
  refine ⟨by simp, fun i h ⟨hz, hTI, ⟨x, y, hTO⟩, ⟨o1, e1, _, d1⟩, ⟨o2, e2, _, d2⟩, _⟩ q hq => ?_, fun i h h' ⟨hz, hTI, ⟨x, y, hTO⟩, h1, h2, hm⟩ k => ⟨k _ (by simp) _ hz, k _ (by simp) _ hTI, ⟨x, y, k _ (by simp) _ hTO⟩, h1.at fun o q => k n (by simp) o q, h2.at fun o q => k (n + 1) (by simp) o q, hm⟩, ?_, ?_, fun A i s Q E st h => wpAny_pyIter_zip st.1 h⟩
  · rcases inn hq with rfl | rfl | rfl | rfl | rfl
    · exact ⟨_, hz, fun v q => nomatch q⟩
    · exact ⟨_, hTI, fun v q => nomatch q⟩
    · exact ⟨_, hTO, fun v q => nomatch q⟩
    · exact ⟨o1, e1, fun v q => by rw [d1] at q; cases q⟩
    · exact ⟨o2, e2, fun v q => by rw [d2] at q; cases q⟩
  · intro X hP hw hK hc i pins s σ H E I hf ⟨hz, hTI, ⟨x0, y0, hTO⟩, h1, h2, hm⟩ ⟨hlt, xs, ys, x, y, hqx, hqy, hx, hy⟩
    subst hP hw hK
    obtain ⟨its, rv, p, _⟩ := I.tuple hqx
    obtain ⟨its2, rv2, p2, _⟩ := I.list hqy
    have hn4 : n + 4 < s.heap.objs.size := Heap.lt_size hz
    have hh : X.A.in1.handled = none := I.ok.hd hc
    have s1 : its.toArray.size = xs.length := by rw [List.size_toArray, rv.length]
    have s2 : its2.toArray.size = ys.length := by rw [List.size_toArray, rv2.length]
    refine wpAny_pyNext_zipD2_item sep (Draws.tuple hh n a (Nat.ne_of_lt la) its.toArray) (Draws.list hh (n + 1) b (Nat.ne_of_lt (Nat.lt_succ_of_lt lb)) its2.toArray) hz hTI hTO ⟨h1, p⟩ ⟨h2, p2.isList⟩ (by rw [s1]; exact (List.getElem?_eq_some_iff.mp hx).1) (by rw [s2]; exact (List.getElem?_eq_some_iff.mp hy).1) fun u u2 h' tk g1 g2 z' TO' st1 st2 hT hsz hk => ?_
    obtain ⟨w1, q1, r1⟩ := rv.get hx
    obtain ⟨w2, q2, r2⟩ := rv2.get hy
    have e1 : w1 = u := by simp at g1; rw [g1] at q1; exact (Option.some.inj q1).symm
    have e2 : w2 = u2 := by simp at g2; rw [g2] at q2; exact (Option.some.inj q2).symm
    subst e1 e2
    refine ⟨_, rfl, wpAny_letOwnedTupleGo_zip (s := { s with heap := h', toks := tk }) z' fun h'' z'' sb => ?_⟩
    have hT2 : h''.get? s.heap.objs.size = some { cls := .type "tuple", data := .seq #[w1, w2] } := (sb.2 _ (Nat.ne_of_gt hn4)).trans hT
    have new : ObjOk X.prog X.w (upd H s.heap.objs.size (.tup [x, y])) h'' s.heap.objs.size (.tup [x, y]) := ⟨tw_le, [w1, w2], .cons r1 (.cons r2 .nil), ⟨_, hT2, rfl, _, rfl⟩⟩
    have keep : ∀ c o, c ∉ [n + 4, n + 2, n + 3, n, n + 1] → s.heap.get? c = some o → h''.get? c = some o := fun c o hb q => by
      have ne : ∀ t ∈ [n + 4, n + 2, n + 3, n, n + 1], c ≠ t := fun t ht e => hb (by rw [e]; exact ht)
      exact (sb.2 c (ne _ (by simp))).trans (hk c o (ne _ (by simp)) (ne _ (by simp)) (ne _ (by simp)) (ne _ (by simp)) q)
    refine ⟨.ref s.heap.objs.size, _, I.turnedNew (t' := tk) (ch := [n + 4, n + 2, n + 3, n, n + 1]) keep hf (Nat.le_refl _) new, rfl, ⟨_, x, y, rfl, I.hok.fresh (Nat.le_refl _), rfl, fun l hl => by rw [I.tuple_inj hl hqx]; exact hx, fun l hl => by rw [I.list_inj hl hqy]; exact hy⟩, ⟨z'', ?_, ⟨w1, w2, ?_⟩, ?_, ?_, hlt⟩, fun q hq => ?_⟩
    · exact (sb.2 _ (by simp)).trans (hk _ _ (by simp) (by simp) (by simp) (by simp) hTI)
    · exact (sb.2 _ (by simp)).trans TO'
    · exact st1.1.at fun o q => (sb.2 _ (by simp)).trans q
    · exact st2.1.at fun o q => (sb.2 _ (by simp)).trans q
    · rw [upd_ne (by rcases inn hq with rfl | rfl | rfl | rfl | rfl <;> (refine Nat.ne_of_lt ?_; omega))]
      exact (hf q hq).1
  · intro X hP hw hK hc i pins s σ H E I hf ⟨hz, hTI, ⟨x0, y0, hTO⟩, h1, h2, hm⟩ ⟨hge, xs, ys, hqx, hqy, l1, l2⟩
    subst hP hw hK
    obtain ⟨its, rv, p, _⟩ := I.tuple hqx
    obtain ⟨its2, rv2, p2, _⟩ := I.list hqy
    have hh : X.A.in1.handled = none := I.ok.hd hc
    have s1 : its.toArray.size = xs.length := by rw [List.size_toArray, rv.length]
    have s2 : its2.toArray.size = ys.length := by rw [List.size_toArray, rv2.length]
    refine wpAny_pyNext_zipD2_end sep (Draws.tuple hh n a (Nat.ne_of_lt la) its.toArray) (Draws.list hh (n + 1) b (Nat.ne_of_lt (Nat.lt_succ_of_lt lb)) its2.toArray) hz hTI hTO ⟨h1, p⟩ ⟨h2, p2.isList⟩ (by omega) (by omega) (by omega) fun h' tk hk => ⟨rfl, I.turnedL (t' := tk) (ch := [n + 4, n + 2, n + 3, n, n + 1]) (fun c o hb q => ?_) hf⟩
    have ne : ∀ t ∈ [n + 4, n + 2, n + 3, n, n + 1], c ≠ t := fun t ht e => hb (by rw [e]; exact ht)
    exact hk c o (ne _ (by simp)) (ne _ (by simp)) (ne _ (by simp)) (ne _ (by simp)) q
def iZipM (K : PySem.W.Frag) (ta : TA) : TI := fun σ H R => ta σ H fun vs H1 => ∃ a b m xs ys, vs = [.ref a, .ref b] ∧ SqT K H1 a xs ∧ SqL K H1 b ys ∧ R (ItzM K a b m) H1
theorem pi_zM {X : Cx} {e e2 : Expr} {ta : TA} {p pos tpos : Pos} {elts : List Expr} {kk : Nat} (hg : Gl X "zip") (hm : X.mg "zip" = none) (ha : PA X [e, e2] ta)
    (hs : starEach [e, e2] X.env = (false, eval e X.env) :: starEach [e2] X.env := by rfl) (hpl : (backTo pos (starEach [e2] X.env)).any (·.1) = false := by rfl) : PI X (.Tuple elts kk tpos) (.Call (.Name "zip" p) [e, e2] [] pos) (iZipM X.K ta) := by
  refine ⟨fun pins s σ H R I h => Call_ (ld_blt I hg hm PyProof.Rows.boot_zip (PyProof.Rows.callWith_type1 (thn (ha.run pos pins s σ H _ I h) fun us s1 ⟨vs, H1, I1, r1, a, b, m, xs, ys, ex, hqx, hqy, q⟩ => ?_) hs hpl))⟩
  subst ex
  cases r1 with | cons r rr => cases rr with | cons r' rr => cases rr with | nil =>
  cases r
  cases r'
  obtain ⟨its, rv, p1, _⟩ := I1.tuple hqx
  obtain ⟨its2, rv2, p2, _⟩ := I1.list hqy
  obtain ⟨o1, ho1, _⟩ := id p1
  refine call_zM (show s1.heap.IsTuple a its.toArray from p1) p2.isList fun h' n hn hz hTI hTO h1 h2 hk => wpAny_pyIter_zip hz ?_
  subst hn
  refine ⟨s1.heap.objs.size + 4, _, _, _, H1, rfl, I1.kept (t' := s1.toks) hk, turn_zM (Heap.lt_size ho1) p2.lt, ⟨hz, hTI, ⟨_, _, hTO⟩, h1, h2, Nat.zero_le _⟩, fun t ht => ?_, q⟩
  have hle : s1.heap.objs.size ≤ t := by
    have : t = s1.heap.objs.size + 4 ∨ t = s1.heap.objs.size + 2 ∨ t = s1.heap.objs.size + 3 ∨ t = s1.heap.objs.size ∨ t = s1.heap.objs.size + 1 := by simpa using ht
    rcases this with e | e | e | e | e <;> rw [e]
    · exact Nat.le_add_right _ _
    · exact Nat.le_add_right _ _
    · exact Nat.le_add_right _ _
    · exact Nat.le_refl _
    · exact Nat.le_add_right _ _
  exact I1.fpOk hle (I1.hok.fresh hle)
section
variable {X : Cx} {G : Env X.K c} {e e2 : Expr} {p pos tpos : Pos} {elts : List Expr} {kk n : Nat} {ds es : List D}
/-- for a, b in zip(t, xs), both of n items -/
theorem di_zM (h1 : DE X G e (.tuple ds)) (h2 : DE X G e2 (.list es)) (l1 : ds.length = n) (l2 : es.length = n) (hm : X.mg "zip" = none) (hg : Gl X "zip" := by rfl) (hs : starEach [e, e2] X.env = (false, eval e X.env) :: starEach [e2] X.env := by rfl)
    (hs2 : starEach [e2] X.env = (false, eval e2 X.env) :: starEach [] X.env := by rfl) (hpl : (backTo pos (starEach [e2] X.env)).any (·.1) = false := by rfl) :
    DI X G (.Tuple elts kk tpos) (.Call (.Name "zip" p) [e, e2] [] pos) n fun i => sd (.tuple [ds[i]?.getD .none, es[i]?.getD .none]) := by
  obtain ⟨t1, q1, r1⟩ := h1
  obtain ⟨t2, q2, r2⟩ := h2
  refine ⟨_, pi_zM hg hm (pa_cons q1 (pa_cons q2 pa_nil hs2) hs) hs hpl, fun Z B H σ R E g => r1 Z B H σ _ E fun v B1 H1 e1 k1 => r2 Z B1 H1 σ _ (E.ext e1) fun u B2 H2 e2 k2 => ?_⟩
  cases k1 with
  | @tup a xs _ t1 t2 =>
  cases k2 with
  | @lst b ys _ s1 s2 =>
  have t1' := Same.tupD e2.b t1
  have t2' := TpAll.mono e2.b _ _ t2
  refine ⟨a, b, n, xs, ys, rfl, Same.tup e2.sub t1'.sq, .inl (Same.rd e2.sub s1), g _ B2 H2 (e1.trans e2) fun i B3 H3 b1 b2 b3 => ?_⟩
  have t3 := Same.tup b2 (Same.tupD b1 t1').sq
  have s3 : SqL X.K H3 b ys := .inl (Same.rd b2 (Same.rd b1 s1))
  have lx := t2'.length
  have ly := s2.length
  refine ⟨fun hi => ⟨⟨hi, xs, ys, _, _, t3, s3, List.getElem?_eq_getElem (by omega), List.getElem?_eq_getElem (by omega)⟩, fun w H' ⟨T, x, y, ew, hT, eH, f1, f2⟩ => ?_⟩, fun hi => ⟨hi, xs, ys, t3, s3, by omega, by omega⟩⟩
  · subst ew eH
    obtain ⟨d1, z1, z2⟩ := t2'.getV (f1 xs t3)
    obtain ⟨d2, z3, z4⟩ := s2.getV (f2 ys s3)
    refine ⟨_, Ext.lay b2 _ hT, rfl, .tup (.inl upd_same) ?_⟩
    have up : Same B2 (upd B3 T (.tup [x, y])) := b1.trans (same_upd (b2.free hT))
    rw [z1, z3]
    exact .cons (Tp.mono up _ _ z2) (.cons (Tp.mono up _ _ z4) .nil)
end
end Dw

namespace Dw
open PySem PySem.Spec L2 PyProof.Rows
variable {c : Cl}
theorem nt_dK (m : List (L2.Key × V)) : NT (.dK m) := ⟨(fun _ z => nomatch z), fun _ _ z => by unfold LamX.CodeO at z; cases z⟩
section
variable {X : Cx} {G : Env X.K c} {v0 v1 v2 v3 ix : Expr} {pos pd p0 p1 p2 p3 : Pos} {j0 j1 j2 j3 : Nat} {d0 d1 d2 d3 : D} {n : Nat}
def pick4 (i : Fin 4) (d0 d1 d2 d3 : D) : D := match i with
  | 0 => d0
  | 1 => d1
  | 2 => d2
  | 3 => d3
theorem de_disp4 (C : Bd X n) (i : Fin 4) (h0 : DE X G v0 d0) (h1 : DE X G v1 d1) (h2 : DE X G v2 d2) (h3 : DE X G v3 d3) (hi : DE X G ix (.str (sideS i))) (hs : NoSl ix := by exact fun _ _ => rfl) :
    DE X G (.Subscript (.Dict [some (.Constant (.str "n") j0 p0), some (.Constant (.str "e") j1 p1), some (.Constant (.str "s") j2 p2), some (.Constant (.str "w") j3 p3)] [v0, v1, v2, v3] pd) ix pos) (pick4 i d0 d1 d2 d3) := by
  obtain ⟨k0, q0, c0⟩ := (de_str (c := c) (G := G) (pos := p0) (z := "n") (j := j0) : DE X G _ _)
  obtain ⟨k1, q1, c1⟩ := (de_str (c := c) (G := G) (pos := p1) (z := "e") (j := j1) : DE X G _ _)
  obtain ⟨k2, q2, c2⟩ := (de_str (c := c) (G := G) (pos := p2) (z := "s") (j := j2) : DE X G _ _)
  obtain ⟨k3, q3, c3⟩ := (de_str (c := c) (G := G) (pos := p3) (z := "w") (j := j3) : DE X G _ _)
  obtain ⟨t0, a0, r0⟩ := h0
  obtain ⟨t1, a1, r1⟩ := h1
  obtain ⟨t2, a2, r2⟩ := h2
  obtain ⟨t3, a3, r3⟩ := h3
  obtain ⟨ti, ai, ri⟩ := hi
  refine ⟨_, pe_dget (units1 C) (pe_disp (pps_cons q0 a0 (pps_cons q1 a1 (pps_cons q2 a2 (pps_cons q3 a3 pps_nil)))) rfl rfl (fun z => nomatch z) (show 4 ≤ 15 by decide)) ai hs, fun Z B H σ Q E g => fun p hp => ?_⟩
  have L : Ext B H B (upd H p (.dK [])) := Ext.layH E.sub _ hp
  refine c0 Z B _ σ _ (E.ext L) fun x0 B1 H1 e1 s0 => r0 Z B1 H1 σ _ (E.ext (L.trans e1)) fun y0 B2 H2 e2 u0 => ?_
  have E2 := (L.trans e1).trans e2
  refine c1 Z B2 _ σ _ (E.ext E2) fun x1 B3 H3 e3 s1 => r1 Z B3 H3 σ _ (E.ext (E2.trans e3)) fun y1 B4 H4 e4 u1 => ?_
  have E4 := (E2.trans e3).trans e4
  refine c2 Z B4 _ σ _ (E.ext E4) fun x2 B5 H5 e5 s2 => r2 Z B5 H5 σ _ (E.ext (E4.trans e5)) fun y2 B6 H6 e6 u2 => ?_
  have E6 := (E4.trans e5).trans e6
  refine c3 Z B6 _ σ _ (E.ext E6) fun x3 B7 H7 e7 s3 => r3 Z B7 H7 σ _ (E.ext (E6.trans e7)) fun y3 B8 H8 e8 u3 => ?_
  have E8 := (E6.trans e7).trans e8
  have K8 : Ext B (upd H p (.dK [])) B8 H8 := ((((((e1.trans e2).trans e3).trans e4).trans e5).trans e6).trans e7).trans e8
  have hp8 : H8 p = some (.dK []) := K8.h.at upd_same rfl
  have bp8 : B8 p = none := K8.new p (E.sub.free hp) (by rw [upd_same]; exact fun z => nomatch z)
  cases s0
  cases s1
  cases s2
  cases s3
  refine ⟨hp8, [(.inr "n", y0), (.inr "e", y1), (.inr "s", y2), (.inr "w", y3)], rfl, (show 4 ≤ 15 by decide), ?_⟩
  have E9 := ext_over (o := .dK (mergeK [] [(.inr "n", y0), (.inr "e", y1), (.inr "s", y2), (.inr "w", y3)])) E8 hp bp8 ⟨_, hp8, nt_dK _⟩
  refine ri Z B8 _ σ _ (E.ext E9) fun w B10 H10 e10 s10 => ?_
  cases s10
  have hp10 : H10 p = some (.dK (mergeK [] [(.inr "n", y0), (.inr "e", y1), (.inr "s", y2), (.inr "w", y3)])) := e10.h.at upd_same rfl
  have m2 : Same B2 B10 := (((((e3.b.trans e4.b).trans e5.b).trans e6.b).trans e7.b).trans e8.b).trans e10.b
  have m4 : Same B4 B10 := (((e5.b.trans e6.b).trans e7.b).trans e8.b).trans e10.b
  have m6 : Same B6 B10 := (e7.b.trans e8.b).trans e10.b
  match i with
  | 0 => exact ⟨p, y0, rfl, .inl ⟨_, .inr "n", .inl hp10, rfl, rfl⟩, g y0 B10 H10 (E9.trans e10) (Tp.mono m2 _ _ u0)⟩
  | 1 => exact ⟨p, y1, rfl, .inl ⟨_, .inr "e", .inl hp10, rfl, rfl⟩, g y1 B10 H10 (E9.trans e10) (Tp.mono m4 _ _ u1)⟩
  | 2 => exact ⟨p, y2, rfl, .inl ⟨_, .inr "s", .inl hp10, rfl, rfl⟩, g y2 B10 H10 (E9.trans e10) (Tp.mono m6 _ _ u2)⟩
  | 3 => exact ⟨p, y3, rfl, .inl ⟨_, .inr "w", .inl hp10, rfl, rfl⟩, g y3 B10 H10 (E9.trans e10) (Tp.mono e10.b _ _ u3)⟩
/-- .. the law's table of moves -/
theorem pick_mv (i : Fin 4) : pick4 i (.tuple [.int (-1), .int 0]) (.tuple [.int 0, .int 1]) (.tuple [.int 1, .int 0]) (.tuple [.int 0, .int (-1)]) = .tuple [.int (mv i).1, .int (mv i).2] := by
  match i with
  | 0 => rfl
  | 1 => rfl
  | 2 => rfl
  | 3 => rfl
end
end Dw

namespace Dw
open PySem PySem.Spec L2 PyProof.Rows
variable {c : Cl}
section
variable {X : Cx} {A : Around} {outer : List PySem.Env} {s : Shared} {H : Hp} {scope : Scope} {f c' : Addr} {y z : Str} {n : Nat} {p1 p2 p3 p4 pos : Pos} {kk : Nat}
theorem lam1_get (L : Lam1 X.env.scope scope y z) (hr : Room n (A.deeper (LamX.lamEnv X scope s.heap.objs.size f c'))) (hy : (y == ("__debug__" : Str)) = false) (hy2 : (y == ("__classdict__" : Str)) = false) (hz : (z == ("__debug__" : Str)) = false) (hz2 : (z == ("__classdict__" : Str)) = false) :
    PE (lam1Cx X y z A outer s H scope f c') (.Subscript (.Name z p1) (.Name y p2) pos) (tbOne X) := by
  have py : PE (lam1Cx X y z A outer s H scope f c') (.Name y p2) (tVar 0) := pe_var rfl (.inl L.loc) hy hy2
  have pz : PE (lam1Cx X y z A outer s H scope f c') (.Name z p1) (tVar 1) := pe_var rfl (.inr (.inr L.zf)) hz hz2
  have pg := pe_xget (X := lam1Cx X y z A outer s H scope f c') (pos := pos) (by have := hr.un; show (A.deeper _).units + 1 < _; omega) pz py (fun _ _ => rfl)
  refine ⟨fun pins s σ H Q I h => pg.run pins s σ H Q I ?_⟩
  obtain ⟨v, e1, u, e2, a, b, xs, k, p, w, e3, e4, ⟨h5, h6⟩, h7, h8, h9, h10⟩ := h
  exact ⟨v, e1, u, e2, a, b, xs, k, p, w, e3, e4, ⟨h5, h6⟩, h7, h8, h9, h10⟩
theorem lam1_pair (L : Lam1 X.env.scope scope y z) (hr : Room n (A.deeper (LamX.lamEnv X scope s.heap.objs.size f c'))) (hy : (y == ("__debug__" : Str)) = false) (hy2 : (y == ("__classdict__" : Str)) = false) (hz : (z == ("__debug__" : Str)) = false) (hz2 : (z == ("__classdict__" : Str)) = false) :
    PE (lam1Cx X y z A outer s H scope f c') (.Tuple [.Subscript (.Name z p1) (.Name y p2) p3, .Name y p4] kk pos) (tbTwo X) :=
  pe_tup (pa_cons (lam1_get L hr hy hy2 hz hz2) (pa_cons (pe_var rfl (.inl L.loc) hy hy2) pa_nil rfl) rfl)
end
section
variable {X : Cx} {G : Env X.K c} {tg e : Expr}
theorem di_map {α : Type} (f : α → D) (d : α) {L : List α} (h : DE X G e (.list (L.map f))) : DI X G tg e L.length fun i => sd (f (L.getD i d)) := by
  have := di_list (tg := tg) h
  rw [List.length_map] at this
  exact this.cast fun i hi => by rw [map_atD f d hi]
theorem di_mapZ {α : Type} (f : α → D) (d : α) {L : List α} (h : DZ X G e (.list (L.map f))) (hn : ∀ a, nolist (f a) = true := by exact fun _ => rfl) : DI X G tg e L.length fun i => sd (f (L.getD i d)) := by
  have := di_listZ (tg := tg) h fun d hd => by obtain ⟨a, _, rfl⟩ := List.mem_map.mp hd; exact hn a
  rw [List.length_map] at this
  exact this.cast fun i hi => by rw [map_atD f d hi]
end
/-- a def of the top whose code object stands at cc -/
structure FunAtC (K : PySem.W.Frag) (mg : Str → Option Value) (x : Str) (st : Stmt) (ps : List Str) (cc : Addr) : Prop where
  ex : ∃ (f : Addr) (oc : Value) (od : Option Addr) (kV doc pm : Value) (an : Option Addr) (ct : Value) (osl : Array (Option Value)), mg x = some (.ref f) ∧ K.lookup f = some ⟨oc, od, .func (PySem.W.fnOf x x (defArgs st) (defBody st) (defScope st) .none kV doc pm an (.ref cc) ct), osl⟩ ∧
    PySem.W.codeIn K (.ref cc) x = true ∧ PySem.W.keepIn K (.ref f) = true ∧ Binds K (PySem.W.fnOf x x (defArgs st) (defBody st) (defScope st) .none kV doc pm an (.ref cc) ct) ps []
theorem def_okC {P : Program} {w : World} {K : PySem.W.Frag} {mg : Str → Option Value} {base : Heap} {x : Str} {st : Stmt} {N ps : List Str} {k : Nat} {cc : Addr} {R : List (Slot K c) → Slot K c → Prop}
    (F : FunAtC K mg x st ps cc) (S : FnScope N ps (defScope st)) (hR : ∀ ss r, R ss r → ss.length = ps.length)
    (body : ∀ (f : Addr) (A : Around) (outer : List PySem.Env) (s : Shared) (H : Hp) (E : XK) (ss : List (Slot K c)) (r : Slot K c), R ss r → Bd (bx P w K mg base N x st f (.ref cc) A outer s H E) k →
      DSs (c := c) (bx P w K mg base N x st f (.ref cc) A outer s H E) (G0 N ss) (defBody st) (defEnd r)) : DefOk P w K mg base x (k + 1) R := by
  obtain ⟨f, oc, od, kV, doc, pm, an, ct, osl, hm, lk, hcd, kp, bn⟩ := F.ex
  refine ⟨f, _, ps, hm, kp, bn, fn_of lk hcd S (fun vs H Q E h => ?_) fun A outer s H vs Q E hr h => ?_⟩
  · obtain ⟨B, ss, r, _, _, h, hq, _⟩ := h
    rw [h.length]
    exact hR ss r hq
  · obtain ⟨B, ss, r, sb, tt, h, hq, g⟩ := h
    have hl : ss.length ≤ N.length := by
      rw [hR ss r hq]
      have := congrArg List.length S.pre
      rw [List.length_take] at this
      omega
    have run : ∃ t, PSs (bx P w K mg base N x st f (.ref cc) A outer s H E) (defBody st) t ∧ t { nx := fun _ H' => Q .non H', rt := Q } (L2.start N vs) H := by
      refine ⟨_, pss_wp, body f A outer s H E ss r hq ⟨S.nd, rfl, hr, PassesOwn.never⟩ _ B H _ _ (ste_start sb tt h hl) ⟨fun G B' H' σ T e => ?_, fun G B' H' σ T e => e.elim, fun G B' H' σ T e => e.elim, fun u G B' H' σ v fp T p hf e => ?_, _, takes0N, fun cls G B' H' σ T e => e.elim⟩⟩
      · have e : r = sd .none := e
        subst e
        exact g .non B' H' [] T.ext0 (fun _ => ⟨rfl, .non⟩) fun a ha => absurd ha List.not_mem_nil
      · have e : u = r := e
        subst e
        exact g v B' H' fp T.ext0 p hf
    obtain ⟨t, h1, h2⟩ := run
    exact ⟨t, h1.nox, h2⟩
theorem funAtC {K : PySem.W.Frag} {mg : Str → Option Value} {h : Heap} (X : K.In h) (G : h.Ns mainGlobals mg) {x : Str} {st : Stmt} {ps : List Str} {f cc : Addr} {oc : Value} {od an : Option Addr} {osl : Array (Option Value)} {kV doc pm ct : Value} (a : PySem.W.nsIn K mainGlobals x = some (some (.ref f)))
    (l : K.lookup f = some ⟨oc, od, .func (PySem.W.fnOf x x (defArgs st) (defBody st) (defScope st) .none kV doc pm an (.ref cc) ct), osl⟩) (c : PySem.W.codeIn K (.ref cc) x = true) (k : PySem.W.keepIn K (.ref f) = true)
    (b : ∀ (kV doc pm : Value) (an : Option Addr) (cdv ct : Value) (us : List Value), us.length = ps.length → bindArgs (PySem.W.fnOf x x (defArgs st) (defBody st) (defScope st) .none kV doc pm an cdv ct) ⟨us, []⟩ = pure (ps.zip us)) : FunAtC K mg x st ps cc :=
  ⟨f, oc, od, kV, doc, pm, an, ct, osl, PySem.W.mg_of X G a, l, c, k, (fun_mk (st := st) l c k).binds b⟩
end Dw

namespace Dw
open PySem PySem.Spec L2 PyProof.Rows
variable {c : Cl}
section
variable {X : Cx} {G : Env X.K c} {tg e iter : Expr} {body rest : List Stmt} {Ph : Out X.K c → Prop} {pos p : Pos} {k : Nat} {al : Type}
def turnE (X : Cx) (N : Env X.K c → Prop) (rest : List Stmt) (Ph : Out X.K c → Prop) : Out X.K c → Prop
  | .nx G' => N G'
  | .ct G' => N G'
  | .bk G' => DSs X G' rest Ph
  | .ret s G' => Ph (.ret s G')
  | .exc cls G' => Ph (.exc cls G')
theorem dss_forE (C : Bd X k) {n : Nat} {g : Nat → Slot X.K c} (hi : DI X G tg iter n g) (I : Nat → al → Env X.K c) (q : Nat → al → Prop) (a0 : al) (q0 : q 0 a0) (h0 : Wk G (I 0 a0)) {is : List Nat} {I' : Nat → al → Env X.K c} (hg : ∀ i a, i < n → DG X tg is (g i) (I i a) (I' i a))
    (turn : ∀ i a, i < n → q i a → DSs X (I' i a) body (turnE X (fun G' => ∃ a', q (i + 1) a' ∧ Wk G' (I (i + 1) a')) rest Ph)) (hr : ∀ a, q n a → DSs X (I n a) rest Ph) (hs : ∀ x, foldedSetIterable iter X.env x = pure x := by intro _; rfl) : DSs X G (.For tg iter body [] pos :: rest) Ph := fun F B H σ D S E => by
  obtain ⟨wi, pi, ri⟩ := hi
  have pgw : PG X tg (fun v σ H Q => ∃ i a, ∃ h : i < n, (hg i a h).choose v σ H Q) ∨ n = 0 := by
    by_cases hn : n = 0
    · exact .inr hn
    · exact .inl ⟨fun pins s σ H v u Q I0 r h => by
        obtain ⟨i, a, hi, h⟩ := h
        exact (hg i a hi).choose_spec.1.run pins s σ H v u Q I0 r h⟩
  rcases pgw with pgw | hn
  · refine wp_of (pss_cons (ps_for C.po C.calm pi pgw (pss_wp (X := X) (sts := body)) hs) pss_wp) (ri F.Z B H σ _ S.env fun J B1 H1 e1 w => ?_)
    have S1 := S.ext e1
    refine ⟨fun i m σ H => m = n - i ∧ i ≤ n ∧ ∃ a, q i a ∧ ∃ B, StE { F with B0 := B1 } (I i a) B H σ, ⟨n, by simp, Nat.zero_le _, a0, q0, B1, S1.based.weak h0⟩, ?_⟩
    rintro i m σ2 H2 ⟨rfl, hi, a, qa, B2, T⟩
    by_cases hlt : i < n
    · have wk := (w i B2 H2 T.b0 T.sub T.z).1 hlt
      refine .inr ⟨wk.1, fun σ' H' => ∃ a', q (i + 1) a' ∧ ∃ B', StE { F with B0 := B1 } (I (i + 1) a') B' H' σ', fun σ' H' T' => ⟨n - (i + 1), by omega, rfl, hlt, T'⟩, fun x H' y => ?_⟩
      obtain ⟨B', e2, hx⟩ := wk.2 x H' y
      have T2 := T.ext e2
      refine ⟨i, a, hlt, (hg i a hlt).choose_spec.2 F.Z B' H' σ2 x _ T2.sub T2.z T2.len hx fun σ3 b => ?_⟩
      refine turn i a hlt qa { F with B0 := B1 } B' H' σ3 _ (T2.bound b) ⟨fun G' B4 H4 σ4 T4 ⟨a', q', w4⟩ => ⟨a', q', B4, T4.weak w4⟩, fun G' B4 H4 σ4 T4 w4 => w4 F B4 H4 σ4 D (S1.rebase T4) E, fun G' B4 H4 σ4 T4 ⟨a', q', w4⟩ => ⟨a', q', B4, T4.weak w4⟩, fun s G' B4 H4 σ4 v fp T4 p f w4 => E.rt s G' B4 H4 σ4 v fp (S1.rebase T4) p f w4, E.ex.elim fun W hw => ⟨W, hw.1, fun cls G' B4 H4 σ4 T4 w4 => hw.2 cls G' B4 H4 σ4 (S1.rebase T4) w4⟩⟩
    · have en : i = n := by omega
      subst en
      exact .inl ⟨(w i B2 H2 T.b0 T.sub T.z).2 (Nat.le_refl _), hr a qa F B2 H2 σ2 D (S1.rebase T) E⟩
  · subst hn
    refine wp_of (pss_cons (ps_for C.po C.calm pi (g := fun _ _ _ _ => False) ⟨fun _ _ _ _ _ _ _ _ _ h => False.elim h⟩ (pss_wp (X := X) (sts := body)) hs) pss_wp) (ri F.Z B H σ _ S.env fun J B1 H1 e1 w => ?_)
    have S1 := S.ext e1
    refine ⟨fun i m σ H => m = 0 ∧ ∃ B, StE { F with B0 := B1 } (I 0 a0) B H σ, ⟨0, rfl, B1, S1.based.weak h0⟩, fun i m σ H ⟨_, B, T⟩ => .inl ⟨(w i B H T.b0 T.sub T.z).2 (Nat.zero_le _), ?_⟩⟩
    exact hr a0 q0 F B H σ D (S1.rebase T) E
end
/-- one of the things f a, as a kind -/
def kE {K : PySem.W.Frag} {al : Type} (f : al → Kind K c) (q : al → Prop) : Kind K c where
  I := fun B H v fp => ∃ a, q a ∧ (f a).I B H v fp
  stb := fun ⟨a, h, z⟩ e g => ⟨a, h, (f a).stb z e g⟩
  dom := fun ⟨a, _, z⟩ => (f a).dom z
theorem dss_kEI {X : Cx} {G : Env X.K c} {rest : List Stmt} {Ph : Out X.K c → Prop} {al : Type} {f : al → Kind X.K c} {q : al → Prop} {par : Bool} (i : Nat) (a : al) (qa : q a) (h : DSs X (G.set i (some (kn (kE f q) par))) rest Ph) (hG : G[i]? = some (some (kn (f a) par)) := by rfl) : DSs X G rest Ph :=
  dss_cast i (s := kn (f a) par) (s' := kn (kE f q) par) (fun Z B H v fp z => ⟨⟨a, qa, z.1⟩, z.2⟩) h hG rfl
end Dw

namespace Dw
open PySem PySem.Spec L2 PyProof.Rows
variable {c : Cl}
section
variable {X : Cx} {G : Env X.K c} {o i : Expr} {pos : Pos} {kvs : List (Cell × D)} {k : Cell} {n : Nat}
theorem de_xin (C : Bd X n) (hi : DE X G i (cD k)) (ho : DK X G o (kX (c := c) X kvs)) (hm : behindInMarks .In o = false := by first | exact nomark _ (by decide) (by decide) | rfl) : DE X G (.Compare i [.In] [o] pos) (.bool (look kvs k).isSome) := by
  obtain ⟨t, p, r⟩ := ho
  obtain ⟨ti, pi, ri⟩ := hi
  refine ⟨_, pe_cmp (pc_xin (units1 C) pi p) hm, fun Z B H σ Q E g => ri Z B H σ _ E fun u B1 H1 e1 hu => r Z B1 H1 σ _ (E.ext e1) fun v B2 H2 fp e2 ⟨a, ob, xs, h1, h2, h3, h5, h4⟩ => ?_⟩
  obtain ⟨b, rfl, hb⟩ := tp_key hu
  refine ⟨a, b, xs, k, h1, rfl, ⟨⟨ob, .inl h3, h5⟩, h4.keys e2.sub⟩, Same.tup e2.sub (Same.tupD e2.b hb).sq, ?_⟩
  rcases h4.at k with ⟨z, y⟩ | ⟨x, p, w, z, y, _⟩ <;> rw [z] at g <;> rw [y] <;> exact g _ B2 H2 (e1.trans e2) (.bl _)
end
end Dw

namespace Dw
open PySem PySem.Spec L2 PyProof.Rows
variable {c : Cl}
section
variable {X : Cx} {G : Env X.K c} {tg e : Expr} {rest : List Stmt} {Ph : Out X.K c → Prop} {pos : Pos} {k : Nat} {al : Type}
theorem dss_asgE (C : Bd X k) {is : List Nat} {d : al → D} {q : al → Prop} {G' : al → Env X.K c} (he : DX X G e (sE (fun a => sd (d a)) q)) (hg : ∀ a, DG X tg is (sd (d a)) G (G' a)) (h : ∀ a, q a → DSs X (G' a) rest Ph) (hs : swapsWithSole [tg] e pos.line X.env = pure false := by rfl) (hw : swappedStores [tg] e X.env = pure none := by rfl)
    (h1 : (assignEach [tg] X.env).map (·.2) = [assign tg X.env] := by rfl) : DSs X G (.Assign [tg] e pos :: rest) Ph := fun F B H σ D S E => by
  obtain ⟨t, p, r⟩ := he
  have pgw : PG X tg (fun v σ H Q => ∃ a, (hg a).choose v σ H Q) := ⟨fun pins s σ H v u Q I0 r h => by
    obtain ⟨a, h⟩ := h
    exact (hg a).choose_spec.1.run pins s σ H v u Q I0 r h⟩
  refine wp_of (pss_cons (ps_asg p pgw hs hw h1) pss_wp) (r F.Z B H σ _ S.env fun v B' H' fp e hP _ => ?_)
  obtain ⟨a, qa, _, hv⟩ := hP F.Z
  have S' := S.ext e
  exact ⟨a, (hg a).choose_spec.2 F.Z B' H' σ v _ S'.sub S'.z S'.len ⟨rfl, hv⟩ fun σ' b => h a qa F B' H' σ' D (S'.bound b) E⟩
end
end Dw

namespace Dw
open PySem PySem.Spec L2 PyProof.Rows
variable {c : Cl}
def spT (K : PySem.W.Frag) (cs : List (Addr × Addr)) : Sp := fun vs H Q _ => ∃ (a : Addr) (ns : List Int), vs = [.ref a] ∧ (∀ p ∈ cs, H p.2 = some (.tbl #[])) ∧ SqL K H a (ns.map V.int) ∧ ns.length ≤ 63 ∧ ∀ H', Q (.bl true) H'
theorem law_impT {P : Program} {w : World} {K : PySem.W.Frag} {mg : Str → Option Value} {base : Heap} {k : Nat} {f : Addr} {fd : FuncData} {ps : List Str} {cs : List (Addr × Addr)} (ht : ∀ t ∈ c.tabs, ∃ p ∈ cs, p.2 = t.1) (F : FnOk P w K mg base CX0 k f fd ps (spS K (RLaw K c))) : FnOk P w K mg base CX0 k f fd ps (spT K cs) :=
  F.imp fun vs H Q E h => by
    obtain ⟨a, ns, rfl, hT, hS, hl, q⟩ := h
    refine ⟨fun _ => none, [sb (.list (ns.map .int))], sd (.bool true), (fun _ _ q => nomatch q), ⟨fun t tm => ?_, fun _ _ => rfl⟩, .cons ⟨rfl, .lst hS (tmAll_ints ns)⟩ .nil, ⟨ns, hl, rfl, rfl⟩, fun v B' H' fp e p hf => ?_⟩
    · obtain ⟨p, pm, pe⟩ := ht t tm
      exact NdefX.TabN.nil (pe ▸ hT p pm)
    · obtain ⟨_, h⟩ := p (fun _ => none)
      cases h
      exact q H'
theorem law_walkT {l : PySem.W.OpenLaw} {k : Nat} {q : Program} {loose : List Str} {XP : (Str → Option Value) → Heap → Prop} {YP : World → Heap → Prop} {d : DefRec} {K : Params → PySem.W.Frag} {x : Str} (hn : l.most = some 63) (hdf : d.params.defaults = []) (hr : Room k callerA)
    (hY : ∀ (w : World) (h : Heap), YP w h → (K w.params).In h)
    (F : ∀ (w : World) (mg : Str → Option Value) (fa : Addr) (h : Heap), (K w.params).In h → h.Ns mainGlobals mg → mg d.name = some (.ref fa) →
      ∃ (fd : FuncData) (ts : List (Str × Addr × Addr)), (∀ t ∈ ts, (∃ r, (recsOf q).find? (fun e => e.name == t.1) = some r) ∧ PySem.W.tabIn (K w.params) t.1 = some t.2 ∧ (K w.params).lookup t.2.2 = none) ∧ (∀ (s : Shared) (u : Value), BindsTo s fd ⟨[u], []⟩ [(x, u)]) ∧
        ∀ base : Heap, (K w.params).In base → base.Ns mainGlobals mg → (∀ t ∈ ts, LamX.TabB base mg t.2.1 t.2.2) → FnOk l.prog w (K w.params) mg base CX0 k fa fd [x] (spT (K w.params) (ts.map (·.2)))) :
    PySem.W.WalkO q loose XP YP l.row.toRowW d [] (fun f vs => PySem.call f vs) := by
  refine Att.attach_callB hn hdf fun w sA sB mg mb fa oF oP oC oD sa us zs gr yp _ _ _ fm fo fi fl _ fg => ?_
  have inK := hY w _ yp
  obtain ⟨fd, ts, tok, bnd, run⟩ := F w mg fa _ inK gr.T.g fm
  have tb : ∀ p ∈ ts.map (·.2), (PySem.W.CodeHd sB.heap p.1 p.2 ∧ sB.heap.get? p.2 = some (PySem.W.tabObj #[])) ∧ (K w.params).lookup p.2 = none := fun p pm => by
    obtain ⟨t, tm, rfl⟩ := List.mem_map.mp pm
    obtain ⟨⟨r, hr⟩, h1, h2⟩ := tok t tm
    exact ⟨PySem.W.tab_of gr.T inK hr h1, h2⟩
  have le : zs.length ≤ sizeLine := Nat.le_trans fl (by decide)
  exact LamX.law_callTs inK gr.T.g gr.T.b gr.T.builtins gr.T.nolimit fg (fun p pm => (tb p pm).1.2) (fun p pm => (tb p pm).2) (fun p pm => (tb p pm).1.1) gr.T.bmain fo fi le hr
    (fun base i n t => run base i n fun u um => t _ (List.mem_map_of_mem um)) bnd (fun H t s => ⟨sa, zs, rfl, t, s, fl, fun _ => rfl⟩) fun _ _ _ z => z
/-- a def of the top whose code object is named, from the head's facts -/
theorem tabs_two {a b a' b' : Addr} : ∀ t ∈ [(a, ("" : Str)), (b, ("" : Str))], ∃ p ∈ [(a', a), (b', b)], p.2 = t.1 := fun t tm => by
  rcases List.mem_cons.mp tm with rfl | tm
  · exact ⟨_, List.mem_cons_self, rfl⟩
  · rcases List.mem_cons.mp tm with rfl | tm
    · exact ⟨_, List.mem_cons_of_mem _ List.mem_cons_self, rfl⟩
    · cases tm
end Dw

namespace Lw
open PySem L2 PyProof.Rows Dw
def topS (i : Nat) : Stmt := PySem.Challenge.pw_dustwalk_k32_whole_never_stranded.main.body.getD i (.Pass ⟨0, 0, 0, 0⟩)
local macro_rules | `(tactic| walk_at "shp") => `(tactic| first | exact Shp.int _ _ | exact Shp.bool _ _ | exact Shp.none _ | exact Shp.str _ _ (by decide +kernel) | (refine Shp.tuple ?_; walk_at "shp") | (refine Shp.list ?_; walk_at "shp") | exact ShpA.nil _ | (refine ShpA.cons ?_ ?_ <;> walk_at "shp") | (refine Shp.mono (En.shp _) ?_; decide))
local macro_rules | `(tactic| walk_at "wk") => `(tactic| first | exact wk_nil | exact Wk.refl _ | (refine wk_same ?_; walk_at "wk") | (refine wk_none ?_; walk_at "wk"))
local macro_rules | `(tactic| walk_at "sz") => `(tactic| first | exact lt_line (Nat.le_of_ble_eq_true rfl) | exact small (Nat.le_of_ble_eq_true rfl) | (apply lt_line; simp; omega) | (apply small; simp; omega))
local macro_rules | `(tactic| walk_at "call") => `(tactic| first | exact ⟨_, rfl, rfl⟩ | exact ⟨_, _, rfl, rfl⟩ | exact ⟨_, rfl, rfl, by decide⟩ | exact ⟨_, _, rfl, rfl, by decide⟩ | exact ⟨_, _, _, rfl, rfl⟩ | exact ⟨_, _, rfl, rfl, by omega⟩)
section
variable {c : Cl} {P : Program} {w : World} {K : PySem.W.Frag} {mg : Str → Option Value} {base : Heap}
def cellAt (ns : List Int) (k : Int) : Int := ns.getD k.toNat 0
def R_cell_at : List (Slot K c) → Slot K c → Prop := fun ss r => ∃ (ns : List Int) (k : Int), ss = [sb (.list (ns.map .int)), sd (.int k)] ∧ r = sd (.int (cellAt ns k)) ∧ 0 ≤ k
theorem sc_cell_at : FnScope ["_law_script", "_law_k"] ["_law_script", "_law_k"] (defScope (topS 35)) := ⟨rfl, rfl, rfl, by decide +kernel, rfl, by decide +kernel, by decide +kernel⟩
theorem ok_cell_at (F : FunAt K mg "_law_cell_at" (topS 35) ["_law_script", "_law_k"]) (b_len : mg "len" = none) : DefOk (c := c) P w K mg base "_law_cell_at" 1 R_cell_at := by
  refine def_okF F sc_cell_at (fun ss r h => by obtain ⟨ns, k, rfl, rfl, _⟩ := h; rfl) ?_
  rintro f cdv A outer s H E ss r ⟨ns, k, rfl, rfl, hk⟩ C
  refine dss_if (dt_cmp (de_name 1).dr (de_callB cd_lenL b_len (drs_cons (dz_name 0).dr drs_nil)).dr od_lt) (fun h => ?_) (fun h => ?_)
  · have h' : k < (ns.length : Int) := by simpa using h
    refine dss_ret (dr_ix (dz_name 0).dr (de_name 1).dr (ixd_list (d := .int (cellAt ns k)) ?_)).de rfl
    refine atI_of hk ?_
    have hk : k.toNat < ns.length := by omega
    simp [cellAt, hk]
  · refine dss_nil ?_
    refine dss_ret de_int ?_
    have h' : ¬ k < (ns.length : Int) := by simpa using h
    have : cellAt ns k = 0 := getD_of_le _ _ _ (by omega)
    rw [this]
    rfl
end

section
variable {c : Cl} {P : Program} {w : World} {K : PySem.W.Frag} {mg : Str → Option Value} {base : Heap}
def besi (p : Int × Int) (i : Fin 4) : Int × Int := (p.1 + (mv i).1, p.2 + (mv i).2)
def R_beside : List (Slot K c) → Slot K c → Prop := fun ss r => ∃ (y x : Int) (i : Fin 4), ss = [sd (.tuple [.int y, .int x]), sd (.str (sideS i))] ∧ r = sd (enc (besi (y, x) i))
theorem sc_beside : FnScope ["cell", "side", "row", "column"] ["cell", "side"] (defScope (topS 5)) := ⟨rfl, rfl, rfl, by decide +kernel, rfl, by decide +kernel, by decide +kernel⟩
theorem ok_beside (F : FunAt K mg "beside" (topS 5) ["cell", "side"]) (M : MovesAt K c w mg) : DefOk (c := c) P w K mg base "beside" 1 R_beside := by
  refine def_okF F sc_beside (fun ss r h => by obtain ⟨y, x, i, rfl, rfl⟩ := h; rfl) ?_
  rintro f cdv A outer s H E ss r ⟨y, x, i, rfl, rfl⟩ C
  refine dss_asg C (de_moves M i (de_name 1)) (dg_tup C (dgs_cons (dg_name C 2) (dgs_cons (dg_name C 3) dgs_nil))) ?_
  exact dss_ret (de_tup (des_cons (de_bin (dr_ix (de_name 0).dr de_int.dr (ixd_tup rfl)) (de_name 2).dr od_add) (des_cons (de_bin (dr_ix (de_name 0).dr de_int.dr (ixd_tup rfl)) (de_name 3).dr od_add) des_nil))) rfl
end

section
variable {c : Cl} {P : Program} {w : World} {K : PySem.W.Frag} {mg : Str → Option Value} {base : Heap}
def R_can_step : List (Slot K c) → Slot K c → Prop := fun ss r => ∃ (a b : Kn), ss = [sd (enc a), sd (enc b)] ∧ r = sd (.bool (stepK a b))
theorem sc_can_step : FnScope ["ground", "other"] ["ground", "other"] (defScope (topS 6)) := ⟨rfl, rfl, rfl, by decide +kernel, rfl, by decide +kernel, by decide +kernel⟩
theorem ok_can_step (F : FunAt K mg "can_step" (topS 6) ["ground", "other"]) (b_isinstance : mg "isinstance" = none) (b_tuple : mg "tuple" = none) : DefOk (c := c) P w K mg base "can_step" 1 R_can_step := by
  refine def_okF F sc_can_step (fun ss r h => by obtain ⟨p, i, rfl, rfl⟩ := h; rfl) ?_
  rintro f cdv A outer s H E ss r ⟨a, b, rfl, rfl⟩ C
  have no : ∀ {x : Kn}, isiB (tyN (enc x)) "tuple" = true → ∃ k h, x = .gr k h := fun {x} q => by
    cases x with
    | unk => exact absurd q (by decide)
    | wall => exact absurd q (by decide)
    | gr k h => exact ⟨k, h, rfl⟩
  have last : isiB (tyN (enc a)) "tuple" = true → isiB (tyN (enc b)) "tuple" = true → ∃ k h k' h', a = .gr k h ∧ b = .gr k' h' := fun q q' => by
    obtain ⟨k, h, e⟩ := no q
    obtain ⟨k', h', e'⟩ := no q'
    exact ⟨k, h, k', h', e, e'⟩
  refine dss_ret (d := .bool (isiB (tyN (enc a)) "tuple" && (isiB (tyN (enc b)) "tuple" && stepK a b))) (de_and (de_isd "tuple" (de_name 0).dr b_isinstance b_tuple (kn_nodict a)) (fun h => (de_and (de_isd "tuple" (de_name 1).dr b_isinstance b_tuple (kn_nodict b)) (fun h2 => (de_one ?_))))) ?_
  · obtain ⟨k, z, k', z', rfl, rfl⟩ := last h h2
    exact (de_cmp (dr_ix (de_name 1).dr de_int.dr (ixd_tup rfl)) (dr_ix (de_name 0).dr de_int.dr (ixd_tup rfl)) od_le)
  · cases a <;> cases b <;> rfl
end

section
variable {c : Cl} {P : Program} {w : World} {K : PySem.W.Frag} {mg : Str → Option Value} {base : Heap}
theorem dt_cast {X : Cx} {G : Dw.Env X.K c} {e : Expr} {b b' : Bool} (h : DT X G e b) (q : b = b') : DT X G e b' := q ▸ h
theorem de_ixT {X : Cx} {G : Dw.Env X.K c} {a b : Expr} {ds : List D} {i : Int} {d : D} {pos : Pos} (ha : DE X G a (.tuple ds)) (hb : DE X G b (.int i)) (hd : atI ds i = some d) (hs : PlainIx b := by exact fun _ _ => rfl) : DE X G (.Subscript a b pos) d := by
  obtain ⟨ta, pa, ra⟩ := ha
  obtain ⟨tb, pb, rb⟩ := hb
  refine ⟨_, pe_ix ix_tup pa pb hs, fun Z B H σ Q E g => ?_⟩
  refine ra Z B H σ _ E fun v B1 H1 e1 h1 => rb Z B1 H1 σ _ (E.ext e1) fun u B2 H2 e2 h2 => ?_
  cases h2
  cases h1 with
  | tup k1 k2 =>
    have hl := k2.length
    unfold atI at hd
    cases e : ixN ds.length i with
    | none => rw [e] at hd; cases hd
    | some j =>
      rw [e] at hd
      obtain ⟨v, q1, q2⟩ := k2.get (i := j) hd
      exact ⟨_, _, _, v, rfl, rfl, Same.tup e2.sub (Same.tupD e2.b k1).sq, by unfold atI; rw [hl, e]; exact q1, g v B2 H2 (e1.trans e2) (Tp.mono e2.b _ _ q2)⟩
abbrev Grs := List (Cell × D)
abbrev kCh (P : Program) (w : World) (gr tr : Grs) : Kind K c := kOb 6 [("grounds", kDct P w gr), ("trod", kDct P w tr)]
structure ChartM (K : PySem.W.Frag) (c : Cl) : Prop where
  note : MethAt K c 6 "note" "Chart.note" (inClass (topS 33) 1) ["self", "cell", "felt"]
  ground : MethAt K c 6 "ground" "Chart.ground" (inClass (topS 33) 2) ["self", "cell"]
  known : MethAt K c 6 "known" "Chart.known" (inClass (topS 33) 3) ["self"]
  openC : MethAt K c 6 "open_cells" "Chart.open_cells" (inClass (topS 33) 4) ["self"]
  flds : ClsAt K c 6 ["grounds", "trod"]
structure ChartI (K : PySem.W.Frag) (c : Cl) (mg : Str → Option Value) : Prop where
  ex : ∃ C f fd, c 6 = some C ∧ mg "Chart" = some (.ref C) ∧ Mk K C f ∧ Fun K "__init__" "Chart.__init__" (inClass (topS 33) 0) f fd ∧ Binds K fd ["self"] []
def R_chart (P : Program) (w : World) : List (Slot K c) → Kind K c → D → Prop := fun ss k' d => ss = [kn (kOb 6 []) true] ∧ k' = kCh P w [] [] ∧ d = .none
theorem sc_chart : FnScope ["self"] ["self"] (defScope (inClass (topS 33) 0)) := ⟨rfl, rfl, rfl, by decide +kernel, rfl, by decide +kernel, by decide +kernel⟩
theorem new_chart (I : ChartI K c mg) (M : ChartM K c) : NewOkM P w K c mg base 6 "Chart" 1 (R_chart P w) := by
  obtain ⟨C, f, fd, h1, h2, h3, h4, h5⟩ := I.ex
  refine ⟨C, f, fd, ["self"], h1, h2, h3, h5, def_fnM h4 sc_chart (fun ss k' d h => by obtain ⟨rfl, _⟩ := h; rfl) ?_⟩
  rintro cdv A outer s H E ss k0 k' d ⟨rfl, rfl, rfl⟩ hj Cb
  refine dss_fldK M.flds 0 dx_xnew nd_dct ?_
  refine dss_fldK M.flds 0 dx_xnew nd_dct ?_
  exact dss_nil ⟨rfl, rfl⟩
def R_chGround (P : Program) (w : World) : List (Slot K c) → Slot K c → Prop := fun ss r => ∃ gr tr k, ss = [kb (kCh P w gr tr), sd (cD k)] ∧ r = sd ((look gr k).getD (.str "?"))
theorem sc_chGround : FnScope ["self", "cell"] ["self", "cell"] (defScope (inClass (topS 33) 2)) := ⟨rfl, rfl, rfl, by decide +kernel, rfl, by decide +kernel, by decide +kernel⟩
theorem mth_chGround (M : ChartM K c) (g_UNKNOWN : ConstAt K c mg "UNKNOWN" (.str "?")) : MthOk P w K c mg base 6 "ground" 1 (R_chGround P w) := by
  refine mth_ok M.ground sc_chGround (fun ss r h => by obtain ⟨gr, tr, k, rfl, _⟩ := h; rfl) ?_
  rintro f cdv A outer s H E ss r ⟨gr, tr, k, rfl, rfl⟩ C
  exact dss_ret (de_xget2 C (dk_fld M.flds (dk_bor 0) rfl) (de_name 1) (de_const g_UNKNOWN)) rfl
def R_chKnown (P : Program) (w : World) : List (Slot K c) → Slot K c → Prop := fun ss r => ∃ gr tr, ss = [kb (kCh P w gr tr)] ∧ r = so ((sortC (gr.map (·.1))).map cD)
theorem sc_chKnown : FnScope ["self"] ["self"] (defScope (inClass (topS 33) 3)) := ⟨rfl, rfl, rfl, by decide +kernel, rfl, by decide +kernel, by decide +kernel⟩
theorem mth_chKnown (M : ChartM K c) (b_sorted : mg "sorted" = none) : MthOk P w K c mg base 6 "known" 1 (R_chKnown P w) := by
  refine mth_ok M.known sc_chKnown (fun ss r h => by obtain ⟨gr, tr, rfl, _⟩ := h; rfl) ?_
  rintro f cdv A outer s H E ss r ⟨gr, tr, rfl, rfl⟩ C
  exact dss_retX (dx_sortedKeys C (dk_fld M.flds (dk_bor 0) rfl) b_sorted) rfl
abbrev Mp := List (Cell × Gd)
def encM (m : Mp) : Grs := m.map fun p => (p.1, enc p.2)
theorem look_enc (k : Cell) : ∀ m : Mp, look (encM m) k = (look m k).map enc
  | [] => rfl
  | p :: r => by
    show look ((p.1, enc p.2) :: encM r) k = _
    by_cases e : p.1 = k
    · rw [look_pos e, look_pos (show (p.1, (enc p.2 : D)).1 = k from e)]; rfl
    · rw [look_neg e, look_neg (show ¬ (p.1, (enc p.2 : D)).1 = k from e), look_enc k r]
theorem keys_enc (m : Mp) : (encM m).map (·.1) = m.map (·.1) := by rw [encM, List.map_map]; rfl
theorem look_key {α : Type} {m : List (Cell × α)} {k : Cell} (h : k ∈ m.map (·.1)) : ∃ x, look m k = some x := by
  induction m with
  | nil => simp at h
  | cons p r ih =>
    by_cases e : p.1 = k
    · exact ⟨p.2, look_pos e⟩
    · rw [look_neg e]
      refine ih ?_
      rw [List.map_cons] at h
      exact (List.mem_cons.mp h).resolve_left fun z => e z.symm
def Agree (g h : Mp) : Prop := ∀ k x y, look g k = some x → look h k = some y → x = y
def R_clash (P : Program) (w : World) : List (Slot K c) → Slot K c → Prop := fun ss r => ∃ g h, ss = [kb (kDct P w (encM g)), kb (kDct P w (encM h))] ∧ r = sd .none ∧ Agree g h ∧ h.length ≤ 1000
abbrev n_clash : List Str := ["grounds", "others", "cell"]
theorem sc_clash : FnScope n_clash ["grounds", "others"] (defScope (topS 31)) := ⟨rfl, rfl, rfl, by decide +kernel, rfl, by decide +kernel, by decide +kernel⟩
theorem ok_clash (F : FunAt K mg "first_clash" (topS 31) ["grounds", "others"]) (b_sorted : mg "sorted" = none) : DefOk (c := c) P w K mg base "first_clash" 1 (R_clash P w) := by
  refine def_okF F sc_clash (fun ss r h => by obtain ⟨g, h, rfl, _⟩ := h; rfl) ?_
  rintro f cdv A outer s H E ss r ⟨g, h, rfl, rfl, hag, hlen⟩ C
  refine dss_for C (di_list (DX.frozen (dx_sortedKeys C (dk_bor 1) b_sorted))) (fun n => [some (kb (kDct P w (encM g))), some (kb (kDct P w (encM h))), none]) ?wk (is := [2]) (fun n hn => dg_name C 2) (fun n hn => ?turn) ?rest
  case wk => show Wk _ _; walk_at "wk"
  case turn =>
    rw [List.length_map] at hn
    have ed : ((sortC ((encM h).map (·.1))).map cD)[n]?.getD .none = cD ((sortC ((encM h).map (·.1))).getD n (0, 0)) := by
      rw [List.getElem?_map, List.getD_eq_getElem?_getD, List.getElem?_eq_getElem hn]
      rfl
    have hk : (sortC ((encM h).map (·.1))).getD n (0, 0) ∈ h.map (·.1) := by
      rw [← keys_enc, ← sortC_mem, List.getD_eq_getElem?_getD, List.getElem?_eq_getElem hn]
      exact List.getElem_mem hn
    rw [ed]
    generalize (sortC ((encM h).map (·.1))).getD n (0, 0) = k at hk
    obtain ⟨y, hy⟩ := look_key hk
    have hy' : look (encM h) k = some (enc y) := by rw [look_enc, hy]; rfl
    refine dss_skip (b := false) ?_ rfl ?_
    · cases hx : look g k with
      | none =>
        have hx' : look (encM g) k = none := by rw [look_enc, hx]; rfl
        refine dt_cast (DW.dt (dw_and (k' := false) (dt_xin C (de_name 2) (dk_bor 0)) fun z => ?_)) (Bool.and_false _)
        rw [hx'] at z
        cases z
      | some x =>
        have hx' : look (encM g) k = some (enc x) := by rw [look_enc, hx]; rfl
        have e := hag k x y hx hy
        refine dt_cast (DW.dt (dw_and (dt_xin C (de_name 2) (dk_bor 0)) fun z => dw_and1 (dt_cmp (DE.dr (de_xget C (dk_bor 0) (de_name 2) hx')) (DE.dr (de_xget C (dk_bor 1) (de_name 2) hy')) (od_neE C x y)))) ?_
        rw [e]
        simp
    refine dss_nil ?_
    show Wk _ _
    walk_at "wk"
  case rest =>
  exact dss_ret de_non rfl
theorem fil_filter {α : Type} (p : α → Bool) (f : α → D) (d : α) (l : List α) : fil (fun i => p (l.getD i d)) (fun i => f (l.getD i d)) l.length = (l.filter p).map f := by
  have e := range_map (fun x : α => x) d l
  rw [List.map_id'] at e
  unfold fil
  have e2 : (l.filter p).map f = (((List.range l.length).map fun i => l.getD i d).filter p).map f := by rw [e]
  rw [e2, List.filter_map, List.map_map]
  rfl
def openC (g : Mp) : List Cell := (sortC (g.map (·.1))).filter fun k => !isN (((look g k).map fun x => (enc x : D)).getD .none)
def R_chOpen (P : Program) (w : World) : List (Slot K c) → Slot K c → Prop := fun ss r => ∃ g tr, ss = [kb (kCh P w (encM g) tr)] ∧ r = so ((openC g).map cD) ∧ g.length ≤ 1000
abbrev n_open : List Str := ["self", "cell"]
theorem sc_chOpen : FnScope n_open ["self"] (defScope (inClass (topS 33) 4)) := ⟨rfl, rfl, rfl, by decide +kernel, rfl, by decide +kernel, by decide +kernel⟩
theorem sortC_len (l : List Cell) : (sortC l).length = l.length := (sortC_perm l).length_eq
theorem mth_chOpen (M : ChartM K c) (M_known : MthOk P w K c mg base 6 "known" 1 (R_chKnown P w)) : MthOk P w K c mg base 6 "open_cells" 2 (R_chOpen P w) := by
  refine mth_ok M.openC sc_chOpen (fun ss r h => by obtain ⟨g, tr, rfl, _⟩ := h; rfl) ?_
  rintro f cdv A outer s H E ss r ⟨g, tr, rfl, rfl, hl⟩ C
  have len : ((sortC ((encM g).map (·.1))).map cD).length = g.length := by rw [List.length_map, sortC_len, keys_enc, List.length_map]
  have key : ∀ i, i < g.length → (sortC ((encM g).map (·.1))).getD i (0, 0) ∈ g.map (·.1) := fun i hi => by
    have hi' : i < (sortC ((encM g).map (·.1))).length := by rw [sortC_len, keys_enc, List.length_map]; exact hi
    rw [← keys_enc, ← sortC_mem, List.getD_eq_getElem?_getD, List.getElem?_eq_getElem hi']
    exact List.getElem_mem hi'
  have at_ : ∀ i, i < g.length → ((sortC ((encM g).map (·.1))).map cD)[i]?.getD .none = cD ((sortC ((encM g).map (·.1))).getD i (0, 0)) := fun i hi => by
    have hi' : i < (sortC ((encM g).map (·.1))).length := by rw [sortC_len, keys_enc, List.length_map]; exact hi
    rw [List.getElem?_map, List.getD_eq_getElem?_getD, List.getElem?_eq_getElem hi']
    rfl
  have res : fil (fun i => !isN (((look g ((sortC ((encM g).map (·.1))).getD i (0, 0))).map fun x => (enc x : D)).getD .none)) (fun i => cD ((sortC ((encM g).map (·.1))).getD i (0, 0))) ((sortC ((encM g).map (·.1))).map cD).length = (openC g).map cD := by
    have := fil_filter (fun k => !isN (((look g k).map fun x => (enc x : D)).getD .none)) cD (0, 0) (sortC ((encM g).map (·.1)))
    rw [List.length_map, this, keys_enc]
    rfl
  refine dss_retX (s := so ((openC g).map cD)) ?_ rfl
  rw [← res]
  refine dx_lc1 C 1 (di_list (DX.frozen (dx_methK0 M_known (C.room.mono (by decide)) (dk_bor 0) ⟨_, _, rfl, rfl⟩))) (blkOk_by (N := n_open) (sc := defScope (inClass (topS 33) 4)) (by decide +kernel)) _ _ (by rw [len]; exact lt_line (by omega)) (fun j i hi => ?_) (fun j i hi hb => ?_)
  · rw [len] at hi
    obtain ⟨x, hx⟩ := look_key (key i hi)
    have hx' : look (encM g) ((sortC ((encM g).map (·.1))).getD i (0, 0)) = some (enc x) := by rw [look_enc, hx]; rfl
    rw [hx, at_ i hi]
    exact dts_one (dt_cmp (DE.dr (de_xget C.blk (dk_fld M.flds (dk_bor 0) rfl) (de_name 1) hx')) (DE.dr de_non) od_isnot)
  · rw [len] at hi
    rw [at_ i hi]
    exact de_name 1
structure Bx where
  t : Int
  l : Int
  b : Int
  r : Int
def Bx.d (x : Bx) : D := .tuple [.int x.t, .int x.l, .int x.b, .int x.r]
def Bx.has (x : Bx) (k : Cell) : Bool := (decide (x.t ≤ k.1) && decide (k.1 ≤ x.b)) && (decide (x.l ≤ k.2) && decide (k.2 ≤ x.r))
def R_lin : List (Slot K c) → Slot K c → Prop := fun ss r => ∃ (x : Bx) (k : Cell), ss = [sd x.d, sd (cD k)] ∧ r = sd (.bool (x.has k))
abbrev n_lin : List Str := ["_law_box", "_law_cell"]
theorem sc_lin : FnScope n_lin ["_law_box", "_law_cell"] (defScope (topS 43)) := ⟨rfl, rfl, rfl, by decide +kernel, rfl, by decide +kernel, by decide +kernel⟩
theorem ok_lin (F : FunAt K mg "_law_in" (topS 43) ["_law_box", "_law_cell"]) : DefOk (c := c) P w K mg base "_law_in" 1 R_lin := by
  refine def_okF F sc_lin (fun ss r h => by obtain ⟨x, k, rfl, _⟩ := h; rfl) ?_
  rintro f cdv A outer s H E ss r ⟨x, k, rfl, rfl⟩ C
  exact dss_ret (de_and (de_chain (dr_ix (DE.dr (de_name 0)) (DE.dr de_int) (ixd_tup rfl)) (dr_ix (DE.dr (de_name 1)) (DE.dr de_int) (ixd_tup rfl)) od_le (fun _ => (dr_ix (DE.dr (de_name 0)) (DE.dr de_int) (ixd_tup rfl))) (fun _ => od_le)) (fun h1 => (de_one (de_chain (dr_ix (DE.dr (de_name 0)) (DE.dr de_int) (ixd_tup rfl)) (dr_ix (DE.dr (de_name 1)) (DE.dr de_int) (ixd_tup rfl)) od_le (fun _ => (dr_ix (DE.dr (de_name 0)) (DE.dr de_int) (ixd_tup rfl))) (fun _ => od_le))))) rfl
inductive Am where
  | all | box | out
def Am.wd : Am → Str
  | .all => "all"
  | .box => "box"
  | .out => "out"
abbrev arD (m : Am) (x : Bx) : D := .tuple [.str m.wd, x.d]
def arHas (m : Am) (x : Bx) (k : Cell) : Bool := match m with
  | .all => true
  | .box => x.has k
  | .out => !x.has k
def R_lhas : List (Slot K c) → Slot K c → Prop := fun ss r => ∃ (m : Am) (x : Bx) (k : Cell), ss = [sd (arD m x), sd (cD k)] ∧ r = sd (.bool (arHas m x k))
abbrev n_lhas : List Str := ["_law_area_here", "_law_cell"]
theorem sc_lhas : FnScope n_lhas ["_law_area_here", "_law_cell"] (defScope (topS 44)) := ⟨rfl, rfl, rfl, by decide +kernel, rfl, by decide +kernel, by decide +kernel⟩
theorem ok_lhas (F : FunAt K mg "_law_has" (topS 44) ["_law_area_here", "_law_cell"]) (F_in : DefOk (c := c) P w K mg base "_law_in" 1 R_lin) : DefOk (c := c) P w K mg base "_law_has" 2 R_lhas := by
  refine def_okF F sc_lhas (fun ss r h => by obtain ⟨m, x, k, rfl, _⟩ := h; rfl) ?_
  rintro f cdv A outer s H E ss r ⟨m, x, k, rfl, rfl⟩ C
  cases m with
  | all => exact dss_ifT (dt_cmp (dr_ix (DE.dr (de_name 0)) (DE.dr de_int) (ixd_tup rfl)) (DE.dr de_str) (od_eqS (y := "all") C)) (by decide +kernel) (dss_ret de_bl rfl)
  | box =>
    refine dss_skip (dt_cmp (dr_ix (DE.dr (de_name 0)) (DE.dr de_int) (ixd_tup rfl)) (DE.dr de_str) (od_eqS (y := "box") C)) (by decide +kernel) ?_
    refine dss_ret (de_cmp (DE.dr (de_call F_in (C.room.mono (by decide)) (das_cons (DE.da (de_ixT (d := x.d) (de_name 0) de_int rfl)) (das_cons (DE.da (de_name 1)) das_nil)) ⟨x, k, rfl, rfl⟩)) (DE.dr (de_cmp (dr_ix (DE.dr (de_name 0)) (DE.dr de_int) (ixd_tup rfl)) (DE.dr de_str) (od_eqS (y := "box") C))) (od_eqE C (x.has k) true)) ?_
    show _ = _
    unfold arHas
    cases x.has k <;> rfl
  | out =>
    refine dss_skip (dt_cmp (dr_ix (DE.dr (de_name 0)) (DE.dr de_int) (ixd_tup rfl)) (DE.dr de_str) (od_eqS (y := "out") C)) (by decide +kernel) ?_
    refine dss_ret (de_cmp (DE.dr (de_call F_in (C.room.mono (by decide)) (das_cons (DE.da (de_ixT (d := x.d) (de_name 0) de_int rfl)) (das_cons (DE.da (de_name 1)) das_nil)) ⟨x, k, rfl, rfl⟩)) (DE.dr (de_cmp (dr_ix (DE.dr (de_name 0)) (DE.dr de_int) (ixd_tup rfl)) (DE.dr de_str) (od_eqS (y := "out") C))) (od_eqE C (x.has k) false)) ?_
    show _ = _
    unfold arHas
    cases x.has k <;> rfl
end

end Lw

namespace Lw
open PySem L2 PyProof.Rows Dw
local macro_rules | `(tactic| walk_at "shp") => `(tactic| first | exact Shp.int _ _ | exact Shp.bool _ _ | exact Shp.none _ | exact Shp.str _ _ (by decide +kernel) | (refine Shp.tuple ?_; walk_at "shp") | (refine Shp.list ?_; walk_at "shp") | exact ShpA.nil _ | (refine ShpA.cons ?_ ?_ <;> walk_at "shp") | (refine Shp.mono (En.shp _) ?_; decide))
local macro_rules | `(tactic| walk_at "wk") => `(tactic| first | exact wk_nil | exact Wk.refl _ | (refine wk_same ?_; walk_at "wk") | (refine wk_none ?_; walk_at "wk"))
local macro_rules | `(tactic| walk_at "sz") => `(tactic| first | exact lt_line (Nat.le_of_ble_eq_true rfl) | exact small (Nat.le_of_ble_eq_true rfl) | (apply lt_line; simp; omega) | (apply small; simp; omega))
local macro_rules | `(tactic| walk_at "call") => `(tactic| first | exact ⟨_, rfl, rfl⟩ | exact ⟨_, _, rfl, rfl⟩ | exact ⟨_, rfl, rfl, by decide⟩ | exact ⟨_, _, rfl, rfl, by decide⟩ | exact ⟨_, _, _, rfl, rfl⟩ | exact ⟨_, _, rfl, rfl, by omega⟩)
section
variable {c : Cl} {P : Program} {w : World} {K : PySem.W.Frag} {mg : Str → Option Value} {base : Heap}
/-- five cells, each with its ground -/
def five (k : Cell) (f : Cell → Gd) : Mp := [(k, f k), (besi k 0, f (besi k 0)), (besi k 1, f (besi k 1)), (besi k 2, f (besi k 2)), (besi k 3, f (besi k 3))]
def feltL (k : Cell) (f : Cell → Gd) : List D := [enc (f k), enc (f (besi k 0)), enc (f (besi k 1)), enc (f (besi k 2)), enc (f (besi k 3))]
theorem five_nd (k : Cell) (f : Cell → Gd) : ((five k f).map (·.1)).Nodup := by
  obtain ⟨y, x⟩ := k
  simp [five, besi, mv]
  omega
theorem put_encM (m : Mp) (k : Cell) (g : Gd) : put (encM m) k (enc g) = encM (put m k g) := by
  unfold put
  rw [look_enc, Option.isSome_map]
  by_cases h : (look m k).isSome = true
  · rw [if_pos h, if_pos h, encM, encM, List.map_map, List.map_map]
    refine List.map_congr_left fun p _ => ?_
    show (if p.1 = k then (p.1, (enc g : D)) else (p.1, enc p.2)) = ((if p.1 = k then (p.1, g) else p).1, enc (if p.1 = k then (p.1, g) else p).2)
    split <;> rfl
  · rw [if_neg h, if_neg h, encM, encM, List.map_append]; rfl
theorem upds_encM (more : Mp) : ∀ m : Mp, upds (encM m) (encM more) = encM (upds m more) := by
  induction more with
  | nil => intro m; rfl
  | cons p r ih =>
    intro m
    show upds (put (encM m) p.1 (enc p.2)) (encM r) = encM (upds (put m p.1 p.2) r)
    rw [put_encM, ih]
theorem look_no {α : Type} {m : List (Cell × α)} {k : Cell} (h : k ∉ m.map (·.1)) : look m k = none := by
  induction m with
  | nil => rfl
  | cons p r ih =>
    rw [List.map_cons, List.mem_cons, not_or] at h
    rw [look_neg (fun e => h.1 e.symm), ih h.2]
theorem five_step (k : Cell) (f : Cell → Gd) {i : Nat} (hi : i < 4) : put ((five k f).take (i + 1)) (besi k (f4 i)) (f (besi k (f4 i))) = (five k f).take (i + 2) := by
  have nd := five_nd k f
  rw [put_new]
  · rcases lt4 hi with rfl | rfl | rfl | rfl <;> rfl
  · refine look_no fun h => ?_
    rw [List.map_take] at h
    have e : ((five k f).map (·.1))[i + 1]? = some (besi k (f4 i)) := by rcases lt4 hi with rfl | rfl | rfl | rfl <;> rfl
    obtain ⟨j, hj, e2⟩ := List.getElem_of_mem h
    rw [List.getElem_take] at e2
    rw [List.length_take] at hj
    obtain ⟨hi2, e3⟩ := List.getElem?_eq_some_iff.mp e
    exact List.pairwise_iff_getElem.mp nd j (i + 1) (by omega) hi2 (by omega) (by rw [e2]; exact e3.symm)
abbrev sidesL : List D := [.str "n", .str "e", .str "s", .str "w"]
def R_around (P : Program) (w : World) : List (Slot K c) → Slot K c → Prop := fun ss r => ∃ k f, ss = [sd (cD k), sd (.list (feltL k f))] ∧ r = kn (kDct P w (encM (five k f)))
abbrev n_around : List Str := ["cell", "felt", "found", "side", "ground"]
theorem sc_around : FnScope n_around ["cell", "felt"] (defScope (topS 32)) := ⟨rfl, rfl, rfl, by decide +kernel, rfl, by decide +kernel, by decide +kernel⟩
theorem ok_around (F : FunAt K mg "around" (topS 32) ["cell", "felt"]) (F_beside : DefOk (c := c) P w K mg base "beside" 1 R_beside) (g_SIDES : ConstAt K c mg "SIDES" sidesD) (b_zip : mg "zip" = none) : DefOk (c := c) P w K mg base "around" 2 (R_around P w) := by
  refine def_okF F sc_around (fun ss r h => by obtain ⟨k, f, rfl, _⟩ := h; rfl) ?_
  rintro fa cdv A outer s H E ss r ⟨k, f, rfl, rfl⟩ C
  refine dss_setX C 2 (dx_xnew1 C (de_name 0) (DR.de (dr_ix (DE.dr (de_name 1)) (DE.dr de_int) (ixd_list rfl)) (gd_nodictL _))) ?_
  refine dss_for C (di_zM (n := 4) (de_const g_SIDES) (DX.frozen (dx_sliceF (de_name 1) (do_some de_int) do_none)) rfl rfl b_zip) (fun n => [some (sd (cD k)), some (sd (.list (feltL k f))), some (kn (kDct P w (encM ((five k f).take (n + 1))))), none, none]) ?wk (is := [3, 4]) (fun n hn => dg_tup C (dgs_cons (dg_name C 3) (dgs_cons (dg_name C 4) dgs_nil))) (fun n hn => ?turn) ?rest
  case wk => show Wk _ _; walk_at "wk"
  case turn =>
    show DSs _ [_, _, _, some (sd (sidesL[n]?.getD .none)), some (sd ((feltL k f).tail[n]?.getD .none))] _ _
    have e1 : sidesL[n]?.getD .none = .str (sideS (f4 n)) := by rcases lt4 hn with rfl | rfl | rfl | rfl <;> rfl
    have e2 : (feltL k f).tail[n]?.getD .none = enc (f (besi k (f4 n))) := by rcases lt4 hn with rfl | rfl | rfl | rfl <;> rfl
    rw [e1, e2]
    have hl : (encM ((five k f).take (n + 1))).length < sizeLine := lt_line (by rw [encM, List.length_map, List.length_take]; exact Nat.le_trans (Nat.min_le_right _ _) (by show 5 ≤ 1000000; decide))
    refine dss_xput C 2 (k := besi k (f4 n)) (de_name 4) (de_call F_beside (C.room.mono (by decide)) (das_cons (DE.da (de_name 0)) (das_cons (DE.da (de_name 3)) das_nil)) ⟨k.1, k.2, f4 n, rfl, rfl⟩) (dss_nil ?_) hl
    rw [put_encM, five_step k f hn]
    show Wk _ _
    walk_at "wk"
  case rest =>
  exact dss_retO 2 rfl
end

end Lw

namespace Lw
open PySem L2 PyProof.Rows Dw
local macro_rules | `(tactic| walk_at "shp") => `(tactic| first | exact Shp.int _ _ | exact Shp.bool _ _ | exact Shp.none _ | exact Shp.str _ _ (by decide +kernel) | (refine Shp.tuple ?_; walk_at "shp") | (refine Shp.list ?_; walk_at "shp") | exact ShpA.nil _ | (refine ShpA.cons ?_ ?_ <;> walk_at "shp") | (refine Shp.mono (En.shp _) ?_; decide))
local macro_rules | `(tactic| walk_at "wk") => `(tactic| first | exact wk_nil | exact Wk.refl _ | (refine wk_same ?_; walk_at "wk") | (refine wk_none ?_; walk_at "wk"))
local macro_rules | `(tactic| walk_at "sz") => `(tactic| first | exact lt_line (Nat.le_of_ble_eq_true rfl) | exact small (Nat.le_of_ble_eq_true rfl) | (apply lt_line; simp; omega) | (apply small; simp; omega))
local macro_rules | `(tactic| walk_at "call") => `(tactic| first | exact ⟨_, rfl, rfl⟩ | exact ⟨_, _, rfl, rfl⟩ | exact ⟨_, rfl, rfl, by decide⟩ | exact ⟨_, _, rfl, rfl, by decide⟩ | exact ⟨_, _, _, rfl, rfl⟩ | exact ⟨_, _, rfl, rfl, by omega⟩)
section
variable {c : Cl} {P : Program} {w : World} {K : PySem.W.Frag} {mg : Str → Option Value} {base : Heap}
def hC (k : Cell) : Int := reduceHash (Builtin.Tuple.tupleHashOf [hashInt k.1, hashInt k.2])
theorem hC_eq (k : Cell) : hashC P w k = hC k := rfl
theorem dock_five (f : Cell → Gd) : ((encM (five (0, 0) f)).map fun q => hashC P w q.1).Nodup := by
  simp only [five, encM, List.map_cons, List.map_nil, hC_eq]
  decide +kernel
def R_note (P : Program) (w : World) : List (Slot K c) → Kind K c → D → Prop := fun ss k' d => ∃ (g : Mp) (tr : Grs) (k : Cell) (f : Cell → Gd), ss = [kn (kCh P w (encM g) tr) true, sd (cD k), sd (.list (feltL k f))] ∧ k' = kCh P w (encM (upds g (five k f))) (put tr k (.bool true)) ∧ d = .none ∧
  Agree g (five k f) ∧ (g ≠ [] ∨ k = (0, 0)) ∧ g.length ≤ 100000 ∧ tr.length ≤ 100000
abbrev n_note : List Str := ["self", "cell", "felt", "others", "clash"]
theorem sc_note : FnScope n_note ["self", "cell", "felt"] (defScope (inClass (topS 33) 1)) := ⟨rfl, rfl, rfl, by decide +kernel, rfl, by decide +kernel, by decide +kernel⟩
theorem mth_note (M : ChartM K c) (F_around : DefOk (c := c) P w K mg base "around" 2 (R_around P w)) (F_clash : DefOk (c := c) P w K mg base "first_clash" 1 (R_clash P w)) : MthOkM P w K c mg base 6 "note" 3 (R_note P w) := by
  refine mth_okM M.note sc_note (fun ss k' d h => by obtain ⟨g, tr, k, f, rfl, _⟩ := h; rfl) ?_
  rintro fa cdv A outer s H E ss k0 k' d ⟨g, tr, k, f, rfl, rfl, rfl, hag, hk, hl1, hl2⟩ hj C
  refine dss_setX C 3 (dx_call F_around (C.room.mono (by decide)) (das_cons (DE.da (de_name 1)) (das_cons (DE.da (de_name 2)) das_nil)) ⟨k, f, rfl, rfl⟩) ?_
  refine dss_set C 4 (de_call F_clash (C.room.mono (by decide)) (das_cons (DK.da (dk_fld M.flds (dk_own 0) rfl)) (das_cons (DK.da (dk_own 3)) das_nil)) ⟨g, five k f, rfl, rfl, hag, (by show 5 ≤ 1000; decide)⟩) ?_
  refine dss_skip (dt_cmp (DE.dr (de_name 4)) (DE.dr de_non) od_isnot) rfl ?_
  refine dss_mut 0 (DMD.dm (dmd_updF (kvs := encM g) M.flds C 0 (upd_arg 3 0) (hk.imp (fun z e => z (List.map_eq_nil_iff.mp e)) fun z => (by rw [z]; exact dock_five f)) ?len rfl)) ?_
  case len =>
    rw [encM, List.length_map]
    refine small ?_
    show g.length + 5 ≤ 1000000
    omega
  refine dss_xputF (kvs := tr) M.flds C 0 de_bl (de_name 1) (dss_nil ⟨rfl, ?_⟩) (lt_line (by omega)) rfl
  rw [upds_encM]
  rfl
end
section
variable {c : Cl} {P : Program} {w : World} {K : PySem.W.Frag} {mg : Str → Option Value} {base : Heap}
def Am.num : Am → Int
  | .all => 0
  | .box => 1
  | .out => 4
abbrev Bx.f (x : Bx) : List (D × D) := [(.str "top", .int x.t), (.str "left", .int x.l), (.str "bottom", .int x.b), (.str "right", .int x.r)]
def Am.flds (m : Am) (x : Bx) : List (D × D) := match m with
  | .all => []
  | .box => x.f
  | .out => [(.str "one", obD 1 x.f)]
abbrev arE (m : Am) (x : Bx) : D := obD m.num (m.flds x)
theorem Am.noHas (m : Am) (x : Bx) : fldD (m.flds x) "has" = none := by cases m <;> rfl
def R_has (n : Int) : List (Slot K c) → Slot K c → Prop := fun ss r => ∃ (m : Am) (x : Bx) (k : Cell), ss = [sd (arE m x), sd (cD k)] ∧ r = sd (.bool (arHas m x k)) ∧ m.num = n
structure Meths (K : PySem.W.Frag) (c : Cl) : Prop where
  ev : MethAt K c 0 "has" "Everywhere.has" (inClass (topS 26) 0) ["self", "cell"]
  bx : MethAt K c 1 "has" "Box.has" (inClass (topS 27) 1) ["self", "cell"]
  ou : MethAt K c 4 "has" "Outside.has" (inClass (topS 28) 1) ["self", "cell"]
  tbx : ClsAt K c 1 ["top", "left", "bottom", "right"]
  tou : ClsAt K c 4 ["one"]
theorem sc_h2 : FnScope ["self", "cell"] ["self", "cell"] (defScope (inClass (topS 26) 0)) := ⟨rfl, rfl, rfl, by decide +kernel, rfl, by decide +kernel, by decide +kernel⟩
theorem sc_h3 : FnScope ["self", "cell"] ["self", "cell"] (defScope (inClass (topS 27) 1)) := ⟨rfl, rfl, rfl, by decide +kernel, rfl, by decide +kernel, by decide +kernel⟩
theorem sc_h6 : FnScope ["self", "cell"] ["self", "cell"] (defScope (inClass (topS 28) 1)) := ⟨rfl, rfl, rfl, by decide +kernel, rfl, by decide +kernel, by decide +kernel⟩
theorem R_has_len {n : Int} {ps : List Str} (h2 : ps.length = 2) : ∀ (ss : List (Slot K c)) (r : Slot K c), R_has n ss r → ss.length = ps.length := fun ss r h => by
  obtain ⟨a, y, x, rfl, _⟩ := h
  rw [h2]
  rfl
theorem has_ok (T : Meths K c) (m : Am) : MthOk P w K c mg base m.num "has" 2 (R_has m.num) := by
  have bx : MthOk P w K c mg base 1 "has" 1 (R_has 1) := by
    refine mth_ok T.bx sc_h3 (R_has_len rfl) ?_
    rintro f cdv A outer s H E ss r ⟨m, x, k, rfl, rfl, hm⟩ C
    cases m <;> try (have h0 := hm; simp [Am.num] at h0; done)
    exact dss_ret (de_and (de_chain (DE.dr (de_fld T.tbx (de_name 0) rfl)) (dr_ix (DE.dr (de_name 1)) (DE.dr de_int) (ixd_tup rfl)) od_le (fun _ => (DE.dr (de_fld T.tbx (de_name 0) rfl))) (fun _ => od_le)) (fun h1 => (de_one (de_chain (DE.dr (de_fld T.tbx (de_name 0) rfl)) (dr_ix (DE.dr (de_name 1)) (DE.dr de_int) (ixd_tup rfl)) od_le (fun _ => (DE.dr (de_fld T.tbx (de_name 0) rfl))) (fun _ => od_le))))) rfl
  have up : ∀ {n : Int}, MthOk P w K c mg base n "has" 1 (R_has n) → MthOk P w K c mg base n "has" 2 (R_has n) := fun ⟨C, f, fd, ps, h1, h2, h3, h4, h5⟩ => ⟨C, f, fd, ps, h1, h2, h3, h4, h5.mono (by decide)⟩
  cases m with
  | all =>
    refine up (mth_ok T.ev sc_h2 (R_has_len rfl) ?_)
    rintro f cdv A outer s H E ss r ⟨m, x, k, rfl, rfl, hm⟩ C
    cases m <;> try (have h0 := hm; simp [Am.num] at h0; done)
    exact dss_ret de_bl rfl
  | box => exact up bx
  | out =>
    refine mth_ok T.ou sc_h6 (R_has_len rfl) ?_
    rintro f cdv A outer s H E ss r ⟨m, x, k, rfl, rfl, hm⟩ C
    cases m <;> try (have h0 := hm; simp [Am.num] at h0; done)
    exact dss_ret (de_not (de_meth bx (C.room.mono (by decide)) (de_fld T.tou (de_name 0) rfl) (das_cons (DE.da (de_name 1)) das_nil) ⟨.box, x, k, rfl, rfl, rfl⟩ rfl)) rfl
end

end Lw

namespace Lw
open PySem L2 PyProof.Rows Dw
local macro_rules | `(tactic| walk_at "shp") => `(tactic| first | exact Shp.int _ _ | exact Shp.bool _ _ | exact Shp.none _ | exact Shp.str _ _ (by decide +kernel) | (refine Shp.tuple ?_; walk_at "shp") | (refine Shp.list ?_; walk_at "shp") | exact ShpA.nil _ | (refine ShpA.cons ?_ ?_ <;> walk_at "shp") | (refine Shp.mono (En.shp _) ?_; decide))
local macro_rules | `(tactic| walk_at "wk") => `(tactic| first | exact wk_nil | exact Wk.refl _ | (refine wk_same ?_; walk_at "wk") | (refine wk_none ?_; walk_at "wk"))
local macro_rules | `(tactic| walk_at "sz") => `(tactic| first | exact lt_line (Nat.le_of_ble_eq_true rfl) | exact small (Nat.le_of_ble_eq_true rfl) | (apply lt_line; simp; omega) | (apply small; simp; omega))
local macro_rules | `(tactic| walk_at "call") => `(tactic| first | exact ⟨_, rfl, rfl⟩ | exact ⟨_, _, rfl, rfl⟩ | exact ⟨_, rfl, rfl, by decide⟩ | exact ⟨_, _, rfl, rfl, by decide⟩ | exact ⟨_, _, _, rfl, rfl⟩ | exact ⟨_, _, rfl, rfl, by omega⟩)
def knOf (m : Mp) (k : Cell) : Kn := match look m k with
  | none => .unk
  | some .wall => .wall
  | some (.gr u h) => .gr u h
def costK : Kn → Int
  | .gr u _ => u
  | _ => 0
def stepB (m : Mp) (a : Am) (x : Bx) (p : Cell) (i : Fin 4) : Bool := arHas a x (besi p i) && stepK (knOf m p) (knOf m (besi p i))
abbrev all4 : List (Fin 4) := [0, 1, 2, 3]
def stepsF (m : Mp) (a : Am) (x : Bx) (p : Cell) : List (Fin 4) := if arHas a x p then all4.filter (stepB m a x p) else []
abbrev stD (m : Mp) (p : Cell) (i : Fin 4) : D := .tuple [.str (sideS i), cD (besi p i), .int (costK (knOf m (besi p i)))]
abbrev asD (m : Mp) (q : Cell × Fin 4) : D := .tuple [cD q.1, .str (sideS q.2), cD (besi q.1 q.2), .int (costK (knOf m (besi q.1 q.2)))]
def allS (m : Mp) (a : Am) (x : Bx) : List (Cell × Fin 4) := (openC m).flatMap fun p => (stepsF m a x p).map fun i => (p, i)
theorem knOf_enc (m : Mp) (k : Cell) : (look (encM m) k).getD (.str "?") = (enc (knOf m k) : D) := by
  rw [look_enc]
  unfold knOf
  cases look m k with
  | none => rfl
  | some g => cases g <;> rfl
theorem stepK_gr {a b : Kn} (h : stepK a b = true) : ∃ k z k' z', a = .gr k z ∧ b = .gr k' z' := by
  cases a <;> cases b <;> first | exact ⟨_, _, _, _, rfl, rfl⟩ | cases h
theorem stepsF_len (m : Mp) (a : Am) (x : Bx) (p : Cell) : (stepsF m a x p).length ≤ 4 := by
  unfold stepsF
  split
  · exact List.length_filter_le _ _
  · exact Nat.zero_le _
theorem allS_len (m : Mp) (a : Am) (x : Bx) (hl : m.length ≤ 1000) : (allS m a x).length ≤ 4000 := by
  have hk : (openC m).length ≤ m.length := by
    unfold openC
    refine Nat.le_trans (List.length_filter_le _ _) ?_
    rw [sortC_len, List.length_map]
    exact Nat.le_refl _
  have : ∀ l : List Cell, (l.flatMap fun p => (stepsF m a x p).map fun i => (p, i)).length ≤ 4 * l.length := fun l => by
    induction l with
    | nil => exact Nat.le_refl _
    | cons p r ih =>
      rw [List.flatMap_cons, List.length_append, List.length_map, List.length_cons]
      have := stepsF_len m a x p
      omega
  have := this (openC m)
  unfold allS
  omega
section
variable {c : Cl} {P : Program} {w : World} {K : PySem.W.Frag} {mg : Str → Option Value} {base : Heap}
theorem de_cast {X : Cx} {G : Dw.Env X.K c} {e : Expr} {d d' : D} (h : DE X G e d) (q : d = d') : DE X G e d' := q ▸ h
abbrev dockD : D := cD (0, 0)
def R_check : List (Slot K c) → Slot K c → Prop := fun ss r => ∃ (a : Am) (x : Bx), ss = [sd (arE a x)] ∧ r = sd .none ∧ arHas a x (0, 0) = true
theorem sc_check : FnScope ["area"] ["area"] (defScope (topS 12)) := ⟨rfl, rfl, rfl, by decide +kernel, rfl, by decide +kernel, by decide +kernel⟩
theorem ok_check (F : FunAt K mg "check_dock" (topS 12) ["area"]) (F_has : ∀ m : Am, MthOk P w K c mg base m.num "has" 2 (R_has m.num)) (g_DOCK : ConstAt K c mg "DOCK" dockD) : DefOk (c := c) P w K mg base "check_dock" 3 R_check := by
  refine def_okF F sc_check (fun ss r h => by obtain ⟨a, x, rfl, _⟩ := h; rfl) ?_
  rintro fa cdv A outer s H E ss r ⟨a, x, rfl, rfl, hd⟩ C
  refine dss_skip (dt_not (dt_val (de_meth (F_has a) (C.room.mono (by decide)) (de_name 0) (das_cons (DE.da (de_const g_DOCK)) das_nil) ⟨a, x, (0, 0), rfl, rfl, rfl⟩ (a.noHas x)))) (by rw [hd]; rfl) ?_
  exact dss_nil rfl
def R_sf (P : Program) (w : World) : List (Slot K c) → Slot K c → Prop := fun ss r => ∃ (m : Mp) (tr : Grs) (a : Am) (x : Bx) (p : Cell), ss = [kb (kCh P w (encM m) tr), sd (arE a x), sd (cD p)] ∧ r = so ((stepsF m a x p).map (stD m p))
abbrev n_sf : List Str := ["chart", "area", "cell", "found", "side", "other"]
theorem sc_sf : FnScope n_sf ["chart", "area", "cell"] (defScope (topS 13)) := ⟨rfl, rfl, rfl, by decide +kernel, rfl, by decide +kernel, by decide +kernel⟩
theorem ok_sf (F : FunAt K mg "steps_from" (topS 13) ["chart", "area", "cell"]) (F_has : ∀ m : Am, MthOk P w K c mg base m.num "has" 2 (R_has m.num)) (M_ground : MthOk P w K c mg base 6 "ground" 1 (R_chGround P w))
    (F_beside : DefOk (c := c) P w K mg base "beside" 1 R_beside) (F_can : DefOk (c := c) P w K mg base "can_step" 1 R_can_step) (g_SIDES : ConstAt K c mg "SIDES" sidesD) : DefOk (c := c) P w K mg base "steps_from" 3 (R_sf P w) := by
  refine def_okF F sc_sf (fun ss r h => by obtain ⟨m, tr, a, x, p, rfl, _⟩ := h; rfl) ?_
  rintro fa cdv A outer s H E ss r ⟨m, tr, a, x, p, rfl, rfl⟩ C
  refine dss_setX C 3 (dx_lst des_nil) ?_
  refine dss_if (dt_not (dt_val (de_meth (F_has a) (C.room.mono (by decide)) (de_name 1) (das_cons (DE.da (de_name 2)) das_nil) ⟨a, x, p, rfl, rfl, rfl⟩ (a.noHas x)))) (fun hb => ?_) (fun hb => ?_)
  · have : arHas a x p = false := by simpa using hb
    refine dss_retO 3 ?_
    show so [] = so _
    unfold stepsF
    rw [this]
    rfl
  have hp : arHas a x p = true := by simpa using hb
  refine dss_nil ?_
  refine dss_for C (di_sides (de_const g_SIDES)) (fun n => [some (kb (kCh P w (encM m) tr)), some (sd (arE a x)), some (sd (cD p)), some (so (((all4.take n).filter (stepB m a x p)).map (stD m p))), none, none]) ?wk (is := [4]) (fun n hn => dg_name C 4) (fun n hn => ?turn) ?rest
  case wk => show Wk _ _; walk_at "wk"
  case turn =>
    have e4 : all4.take (n + 1) = all4.take n ++ [f4 n] := by rcases lt4 hn with rfl | rfl | rfl | rfl <;> rfl
    rw [e4, List.filter_append, List.map_append]
    refine dss_set C 5 (de_call F_beside (C.room.mono (by decide)) (das_cons (DE.da (de_name 2)) (das_cons (DE.da (de_name 4)) das_nil)) ⟨p.1, p.2, f4 n, rfl, rfl⟩) ?_
    have hl : (((all4.take n).filter (stepB m a x p)).map (stD m p)).length < sizeLine := lt_line (by
      rw [List.length_map]
      exact Nat.le_trans (List.length_filter_le _ _) (by rw [List.length_take]; exact Nat.le_trans (Nat.min_le_right _ _) (by show 4 ≤ 1000000; decide)))
    cases hs : stepB m a x p (f4 n) with
    | true =>
      have hs' := hs
      unfold stepB at hs'
      rw [Bool.and_eq_true] at hs'
      obtain ⟨k1, z1, k2, z2, e1, e2⟩ := stepK_gr hs'.2
      refine dss_ifT (DW.dt (dw_and (dt_val (de_meth (F_has a) (C.room.mono (by decide)) (de_name 1) (das_cons (DE.da (de_name 5)) das_nil) ⟨a, x, besi p (f4 n), rfl, rfl, rfl⟩ (a.noHas x))) (fun h => dw_and1 (dt_val (de_call F_can (C.room.mono (by decide)) (das_cons (DE.da (de_cast (DX.de (dx_methK M_ground (C.room.mono (by decide)) (dk_bor 0) (das_cons (DE.da (de_name 2)) das_nil) ⟨_, _, p, rfl, rfl⟩)) (knOf_enc m p))) (das_cons (DE.da (de_cast (DX.de (dx_methK M_ground (C.room.mono (by decide)) (dk_bor 0) (das_cons (DE.da (de_name 5)) das_nil) ⟨_, _, besi p (f4 n), rfl, rfl⟩)) (knOf_enc m (besi p (f4 n))))) das_nil)) ⟨knOf m p, knOf m (besi p (f4 n)), rfl, rfl⟩))))) hs ?_
      refine dss_mut 3 (dm_append 3 (d := stD m p (f4 n)) (de_tup (des_cons (de_name 4) (des_cons (de_name 5) (des_cons (DR.de (dr_ix (DE.dr (de_cast (DX.de (dx_methK M_ground (C.room.mono (by decide)) (dk_bor 0) (das_cons (DE.da (de_name 5)) das_nil) ⟨_, _, besi p (f4 n), rfl, rfl⟩)) ((knOf_enc m (besi p (f4 n))).trans (congrArg enc e2)))) (DE.dr de_int) (ixd_tup (by rw [e2]; rfl)))) des_nil)))) rfl hl) (dss_nil ?_)
      rw [List.filter_cons_of_pos hs]
      refine dss_nil ?_
      show Wk _ _
      walk_at "wk"
    | false =>
      refine dss_skip (DW.dt (dw_and (dt_val (de_meth (F_has a) (C.room.mono (by decide)) (de_name 1) (das_cons (DE.da (de_name 5)) das_nil) ⟨a, x, besi p (f4 n), rfl, rfl, rfl⟩ (a.noHas x))) (fun h => dw_and1 (dt_val (de_call F_can (C.room.mono (by decide)) (das_cons (DE.da (de_cast (DX.de (dx_methK M_ground (C.room.mono (by decide)) (dk_bor 0) (das_cons (DE.da (de_name 2)) das_nil) ⟨_, _, p, rfl, rfl⟩)) (knOf_enc m p))) (das_cons (DE.da (de_cast (DX.de (dx_methK M_ground (C.room.mono (by decide)) (dk_bor 0) (das_cons (DE.da (de_name 5)) das_nil) ⟨_, _, besi p (f4 n), rfl, rfl⟩)) (knOf_enc m (besi p (f4 n))))) das_nil)) ⟨knOf m p, knOf m (besi p (f4 n)), rfl, rfl⟩))))) hs ?_
      refine dss_nil ?_
      rw [List.filter_cons_of_neg (by rw [hs]; exact Bool.false_ne_true)]
      rw [List.filter_nil, List.map_nil, List.append_nil]
      show Wk _ _
      walk_at "wk"
  case rest =>
  refine dss_retO 3 ?_
  show so _ = so _
  unfold stepsF
  rw [hp, if_pos rfl]
  rfl
def R_ks (P : Program) (w : World) : List (Slot K c) → Slot K c → Prop := fun ss r => ∃ (m : Mp) (tr : Grs) (a : Am) (x : Bx) (p : Cell), ss = [kb (kCh P w (encM m) tr), sd (arE a x), sd (cD p)] ∧ r = so ((stepsF m a x p).map (stD m p)) ∧ arHas a x (0, 0) = true
theorem sc_ks : FnScope ["chart", "area", "cell"] ["chart", "area", "cell"] (defScope (topS 14)) := ⟨rfl, rfl, rfl, by decide +kernel, rfl, by decide +kernel, by decide +kernel⟩
theorem ok_ks (F : FunAt K mg "known_steps" (topS 14) ["chart", "area", "cell"]) (F_check : DefOk (c := c) P w K mg base "check_dock" 3 R_check) (F_sf : DefOk (c := c) P w K mg base "steps_from" 3 (R_sf P w)) : DefOk (c := c) P w K mg base "known_steps" 4 (R_ks P w) := by
  refine def_okF F sc_ks (fun ss r h => by obtain ⟨m, tr, a, x, p, rfl, _⟩ := h; rfl) ?_
  rintro fa cdv A outer s H E ss r ⟨m, tr, a, x, p, rfl, rfl, hd⟩ C
  refine dss_expr (de_call F_check (C.room.mono (by decide)) (das_cons (DE.da (de_name 1)) das_nil) ⟨a, x, rfl, rfl, hd⟩) ?_
  exact dss_retX (dx_call F_sf (C.room.mono (by decide)) (das_cons (DK.da (dk_bor 0)) (das_cons (DE.da (de_name 1)) (das_cons (DE.da (de_name 2)) das_nil))) ⟨m, tr, a, x, p, rfl, rfl⟩) rfl
end

end Lw

namespace Lw
open PySem L2 PyProof.Rows Dw
local macro_rules | `(tactic| walk_at "shp") => `(tactic| first | exact Shp.int _ _ | exact Shp.bool _ _ | exact Shp.none _ | exact Shp.str _ _ (by decide +kernel) | (refine Shp.tuple ?_; walk_at "shp") | (refine Shp.list ?_; walk_at "shp") | exact ShpA.nil _ | (refine ShpA.cons ?_ ?_ <;> walk_at "shp") | (refine Shp.mono (En.shp _) ?_; decide))
local macro_rules | `(tactic| walk_at "wk") => `(tactic| first | exact wk_nil | exact Wk.refl _ | (refine wk_same ?_; walk_at "wk") | (refine wk_none ?_; walk_at "wk"))
local macro_rules | `(tactic| walk_at "sz") => `(tactic| first | exact lt_line (Nat.le_of_ble_eq_true rfl) | exact small (Nat.le_of_ble_eq_true rfl) | (apply lt_line; simp; omega) | (apply small; simp; omega))
local macro_rules | `(tactic| walk_at "call") => `(tactic| first | exact ⟨_, rfl, rfl⟩ | exact ⟨_, _, rfl, rfl⟩ | exact ⟨_, rfl, rfl, by decide⟩ | exact ⟨_, _, rfl, rfl, by decide⟩ | exact ⟨_, _, _, rfl, rfl⟩ | exact ⟨_, _, rfl, rfl, by omega⟩)
section
variable {c : Cl} {P : Program} {w : World} {K : PySem.W.Frag} {mg : Str → Option Value} {base : Heap}
def R_as (P : Program) (w : World) : List (Slot K c) → Slot K c → Prop := fun ss r => ∃ (m : Mp) (tr : Grs) (a : Am) (x : Bx), ss = [kb (kCh P w (encM m) tr), sd (arE a x)] ∧ r = so ((allS m a x).map (asD m)) ∧ m.length ≤ 1000
abbrev n_as : List Str := ["chart", "area", "found", "cell", "side", "other", "cost"]
theorem sc_as : FnScope n_as ["chart", "area"] (defScope (topS 15)) := ⟨rfl, rfl, rfl, by decide +kernel, rfl, by decide +kernel, by decide +kernel⟩
theorem ok_as (F : FunAt K mg "all_steps" (topS 15) ["chart", "area"]) (M_open : MthOk P w K c mg base 6 "open_cells" 2 (R_chOpen P w)) (F_sf : DefOk (c := c) P w K mg base "steps_from" 3 (R_sf P w)) : DefOk (c := c) P w K mg base "all_steps" 4 (R_as P w) := by
  refine def_okF F sc_as (fun ss r h => by obtain ⟨m, tr, a, x, rfl, _⟩ := h; rfl) ?_
  rintro fa cdv A outer s H E ss r ⟨m, tr, a, x, rfl, rfl, hlen⟩ C
  refine dss_setX C 2 (dx_lst des_nil) ?_
  refine dss_for C (di_map cD (0, 0) (DX.frozen (dx_methK0 M_open (C.room.mono (by decide)) (dk_bor 0) ⟨m, tr, rfl, rfl, hlen⟩))) (fun n => [some (kb (kCh P w (encM m) tr)), some (sd (arE a x)), some (so ((((openC m).take n).flatMap fun p => (stepsF m a x p).map fun i => (p, i)).map (asD m))), none, none, none, none]) ?wk (is := [3]) (fun n hn => dg_name C 3) (fun n hn => ?turn) ?rest
  case wk => show Wk _ _; walk_at "wk"
  case turn =>
    rw [take_atD (0, 0) hn]
    generalize hp : (openC m).getD n (0, 0) = p
    have lens : ∀ k, ((((openC m).take n).flatMap fun p => (stepsF m a x p).map fun i => (p, i)).map (asD m) ++ (((stepsF m a x p).take k).map fun i => (p, i)).map (asD m)).length < sizeLine := fun k => by
      refine lt_line ?_
      rw [List.length_append, List.length_map, List.length_map, List.length_map, List.length_take]
      have h1 : (((openC m).take n).flatMap fun p => (stepsF m a x p).map fun i => (p, i)).length ≤ (allS m a x).length := by
        unfold allS
        conv => rhs; rw [← List.take_append_drop n (openC m)]
        rw [List.flatMap_append, List.length_append]
        exact Nat.le_add_right _ _
      have h2 := allS_len m a x hlen
      have h3 := stepsF_len m a x p
      omega
    refine dss_for C (di_map (stD m p) 0 (DX.frozen (dx_call F_sf (C.room.mono (by decide)) (das_cons (DK.da (dk_bor 0)) (das_cons (DE.da (de_name 1)) (das_cons (DE.da (de_name 3)) das_nil))) ⟨m, tr, a, x, p, rfl, rfl⟩))) (fun k => [some (kb (kCh P w (encM m) tr)), some (sd (arE a x)), some (so ((((openC m).take n).flatMap fun p => (stepsF m a x p).map fun i => (p, i)).map (asD m) ++ (((stepsF m a x p).take k).map fun i => (p, i)).map (asD m))), some (sd (cD p)), none, none, none]) ?wk2 (is := [4, 5, 6]) (fun k hk => dg_tup C (dgs_cons (dg_name C 4) (dgs_cons (dg_name C 5) (dgs_cons (dg_name C 6) dgs_nil)))) (fun k hk => ?turn2) ?rest2
    case wk2 =>
      rw [List.take_zero, List.map_nil, List.map_nil, List.append_nil]
      show Wk _ _
      walk_at "wk"
    case turn2 =>
      rw [take_atD 0 hk, List.map_append, List.map_append, ← List.append_assoc]
      refine dss_mut 2 (dm_append 2 (d := asD m (p, (stepsF m a x p).getD k 0)) (de_tup (des_cons (de_name 3) (des_cons (de_name 4) (des_cons (de_name 5) (des_cons (de_name 6) des_nil))))) rfl (lens k)) (dss_nil ?_)
      show Wk _ _
      walk_at "wk"
    case rest2 =>
    rw [List.take_of_length_le (Nat.le_refl _), ← List.map_append]
    refine dss_nil ?_
    rw [List.flatMap_append, List.flatMap_cons, List.flatMap_nil, List.append_nil]
    show Wk _ _
    walk_at "wk"
  case rest =>
  rw [List.take_of_length_le (Nat.le_refl _)]
  exact dss_retO 2 rfl
def R_hd (P : Program) (w : World) : List (Slot K c) → Slot K c → Prop := fun ss r => ∃ (m : Mp) (tr : Grs) (a : Am) (x : Bx), ss = [kb (kCh P w (encM m) tr), sd (arE a x)] ∧ r = sd (.bool (stepK (knOf m (0, 0)) (knOf m (0, 0)))) ∧ arHas a x (0, 0) = true
theorem sc_hd : FnScope ["chart", "area"] ["chart", "area"] (defScope (topS 18)) := ⟨rfl, rfl, rfl, by decide +kernel, rfl, by decide +kernel, by decide +kernel⟩
theorem ok_hd (F : FunAt K mg "has_dock" (topS 18) ["chart", "area"]) (F_check : DefOk (c := c) P w K mg base "check_dock" 3 R_check) (M_ground : MthOk P w K c mg base 6 "ground" 1 (R_chGround P w)) (F_can : DefOk (c := c) P w K mg base "can_step" 1 R_can_step) (g_DOCK : ConstAt K c mg "DOCK" dockD) :
    DefOk (c := c) P w K mg base "has_dock" 4 (R_hd P w) := by
  refine def_okF F sc_hd (fun ss r h => by obtain ⟨m, tr, a, x, rfl, _⟩ := h; rfl) ?_
  rintro fa cdv A outer s H E ss r ⟨m, tr, a, x, rfl, rfl, hd⟩ C
  refine dss_expr (de_call F_check (C.room.mono (by decide)) (das_cons (DE.da (de_name 1)) das_nil) ⟨a, x, rfl, rfl, hd⟩) ?_
  exact dss_ret (de_call F_can (C.room.mono (by decide)) (das_cons (DE.da (de_cast (DX.de (dx_methK M_ground (C.room.mono (by decide)) (dk_bor 0) (das_cons (DE.da (de_const g_DOCK)) das_nil) ⟨_, _, (0, 0), rfl, rfl⟩)) (knOf_enc m (0, 0)))) (das_cons (DE.da (de_cast (DX.de (dx_methK M_ground (C.room.mono (by decide)) (dk_bor 0) (das_cons (DE.da (de_const g_DOCK)) das_nil) ⟨_, _, (0, 0), rfl, rfl⟩)) (knOf_enc m (0, 0)))) das_nil)) ⟨knOf m (0, 0), knOf m (0, 0), rfl, rfl⟩) rfl
def R_least (P : Program) (w : World) : List (Slot K c) → Slot K c → Prop := fun ss r => ∃ m : Cs', ss = [kb (kDct P w (encI m))] ∧ r = sE (fun k => sd (cD k)) (Least m) ∧ m ≠ []
theorem sc_least : FnScope ["left"] ["left"] (defScope (topS 16)) := ⟨rfl, rfl, rfl, by decide +kernel, rfl, by decide +kernel, by decide +kernel⟩
theorem ok_least {cc PT : Addr} (F : FunAtC K mg "least_of" (topS 16) ["left"] cc) (TB : LamX.TabB base mg cc PT) (hP : (PT, ("" : Str)) ∈ c.tabs) (b_min : mg "min" = none) : DefOk (c := c) P w K mg base "least_of" 3 (R_least P w) := by
  refine def_okC F sc_least (fun ss r h => by obtain ⟨m, rfl, _⟩ := h; rfl) ?_
  rintro fa A outer s H E ss r ⟨m, rfl, rfl, hne⟩ C
  refine dss_retX (dx_minlam (j := 0) (z := "left") (y := "cell") (pr := true) (l := 0) (.inr rfl) hne hP rfl b_min rfl (lam1_by rfl) TB rfl rfl rfl ?_ C.room (fun A outer s H f c' hr => lam1_pair (y := "cell") (z := "left") (lam1_by rfl) hr (by decide) (by decide) (by decide) (by decide)) key_two) rfl
  exact fun _ _ _ _ _ _ => rfl
end

end Lw

namespace Lw
open PySem L2 PyProof.Rows Dw
local macro_rules | `(tactic| walk_at "shp") => `(tactic| first | exact Shp.int _ _ | exact Shp.bool _ _ | exact Shp.none _ | exact Shp.str _ _ (by decide +kernel) | (refine Shp.tuple ?_; walk_at "shp") | (refine Shp.list ?_; walk_at "shp") | exact ShpA.nil _ | (refine ShpA.cons ?_ ?_ <;> walk_at "shp") | (refine Shp.mono (En.shp _) ?_; decide))
local macro_rules | `(tactic| walk_at "wk") => `(tactic| first | exact wk_nil | exact Wk.refl _ | (refine wk_same ?_; walk_at "wk") | (refine wk_none ?_; walk_at "wk"))
local macro_rules | `(tactic| walk_at "sz") => `(tactic| first | exact lt_line (Nat.le_of_ble_eq_true rfl) | exact small (Nat.le_of_ble_eq_true rfl) | (apply lt_line; simp; omega) | (apply small; simp; omega))
local macro_rules | `(tactic| walk_at "call") => `(tactic| first | exact ⟨_, rfl, rfl⟩ | exact ⟨_, _, rfl, rfl⟩ | exact ⟨_, rfl, rfl, by decide⟩ | exact ⟨_, _, rfl, rfl, by decide⟩ | exact ⟨_, _, _, rfl, rfl⟩ | exact ⟨_, _, rfl, rfl, by omega⟩)
theorem nodup_le {l u : List Cell} (n : l.Nodup) (h : ∀ k ∈ l, k ∈ u) : l.length ≤ u.length := by
  induction l generalizing u with
  | nil => exact Nat.zero_le _
  | cons a r ih =>
    rw [List.nodup_cons] at n
    have ha := h a List.mem_cons_self
    have := ih (u := u.erase a) n.2 fun k hk => (List.mem_erase_of_ne fun e => n.1 (by rw [← e]; exact hk)).mpr (h k (List.mem_cons_of_mem _ hk))
    rw [List.length_erase_of_mem ha] at this
    have : 0 < u.length := List.length_pos_of_mem ha
    rw [List.length_cons]
    omega
section
variable {α : Type}
theorem keys_put (m : List (Cell × α)) (k : Cell) (x : α) : (put m k x).map (·.1) = if (look m k).isSome then m.map (·.1) else m.map (·.1) ++ [k] := by
  unfold put
  split
  · rw [List.map_map]
    refine List.map_congr_left fun p _ => ?_
    show (if p.1 = k then (p.1, x) else p).1 = p.1
    split <;> rfl
  · rw [List.map_append]; rfl
theorem look_some_mem {m : List (Cell × α)} {k : Cell} {x : α} (h : look m k = some x) : k ∈ m.map (·.1) := by
  cases e : m.map (·.1) |>.contains k with
  | true => exact List.contains_iff_mem.mp e
  | false =>
    rw [look_no fun z => by rw [List.contains_iff_mem.mpr z] at e; cases e] at h
    cases h
theorem nodup_put {m : List (Cell × α)} {k : Cell} {x : α} (h : (m.map (·.1)).Nodup) : ((put m k x).map (·.1)).Nodup := by
  rw [keys_put]
  split
  · exact h
  · rename_i z
    refine List.nodup_append.mpr ⟨h, by simp, fun a ha b hb e => z ?_⟩
    rw [List.mem_singleton.mp hb] at e
    obtain ⟨y, hy⟩ := look_key (show k ∈ m.map (·.1) from e ▸ ha)
    rw [hy]; rfl
theorem mem_put {m : List (Cell × α)} {k j : Cell} {x : α} (h : j ∈ (put m k x).map (·.1)) : j ∈ m.map (·.1) ∨ j = k := by
  rw [keys_put] at h
  split at h
  · exact .inl h
  · exact (List.mem_append.mp h).imp id fun z => List.mem_singleton.mp z
theorem nodup_drop {m : List (Cell × α)} {k : Cell} (h : (m.map (·.1)).Nodup) : ((drop m k).map (·.1)).Nodup := List.Nodup.sublist (List.Sublist.map _ (List.filter_sublist)) h
theorem mem_drop {m : List (Cell × α)} {k j : Cell} (h : j ∈ (drop m k).map (·.1)) : j ∈ m.map (·.1) := (List.Sublist.map _ (List.filter_sublist)).subset h
end
/-- what stands at each turn -/
structure SpI (adj : Cell → Cs) (univ : List Cell) (left found : Cs) : Prop where
  dj : Dj adj (0, 0) left found
  nl : (left.map (·.1)).Nodup
  nf : (found.map (·.1)).Nodup
  ul : ∀ k ∈ left.map (·.1), k ∈ univ
  uf : ∀ k ∈ found.map (·.1), k ∈ univ
theorem SpI.start {adj : Cell → Cs} {univ : List Cell} (h : (0, 0) ∈ univ) : SpI adj univ [((0, 0), 0)] [] := ⟨Dj.start adj (0, 0), by simp, by simp, fun k hk => by simp at hk; rw [hk]; exact h, fun k hk => by simp at hk⟩
theorem relax_keys {found : Cs} {k : Int} : ∀ {es left : Cs}, (left.map (·.1)).Nodup → ((relax found k left es).map (·.1)).Nodup ∧ ∀ j ∈ (relax found k left es).map (·.1), j ∈ left.map (·.1) ∨ ∃ e ∈ es, e.1 = j
  | [], left, h => ⟨h, fun j hj => .inl hj⟩
  | e :: es, left, h => by
    have hd : relax found k left (e :: es) = relax found k (if (look found e.1).isSome then left else put left e.1 (min ((look left e.1).getD (k + e.2)) (k + e.2))) es := rfl
    rw [hd]
    split
    · obtain ⟨h1, h2⟩ := relax_keys (found := found) (k := k) (es := es) h
      exact ⟨h1, fun j hj => (h2 j hj).imp id fun ⟨e', he, q⟩ => ⟨e', List.mem_cons_of_mem _ he, q⟩⟩
    · obtain ⟨h1, h2⟩ := relax_keys (found := found) (k := k) (es := es) (nodup_put (k := e.1) (x := min ((look left e.1).getD (k + e.2)) (k + e.2)) h)
      refine ⟨h1, fun j hj => ?_⟩
      rcases h2 j hj with z | ⟨e', he, q⟩
      · rcases mem_put z with z | z
        · exact .inl z
        · exact .inr ⟨e, List.mem_cons_self, z.symm⟩
      · exact .inr ⟨e', List.mem_cons_of_mem _ he, q⟩
theorem SpI.turn {adj : Cell → Cs} {univ : List Cell} {left found : Cs} (S : SpI adj univ left found) (pos : ∀ a b w, (b, w) ∈ adj a → 0 ≤ w) (hu : ∀ a e, e ∈ adj a → e.1 ∈ univ) {k : Cell} {n : Int} (hk : look left k = some n) (hm : ∀ b v, look left b = some v → n ≤ v) :
    SpI adj univ (relax (put found k n) n (drop left k) (adj k)) (put found k n) ∧ (put found k n).length = found.length + 1 := by
  have lf : look found k = none := (S.dj.l k n hk).2
  obtain ⟨r1, r2⟩ := relax_keys (found := put found k n) (k := n) (es := adj k) (nodup_drop (k := k) S.nl)
  refine ⟨⟨S.dj.turn pos hk hm, r1, nodup_put S.nf, fun j hj => ?_, fun j hj => ?_⟩, by rw [put_new lf, List.length_append]; rfl⟩
  · rcases r2 j hj with z | ⟨e, he, rfl⟩
    · exact S.ul j (mem_drop z)
    · exact hu k e he
  · rcases mem_put hj with z | rfl
    · exact S.uf j z
    · exact S.ul _ (look_some_mem hk)
theorem SpI.len {adj : Cell → Cs} {univ : List Cell} {left found : Cs} (S : SpI adj univ left found) : found.length ≤ univ.length := by
  have := nodup_le S.nf S.uf
  rwa [List.length_map] at this
/-- least costs -/
structure CostOk (adj : Cell → Cs) (found : Cs) : Prop where
  f : ∀ a k, look found a = some k → Way adj (0, 0) a k ∧ ∀ k', Way adj (0, 0) a k' → k ≤ k'
  d : ∀ a k, Way adj (0, 0) a k → ∃ v, look found a = some v ∧ v ≤ k
  l : found.length ≤ 5000
abbrev Ways := List (Cell × List (Cell × Int))
abbrev eD (e : Cell × Int) : D := .tuple [cD e.1, .int e.2]
def encW (m : Ways) : List (Cell × List D) := m.map fun p => (p.1, p.2.map eD)
def adjW (m : Ways) (k : Cell) : Cs := (look m k).getD []
theorem look_encW (m : Ways) (k : Cell) : (look (encW m) k).getD [] = (adjW m k).map eD := by
  unfold adjW
  have : look (encW m) k = (look m k).map fun l => l.map eD := by
    induction m with
    | nil => rfl
    | cons p r ih =>
      show look ((p.1, p.2.map eD) :: encW r) k = _
      by_cases e : p.1 = k
      · rw [look_pos (show (p.1, p.2.map eD).1 = k from e), look_pos e]; rfl
      · rw [look_neg (show ¬ (p.1, p.2.map eD).1 = k from e), look_neg e, ih]
  rw [this]
  cases look m k <;> rfl
section
variable {c : Cl} {P : Program} {w : World} {K : PySem.W.Frag} {mg : Str → Option Value} {base : Heap}
theorem dz_cast {X : Cx} {G : Dw.Env X.K c} {e : Expr} {d d' : D} (h : DZ X G e d) (q : d = d') : DZ X G e d' := q ▸ h
def costS (P : Program) (w : World) (adj : Cell → Cs) : Slot K c := sE (fun found : Cs => kn (kDct P w (encI found))) (CostOk adj)
def R_spread (P : Program) (w : World) : List (Slot K c) → Slot K c → Prop := fun ss r => ∃ (st : Ways) (U : List Cell), ss = [kb (kDL P w (encW st))] ∧ r = costS P w (adjW st) ∧ U.length ≤ 5000 ∧ (0, 0) ∈ U ∧ (∀ a e, e ∈ adjW st a → e.1 ∈ U) ∧ ∀ a b n, (b, n) ∈ adjW st a → 0 ≤ n
abbrev n_spread : List Str := ["steps", "left", "found", "cell", "other", "cost"]
theorem sc_spread : FnScope n_spread ["steps"] (defScope (topS 17)) := ⟨rfl, rfl, rfl, by decide +kernel, rfl, by decide +kernel, by decide +kernel⟩
theorem ok_spread (F : FunAt K mg "spread" (topS 17) ["steps"]) (F_least : DefOk (c := c) P w K mg base "least_of" 3 (R_least P w)) (g_DOCK : ConstAt K c mg "DOCK" dockD) (b_min : mg "min" = none) : DefOk (c := c) P w K mg base "spread" 4 (R_spread P w) := by
  refine def_okF F sc_spread (fun ss r h => by obtain ⟨st, U, rfl, _⟩ := h; rfl) ?_
  rintro fa cdv A outer s H E ss r ⟨st, U, rfl, rfl, hul, h0, hU, pos⟩ C
  refine dss_setX C 1 (dx_xnew1 C (de_const g_DOCK) de_int) ?_
  refine dss_setX C 2 dx_xnew ?_
  refine dss_while C (fun a : { p : Cs × Cs // SpI (adjW st) U p.1 p.2 } => [some (kb (kDL P w (encW st))), some (kn (kDct P w (encI a.1.1))), some (kn (kDct P w (encI a.1.2))), none, none, none]) (fun a => U.length - a.1.2.length) (fun a => !(encI a.1.1).isEmpty) ⟨([((0, 0), 0)], []), SpI.start h0⟩ ?wk (fun a => dt_xne0 C (dk_own 1)) (fun a hb => ?turn) (fun a hb => ?rest)
  case wk => show Wk _ _; walk_at "wk"
  case turn =>
    obtain ⟨⟨left, found⟩, S⟩ := a
    have S : SpI (adjW st) U left found := S
    have hne : left ≠ [] := fun z => by subst z; exact absurd hb Bool.false_ne_true
    refine dss_setX C 3 (dx_call F_least (C.room.mono (by decide)) (das_cons (DK.da (dk_own 1)) das_nil) ⟨left, rfl, rfl, hne⟩) ?_
    refine dss_exE 3 fun k hk => ?_
    obtain ⟨n, hn, hmin⟩ := hk
    obtain ⟨S', hlen⟩ := S.turn pos hU hn hmin
    have fl := S'.len
    have ll : ∀ j, (relax (put found k n) n (drop left k) ((adjW st k).take j)).length ≤ 5000 := fun j => by
      obtain ⟨q1, q2⟩ := relax_keys (found := put found k n) (k := n) (es := (adjW st k).take j) (nodup_drop (k := k) S.nl)
      have := nodup_le (u := U) q1 fun i hi => by
        rcases q2 i hi with z | ⟨e, he, rfl⟩
        · exact S.ul i (mem_drop z)
        · exact hU k e (List.mem_of_mem_take he)
      rw [List.length_map] at this
      omega
    refine dss_xputM (kvs := encI found) C 2 1 (by decide) (dmd_pop (d := .int n) C 1 (de_name 3) (by rw [look_encI, hn]; rfl)) (de_name 3) ?_ (lt_line (by unfold encI; rw [List.length_map]; omega))
    rw [put_encI, drop_encI]
    have sp : ∀ j, j < (adjW st k).length → relax (put found k n) n (drop left k) ((adjW st k).take (j + 1)) = (if (look (put found k n) ((adjW st k).getD j ((0, 0), 0)).1).isSome then relax (put found k n) n (drop left k) ((adjW st k).take j) else put (relax (put found k n) n (drop left k) ((adjW st k).take j)) ((adjW st k).getD j ((0, 0), 0)).1 (min ((look (relax (put found k n) n (drop left k) ((adjW st k).take j)) ((adjW st k).getD j ((0, 0), 0)).1).getD (n + ((adjW st k).getD j ((0, 0), 0)).2)) (n + ((adjW st k).getD j ((0, 0), 0)).2))) := fun j hj => by
      rw [take_atD ((0, 0), 0) hj]
      unfold relax
      rw [List.foldl_append]
      rfl
    refine dss_for C (di_mapZ eD ((0, 0), 0) (dz_cast (dz_getB C 0 (de_name 3)) (congrArg PyData.list (look_encW st k)))) (fun j => [some (kb (kDL P w (encW st))), some (kn (kDct P w (encI (relax (put found k n) n (drop left k) ((adjW st k).take j))))), some (kn (kDct P w (encI (put found k n)))), some (sd (cD k)), none, none]) ?wk2 (is := [4, 5]) (fun j hj => dg_tup C (dgs_cons (dg_name C 4) (dgs_cons (dg_name C 5) dgs_nil))) (fun j hj => ?turn2) ?rest2
    case wk2 => show Wk _ _; walk_at "wk"
    case turn2 =>
      have e := sp j hj
      generalize (adjW st k).getD j ((0, 0), 0) = q at e
      rw [e]
      have hl := ll j
      generalize relax (put found k n) n (drop left k) ((adjW st k).take j) = lf at hl
      cases hs : (look (put found k n) q.1).isSome with
      | true =>
        refine dss_skip (dt_xnotin C (de_name 4) (dk_own 2)) (by rw [look_encI, Option.isSome_map, hs]; rfl) (dss_nil ?_)
        rw [if_pos rfl]
        show Wk _ _
        walk_at "wk"
      | false =>
        have fk : look (encI (put found k n)) k = some (.int n) := by rw [look_encI, look_put, if_pos rfl]; rfl
        refine dss_ifT (dt_xnotin C (de_name 4) (dk_own 2)) (by rw [look_encI, Option.isSome_map, hs]; rfl) ?_
        have gd : (look (encI lf) q.1).getD (.int (n + q.2)) = .int ((look lf q.1).getD (n + q.2)) := by rw [look_encI]; cases look lf q.1 <;> rfl
        refine dss_xput (kvs := encI lf) C 1 (k := q.1) (d := .int (min ((look lf q.1).getD (n + q.2)) (n + q.2))) (de_callB (cd_min2 C _ _) b_min (drs_cons (DE.dr (de_cast (de_xget2 C (dk_own 1) (de_name 4) (de_bin (DE.dr (de_xget C (dk_own 2) (de_name 3) fk)) (DE.dr (de_name 5)) od_add)) gd)) (drs_cons (DE.dr (de_bin (DE.dr (de_xget C (dk_own 2) (de_name 3) fk)) (DE.dr (de_name 5)) od_add)) drs_nil))) (de_name 4) (dss_nil ?_) (lt_line (by unfold encI; rw [List.length_map]; omega))
        rw [put_encI, if_neg Bool.false_ne_true]
        refine dss_nil ?_
        show Wk _ _
        walk_at "wk"
    case rest2 =>
    rw [List.take_of_length_le (Nat.le_refl _)]
    refine dss_nil ⟨⟨(_, _), S'⟩, ?_, ?_⟩
    · show U.length - (put found k n).length < U.length - found.length
      omega
    · show Wk _ _
      walk_at "wk"
  case rest =>
  obtain ⟨⟨left, found⟩, S⟩ := a
  have he : left = [] := by
    cases left with
    | nil => rfl
    | cons _ _ => cases hb
  subst he
  refine dss_exI (f := fun found : Cs => kn (kDct P w (encI found))) (q := CostOk (adjW st)) 2 found ⟨S.dj.f, fun a k h => S.dj.done pos h, by have := S.len; exact Nat.le_trans this hul⟩ ?_
  exact dss_retO 2 rfl
end

end Lw

namespace Lw
open PySem L2 PyProof.Rows Dw
local macro_rules | `(tactic| walk_at "shp") => `(tactic| first | exact Shp.int _ _ | exact Shp.bool _ _ | exact Shp.none _ | exact Shp.str _ _ (by decide +kernel) | (refine Shp.tuple ?_; walk_at "shp") | (refine Shp.list ?_; walk_at "shp") | exact ShpA.nil _ | (refine ShpA.cons ?_ ?_ <;> walk_at "shp") | (refine Shp.mono (En.shp _) ?_; decide))
local macro_rules | `(tactic| walk_at "wk") => `(tactic| first | exact wk_nil | exact Wk.refl _ | (refine wk_same ?_; walk_at "wk") | (refine wk_none ?_; walk_at "wk"))
local macro_rules | `(tactic| walk_at "sz") => `(tactic| first | exact lt_line (Nat.le_of_ble_eq_true rfl) | exact small (Nat.le_of_ble_eq_true rfl) | (apply lt_line; simp; omega) | (apply small; simp; omega))
local macro_rules | `(tactic| walk_at "call") => `(tactic| first | exact ⟨_, rfl, rfl⟩ | exact ⟨_, _, rfl, rfl⟩ | exact ⟨_, rfl, rfl, by decide⟩ | exact ⟨_, _, rfl, rfl, by decide⟩ | exact ⟨_, _, _, rfl, rfl⟩ | exact ⟨_, _, rfl, rfl, by omega⟩)
theorem look_encW' (m : Ways) (k : Cell) : look (encW m) k = (look m k).map fun l => l.map eD := by
  induction m with
  | nil => rfl
  | cons p r ih =>
    show look ((p.1, p.2.map eD) :: encW r) k = _
    by_cases e : p.1 = k
    · rw [look_pos (show (p.1, p.2.map eD).1 = k from e), look_pos e]; rfl
    · rw [look_neg (show ¬ (p.1, p.2.map eD).1 = k from e), look_neg e, ih]
theorem put_encW (m : Ways) (k : Cell) (l : List (Cell × Int)) : put (encW m) k (l.map eD) = encW (put m k l) := by
  unfold put
  rw [look_encW', Option.isSome_map]
  by_cases h : (look m k).isSome = true
  · rw [if_pos h, if_pos h, encW, encW, List.map_map, List.map_map]
    refine List.map_congr_left fun p _ => ?_
    show (if p.1 = k then (p.1, l.map eD) else (p.1, p.2.map eD)) = ((if p.1 = k then (p.1, l) else p).1, (if p.1 = k then (p.1, l) else p).2.map eD)
    split <;> rfl
  · rw [if_neg h, if_neg h, encW, encW, List.map_append]; rfl
theorem putA_encW (m : Ways) (k : Cell) (e : Cell × Int) : putA (encW m) k (eD e) = encW (putA m k e) := by
  unfold putA
  rw [show (look (encW m) k).getD [] = (adjW m k).map eD from look_encW m k, ← put_encW, List.map_append]
  rfl
theorem snoc_ind {β : Type} {Q : List β → Prop} (h0 : Q []) (h1 : ∀ L b, Q L → Q (L ++ [b])) (L : List β) : Q L := by
  have : ∀ L : List β, Q L.reverse := fun L => by
    induction L with
    | nil => exact h0
    | cons b r ih => rw [List.reverse_cons]; exact h1 _ _ ih
  have := this L.reverse
  rwa [List.reverse_reverse] at this
def foldA {β : Type} (key : β → Cell) (val : β → Cell × Int) (L : List β) : Ways := L.foldl (fun w b => putA w (key b) (val b)) []
theorem adj_putA (m : Ways) (k j : Cell) (e : Cell × Int) : adjW (putA m k e) j = if j = k then adjW m j ++ [e] else adjW m j := by
  unfold adjW
  rw [look_putA]
  by_cases h : j = k
  · rw [if_pos h, if_pos h, h]; rfl
  · rw [if_neg h, if_neg h]
theorem foldA_snoc {β : Type} (key : β → Cell) (val : β → Cell × Int) (L : List β) (b : β) : foldA key val (L ++ [b]) = putA (foldA key val L) (key b) (val b) := by
  unfold foldA
  rw [List.foldl_append]
  rfl
theorem adj_foldA {β : Type} (key : β → Cell) (val : β → Cell × Int) (j : Cell) (L : List β) : adjW (foldA key val L) j = (L.filter fun b => decide (key b = j)).map val := by
  refine snoc_ind (Q := fun L => adjW (foldA key val L) j = (L.filter fun b => decide (key b = j)).map val) rfl (fun L b ih => ?_) L
  · show adjW (foldA key val (L ++ [b])) j = _
    rw [foldA_snoc, adj_putA, ih, List.filter_append, List.map_append]
    by_cases h : key b = j
    · rw [if_pos h.symm, List.filter_cons_of_pos (by simpa using h)]; rfl
    · rw [if_neg (fun e => h e.symm), List.filter_cons_of_neg (by simpa using h)]
      simp
theorem len_foldA {β : Type} (key : β → Cell) (val : β → Cell × Int) (L : List β) : (foldA key val L).length ≤ L.length := by
  refine snoc_ind (Q := fun L => (foldA key val L).length ≤ L.length) (Nat.le_refl _) (fun L b ih => ?_) L
  · show (foldA key val (L ++ [b])).length ≤ _
    rw [foldA_snoc, List.length_append]
    exact Nat.le_trans (len_putA _ _ _) (Nat.add_le_add_right ih 1)
theorem mem_foldA {β : Type} {key : β → Cell} {val : β → Cell × Int} {j : Cell} {L : List β} {e : Cell × Int} : e ∈ adjW (foldA key val L) j ↔ ∃ b ∈ L, key b = j ∧ val b = e := by
  rw [adj_foldA, List.mem_map]
  constructor
  · rintro ⟨b, hb, rfl⟩
    rw [List.mem_filter] at hb
    exact ⟨b, hb.1, of_decide_eq_true hb.2, rfl⟩
  · rintro ⟨b, hb, h1, rfl⟩
    exact ⟨b, List.mem_filter.mpr ⟨hb, decide_eq_true h1⟩, rfl⟩
theorem adj_foldA_len {β : Type} {key : β → Cell} {val : β → Cell × Int} (j : Cell) (L : List β) : (adjW (foldA key val L) j).length ≤ L.length := by
  rw [adj_foldA, List.length_map]
  exact List.length_filter_le _ _
def homeW (m : Mp) (a : Am) (x : Bx) : Ways := foldA (fun q : Cell × Fin 4 => besi q.1 q.2) (fun q => (q.1, costK (knOf m (besi q.1 q.2)))) (allS m a x)
abbrev adjH (m : Mp) (a : Am) (x : Bx) : Cell → Cs := adjW (homeW m a x)
/-- all grounds known cost at least 1 -/
def Pos1 (m : Mp) : Prop := ∀ k u h, look m k = some (.gr u h) → 1 ≤ u
theorem mem_allS {m : Mp} {a : Am} {x : Bx} {p : Cell} {i : Fin 4} (h : (p, i) ∈ allS m a x) : p ∈ openC m ∧ i ∈ stepsF m a x p := by
  unfold allS at h
  obtain ⟨p', h1, h2⟩ := List.mem_flatMap.mp h
  obtain ⟨i', h3, h4⟩ := List.mem_map.mp h2
  cases h4
  exact ⟨h1, h3⟩
theorem stepsF_mem {m : Mp} {a : Am} {x : Bx} {p : Cell} {i : Fin 4} : i ∈ stepsF m a x p ↔ arHas a x p = true ∧ stepB m a x p i = true := by
  unfold stepsF
  by_cases h : arHas a x p = true
  · rw [if_pos h, List.mem_filter]
    refine ⟨fun z => ⟨h, z.2⟩, fun z => ⟨?_, z.2⟩⟩
    match i with
    | 0 => decide
    | 1 => decide
    | 2 => decide
    | 3 => decide
  · rw [if_neg h]
    exact ⟨fun z => absurd z List.not_mem_nil, fun z => absurd z.1 h⟩
theorem knOf_gr {m : Mp} {k : Cell} {u h : Int} : knOf m k = .gr u h ↔ look m k = some (.gr u h) := by
  unfold knOf
  cases look m k with
  | none => exact ⟨(fun z => nomatch z), fun z => (nomatch z)⟩
  | some g => cases g with
    | wall => exact ⟨(fun z => nomatch z), fun z => (nomatch z)⟩
    | gr u' h' => exact ⟨fun z => by cases z; rfl, fun z => by cases z; rfl⟩
theorem open_gr {m : Mp} {k : Cell} {u h : Int} (e : knOf m k = .gr u h) : k ∈ openC m := by
  have := knOf_gr.mp e
  unfold openC
  rw [List.mem_filter, sortC_mem]
  refine ⟨look_some_mem this, ?_⟩
  rw [this]; rfl
theorem step_allS {m : Mp} {a : Am} {x : Bx} {p : Cell} {i : Fin 4} : (p, i) ∈ allS m a x ↔ i ∈ stepsF m a x p := by
  refine ⟨fun h => (mem_allS h).2, fun h => ?_⟩
  have hb := (stepsF_mem.mp h).2
  unfold stepB at hb
  rw [Bool.and_eq_true] at hb
  obtain ⟨k1, z1, k2, z2, e1, e2⟩ := stepK_gr hb.2
  exact List.mem_flatMap.mpr ⟨p, open_gr e1, List.mem_map.mpr ⟨i, h, rfl⟩⟩
theorem mem_adjH {m : Mp} {a : Am} {x : Bx} {q p : Cell} {n : Int} : (p, n) ∈ adjH m a x q ↔ ∃ i ∈ stepsF m a x p, besi p i = q ∧ n = costK (knOf m q) := by
  unfold adjH homeW
  rw [mem_foldA]
  constructor
  · rintro ⟨⟨p', i⟩, h1, h2, h3⟩
    cases h3
    exact ⟨i, (mem_allS h1).2, h2, by rw [← h2]⟩
  · rintro ⟨i, h1, rfl, rfl⟩
    exact ⟨(p, i), step_allS.mpr h1, rfl, rfl⟩
theorem step_cost {m : Mp} {a : Am} {x : Bx} {p : Cell} {i : Fin 4} (hm : Pos1 m) (h : i ∈ stepsF m a x p) : 1 ≤ costK (knOf m (besi p i)) := by
  have hb := (stepsF_mem.mp h).2
  unfold stepB at hb
  rw [Bool.and_eq_true] at hb
  obtain ⟨k1, z1, k2, z2, e1, e2⟩ := stepK_gr hb.2
  rw [e2]
  exact hm _ _ _ (knOf_gr.mp e2)
theorem adjH_pos {m : Mp} {a : Am} {x : Bx} (hm : Pos1 m) (q p : Cell) (n : Int) (h : (p, n) ∈ adjH m a x q) : 0 ≤ n := by
  obtain ⟨i, h1, rfl, rfl⟩ := mem_adjH.mp h
  have := step_cost hm h1
  omega
theorem openC_len (m : Mp) : (openC m).length ≤ m.length := by
  unfold openC
  refine Nat.le_trans (List.length_filter_le _ _) ?_
  rw [sortC_len, List.length_map]
  exact Nat.le_refl _
section
variable {c : Cl} {P : Program} {w : World} {K : PySem.W.Frag} {mg : Str → Option Value} {base : Heap}
def R_homes (P : Program) (w : World) : List (Slot K c) → Slot K c → Prop := fun ss r => ∃ (m : Mp) (tr : Grs) (a : Am) (x : Bx), ss = [kb (kCh P w (encM m) tr), sd (arE a x)] ∧ r = costS P w (adjH m a x) ∧ arHas a x (0, 0) = true ∧ m.length ≤ 1000 ∧ stepK (knOf m (0, 0)) (knOf m (0, 0)) = true ∧ Pos1 m
abbrev n_homes : List Str := ["chart", "area", "steps", "cell", "side", "other", "cost"]
theorem sc_homes : FnScope n_homes ["chart", "area"] (defScope (topS 19)) := ⟨rfl, rfl, rfl, by decide +kernel, rfl, by decide +kernel, by decide +kernel⟩
theorem ok_homes (F : FunAt K mg "homes" (topS 19) ["chart", "area"]) (F_hd : DefOk (c := c) P w K mg base "has_dock" 4 (R_hd P w)) (F_as : DefOk (c := c) P w K mg base "all_steps" 4 (R_as P w)) (F_spread : DefOk (c := c) P w K mg base "spread" 4 (R_spread P w)) : DefOk (c := c) P w K mg base "homes" 5 (R_homes P w) := by
  refine def_okF F sc_homes (fun ss r h => by obtain ⟨m, tr, a, x, rfl, _⟩ := h; rfl) ?_
  rintro fa cdv A outer s H E ss r ⟨m, tr, a, x, rfl, rfl, hd, hlen, hst, hpos⟩ C
  refine dss_skip (dt_not (dt_val (de_call F_hd (C.room.mono (by decide)) (das_cons (DK.da (dk_bor 0)) (das_cons (DE.da (de_name 1)) das_nil)) ⟨m, tr, a, x, rfl, rfl, hd⟩))) (by rw [hst]; rfl) ?_
  refine dss_setX C 2 dx_xnewL ?_
  refine dss_for C (di_map (asD m) ((0, 0), 0) (DX.frozen (dx_call F_as (C.room.mono (by decide)) (das_cons (DK.da (dk_bor 0)) (das_cons (DE.da (de_name 1)) das_nil)) ⟨m, tr, a, x, rfl, rfl, hlen⟩)))
    (fun n => [some (kb (kCh P w (encM m) tr)), some (sd (arE a x)), some (kn (kDL P w (encW (foldA (fun q : Cell × Fin 4 => besi q.1 q.2) (fun q => (q.1, costK (knOf m (besi q.1 q.2)))) ((allS m a x).take n))))), none, none, none, none]) ?wk (is := [3, 4, 5, 6]) (fun n hn => dg_tup C (dgs_cons (dg_name C 3) (dgs_cons (dg_name C 4) (dgs_cons (dg_name C 5) (dgs_cons (dg_name C 6) dgs_nil))))) (fun n hn => ?turn) ?rest
  case wk => show Wk _ _; walk_at "wk"
  case turn =>
    have al := allS_len m a x hlen
    rw [take_atD ((0, 0), 0) hn, foldA_snoc, ← putA_encW]
    have l1 := len_foldA (fun q : Cell × Fin 4 => besi q.1 q.2) (fun q => (q.1, costK (knOf m (besi q.1 q.2)))) ((allS m a x).take n)
    have l2 := fun j => adj_foldA_len (key := fun q : Cell × Fin 4 => besi q.1 q.2) (val := fun q => (q.1, costK (knOf m (besi q.1 q.2)))) j ((allS m a x).take n)
    have l3 : ((allS m a x).take n).length ≤ 4000 := Nat.le_trans (by rw [List.length_take]; exact Nat.min_le_right _ _) al
    generalize foldA (fun q : Cell × Fin 4 => besi q.1 q.2) (fun q => (q.1, costK (knOf m (besi q.1 q.2)))) ((allS m a x).take n) = wy at l1 l2
    generalize (allS m a x).getD n ((0, 0), 0) = q
    refine dss_mut 2 (dm_setdef (m := encW wy) (d := eD (q.1, costK (knOf m (besi q.1 q.2)))) C 2 (de_name 5) (de_tup (des_cons (de_name 3) (des_cons (de_name 6) des_nil))) (lt_line (by unfold encW; rw [List.length_map]; omega)) (fun ds hds => lt_line ?_)) (dss_nil ?_)
    · have e := look_encW wy (besi q.1 q.2)
      rw [hds] at e
      rw [show ds = (adjW wy (besi q.1 q.2)).map eD from e, List.length_map]
      have := l2 (besi q.1 q.2)
      omega
    · show Wk _ _
      walk_at "wk"
  case rest =>
  rw [List.take_of_length_le (Nat.le_refl _)]
  refine dss_retX (dx_call F_spread (C.room.mono (by decide)) (das_cons (DK.da (dk_own 2)) das_nil) ⟨homeW m a x, (0, 0) :: openC m, rfl, rfl, ?_, List.mem_cons_self, fun q e he => ?_, fun q p n h => adjH_pos hpos q p n h⟩) rfl
  · have := openC_len m
    rw [List.length_cons]
    omega
  · obtain ⟨p, n⟩ := e
    obtain ⟨i, h1, h2, h3⟩ := mem_adjH.mp he
    exact List.mem_cons_of_mem _ (mem_allS (step_allS.mpr h1)).1
end

end Lw

namespace Lw
open PySem L2 PyProof.Rows Dw
local macro_rules | `(tactic| walk_at "shp") => `(tactic| first | exact Shp.int _ _ | exact Shp.bool _ _ | exact Shp.none _ | exact Shp.str _ _ (by decide +kernel) | (refine Shp.tuple ?_; walk_at "shp") | (refine Shp.list ?_; walk_at "shp") | exact ShpA.nil _ | (refine ShpA.cons ?_ ?_ <;> walk_at "shp") | (refine Shp.mono (En.shp _) ?_; decide))
local macro_rules | `(tactic| walk_at "wk") => `(tactic| first | exact wk_nil | exact Wk.refl _ | (refine wk_same ?_; walk_at "wk") | (refine wk_none ?_; walk_at "wk"))
local macro_rules | `(tactic| walk_at "sz") => `(tactic| first | exact lt_line (Nat.le_of_ble_eq_true rfl) | exact small (Nat.le_of_ble_eq_true rfl) | (apply lt_line; simp; omega) | (apply small; simp; omega))
local macro_rules | `(tactic| walk_at "call") => `(tactic| first | exact ⟨_, rfl, rfl⟩ | exact ⟨_, _, rfl, rfl⟩ | exact ⟨_, rfl, rfl, by decide⟩ | exact ⟨_, _, rfl, rfl, by decide⟩ | exact ⟨_, _, _, rfl, rfl⟩ | exact ⟨_, _, rfl, rfl, by omega⟩)
theorem sideS_ok (i : Fin 4) : PyData.strOk (sideS i) = true := by
  match i with
  | 0 => decide +kernel
  | 1 => decide +kernel
  | 2 => decide +kernel
  | 3 => decide +kernel
theorem strOk_app {a b : Str} (h : PyData.strOk a = true) (g : PyData.strOk b = true) : PyData.strOk (a ++ b) = true := by
  unfold PyData.strOk at *
  rw [Str.cps_append, Array.all_append, h, g]; rfl

open Classical in
noncomputable def leastC (adj : Cell → Cs) (q : Cell) : Option Int := if h : ∃ k, Way adj (0, 0) q k ∧ ∀ k', Way adj (0, 0) q k' → k ≤ k' then some h.choose else none
theorem leastC_some {adj : Cell → Cs} {q : Cell} {v : Int} : leastC adj q = some v ↔ Way adj (0, 0) q v ∧ ∀ k', Way adj (0, 0) q k' → v ≤ k' := by
  unfold leastC
  split
  · rename_i h
    obtain ⟨h1, h2⟩ := h.choose_spec
    refine ⟨fun e => ?_, fun ⟨g1, g2⟩ => ?_⟩
    · cases e; exact ⟨h1, h2⟩
    · have a := h2 v g1
      have b := g2 _ h1
      rw [show h.choose = v by omega]
  · rename_i h
    exact ⟨(fun e => nomatch e), fun g => absurd ⟨v, g⟩ h⟩
theorem CostOk.look {adj : Cell → Cs} {fd : Cs} (h : CostOk adj fd) (q : Cell) : Dw.look fd q = leastC adj q := by
  cases e : Dw.look fd q with
  | some v => exact (leastC_some.mpr (h.f q v e)).symm
  | none =>
    cases e2 : leastC adj q with
    | none => rfl
    | some v =>
      obtain ⟨u, hu, _⟩ := h.d q v (leastC_some.mp e2).1
      rw [e] at hu; cases hu
theorem filter_less {α : Type} {p q : α → Bool} {l : List α} (h : ∀ a ∈ l, p a = true → q a = true) {y : α} (hy : y ∈ l) (h1 : q y = true) (h2 : p y = false) : (l.filter p).length < (l.filter q).length := by
  induction l with
  | nil => cases hy
  | cons b r ih =>
    have le : (r.filter p).length ≤ (r.filter q).length := by
      have : ∀ s : List α, (∀ a ∈ s, p a = true → q a = true) → (s.filter p).length ≤ (s.filter q).length := fun s => by
        induction s with
        | nil => intro _; exact Nat.le_refl _
        | cons b' r' ih' =>
          intro hs
          have i2 := ih' fun a ha => hs a (List.mem_cons_of_mem _ ha)
          have hb := hs b' List.mem_cons_self
          by_cases z : p b' = true
          · rw [List.filter_cons_of_pos z, List.filter_cons_of_pos (hb z)]; simpa using i2
          · rw [List.filter_cons_of_neg z]
            by_cases z2 : q b' = true
            · rw [List.filter_cons_of_pos z2]; simp; omega
            · rw [List.filter_cons_of_neg z2]; exact i2
      exact this r fun a ha => h a (List.mem_cons_of_mem _ ha)
    rcases List.mem_cons.mp hy with rfl | hy
    · rw [List.filter_cons_of_neg (by rw [h2]; exact Bool.false_ne_true), List.filter_cons_of_pos h1, List.length_cons]
      omega
    · have := ih (fun a ha => h a (List.mem_cons_of_mem _ ha)) hy
      by_cases z : p b = true
      · rw [List.filter_cons_of_pos z, List.filter_cons_of_pos (h b List.mem_cons_self z), List.length_cons, List.length_cons]; omega
      · rw [List.filter_cons_of_neg z]
        by_cases z2 : q b = true
        · rw [List.filter_cons_of_pos z2, List.length_cons]; omega
        · rw [List.filter_cons_of_neg z2]; exact this
theorem look_mem {α : Type} {m : List (Cell × α)} {k : Cell} {y : α} (h : look m k = some y) : (k, y) ∈ m := by
  unfold look at h
  obtain ⟨p, hp, rfl⟩ := Option.map_eq_some_iff.mp h
  have e := List.find?_some hp
  simp at e
  rw [← e]
  exact List.mem_of_find?_eq_some hp
/-- how many cells are nearer -/
def rankC (fd : Cs) (v : Int) : Nat := (fd.filter fun e => decide (e.2 < v)).length
theorem rankC_lt {fd : Cs} {q : Cell} {u v : Int} (h : look fd q = some u) (l : u < v) : rankC fd u < rankC fd v :=
  filter_less (fun e _ z => by rw [decide_eq_true_eq] at *; omega) (look_mem h) (by simpa using l) (by simp)
/-- of each cell with a way home but the dock, some step goes on by one -/
theorem step_home {m : Mp} {a : Am} {x : Bx} {q : Cell} {v : Int} (h : leastC (adjH m a x) q = some v) (hq : q ≠ (0, 0)) : ∃ i ∈ stepsF m a x q, ∃ u, leastC (adjH m a x) (besi q i) = some u ∧ u + costK (knOf m (besi q i)) = v := by
  obtain ⟨h1, h2⟩ := leastC_some.mp h
  cases h1 with
  | here => exact absurd rfl hq
  | step w1 w2 =>
    rename_i b k n
    obtain ⟨i, s1, rfl, rfl⟩ := mem_adjH.mp w2
    refine ⟨i, s1, k, leastC_some.mpr ⟨w1, fun k' hk' => ?_⟩, rfl⟩
    have := h2 _ (Way.step hk' w2)
    omega
/-- a way home's first step -/
def FirstOk (m : Mp) (a : Am) (x : Bx) (p : Cell) (s : Str) : Prop := ∃ i ∈ stepsF m a x p, ∃ u v rest, s = sideS i ++ rest ∧ leastC (adjH m a x) (besi p i) = some u ∧ leastC (adjH m a x) p = some v ∧ u + costK (knOf m (besi p i)) = v
structure WayOk (m : Mp) (a : Am) (x : Bx) (p : Cell) (s : Str) : Prop where
  dock : p = (0, 0) → s = ""
  first : p ≠ (0, 0) → FirstOk m a x p s
  len : s.length ≤ 5000
  ok : PyData.strOk s = true
structure WI (m : Mp) (a : Am) (x : Bx) (p : Cell) (fd : Cs) (t : Cell × Str) : Prop where
  has : ∃ v, look fd t.1 = some v ∧ t.2.length + rankC fd v ≤ fd.length
  st : (t.1 = p ∧ t.2 = "") ∨ (p ≠ (0, 0) ∧ FirstOk m a x p t.2)
  ok : PyData.strOk t.2 = true
theorem rankC_le (fd : Cs) (v : Int) : rankC fd v ≤ fd.length := List.length_filter_le _ _
section
variable {c : Cl} {P : Program} {w : World} {K : PySem.W.Frag} {mg : Str → Option Value} {base : Heap}
noncomputable def letB (m : Mp) (a : Am) (x : Bx) (p : Cell) (lf : Int) (i : Fin 4) : Bool := match leastC (adjH m a x) (besi p i) with
  | some v => decide (v ≤ lf - costK (knOf m (besi p i)))
  | none => false
/-- what homes asks -/
structure MpOk (m : Mp) (a : Am) (x : Bx) : Prop where
  dock : arHas a x (0, 0) = true
  len : m.length ≤ 1000
  st : stepK (knOf m (0, 0)) (knOf m (0, 0)) = true
  pos : Pos1 m
noncomputable def letL (m : Mp) (a : Am) (x : Bx) (p : Cell) (lf : Int) : List (Fin 4) := (stepsF m a x p).filter (letB m a x p lf)
def R_sl (P : Program) (w : World) : List (Slot K c) → Slot K c → Prop := fun ss r => ∃ (m : Mp) (tr : Grs) (a : Am) (x : Bx) (p : Cell) (lf : Int), ss = [kb (kCh P w (encM m) tr), sd (arE a x), sd (cD p), sd (.int lf)] ∧ r = so ((letL m a x p lf).map fun i => .str (sideS i)) ∧ MpOk m a x
abbrev n_sl : List Str := ["chart", "area", "place", "left", "ways", "found", "side", "cell", "cost"]
theorem sc_sl : FnScope n_sl ["chart", "area", "place", "left"] (defScope (topS 22)) := ⟨rfl, rfl, rfl, by decide +kernel, rfl, by decide +kernel, by decide +kernel⟩
theorem ok_sl (F : FunAt K mg "sides_let" (topS 22) ["chart", "area", "place", "left"]) (F_homes : DefOk (c := c) P w K mg base "homes" 5 (R_homes P w)) (F_ks : DefOk (c := c) P w K mg base "known_steps" 4 (R_ks P w)) : DefOk (c := c) P w K mg base "sides_let" 6 (R_sl P w) := by
  refine def_okF F sc_sl (fun ss r h => by obtain ⟨m, tr, a, x, p, lf, rfl, _⟩ := h; rfl) ?_
  rintro fa cdv A outer s H E ss r ⟨m, tr, a, x, p, lf, rfl, rfl, ok⟩ C
  refine dss_setX C 4 (dx_call F_homes (C.room.mono (by decide)) (das_cons (DK.da (dk_bor 0)) (das_cons (DE.da (de_name 1)) das_nil)) ⟨m, tr, a, x, rfl, rfl, ok.dock, ok.len, ok.st, ok.pos⟩) ?_
  refine dss_exE (f := fun found : Cs => kn (kDct P w (encI found))) 4 fun fd hfd => ?_
  refine dss_setX C 5 (dx_lst des_nil) ?_
  refine dss_for C (di_map (stD m p) 0 (DX.frozen (dx_call F_ks (C.room.mono (by decide)) (das_cons (DK.da (dk_bor 0)) (das_cons (DE.da (de_name 1)) (das_cons (DE.da (de_name 2)) das_nil))) ⟨m, tr, a, x, p, rfl, rfl, ok.dock⟩)))
    (fun n => [some (kb (kCh P w (encM m) tr)), some (sd (arE a x)), some (sd (cD p)), some (sd (.int lf)), some (kn (kDct P w (encI fd))), some (so ((((stepsF m a x p).take n).filter (letB m a x p lf)).map fun i => .str (sideS i))), none, none, none]) ?wk (is := [6, 7, 8]) (fun n hn => dg_tup C (dgs_cons (dg_name C 6) (dgs_cons (dg_name C 7) (dgs_cons (dg_name C 8) dgs_nil)))) (fun n hn => ?turn) ?rest
  case wk => show Wk _ _; walk_at "wk"
  case turn =>
    have l4 := stepsF_len m a x p
    have hl : ((((stepsF m a x p).take n).filter (letB m a x p lf)).map fun i => (.str (sideS i) : D)).length < sizeLine := lt_line (by
      rw [List.length_map]
      exact Nat.le_trans (List.length_filter_le _ _) (by rw [List.length_take]; omega))
    rw [take_atD 0 hn, List.filter_append, List.map_append]
    generalize (stepsF m a x p).getD n 0 = i
    cases e : leastC (adjH m a x) (besi p i) with
    | none =>
      have hb : letB m a x p lf i = false := by unfold letB; rw [e]
      refine dss_skip (dt_cast (DW.dt (dw_and (k' := false) (dt_xin C (de_name 7) (dk_own 4)) fun z => ?_)) (Bool.and_false _)) rfl (dss_nil ?_)
      · rw [look_encI, hfd.look, e] at z; cases z
      · rw [List.filter_cons_of_neg (by rw [hb]; exact Bool.false_ne_true), List.filter_nil, List.map_nil, List.append_nil]
        show Wk _ _
        walk_at "wk"
    | some v =>
      have lk : look (encI fd) (besi p i) = some (.int v) := by rw [look_encI, hfd.look, e]; rfl
      have hb : letB m a x p lf i = decide (v ≤ lf - costK (knOf m (besi p i))) := by unfold letB; rw [e]
      refine dss_if (DW.dt (dw_and (dt_xin C (de_name 7) (dk_own 4)) fun z => dw_and1 (dt_cmp (DE.dr (de_bin (DE.dr (de_name 3)) (DE.dr (de_name 8)) od_sub)) (DE.dr (de_xget C (dk_own 4) (de_name 7) lk)) od_ge))) (fun hc => ?_) (fun hc => ?_)
      · rw [lk] at hc
        have hb' : letB m a x p lf i = true := hb.trans hc
        refine dss_mut 5 (dm_append 5 (de_name 6) rfl hl) (dss_nil ?_)
        refine dss_nil ?_
        rw [List.filter_cons_of_pos hb']
        show Wk _ _
        walk_at "wk"
      · rw [lk] at hc
        have hb' : letB m a x p lf i = false := hb.trans hc
        refine dss_nil (dss_nil ?_)
        rw [List.filter_cons_of_neg (by rw [hb']; exact Bool.false_ne_true), List.filter_nil, List.map_nil, List.append_nil]
        show Wk _ _
        walk_at "wk"
  case rest =>
  rw [List.take_of_length_le (Nat.le_refl _)]
  exact dss_retO 5 rfl
def R_lets (P : Program) (w : World) : List (Slot K c) → Slot K c → Prop := fun ss r => ∃ (m : Mp) (tr : Grs) (a : Am) (x : Bx) (p : Cell) (lf : Int) (i : Fin 4), ss = [kb (kCh P w (encM m) tr), sd (arE a x), sd (cD p), sd (.int lf), sd (.str (sideS i))] ∧ r = sd (.bool true) ∧ MpOk m a x ∧ i ∈ letL m a x p lf
theorem sc_lets : FnScope ["chart", "area", "place", "left", "side"] ["chart", "area", "place", "left", "side"] (defScope (topS 23)) := ⟨rfl, rfl, rfl, by decide +kernel, rfl, by decide +kernel, by decide +kernel⟩
theorem ok_lets (F : FunAt K mg "lets" (topS 23) ["chart", "area", "place", "left", "side"]) (F_sl : DefOk (c := c) P w K mg base "sides_let" 6 (R_sl P w)) : DefOk (c := c) P w K mg base "lets" 7 (R_lets P w) := by
  refine def_okF F sc_lets (fun ss r h => by obtain ⟨m, tr, a, x, p, lf, i, rfl, _⟩ := h; rfl) ?_
  rintro fa cdv A outer s H E ss r ⟨m, tr, a, x, p, lf, i, rfl, rfl, ok, hi⟩ C
  refine dss_ret (de_cmp (DE.dr (de_name 4)) (DE.dr (DX.frozen (dx_call F_sl (C.room.mono (by decide)) (das_cons (DK.da (dk_bor 0)) (das_cons (DE.da (de_name 1)) (das_cons (DE.da (de_name 2)) (das_cons (DE.da (de_name 3)) das_nil)))) ⟨m, tr, a, x, p, lf, rfl, rfl, ok⟩))) (od_inL C (Shp.str 0 _ (sideS_ok i)) (ShpA.map (n := 0) fun i _ => Shp.str 0 _ (sideS_ok i)))) ?_
  show sd (.bool _) = sd (.bool true)
  congr 2
  exact List.any_eq_true.mpr ⟨_, List.mem_map.mpr ⟨i, hi, rfl⟩, by simp [PyData.eqv]⟩
end

end Lw

namespace Lw
open PySem L2 PyProof.Rows Dw
local macro_rules | `(tactic| walk_at "shp") => `(tactic| first | exact Shp.int _ _ | exact Shp.bool _ _ | exact Shp.none _ | exact Shp.str _ _ (by decide +kernel) | (refine Shp.tuple ?_; walk_at "shp") | (refine Shp.list ?_; walk_at "shp") | exact ShpA.nil _ | (refine ShpA.cons ?_ ?_ <;> walk_at "shp") | (refine Shp.mono (En.shp _) ?_; decide))
local macro_rules | `(tactic| walk_at "wk") => `(tactic| first | exact wk_nil | exact Wk.refl _ | (refine wk_same ?_; walk_at "wk") | (refine wk_none ?_; walk_at "wk"))
local macro_rules | `(tactic| walk_at "sz") => `(tactic| first | exact lt_line (Nat.le_of_ble_eq_true rfl) | exact small (Nat.le_of_ble_eq_true rfl) | (apply lt_line; simp; omega) | (apply small; simp; omega))
local macro_rules | `(tactic| walk_at "call") => `(tactic| first | exact ⟨_, rfl, rfl⟩ | exact ⟨_, _, rfl, rfl⟩ | exact ⟨_, rfl, rfl, by decide⟩ | exact ⟨_, _, rfl, rfl, by decide⟩ | exact ⟨_, _, _, rfl, rfl⟩ | exact ⟨_, _, rfl, rfl, by omega⟩)
section
variable {c : Cl} {P : Program} {w : World} {K : PySem.W.Frag} {mg : Str → Option Value} {base : Heap}
def wayS (m : Mp) (a : Am) (x : Bx) (p : Cell) : Slot K c := sE (fun s : Str => sd (.str s)) (WayOk m a x p)
def R_wh (P : Program) (w : World) : List (Slot K c) → Slot K c → Prop := fun ss r => ∃ (m : Mp) (tr : Grs) (a : Am) (x : Bx) (p : Cell), ss = [kb (kCh P w (encM m) tr), sd (arE a x), sd (cD p)] ∧ r = wayS m a x p ∧ MpOk m a x ∧ ∃ v, leastC (adjH m a x) p = some v
abbrev n_wh : List Str := ["chart", "area", "cell", "costs", "found", "side", "other", "cost"]
theorem sc_wh : FnScope n_wh ["chart", "area", "cell"] (defScope (topS 20)) := ⟨rfl, rfl, rfl, by decide +kernel, rfl, by decide +kernel, by decide +kernel⟩
theorem len_side (s : Str) (i : Fin 4) : (s ++ sideS i).length = s.length + 1 := by
  rw [Str.length_append]
  match i with
  | 0 => rfl
  | 1 => rfl
  | 2 => rfl
  | 3 => rfl
theorem side_e (i : Fin 4) : ("" : Str) ++ sideS i = sideS i ++ "" := by
  match i with
  | 0 => decide +kernel
  | 1 => decide +kernel
  | 2 => decide +kernel
  | 3 => decide +kernel
theorem ok_wh (F : FunAt K mg "way_home" (topS 20) ["chart", "area", "cell"]) (F_homes : DefOk (c := c) P w K mg base "homes" 5 (R_homes P w)) (F_sf : DefOk (c := c) P w K mg base "steps_from" 3 (R_sf P w)) (g_DOCK : ConstAt K c mg "DOCK" dockD) : DefOk (c := c) P w K mg base "way_home" 6 (R_wh P w) := by
  refine def_okF F sc_wh (fun ss r h => by obtain ⟨m, tr, a, x, p, rfl, _⟩ := h; rfl) ?_
  rintro fa cdv A outer s H E ss r ⟨m, tr, a, x, p, rfl, rfl, ok, v0, hv0⟩ C
  refine dss_setX C 3 (dx_call F_homes (C.room.mono (by decide)) (das_cons (DK.da (dk_bor 0)) (das_cons (DE.da (de_name 1)) das_nil)) ⟨m, tr, a, x, rfl, rfl, ok.dock, ok.len, ok.st, ok.pos⟩) ?_
  refine dss_exE (f := fun found : Cs => kn (kDct P w (encI found))) 3 fun fd hfd => ?_
  have lp : look fd p = some v0 := (hfd.look p).trans hv0
  refine dss_skip (dt_xnotin C (de_name 2) (dk_own 3)) (by rw [look_encI, lp]; rfl) ?_
  refine dss_set C 4 de_str ?_
  refine dss_while C (fun t : { t : Cell × Str // WI m a x p fd t } => [some (kb (kCh P w (encM m) tr)), some (sd (arE a x)), some (sd (cD t.1.1)), some (kn (kDct P w (encI fd))), some (sd (.str t.1.2)), none, none, none]) (fun t => rankC fd ((look fd t.1.1).getD 0)) (fun t => !decide (t.1.1 = (0, 0))) ⟨(p, ""), ⟨v0, lp, by have := rankC_le fd v0; show 0 + _ ≤ _; omega⟩, .inl ⟨rfl, rfl⟩, (show PyData.strOk "" = true by decide +kernel)⟩ ?wk (fun t => dt_cmp (DE.dr (de_name 2)) (DE.dr (de_const g_DOCK)) (od_neE C t.1.1 (0, 0))) (fun t hb => ?turn) (fun t hb => ?rest)
  case wk => show Wk _ _; walk_at "wk"
  case turn =>
    obtain ⟨⟨q, z⟩, ⟨v, lq, hrk⟩, hst, hok⟩ := t
    have hq : q ≠ (0, 0) := by simpa using hb
    have lq : look fd q = some v := lq
    have hrk : z.length + rankC fd v ≤ fd.length := hrk
    have hl5 : fd.length ≤ 5000 := hfd.l
    have hvq : leastC (adjH m a x) q = some v := (hfd.look q).symm.trans lq
    let qual : Fin 4 → Bool := fun i => match look fd (besi q i) with
      | some u => decide (u + costK (knOf m (besi q i)) = v)
      | none => false
    have hex : ∃ i ∈ stepsF m a x q, qual i = true := by
      obtain ⟨i, h1, u, h2, h3⟩ := step_home hvq hq
      refine ⟨i, h1, ?_⟩
      show (match look fd (besi q i) with | some u => decide (u + costK (knOf m (besi q i)) = v) | none => false) = true
      rw [hfd.look, h2]
      exact decide_eq_true h3
    obtain ⟨i1, hi1, hi2⟩ := hex
    have hj : (stepsF m a x q).findIdx qual < (stepsF m a x q).length := List.findIdx_lt_length_of_exists ⟨i1, hi1, hi2⟩
    generalize hj0 : (stepsF m a x q).findIdx qual = j0 at hj
    have hno : ∀ n, n < j0 → ∀ hn : n < (stepsF m a x q).length, qual ((stepsF m a x q).getD n 0) = false := fun n h hn => by
      have := List.not_of_lt_findIdx (p := qual) (xs := stepsF m a x q) (i := n) (by rw [hj0]; exact h)
      rw [List.getD_eq_getElem?_getD, List.getElem?_eq_getElem hn]
      simpa using this
    have hyes : qual ((stepsF m a x q).getD j0 0) = true := by
      have := List.findIdx_getElem (p := qual) (xs := stepsF m a x q) (w := by rw [hj0]; exact hj)
      rw [List.getD_eq_getElem?_getD, List.getElem?_eq_getElem hj]
      simp only [hj0] at this
      exact this
    refine dss_for C (di_map (stD m q) 0 (DX.frozen (dx_call F_sf (C.room.mono (by decide)) (das_cons (DK.da (dk_bor 0)) (das_cons (DE.da (de_name 1)) (das_cons (DE.da (de_name 2)) das_nil))) ⟨m, tr, a, x, q, rfl, rfl⟩)))
      (fun n => [some (kb (kCh P w (encM m) tr)), some (sd (arE a x)), some (if n ≤ j0 then sd (cD q) else nev), some (kn (kDct P w (encI fd))), some (sd (.str z)), none, none, none]) ?wk2 (is := [5, 6, 7]) (fun n hn => dg_tup C (dgs_cons (dg_name C 5) (dgs_cons (dg_name C 6) (dgs_cons (dg_name C 7) dgs_nil)))) (fun n hn => ?turn2) ?rest2
    case wk2 =>
      rw [if_pos (Nat.zero_le _)]
      show Wk _ _
      walk_at "wk"
    case turn2 =>
      by_cases hle : n ≤ j0
      · rw [if_pos hle]
        have nx : qual ((stepsF m a x q).getD n 0) = false → n + 1 ≤ j0 := fun h => by
          rcases Nat.lt_or_ge n j0 with y | y
          · exact y
          · have e : n = j0 := Nat.le_antisymm hle y
            rw [e, hyes] at h; cases h
        generalize hi : (stepsF m a x q).getD n 0 = i at nx
        have him : i ∈ stepsF m a x q := by
          rw [← hi, List.getD_eq_getElem?_getD, List.getElem?_eq_getElem hn]
          exact List.getElem_mem hn
        have skip : qual i = false → Wk (c := c) (K := K) [some (kb (kCh P w (encM m) tr)), some (sd (arE a x)), some (sd (cD q)), some (kn (kDct P w (encI fd))), some (sd (.str z)), some (sd (.str (sideS i))), some (sd (cD (besi q i))), some (sd (.int (costK (knOf m (besi q i)))))] [some (kb (kCh P w (encM m) tr)), some (sd (arE a x)), some (if n + 1 ≤ j0 then sd (cD q) else nev), some (kn (kDct P w (encI fd))), some (sd (.str z)), none, none, none] := fun h => by
          rw [if_pos (nx h)]
          walk_at "wk"
        cases e : look fd (besi q i) with
        | none =>
          have hqf : qual i = false := by
            show (match look fd (besi q i) with | some u => decide (u + costK (knOf m (besi q i)) = v) | none => false) = false
            rw [e]
          refine dss_skip (dt_cast (DW.dt (dw_and (k' := false) (dt_xin C (de_name 6) (dk_own 3)) fun z => ?_)) (Bool.and_false _)) rfl (dss_nil (skip hqf))
          rw [look_encI, e] at z; cases z
        | some u =>
          have hqe : qual i = decide (u + costK (knOf m (besi q i)) = v) := by
            show (match look fd (besi q i) with | some u => decide (u + costK (knOf m (besi q i)) = v) | none => false) = _
            rw [e]
          have lk : look (encI fd) (besi q i) = some (.int u) := by rw [look_encI, e]; rfl
          have lkq : look (encI fd) q = some (.int v) := by rw [look_encI, lq]; rfl
          refine dss_if (DW.dt (dw_and (dt_xin C (de_name 6) (dk_own 3)) fun _ => dw_and1 (dt_cmp (DE.dr (de_bin (DE.dr (de_xget C (dk_own 3) (de_name 6) lk)) (DE.dr (de_name 7)) od_add)) (DE.dr (de_xget C (dk_own 3) (de_name 2) lkq)) (od_eqI C)))) (fun hc => ?_) (fun hc => ?_)
          · rw [lk] at hc
            have huv : u + costK (knOf m (besi q i)) = v := by simpa using hc
            have hc1 := step_cost ok.pos him
            have hrl := rankC_lt e (show u < v by omega)
            refine dss_aug C 4 (d1 := .str z) (d2 := .str (sideS i)) (d := .str (z ++ sideS i)) (de_name 5) iop_add_str (fun B H v' w' Q sb hv hw g => ?_) ?_
            · cases hv
              cases hw
              have e1 : (sideS i).length = 1 := by
                match i with
                | 0 => rfl
                | 1 => rfl
                | 2 => rfl
                | 3 => rfl
              exact ⟨z, sideS i, rfl, rfl, small (by rw [e1]; omega), gv_of sb g (.str _)⟩
            refine dss_set C 2 (de_name 6) ?_
            refine dss_break ?_
            refine dss_nil ⟨⟨(besi q i, z ++ sideS i), ⟨u, e, ?_⟩, .inr ?_, strOk_app hok (sideS_ok i)⟩, ?_, ?_⟩
            · show (z ++ sideS i).length + rankC fd u ≤ fd.length
              rw [len_side]
              omega
            · have lu : leastC (adjH m a x) (besi q i) = some u := (hfd.look _).symm.trans e
              rcases hst with ⟨e1, e2⟩ | ⟨h1, j, h2, u', v', rest, h3, h4⟩
              · have e1 : q = p := e1
                have e2 : z = "" := e2
                subst e1
                subst e2
                exact ⟨hq, i, him, u, v, "", side_e i, lu, hvq, huv⟩
              · exact ⟨h1, j, h2, u', v', rest ++ sideS i, by rw [← Str.append_assoc, ← show z = sideS j ++ rest from h3], h4⟩
            · show rankC fd ((look fd (besi q i)).getD 0) < rankC fd ((look fd q).getD 0)
              rw [e, lq]
              exact hrl
            · show Wk _ _
              walk_at "wk"
          · rw [lk] at hc
            exact dss_nil (dss_nil (skip (hqe.trans (by simpa using hc))))
      · rw [if_neg hle]
        exact dss_nev 2
    case rest2 =>
    rw [if_neg (Nat.not_le.mpr hj)]
    exact dss_nev 2
  case rest =>
  obtain ⟨⟨q, z⟩, ⟨v, lq, hrk⟩, hst, hok⟩ := t
  have hq : q = (0, 0) := by simpa using hb
  have hrk : z.length + rankC fd v ≤ fd.length := hrk
  refine dss_retX (DE.dxE (f := PyData.str) (q := WayOk m a x p) z ⟨fun e => ?_, fun e => ?_, by have := hfd.l; omega, hok⟩ (de_name 4)) rfl
  · rcases hst with ⟨_, e2⟩ | ⟨h1, _⟩
    · exact e2
    · exact absurd e h1
  · rcases hst with ⟨e1, _⟩ | ⟨_, h2⟩
    · exact absurd ((show q = p from e1).symm.trans hq) e
    · exact h2
end

end Lw

namespace Lw
open PySem L2 PyProof.Rows Dw
local macro_rules | `(tactic| walk_at "shp") => `(tactic| first | exact Shp.int _ _ | exact Shp.bool _ _ | exact Shp.none _ | exact Shp.str _ _ (by decide +kernel) | (refine Shp.tuple ?_; walk_at "shp") | (refine Shp.list ?_; walk_at "shp") | exact ShpA.nil _ | (refine ShpA.cons ?_ ?_ <;> walk_at "shp") | (refine Shp.mono (En.shp _) ?_; decide))
local macro_rules | `(tactic| walk_at "wk") => `(tactic| first | exact wk_nil | exact Wk.refl _ | (refine wk_same ?_; walk_at "wk") | (refine wk_none ?_; walk_at "wk"))
local macro_rules | `(tactic| walk_at "sz") => `(tactic| first | exact lt_line (Nat.le_of_ble_eq_true rfl) | exact small (Nat.le_of_ble_eq_true rfl) | (apply lt_line; simp; omega) | (apply small; simp; omega))
local macro_rules | `(tactic| walk_at "call") => `(tactic| first | exact ⟨_, rfl, rfl⟩ | exact ⟨_, _, rfl, rfl⟩ | exact ⟨_, rfl, rfl, by decide⟩ | exact ⟨_, _, rfl, rfl, by decide⟩ | exact ⟨_, _, _, rfl, rfl⟩ | exact ⟨_, _, rfl, rfl, by omega⟩)
def restN (r : Int) : Nat → Int
  | 0 => r
  | n + 1 => restN r n / 10 ^ 45
def numN (y : Int) : Nat → Int
  | 0 => y
  | n + 1 => (numN y n * numN y n + 48271 * numN y n + n) % (10 ^ 18 + 9)
def streamF (cell : Int) (many : Nat) : List Int := if 10 ^ 30 ≤ cell then (List.range many).map fun i => restN (cell - 10 ^ 30) i % 10 ^ 45 else (List.range many).map fun i => numN (cell % (10 ^ 18 + 9) + 48271) (i + 3)
theorem streamF_len (cell : Int) (many : Nat) : (streamF cell many).length = many := by unfold streamF; split <;> simp
theorem numN_small (cell : Int) : ∀ n, -(2 ^ 64) < numN (cell % (10 ^ 18 + 9) + 48271) n ∧ numN (cell % (10 ^ 18 + 9) + 48271) n < 2 ^ 64
  | 0 => by
    have h1 := Int.emod_nonneg cell (show (10 ^ 18 + 9 : Int) ≠ 0 by decide)
    have h2 := Int.emod_lt_of_pos cell (show (0 : Int) < 10 ^ 18 + 9 by decide)
    show -(2 ^ 64) < cell % (10 ^ 18 + 9) + 48271 ∧ cell % (10 ^ 18 + 9) + 48271 < 2 ^ 64
    omega
  | n + 1 => by
    have h1 := Int.emod_nonneg (numN (cell % (10 ^ 18 + 9) + 48271) n * numN (cell % (10 ^ 18 + 9) + 48271) n + 48271 * numN (cell % (10 ^ 18 + 9) + 48271) n + n) (show (10 ^ 18 + 9 : Int) ≠ 0 by decide)
    have h2 := Int.emod_lt_of_pos (numN (cell % (10 ^ 18 + 9) + 48271) n * numN (cell % (10 ^ 18 + 9) + 48271) n + 48271 * numN (cell % (10 ^ 18 + 9) + 48271) n + n) (show (0 : Int) < 10 ^ 18 + 9 by decide)
    show -(2 ^ 64) < (numN (cell % (10 ^ 18 + 9) + 48271) n * numN (cell % (10 ^ 18 + 9) + 48271) n + 48271 * numN (cell % (10 ^ 18 + 9) + 48271) n + n) % (10 ^ 18 + 9) ∧ (numN (cell % (10 ^ 18 + 9) + 48271) n * numN (cell % (10 ^ 18 + 9) + 48271) n + 48271 * numN (cell % (10 ^ 18 + 9) + 48271) n + n) % (10 ^ 18 + 9) < 2 ^ 64
    omega
theorem cut_from2 (ds : List D) (h : 2 ≤ ds.length) : Dw.cutD ds (some 2) none = ds.drop 2 := by
  unfold Dw.cutD
  rw [show HT.sIx ds.length 0 (some 2) = 2 from (HT.sIx_nat ds.length 0 2).trans (Nat.min_eq_left h), HT.sIx_none]
  exact List.take_of_length_le (by rw [List.length_drop]; exact Nat.le_refl _)
theorem drop2 {α : Type} (g : Nat → α) (n : Nat) : ((List.range (n + 2)).map g).drop 2 = (List.range n).map fun i => g (i + 2) := by
  refine List.ext_getElem (by simp) fun i h1 h2 => ?_
  simp [Nat.add_comm]
theorem range_snoc {α : Type} (f : Nat → α) (n : Nat) : (List.range (n + 1)).map f = (List.range n).map f ++ [f n] := by rw [List.range_succ, List.map_append]; rfl
section
variable {c : Cl} {P : Program} {w : World} {K : PySem.W.Frag} {mg : Str → Option Value} {base : Heap}
def R_stream : List (Slot K c) → Slot K c → Prop := fun ss r => ∃ (cell : Int) (many : Nat), ss = [sd (.int cell), sd (.int many)] ∧ r = so ((streamF cell many).map .int) ∧ many ≤ 1000
abbrev n_stream : List Str := ["_law_cell", "_law_many", "_law_found", "_law_rest", "_law_k", "_law_number"]
theorem sc_stream : FnScope n_stream ["_law_cell", "_law_many"] (defScope (topS 36)) := ⟨rfl, rfl, rfl, by decide +kernel, rfl, by decide +kernel, by decide +kernel⟩
theorem ok_stream (F : FunAt K mg "_law_stream" (topS 36) ["_law_cell", "_law_many"]) (b_range : mg "range" = none) : DefOk (c := c) P w K mg base "_law_stream" 1 R_stream := by
  refine def_okF F sc_stream (fun ss r h => by obtain ⟨cell, many, rfl, _⟩ := h; rfl) ?_
  rintro fa cdv A outer s H E ss r ⟨cell, many, rfl, rfl, hm⟩ C
  refine dss_setX C 2 (dx_lst des_nil) ?_
  have ln : ∀ (f : Nat → Int) (n : Nat), n ≤ 2000 → ((List.range n).map fun i => (.int (f i) : D)).length < sizeLine := fun f n h => lt_line (by rw [List.length_map, List.length_range]; omega)
  refine dss_if (dt_cmp (DE.dr (de_name 0)) (DE.dr (de_lit (10 ^ 30) (de_bin (DE.dr de_int) (DE.dr de_int) od_powC) (by decide +kernel))) od_ge) (fun hb => ?_) (fun hb => ?_)
  · have hc : (10 : Int) ^ 30 ≤ cell := of_decide_eq_true hb
    refine dss_set C 3 (de_bin (DE.dr (de_name 0)) (DE.dr (de_lit (10 ^ 30) (de_bin (DE.dr de_int) (DE.dr de_int) od_powC) (by decide +kernel))) od_sub) ?_
    refine dss_for C (di_range1 (de_name 1) (by omega) (by omega) b_range) (fun n => [some (sd (.int cell)), some (sd (.int many)), some (so ((List.range n).map fun i => .int (restN (cell - 10 ^ 30) i % 10 ^ 45))), some (sd (.int (restN (cell - 10 ^ 30) n))), none, none]) ?wk (is := [4]) (fun n hn => dg_name C 4) (fun n hn => ?turn) ?rest
    case wk => show Wk _ _; walk_at "wk"
    case turn =>
      rw [Int.toNat_natCast] at hn
      rw [range_snoc]
      refine dss_mut 2 (dm_append 2 (de_bin (DE.dr (de_name 3)) (DE.dr (de_lit (10 ^ 45) (de_bin (DE.dr de_int) (DE.dr de_int) od_powC) (by decide +kernel))) (od_mod (by decide +kernel))) rfl (ln _ n (by omega))) ?_
      refine dss_set C 3 (de_bin (DE.dr (de_name 3)) (DE.dr (de_lit (10 ^ 45) (de_bin (DE.dr de_int) (DE.dr de_int) od_powC) (by decide +kernel))) od_fdivC) (dss_nil ?_)
      show Wk _ _
      walk_at "wk"
    case rest =>
    refine dss_retO 2 ?_
    show so _ = so _
    unfold streamF
    rw [if_pos hc, List.map_map, Int.toNat_natCast]
    rfl
  have hc : ¬ (10 : Int) ^ 30 ≤ cell := of_decide_eq_false hb
  refine dss_nil ?_
  refine dss_set C 5 (d := .int (cell % (10 ^ 18 + 9) + 48271)) (de_bin (DE.dr (de_bin (DE.dr (de_name 0)) (DE.dr (de_lit (10 ^ 18 + 9) (de_bin (DE.dr (de_bin (DE.dr de_int) (DE.dr de_int) od_powC)) (DE.dr de_int) od_add) (by decide +kernel))) (od_mod (by decide +kernel)))) (DE.dr de_int) od_add) ?_
  refine dss_for C (di_range1 (m := ((many + 2 : Nat) : Int)) (de_bin (DE.dr (de_name 1)) (DE.dr de_int) od_add) (by omega) (by omega) b_range) (fun n => [some (sd (.int cell)), some (sd (.int many)), some (so ((List.range n).map fun i => .int (numN (cell % (10 ^ 18 + 9) + 48271) (i + 1)))), none, none, some (sd (.int (numN (cell % (10 ^ 18 + 9) + 48271) n)))]) ?wk (is := [4]) (fun n hn => dg_name C 4) (fun n hn => ?turn) ?rest
  case wk => show Wk _ _; walk_at "wk"
  case turn =>
    rw [Int.toNat_natCast] at hn
    rw [range_snoc]
    have ns := numN_small cell n
    refine dss_set C 5 (d := .int (numN (cell % (10 ^ 18 + 9) + 48271) (n + 1))) (de_bin (DE.dr (de_bin (DE.dr (de_bin (DE.dr (de_bin (DE.dr (de_name 5)) (DE.dr (de_name 5)) (od_mulS (.inl ns)))) (DE.dr (de_bin (DE.dr de_int) (DE.dr (de_name 5)) (od_mulS (.inr ns)))) od_add)) (DE.dr (de_name 4)) od_add)) (DE.dr (de_lit (10 ^ 18 + 9) (de_bin (DE.dr (de_bin (DE.dr de_int) (DE.dr de_int) od_powC)) (DE.dr de_int) od_add) (by decide +kernel))) (od_mod (by decide +kernel))) ?_
    refine dss_mut 2 (dm_append 2 (de_name 5) rfl (ln _ n (by omega))) (dss_nil ?_)
    show Wk _ _
    walk_at "wk"
  case rest =>
  refine dss_freeze 2 ?_
  refine dss_retX (dx_sliceF (de_name 2) (do_some de_int) do_none) ?_
  show so _ = so _
  rw [Int.toNat_natCast, cut_from2 _ (by rw [List.length_map, List.length_range]; omega)]
  rw [drop2]
  unfold streamF
  rw [if_neg hc, List.map_map]
  rfl
end

end Lw

namespace Lw
open PySem L2 PyProof.Rows Dw
local macro_rules | `(tactic| walk_at "shp") => `(tactic| first | exact Shp.int _ _ | exact Shp.bool _ _ | exact Shp.none _ | exact Shp.str _ _ (by decide +kernel) | (refine Shp.tuple ?_; walk_at "shp") | (refine Shp.list ?_; walk_at "shp") | exact ShpA.nil _ | (refine ShpA.cons ?_ ?_ <;> walk_at "shp") | (refine Shp.mono (En.shp _) ?_; decide))
local macro_rules | `(tactic| walk_at "wk") => `(tactic| first | exact wk_nil | exact Wk.refl _ | (refine wk_same ?_; walk_at "wk") | (refine wk_none ?_; walk_at "wk"))
local macro_rules | `(tactic| walk_at "sz") => `(tactic| first | exact lt_line (Nat.le_of_ble_eq_true rfl) | exact small (Nat.le_of_ble_eq_true rfl) | (apply lt_line; simp; omega) | (apply small; simp; omega))
local macro_rules | `(tactic| walk_at "call") => `(tactic| first | exact ⟨_, rfl, rfl⟩ | exact ⟨_, _, rfl, rfl⟩ | exact ⟨_, rfl, rfl, by decide⟩ | exact ⟨_, _, rfl, rfl, by decide⟩ | exact ⟨_, _, _, rfl, rfl⟩ | exact ⟨_, _, rfl, rfl, by omega⟩)
def hts : List Int := [0, 0, 0, 0, 1, 2, -1]
def gdF (unit : Int) (xs : List Int) (k : Nat) : Gd := if xs.getD (3 * k) 0 % 5 = 0 then .wall else .gr (unit * (1 + xs.getD (3 * k) 0 / 5 % 3) + xs.getD (3 * k + 1) 0 % 5 / 4) (hts.getD (xs.getD (3 * k + 2) 0 % 7).toNat 0)
def rowF (cell : Int) (wide : Nat) (unit : Int) : List Gd := (List.range wide).map (gdF unit (streamF cell (3 * wide)))
theorem rowF_len (cell : Int) (wide : Nat) (unit : Int) : (rowF cell wide unit).length = wide := by unfold rowF; simp
theorem gdF_cost {unit u h : Int} {xs : List Int} {k : Nat} (hu : 1 ≤ unit) (e : gdF unit xs k = .gr u h) : unit ≤ u := by
  unfold gdF at e
  split at e
  · cases e
  · cases e
    have h1 := Int.emod_nonneg (xs.getD (3 * k) 0 / 5) (show (3 : Int) ≠ 0 by decide)
    have h2 := Int.emod_nonneg (xs.getD (3 * k + 1) 0) (show (5 : Int) ≠ 0 by decide)
    have h3 : 0 ≤ xs.getD (3 * k + 1) 0 % 5 / 4 := Int.ediv_nonneg h2 (by decide)
    have h4 : unit * 1 ≤ unit * (1 + xs.getD (3 * k) 0 / 5 % 3) := Int.mul_le_mul_of_nonneg_left (by omega) (by omega)
    omega
theorem ints_at {l : List Int} {i : Int} (h0 : 0 ≤ i) (h : i.toNat < l.length) : atI (l.map PyData.int) i = some (.int (l.getD i.toNat 0)) := by
  refine atI_of h0 ?_
  rw [List.getElem?_map, List.getElem?_eq_getElem h, List.getD_eq_getElem?_getD, List.getElem?_eq_getElem h]
  rfl
section
variable {c : Cl} {P : Program} {w : World} {K : PySem.W.Frag} {mg : Str → Option Value} {base : Heap}
def R_row : List (Slot K c) → Slot K c → Prop := fun ss r => ∃ (cell : Int) (wide : Nat) (unit : Int), ss = [sd (.int cell), sd (.int wide), sd (.int unit)] ∧ r = so ((rowF cell wide unit).map enc) ∧ wide ≤ 100
abbrev n_row : List Str := ["_law_cell", "_law_wide", "_law_unit", "_law_xs", "_law_row_here", "_law_k", "_law_cost", "_law_height"]
theorem sc_row : FnScope n_row ["_law_cell", "_law_wide", "_law_unit"] (defScope (topS 37)) := ⟨rfl, rfl, rfl, by decide +kernel, rfl, by decide +kernel, by decide +kernel⟩
theorem ok_row (F : FunAt K mg "_law_row" (topS 37) ["_law_cell", "_law_wide", "_law_unit"]) (F_stream : DefOk (c := c) P w K mg base "_law_stream" 1 R_stream) (b_range : mg "range" = none) (b_int : mg "int" = none) : DefOk (c := c) P w K mg base "_law_row" 2 R_row := by
  refine def_okF F sc_row (fun ss r h => by obtain ⟨cell, wide, unit, rfl, _⟩ := h; rfl) ?_
  rintro fa cdv A outer s H E ss r ⟨cell, wide, unit, rfl, rfl, hw⟩ C
  refine dss_set C 3 (DX.frozen (dx_call F_stream (C.room.mono (by decide)) (das_cons (DE.da (de_name 0)) (das_cons (DE.da (de_cast (de_bin (DE.dr de_int) (DE.dr (de_name 1)) (od_mulS (.inl (by decide)))) (show PyData.int (3 * (wide : Int)) = .int ((3 * wide : Nat) : Int) by push_cast; rfl))) das_nil)) ⟨cell, 3 * wide, rfl, rfl, by omega⟩)) ?_
  refine dss_setX C 4 (dx_lst des_nil) ?_
  refine dss_for C (di_range1 (de_name 1) (by omega) (by omega) b_range) (fun n => [some (sd (.int cell)), some (sd (.int wide)), some (sd (.int unit)), some (sd (.list ((streamF cell (3 * wide)).map .int))), some (so (((List.range n).map (gdF unit (streamF cell (3 * wide)))).map enc)), none, none, none]) ?wk (is := [5]) (fun n hn => dg_name C 5) (fun n hn => ?turn) ?rest
  case wk => show Wk _ _; walk_at "wk"
  case turn =>
    rw [Int.toNat_natCast] at hn
    have hlx := streamF_len cell (3 * wide)
    generalize hxs : streamF cell (3 * wide) = xs at hlx
    have ix : ∀ j : Nat, j < 3 → atI (xs.map PyData.int) (3 * (n : Int) + j) = some (.int (xs.getD (3 * n + j) 0)) := fun j hj => by
      have e : (3 * (n : Int) + j).toNat = 3 * n + j := by omega
      have := ints_at (l := xs) (i := 3 * (n : Int) + j) (by omega) (by rw [e]; omega)
      rw [e] at this
      exact this
    have ix0 : atI (xs.map PyData.int) (3 * (n : Int)) = some (.int (xs.getD (3 * n) 0)) := by have := ix 0 (by decide); simpa using this
    rw [range_snoc, List.map_append]
    refine dss_set C 6 (d := .int (unit * (1 + xs.getD (3 * n) 0 / 5 % 3) + xs.getD (3 * n + 1) 0 % 5 / 4)) (de_bin (DE.dr (de_bin (DE.dr (de_name 2)) (DE.dr (de_bin (DE.dr de_int) (DE.dr (de_bin (DE.dr (de_bin (dr_ix (DE.dr (de_name 3)) (DE.dr (de_bin (DE.dr de_int) (DE.dr (de_name 5)) (od_mulS (.inl (by decide))))) (ixd_list ix0)) (DE.dr de_int) od_fdivC)) (DE.dr de_int) (od_mod (by decide)))) od_add)) (od_mulS (.inr ?b1))))
      (DE.dr (de_bin (DE.dr (de_bin (dr_ix (DE.dr (de_name 3)) (DE.dr (de_bin (DE.dr (de_bin (DE.dr de_int) (DE.dr (de_name 5)) (od_mulS (.inl (by decide))))) (DE.dr de_int) od_add)) (ixd_list (ix 1 (by decide)))) (DE.dr de_int) (od_mod (by decide)))) (DE.dr de_int) od_fdivC)) od_add) ?_
    case b1 =>
      have h1 := Int.emod_nonneg (xs.getD (3 * n) 0 / 5) (show (3 : Int) ≠ 0 by decide)
      have h2 := Int.emod_lt_of_pos (xs.getD (3 * n) 0 / 5) (show (0 : Int) < 3 by decide)
      omega
    have h7a := Int.emod_nonneg (xs.getD (3 * n + 2) 0) (show (7 : Int) ≠ 0 by decide)
    have h7b := Int.emod_lt_of_pos (xs.getD (3 * n + 2) 0) (show (0 : Int) < 7 by decide)
    refine dss_set C 7 (d := .int (hts.getD (xs.getD (3 * n + 2) 0 % 7).toNat 0)) (DR.de (dr_ix (d1 := .list (hts.map .int)) (DE.dr (DX.frozen (dx_lst (des_cons de_int (des_cons de_int (des_cons de_int (des_cons de_int (des_cons de_int (des_cons de_int (des_cons (de_un (DE.dr de_int) od_neg) des_nil))))))))))
      (DE.dr (de_bin (dr_ix (DE.dr (de_name 3)) (DE.dr (de_bin (DE.dr (de_bin (DE.dr de_int) (DE.dr (de_name 5)) (od_mulS (.inl (by decide))))) (DE.dr de_int) od_add)) (ixd_list (ix 2 (by decide)))) (DE.dr de_int) (od_mod (by decide)))) (ixd_list (ints_at h7a (by show _ < 7; omega))))) ?_
    have hln : (((List.range n).map (gdF unit xs)).map (fun g => (enc g : D))).length < sizeLine := lt_line (by rw [List.length_map, List.length_map, List.length_range]; omega)
    have bo : ∀ (k : Bool), decide (xs.getD (3 * n) 0 % 5 = 0) = k → atI [PyData.tuple [.int (unit * (1 + xs.getD (3 * n) 0 / 5 % 3) + xs.getD (3 * n + 1) 0 % 5 / 4), .int (hts.getD (xs.getD (3 * n + 2) 0 % 7).toNat 0)], .none] (if decide (xs.getD (3 * n) 0 % 5 = 0) then 1 else 0) = some (enc (gdF unit xs n)) := fun k hk => by
      unfold gdF
      cases k with
      | true => rw [hk, if_pos rfl, if_pos (of_decide_eq_true hk)]; rfl
      | false => rw [hk, if_neg Bool.false_ne_true, if_neg (of_decide_eq_false hk)]; rfl
    refine dss_mut 4 (dm_append 4 (d := enc (gdF unit xs n)) (DR.de (dr_ix (DE.dr (DX.frozen (dx_lst (des_cons (de_tup (des_cons (de_name 6) (des_cons (de_name 7) des_nil))) (des_cons de_non des_nil))))) (DE.dr (de_callT (cd_intB _) b_int (drs_cons (DE.dr (de_cmp (DE.dr (de_bin (dr_ix (DE.dr (de_name 3)) (DE.dr (de_bin (DE.dr de_int) (DE.dr (de_name 5)) (od_mulS (.inl (by decide))))) (ixd_list ix0)) (DE.dr de_int) (od_mod (by decide)))) (DE.dr de_int) (od_eqI C))) drs_nil))) (ixd_list (bo _ rfl))) (gd_nodictL _)) rfl hln) (dss_nil ?_)
    show Wk _ _
    walk_at "wk"
  case rest =>
  refine dss_retO 4 ?_
  show so _ = so _
  rw [Int.toNat_natCast]
  rfl
end

end Lw

namespace Lw
open PySem L2 PyProof.Rows Dw
local macro_rules | `(tactic| walk_at "shp") => `(tactic| first | exact Shp.int _ _ | exact Shp.bool _ _ | exact Shp.none _ | exact Shp.str _ _ (by decide +kernel) | (refine Shp.tuple ?_; walk_at "shp") | (refine Shp.list ?_; walk_at "shp") | exact ShpA.nil _ | (refine ShpA.cons ?_ ?_ <;> walk_at "shp") | (refine Shp.mono (En.shp _) ?_; decide))
local macro_rules | `(tactic| walk_at "wk") => `(tactic| first | exact wk_nil | exact Wk.refl _ | (refine wk_same ?_; walk_at "wk") | (refine wk_none ?_; walk_at "wk"))
local macro_rules | `(tactic| walk_at "sz") => `(tactic| first | exact lt_line (Nat.le_of_ble_eq_true rfl) | exact small (Nat.le_of_ble_eq_true rfl) | (apply lt_line; simp; omega) | (apply small; simp; omega))
local macro_rules | `(tactic| walk_at "call") => `(tactic| first | exact ⟨_, rfl, rfl⟩ | exact ⟨_, _, rfl, rfl⟩ | exact ⟨_, rfl, rfl, by decide⟩ | exact ⟨_, _, rfl, rfl, by decide⟩ | exact ⟨_, _, _, rfl, rfl⟩ | exact ⟨_, _, rfl, rfl, by omega⟩)
structure Fl where
  rows : List (List Gd)
  dy : Nat
  dx : Nat
  unit : Int
abbrev Fl.d (f : Fl) : D := .tuple [.list ((f.rows.map fun r => r.map (fun g => (enc g : D))).map .list), .tuple [.int f.dy, .int f.dx], .int f.unit]
structure FlOk (f : Fl) : Prop where
  unit : 1 ≤ f.unit
  high : f.rows.length ≤ 4
  wide : ∃ n, n ≤ 5 ∧ ∀ r ∈ f.rows, r.length = n
  dock : ∃ r u h, f.rows[f.dy]? = some r ∧ r[f.dx]? = some (.gr u h)
  cost : ∀ r ∈ f.rows, ∀ u h, Gd.gr u h ∈ r → f.unit ≤ u
def unitL : List Int := [1, 3, 10 ^ 15, 10 ^ 30]
theorem unitL_pos (i : Nat) (h : i < 4) : 0 < unitL.getD i 0 := by rcases lt4 h with rfl | rfl | rfl | rfl <;> decide
section
variable {c : Cl} {P : Program} {w : World} {K : PySem.W.Frag} {mg : Str → Option Value} {base : Heap}
def floorS : Slot K c := sE (fun f : Fl => sd f.d) FlOk
def R_floor : List (Slot K c) → Slot K c → Prop := fun ss r => ∃ ns : List Int, ss = [sb (.list (ns.map .int))] ∧ r = floorS
abbrev n_floor : List Str := ["_law_script", "_law_first", "_law_second", "_law_unit", "_law_high", "_law_wide", "_law_rows", "_law_k", "_law_dock"]
theorem sc_floor : FnScope n_floor ["_law_script"] (defScope (topS 38)) := ⟨rfl, rfl, rfl, by decide +kernel, rfl, by decide +kernel, by decide +kernel⟩
theorem ix_nat {i : Int} {n : Nat} (h0 : 0 ≤ i) (h : i.toNat < n) : ixN n i = some i.toNat := by
  unfold ixN
  rw [if_pos h0, if_pos (by omega)]
theorem ok_floor (F : FunAt K mg "_law_floor" (topS 38) ["_law_script"]) (F_cell : DefOk (c := c) P w K mg base "_law_cell_at" 1 R_cell_at) (F_row : DefOk (c := c) P w K mg base "_law_row" 2 R_row) (b_range : mg "range" = none) : DefOk (c := c) P w K mg base "_law_floor" 3 R_floor := by
  refine def_okF F sc_floor (fun ss r h => by obtain ⟨ns, rfl, _⟩ := h; rfl) ?_
  rintro fa cdv A outer s H E ss r ⟨ns, rfl, rfl⟩ C
  refine dss_set C 1 (de_call F_cell (C.room.mono (by decide)) (das_cons (DR.da (DZ.dr (dz_name 0))) (das_cons (DE.da de_int) das_nil)) ⟨ns, 0, rfl, rfl, by decide⟩) ?_
  refine dss_set C 2 (de_call F_cell (C.room.mono (by decide)) (das_cons (DR.da (DZ.dr (dz_name 0))) (das_cons (DE.da de_int) das_nil)) ⟨ns, 1, rfl, rfl, by decide⟩) ?_
  generalize cellAt ns 0 = fi
  generalize cellAt ns 1 = se
  have f0 := Int.emod_nonneg fi (show (4 : Int) ≠ 0 by decide)
  have f1 := Int.emod_lt_of_pos fi (show (0 : Int) < 4 by decide)
  have up := unitL_pos (fi % 4).toNat (by omega)
  refine dss_set C 3 (d := .int (1 + fi / 4 % unitL.getD (fi % 4).toNat 0)) (de_bin (DE.dr de_int) (DE.dr (de_bin (DE.dr (de_bin (DE.dr (de_name 1)) (DE.dr de_int) od_fdivC)) (dr_ix (d1 := .list (unitL.map .int)) (DE.dr (DX.frozen (dx_lst (des_cons de_int (des_cons de_int (des_cons (de_lit (10 ^ 15) (de_bin (DE.dr de_int) (DE.dr de_int) od_powC) (by decide +kernel)) (des_cons (de_lit (10 ^ 30) (de_bin (DE.dr de_int) (DE.dr de_int) od_powC) (by decide +kernel)) des_nil))))))) (DE.dr (de_bin (DE.dr (de_name 1)) (DE.dr de_int) (od_mod (by decide)))) (ixd_list (ints_at f0 (by show _ < 4; omega)))) (od_mod up))) od_add) ?_
  have hu : 1 ≤ 1 + fi / 4 % unitL.getD (fi % 4).toNat 0 := by
    have := Int.emod_nonneg (fi / 4) (show unitL.getD (fi % 4).toNat 0 ≠ 0 by omega)
    omega
  generalize 1 + fi / 4 % unitL.getD (fi % 4).toNat 0 = unit at hu
  refine dss_set C 4 (d := .int (1 + se % 4)) (de_bin (DE.dr de_int) (DE.dr (de_bin (DE.dr (de_name 2)) (DE.dr de_int) (od_mod (by decide)))) od_add) ?_
  refine dss_set C 5 (d := .int (1 + se / 4 % 5)) (de_bin (DE.dr de_int) (DE.dr (de_bin (DE.dr (de_bin (DE.dr (de_name 2)) (DE.dr de_int) od_fdivC)) (DE.dr de_int) (od_mod (by decide)))) od_add) ?_
  have h4a := Int.emod_nonneg se (show (4 : Int) ≠ 0 by decide)
  have h4b := Int.emod_lt_of_pos se (show (0 : Int) < 4 by decide)
  have h5a := Int.emod_nonneg (se / 4) (show (5 : Int) ≠ 0 by decide)
  have h5b := Int.emod_lt_of_pos (se / 4) (show (0 : Int) < 5 by decide)
  obtain ⟨hi, ehi⟩ : ∃ hi : Nat, 1 + se % 4 = hi := ⟨(1 + se % 4).toNat, by omega⟩
  obtain ⟨wi, ewi⟩ : ∃ wi : Nat, 1 + se / 4 % 5 = wi := ⟨(1 + se / 4 % 5).toNat, by omega⟩
  rw [ehi, ewi]
  refine dss_setLc C 6 (dlc_Rows1 C 7 (di_range1 (de_name 4) (by omega) (by omega) b_range) (blkOk_by (N := n_floor) (sc := defScope (topS 38)) (by decide +kernel)) (fun i => (rowF (cellAt ns (2 + i) + i) wi unit).map fun g => (enc g : D)) (by rw [Int.toNat_natCast]; exact lt_line (by omega)) (fun j i hi' => ?elt)) ?_
  case elt =>
    exact dx_call F_row (C.blk.room.mono (by decide)) (das_cons (DE.da (de_bin (DE.dr (de_call F_cell (C.blk.room.mono (by decide)) (das_cons (DR.da (DZ.dr (dz_name 0))) (das_cons (DE.da (de_bin (DE.dr de_int) (DE.dr (de_name 7)) od_add)) das_nil)) ⟨ns, 2 + i, rfl, rfl, by omega⟩)) (DE.dr (de_name 7)) od_add)) (das_cons (DE.da (de_name 5)) (das_cons (DE.da (de_name 3)) das_nil))) ⟨cellAt ns (2 + i) + i, wi, unit, rfl, rfl, by omega⟩
  rw [Int.toNat_natCast]
  have rows_eq : (List.range hi).map (fun i : Nat => (rowF (cellAt ns (2 + i) + i) wi unit).map fun g => (enc g : D)) = ((List.range hi).map fun i : Nat => rowF (cellAt ns (2 + i) + i) wi unit).map fun r => r.map fun g => (enc g : D) := by rw [List.map_map]; rfl
  rw [rows_eq]
  have rl : ∀ r ∈ (List.range hi).map (fun i : Nat => rowF (cellAt ns (2 + i) + i) wi unit), r.length = wi := fun r hr => by
    obtain ⟨i, _, rfl⟩ := List.mem_map.mp hr
    exact rowF_len _ _ _
  have rc : ∀ r ∈ (List.range hi).map (fun i : Nat => rowF (cellAt ns (2 + i) + i) wi unit), ∀ u h, Gd.gr u h ∈ r → unit ≤ u := fun r hr u h hm => by
    obtain ⟨i, _, rfl⟩ := List.mem_map.mp hr
    unfold rowF at hm
    obtain ⟨k, _, e⟩ := List.mem_map.mp hm
    exact gdF_cost hu e
  have rn : ((List.range hi).map fun i : Nat => rowF (cellAt ns (2 + i) + i) wi unit).length = hi := by simp
  generalize ((List.range hi).map fun i : Nat => rowF (cellAt ns (2 + i) + i) wi unit) = rs at rl rc rn
  have hi0 : (0 : Int) < hi := by omega
  have wi0 : (0 : Int) < wi := by omega
  have y0 := Int.emod_nonneg (se / 20) (show (hi : Int) ≠ 0 by omega)
  have y1 := Int.emod_lt_of_pos (se / 20) hi0
  have x0 := Int.emod_nonneg (se / 80) (show (wi : Int) ≠ 0 by omega)
  have x1 := Int.emod_lt_of_pos (se / 80) wi0
  refine dss_set C 8 (d := cD (se / 20 % hi, se / 80 % wi)) (de_tup (des_cons (de_bin (DE.dr (de_bin (DE.dr (de_name 2)) (DE.dr de_int) od_fdivC)) (DE.dr (de_name 4)) (od_mod hi0)) (des_cons (de_bin (DE.dr (de_bin (DE.dr (de_name 2)) (DE.dr de_int) od_fdivC)) (DE.dr (de_name 5)) (od_mod wi0)) des_nil))) ?_
  obtain ⟨dy, edy⟩ : ∃ n : Nat, se / 20 % hi = n := ⟨(se / 20 % hi).toNat, by omega⟩
  obtain ⟨dx, edx⟩ : ∃ n : Nat, se / 80 % wi = n := ⟨(se / 80 % wi).toNat, by omega⟩
  rw [edy, edx]
  have ly : dy < rs.length := by omega
  have hr : rs[dy]? = some rs[dy] := List.getElem?_eq_getElem ly
  have hrm : rs[dy] ∈ rs := List.getElem_mem ly
  generalize rs[dy] = r at hr hrm
  have lr := rl r hrm
  have lx : dx < r.length := by omega
  have hg : r[dx]? = some r[dx] := List.getElem?_eq_getElem lx
  generalize r[dx] = g at hg
  have a1 : atI ((rs.map fun r => r.map fun g => (enc g : D)).map PyData.list) (dy : Int) = some (.list (r.map fun g => (enc g : D))) := atI_of (by omega) (by rw [Int.toNat_natCast, List.getElem?_map, List.getElem?_map, hr]; rfl)
  have a2 : atI (r.map fun g => (enc g : D)) (dx : Int) = some (enc g) := atI_of (by omega) (by rw [Int.toNat_natCast, List.getElem?_map, hg]; rfl)
  refine dss_ifJ [some (sb (.list (ns.map .int))), some (sd (.int fi)), some (sd (.int se)), some (sd (.int unit)), some (sd (.int hi)), some (sd (.int wi)), some (sE (fun rs : List (List Gd) => kn (kRows (rs.map fun r => r.map fun g => (enc g : D)))) (fun rs => FlOk ⟨rs, dy, dx, unit⟩)), none, some (sd (cD ((dy : Int), (dx : Int))))]
    (dt_cmp (dr_ix (dr_ix (dr_rows (dk_own 6)) (dr_ix (DE.dr (de_name 8)) (DE.dr de_int) (ixd_tup rfl)) (ixd_list a1)) (dr_ix (DE.dr (de_name 8)) (DE.dr de_int) (ixd_tup rfl)) (ixd_list a2)) (DE.dr de_non) od_is) (fun hb => ?_) (fun hb => ?_) ?_
  · refine dss_cell 6 (a := (dy : Int)) (b := (dx : Int)) (rs := rs.map fun r => r.map fun g => (enc g : D)) (m := dy) (n := dx) (r := r.map fun g => (enc g : D)) (d := enc (Gd.gr unit 0)) (de_tup (des_cons (de_name 3) (des_cons de_int des_nil))) (DR.de (dr_ix (DE.dr (de_name 8)) (DE.dr de_int) (ixd_tup rfl))) (DR.de (dr_ix (DE.dr (de_name 8)) (DE.dr de_int) (ixd_tup rfl))) (by rw [List.length_map]; exact ix_nat (by omega) (by omega)) (by rw [List.getElem?_map, hr]; rfl) (by rw [List.length_map]; exact ix_nat (by omega) (by omega)) ?_
    have es : ((rs.map fun r => r.map fun g => (enc g : D)).set dy ((r.map fun g => (enc g : D)).set dx (enc (Gd.gr unit 0)))) = ((rs.set dy (r.set dx (.gr unit 0))).map fun r => r.map fun g => (enc g : D)) := by rw [List.map_set, List.map_set]
    rw [es]
    refine dss_exI (f := fun rs : List (List Gd) => kn (kRows (rs.map fun r => r.map fun g => (enc g : D)))) (q := fun rs => FlOk ⟨rs, dy, dx, unit⟩) 6 (rs.set dy (r.set dx (.gr unit 0))) ⟨hu, by rw [List.length_set]; show _ ≤ 4; omega, ⟨wi, by omega, fun r' hr' => ?_⟩, ⟨r.set dx (.gr unit 0), unit, 0, by rw [List.getElem?_set_self ly], by rw [List.getElem?_set_self lx]⟩, fun r' hr' u h hm => ?_⟩ (dss_nil ?_)
    · rcases List.mem_or_eq_of_mem_set hr' with z | z
      · exact rl r' z
      · rw [z, List.length_set]; exact lr
    · rcases List.mem_or_eq_of_mem_set hr' with z | z
      · exact rc r' z u h hm
      · rw [z] at hm
        rcases List.mem_or_eq_of_mem_set hm with y | y
        · exact rc r hrm u h y
        · cases y; exact Int.le_refl _
    · show Wk _ _
      walk_at "wk"
  · have hgr : ∃ u h, g = .gr u h := by
      cases g with
      | wall => cases hb
      | gr u h => exact ⟨u, h, rfl⟩
    obtain ⟨u, h, rfl⟩ := hgr
    refine dss_exI (f := fun rs : List (List Gd) => kn (kRows (rs.map fun r => r.map fun g => (enc g : D)))) (q := fun rs => FlOk ⟨rs, dy, dx, unit⟩) 6 rs ⟨hu, by show rs.length ≤ 4; omega, ⟨wi, by omega, rl⟩, ⟨r, u, h, hr, hg⟩, rc⟩ (dss_nil ?_)
    show Wk _ _
    walk_at "wk"
  refine dss_exE (f := fun rs : List (List Gd) => kn (kRows (rs.map fun r => r.map fun g => (enc g : D)))) 6 fun rs' ok => ?_
  refine dss_freezeK 6 frz_rows ?_
  exact dss_retX (DE.dxE (f := Fl.d) (q := FlOk) ⟨rs', dy, dx, unit⟩ ok (de_tup (des_cons (de_name 6) (des_cons (de_name 8) (des_cons (de_name 3) des_nil))))) rfl
end

end Lw

namespace Lw
open PySem L2 PyProof.Rows Dw
local macro_rules | `(tactic| walk_at "shp") => `(tactic| first | exact Shp.int _ _ | exact Shp.bool _ _ | exact Shp.none _ | exact Shp.str _ _ (by decide +kernel) | (refine Shp.tuple ?_; walk_at "shp") | (refine Shp.list ?_; walk_at "shp") | exact ShpA.nil _ | (refine ShpA.cons ?_ ?_ <;> walk_at "shp") | (refine Shp.mono (En.shp _) ?_; decide))
local macro_rules | `(tactic| walk_at "wk") => `(tactic| first | exact wk_nil | exact Wk.refl _ | (refine wk_same ?_; walk_at "wk") | (refine wk_none ?_; walk_at "wk"))
local macro_rules | `(tactic| walk_at "sz") => `(tactic| first | exact lt_line (Nat.le_of_ble_eq_true rfl) | exact small (Nat.le_of_ble_eq_true rfl) | (apply lt_line; simp; omega) | (apply small; simp; omega))
local macro_rules | `(tactic| walk_at "call") => `(tactic| first | exact ⟨_, rfl, rfl⟩ | exact ⟨_, _, rfl, rfl⟩ | exact ⟨_, rfl, rfl, by decide⟩ | exact ⟨_, _, rfl, rfl, by decide⟩ | exact ⟨_, _, _, rfl, rfl⟩ | exact ⟨_, _, rfl, rfl, by omega⟩)
def gOf (g : Mp) (k : Cell) : Gd := (look g k).getD .wall
structure GrOk (unit : Int) (g : Mp) : Prop where
  cost : ∀ k v, look g k = some v → ∃ u h, v = .gr u h ∧ unit ≤ u
  dock : ∃ u h, look g (0, 0) = some (.gr u h)
  len : g.length ≤ 100
structure GrI (unit : Int) (n : Nat) (d : Prop) (g : Mp) : Prop where
  cost : ∀ k v, look g k = some v → ∃ u h, v = .gr u h ∧ unit ≤ u
  dock : d → ∃ u h, look g (0, 0) = some (.gr u h)
  len : g.length ≤ n
section
variable {c : Cl} {P : Program} {w : World} {K : PySem.W.Frag} {mg : Str → Option Value} {base : Heap}
def grS (P : Program) (w : World) (q : Mp → Prop) : Slot K c := sE (fun g : Mp => kn (kDct P w (encM g))) q
def R_grounds (P : Program) (w : World) : List (Slot K c) → Slot K c → Prop := fun ss r => ∃ f : Fl, ss = [sd (.list ((f.rows.map fun r => r.map fun g => (enc g : D)).map .list)), sd (cD ((f.dy : Int), (f.dx : Int)))] ∧ r = grS P w (GrOk f.unit) ∧ FlOk f
abbrev n_grounds : List Str := ["_law_rows", "_law_dock", "_law_grounds_here", "_law_i", "_law_j"]
theorem sc_grounds : FnScope n_grounds ["_law_rows", "_law_dock"] (defScope (topS 39)) := ⟨rfl, rfl, rfl, by decide +kernel, rfl, by decide +kernel, by decide +kernel⟩
theorem ok_grounds (F : FunAt K mg "_law_grounds" (topS 39) ["_law_rows", "_law_dock"]) (b_range : mg "range" = none) (b_len : mg "len" = none) : DefOk (c := c) P w K mg base "_law_grounds" 1 (R_grounds P w) := by
  refine def_okF F sc_grounds (fun ss r h => by obtain ⟨f, rfl, _⟩ := h; rfl) ?_
  rintro fa cdv A outer s H E ss r ⟨f, rfl, rfl, ok⟩ C
  obtain ⟨rows, dy, dx, unit⟩ := f
  obtain ⟨hu, hh, ⟨wi, hw5, hw⟩, ⟨rd, ud, hdd, hrd, hgd⟩, hc⟩ := ok
  have hh : rows.length ≤ 4 := hh
  refine dss_setX C 2 dx_xnew ?_
  refine dss_exI (f := fun g : Mp => kn (kDct P w (encM g))) (q := GrI unit 0 (dy < 0)) 2 [] ⟨fun k v h => (nomatch h), fun h => absurd h (Nat.not_lt_zero _), Nat.le_refl _⟩ ?_
  have lenR : ((rows.map fun r => r.map fun g => (enc g : D)).map PyData.list).length = rows.length := by rw [List.length_map, List.length_map]
  refine dss_for C (di_range1 (de_callB cd_lenL b_len (drs_cons (DE.dr (de_name 0)) drs_nil)) (by omega) (by rw [lenR]; omega) b_range) (fun i => [some (sd (.list ((rows.map fun r => r.map fun g => (enc g : D)).map .list))), some (sd (cD ((dy : Int), (dx : Int)))), some (grS P w (GrI unit (5 * i) (dy < i))), none, none]) ?wk (is := [3]) (fun i hi => dg_name C 3) (fun i hi => ?turn) ?rest
  case wk => show Wk _ _; walk_at "wk"
  case turn =>
    rw [Int.toNat_natCast, lenR] at hi
    have hr : rows[i]? = some rows[i] := List.getElem?_eq_getElem hi
    have hrm : rows[i] ∈ rows := List.getElem_mem hi
    have hdock : i = dy → rows[i] = rd := fun e => by
      have hrd' : rows[dy]? = some rd := hrd
      subst e
      rw [hr] at hrd'
      exact Option.some.inj hrd'
    generalize rows[i] = r at hr hrm hdock
    have a1 : atI ((rows.map fun r => r.map fun g => (enc g : D)).map PyData.list) (i : Int) = some (.list (r.map fun g => (enc g : D))) := atI_of (by omega) (by rw [Int.toNat_natCast, List.getElem?_map, List.getElem?_map, hr]; rfl)
    have lr := hw r hrm
    have lenr : (r.map fun g => (enc g : D)).length = wi := by rw [List.length_map]; exact lr
    refine dss_for C (di_range1 (de_callB cd_lenL b_len (drs_cons (dr_ix (DE.dr (de_name 0)) (DE.dr (de_name 3)) (ixd_list a1)) drs_nil)) (by omega) (by rw [lenr]; omega) b_range) (fun j => [some (sd (.list ((rows.map fun r => r.map fun g => (enc g : D)).map .list))), some (sd (cD ((dy : Int), (dx : Int)))), some (grS P w (GrI unit (5 * i + j) (dy < i ∨ (dy = i ∧ dx < j)))), some (sd (.int i)), none]) ?wk2 (is := [4]) (fun j hj => dg_name C 4) (fun j hj => ?turn2) ?rest2
    case wk2 =>
      have : (GrI unit (5 * i) (dy < i)) = GrI unit (5 * i + 0) (dy < i ∨ (dy = i ∧ dx < 0)) := by
        have : (dy < i) = (dy < i ∨ (dy = i ∧ dx < 0)) := by simp
        rw [← this]; rfl
      rw [← this]
      show Wk _ _
      walk_at "wk"
    case turn2 =>
      rw [Int.toNat_natCast, lenr] at hj
      have hg : r[j]? = some r[j] := List.getElem?_eq_getElem (by omega)
      have hgm : r[j] ∈ r := List.getElem_mem (by omega)
      have hdg : i = dy → j = dx → r[j] = .gr ud hdd := fun e1 e2 => by
        have hgd' : rd[dx]? = some (.gr ud hdd) := hgd
        have := hdock e1
        subst this
        subst e2
        rw [hg] at hgd'
        exact Option.some.inj hgd'
      generalize r[j] = g at hg hgm hdg
      have a2 : atI (r.map fun g => (enc g : D)) (j : Int) = some (enc g) := atI_of (by omega) (by rw [Int.toNat_natCast, List.getElem?_map, hg]; rfl)
      refine dss_exE (f := fun g : Mp => kn (kDct P w (encM g))) 2 fun m hm => ?_
      cases g with
      | wall =>
        refine dss_skip (dt_cmp (dr_ix (dr_ix (DE.dr (de_name 0)) (DE.dr (de_name 3)) (ixd_list a1)) (DE.dr (de_name 4)) (ixd_list a2)) (DE.dr de_non) od_isnot) rfl ?_
        refine dss_exI (f := fun g : Mp => kn (kDct P w (encM g))) (q := GrI unit (5 * i + (j + 1)) (dy < i ∨ (dy = i ∧ dx < j + 1))) 2 m ⟨hm.cost, fun h => hm.dock ?_, by have := hm.len; omega⟩ (dss_nil ?_)
        · rcases h with z | ⟨z1, z2⟩
          · exact .inl z
          · rcases Nat.lt_or_ge dx j with y | y
            · exact .inr ⟨z1, y⟩
            · have := hdg z1.symm (by omega)
              cases this
        · show Wk _ _
          walk_at "wk"
      | gr u h =>
        have hcu := hc r hrm u h hgm
        have hml := hm.len
        refine dss_ifT (dt_cmp (dr_ix (dr_ix (DE.dr (de_name 0)) (DE.dr (de_name 3)) (ixd_list a1)) (DE.dr (de_name 4)) (ixd_list a2)) (DE.dr de_non) od_isnot) rfl ?_
        refine dss_xput (kvs := encM m) C 2 (k := ((i : Int) - dy, (j : Int) - dx)) (d := enc (Gd.gr u h)) (DR.de (dr_ix (dr_ix (DE.dr (de_name 0)) (DE.dr (de_name 3)) (ixd_list a1)) (DE.dr (de_name 4)) (ixd_list a2))) (de_tup (des_cons (de_bin (DE.dr (de_name 3)) (dr_ix (DE.dr (de_name 1)) (DE.dr de_int) (ixd_tup rfl)) od_sub) (des_cons (de_bin (DE.dr (de_name 4)) (dr_ix (DE.dr (de_name 1)) (DE.dr de_int) (ixd_tup rfl)) od_sub) des_nil))) ?_ (lt_line (by rw [encM, List.length_map]; omega))
        rw [put_encM]
        refine dss_nil ?_
        refine dss_exI (f := fun g : Mp => kn (kDct P w (encM g))) (q := GrI unit (5 * i + (j + 1)) (dy < i ∨ (dy = i ∧ dx < j + 1))) 2 (put m ((i : Int) - dy, (j : Int) - dx) (.gr u h)) ⟨fun k v hk => ?_, fun hd => ?_, by have := len_put m ((i : Int) - dy, (j : Int) - dx) (Gd.gr u h); omega⟩ (dss_nil ?_)
        · rw [look_put] at hk
          split at hk
          · cases hk; exact ⟨u, h, rfl, hcu⟩
          · exact hm.cost k v hk
        · rw [look_put]
          split
          · exact ⟨u, h, rfl⟩
          · rename_i ne
            refine hm.dock ?_
            rcases hd with z | ⟨z1, z2⟩
            · exact .inl z
            · rcases Nat.lt_or_ge dx j with y | y
              · exact .inr ⟨z1, y⟩
              · refine absurd ?_ ne
                rw [z1, show dx = j by omega]
                simp
        · show Wk _ _
          walk_at "wk"
    case rest2 =>
    rw [Int.toNat_natCast, lenr]
    refine dss_exE (f := fun g : Mp => kn (kDct P w (encM g))) 2 fun m hm => ?_
    refine dss_exI (f := fun g : Mp => kn (kDct P w (encM g))) (q := GrI unit (5 * (i + 1)) (dy < i + 1)) 2 m ⟨hm.cost, fun h => hm.dock ?_, by have := hm.len; omega⟩ (dss_nil ?_)
    · rcases Nat.lt_or_ge dy i with z | z
      · exact .inl z
      · have e : i = dy := by omega
        have := hdock e
        subst this
        have : dx < r.length := (List.getElem?_eq_some_iff.mp hgd).1
        exact .inr ⟨e.symm, by omega⟩
    · show Wk _ _
      walk_at "wk"
  case rest =>
  rw [Int.toNat_natCast, lenR]
  refine dss_exE (f := fun g : Mp => kn (kDct P w (encM g))) 2 fun m hm => ?_
  have hy : dy < rows.length := (List.getElem?_eq_some_iff.mp hrd).1
  refine dss_exI (f := fun g : Mp => kn (kDct P w (encM g))) (q := GrOk unit) 2 m ⟨hm.cost, hm.dock hy, by have := hm.len; omega⟩ ?_
  exact dss_retO 2 rfl
end

end Lw

namespace Lw
open PySem L2 PyProof.Rows Dw
local macro_rules | `(tactic| walk_at "shp") => `(tactic| first | exact Shp.int _ _ | exact Shp.bool _ _ | exact Shp.none _ | exact Shp.str _ _ (by decide +kernel) | (refine Shp.tuple ?_; walk_at "shp") | (refine Shp.list ?_; walk_at "shp") | exact ShpA.nil _ | (refine ShpA.cons ?_ ?_ <;> walk_at "shp") | (refine Shp.mono (En.shp _) ?_; decide))
local macro_rules | `(tactic| walk_at "wk") => `(tactic| first | exact wk_nil | exact Wk.refl _ | (refine wk_same ?_; walk_at "wk") | (refine wk_none ?_; walk_at "wk"))
local macro_rules | `(tactic| walk_at "sz") => `(tactic| first | exact lt_line (Nat.le_of_ble_eq_true rfl) | exact small (Nat.le_of_ble_eq_true rfl) | (apply lt_line; simp; omega) | (apply small; simp; omega))
local macro_rules | `(tactic| walk_at "call") => `(tactic| first | exact ⟨_, rfl, rfl⟩ | exact ⟨_, _, rfl, rfl⟩ | exact ⟨_, rfl, rfl, by decide⟩ | exact ⟨_, _, rfl, rfl, by decide⟩ | exact ⟨_, _, _, rfl, rfl⟩ | exact ⟨_, _, rfl, rfl, by omega⟩)
section
variable {c : Cl} {P : Program} {w : World} {K : PySem.W.Frag} {mg : Str → Option Value} {base : Heap}
structure Inits (K : PySem.W.Frag) (c : Cl) (mg : Str → Option Value) : Prop where
  ev : MkEAt K c mg 0 "Everywhere"
  bx : ∃ C f fd, c 1 = some C ∧ mg "Box" = some (.ref C) ∧ Mk K C f ∧ Fun K "__init__" "Box.__init__" (inClass (topS 27) 0) f fd ∧ Binds K fd ["self", "top", "left", "bottom", "right"] []
  ou : ∃ C f fd, c 4 = some C ∧ mg "Outside" = some (.ref C) ∧ Mk K C f ∧ Fun K "__init__" "Outside.__init__" (inClass (topS 28) 0) f fd ∧ Binds K fd ["self", "one"] []
theorem sc_i3 : FnScope ["self", "top", "left", "bottom", "right"] ["self", "top", "left", "bottom", "right"] (defScope (inClass (topS 27) 0)) := ⟨rfl, rfl, rfl, by decide +kernel, rfl, by decide +kernel, by decide +kernel⟩
theorem sc_i6 : FnScope ["self", "one"] ["self", "one"] (defScope (inClass (topS 28) 0)) := ⟨rfl, rfl, rfl, by decide +kernel, rfl, by decide +kernel, by decide +kernel⟩
theorem mk_ou (T : Meths K c) (I : Inits K c mg) : MkOk P w K c mg base 4 "Outside" 1 ["one"] := by
  obtain ⟨C, f, fd, h1, h2, h3, h4, h5⟩ := I.ou
  obtain ⟨C', g1, g2, g3⟩ := T.tou.ex
  rw [h1] at g1
  cases g1
  refine ⟨C, f, fd, ["self", "one"], h1, h2, h3, h5, h4.ok sc_i6 (fun vs H Q E h => ?_) (fun cdv A outer s H vs Q E hr h => ?_)⟩
  · obtain ⟨x, dx, C', us, rfl, hl, _⟩ := h
    rw [List.length_cons, hl]
    rfl
  · obtain ⟨x, dx, C', us, rfl, hl, hc, hx, q⟩ := h
    rw [h1] at hc
    cases hc
    match us, hl with
    | [a], _ =>
      refine ⟨_, pss_one (ps_fld (pv 0) (pv 1) rfl), ?_⟩
      exact ⟨_, rfl, _, rfl, x, C, dx, [], rfl, hx, g2, g3 _ (by decide), (by show 0 < 1000; decide), q⟩
theorem mk_bx (T : Meths K c) (I : Inits K c mg) : MkOk P w K c mg base 1 "Box" 1 ["top", "left", "bottom", "right"] := by
  obtain ⟨C, f, fd, h1, h2, h3, h4, h5⟩ := I.bx
  obtain ⟨C', g1, g2, g3⟩ := T.tbx.ex
  rw [h1] at g1
  cases g1
  refine ⟨C, f, fd, ["self", "top", "left", "bottom", "right"], h1, h2, h3, h5, h4.ok sc_i3 (fun vs H Q E h => ?_) (fun cdv A outer s H vs Q E hr h => ?_)⟩
  · obtain ⟨x, dx, C', us, rfl, hl, _⟩ := h
    rw [List.length_cons, hl]
    rfl
  · obtain ⟨x, dx, C', us, rfl, hl, hc, hx, q⟩ := h
    rw [h1] at hc
    cases hc
    match us, hl with
    | [a, b, d, e], _ =>
      refine ⟨_, pss_cons (ps_fld (pv 0) (pv 1) rfl) (pss_cons (ps_fld (pv 0) (pv 2) rfl) (pss_cons (ps_fld (pv 0) (pv 3) rfl) (pss_one (ps_fld (pv 0) (pv 4) rfl)))), ?_⟩
      refine ⟨_, rfl, _, rfl, x, C, dx, [], rfl, hx, g2, g3 _ (by decide), (by show 0 < 1000; decide), _, rfl, _, rfl, x, C, dx, _, rfl, upd_same, g2, g3 _ (by decide), (by show 1 < 1000; decide), _, rfl, _, rfl, x, C, dx, _, rfl, upd_same, g2, g3 _ (by decide), (by show 2 < 1000; decide), _, rfl, _, rfl, x, C, dx, _, rfl, upd_same, g2, g3 _ (by decide), (by show 3 < 1000; decide), ?_⟩
      rw [upd_upd, upd_upd, upd_upd]
      exact q
def R_lbes : List (Slot K c) → Slot K c → Prop := fun ss r => ∃ (p : Cell) (i : Fin 4), ss = [sd (cD p), sd (.str (sideS i))] ∧ r = sd (cD (besi p i))
theorem sc_lbes : FnScope ["_law_cell", "_law_side", "_law_more"] ["_law_cell", "_law_side"] (defScope (topS 40)) := ⟨rfl, rfl, rfl, by decide +kernel, rfl, by decide +kernel, by decide +kernel⟩
theorem ok_lbes (F : FunAt K mg "_law_beside" (topS 40) ["_law_cell", "_law_side"]) : DefOk (c := c) P w K mg base "_law_beside" 1 R_lbes := by
  refine def_okF F sc_lbes (fun ss r h => by obtain ⟨p, i, rfl, _⟩ := h; rfl) ?_
  rintro fa cdv A outer s H E ss r ⟨p, i, rfl, rfl⟩ C
  refine dss_set C 2 (d := .tuple [.int (mv i).1, .int (mv i).2]) (de_cast (de_disp4 C i (de_tup (des_cons (de_un (DE.dr de_int) od_neg) (des_cons de_int des_nil))) (de_tup (des_cons de_int (des_cons de_int des_nil))) (de_tup (des_cons de_int (des_cons de_int des_nil))) (de_tup (des_cons de_int (des_cons (de_un (DE.dr de_int) od_neg) des_nil))) (de_name 1)) (pick_mv i)) ?_
  exact dss_ret (de_tup (des_cons (de_bin (dr_ix (DE.dr (de_name 0)) (DE.dr de_int) (ixd_tup rfl)) (dr_ix (DE.dr (de_name 2)) (DE.dr de_int) (ixd_tup rfl)) od_add) (des_cons (de_bin (dr_ix (DE.dr (de_name 0)) (DE.dr de_int) (ixd_tup rfl)) (dr_ix (DE.dr (de_name 2)) (DE.dr de_int) (ixd_tup rfl)) od_add) des_nil))) rfl
abbrev fiveL (p : Cell) : List Cell := [p, besi p 0, besi p 1, besi p 2, besi p 3]
def R_felt (P : Program) (w : World) : List (Slot K c) → Slot K c → Prop := fun ss r => ∃ (g : Mp) (p : Cell), ss = [kb (kDct P w (encM g)), sd (cD p)] ∧ r = so (feltL p (gOf g))
abbrev n_felt : List Str := ["_law_grounds_here", "_law_cell", "_law_one", "_law_side"]
theorem sc_felt : FnScope n_felt ["_law_grounds_here", "_law_cell"] (defScope (topS 41)) := ⟨rfl, rfl, rfl, by decide +kernel, rfl, by decide +kernel, by decide +kernel⟩
theorem gOf_enc (g : Mp) (k : Cell) : (look (encM g) k).getD .none = (enc (gOf g k) : D) := by
  rw [look_enc]
  unfold gOf
  cases look g k <;> rfl
theorem ok_felt (F : FunAt K mg "_law_felt" (topS 41) ["_law_grounds_here", "_law_cell"]) (F_lbes : DefOk (c := c) P w K mg base "_law_beside" 1 R_lbes) : DefOk (c := c) P w K mg base "_law_felt" 2 (R_felt P w) := by
  refine def_okF F sc_felt (fun ss r h => by obtain ⟨g, p, rfl, _⟩ := h; rfl) ?_
  rintro fa cdv A outer s H E ss r ⟨g, p, rfl, rfl⟩ C
  refine dss_retX (s := so (fil (fun _ => true) (fun i => (enc (gOf g ((fiveL p).getD i (0, 0))) : D)) 5)) ?_ rfl
  refine dx_lc1 C 2 (n := 5) (g := fun i => sd (cD ((fiveL p).getD i (0, 0)))) (di_map cD (0, 0) (L := fiveL p) (DX.frozen (dx_cat (ds := [cD p]) (zs := fil (fun _ => true) (fun i => cD (besi p (f4 i))) 4) (dl_x (dx_lst (des_cons (de_name 1) des_nil))) (dl_x (dx_lc1 C 3 (di_nesw de_str) (blkOk_by (N := n_felt) (sc := defScope (topS 41)) (by decide +kernel)) _ _ (lt_line (by decide)) (fun j i hi => dts_nil) (fun j i hi hb => ?_))) (small (show 5 ≤ 1000000 by decide))))) (blkOk_by (N := n_felt) (sc := defScope (topS 41)) (by decide +kernel)) _ _ (lt_line (by decide)) (fun j i hi => dts_nil) (fun j i hi hb => ?_)
  · exact de_call F_lbes (C.blk.room.mono (by decide)) (das_cons (DE.da (de_name 1)) (das_cons (DE.da (de_name 3)) das_nil)) ⟨p, f4 i, rfl, rfl⟩
  · exact de_cast (de_xget1 C.blk (dk_bor 0) (de_name 2)) (gOf_enc g _)
def areaS : Slot K c := sE (fun t : Am × Bx => sd (arD t.1 t.2)) (fun t => arHas t.1 t.2 (0, 0) = true)
def R_area : List (Slot K c) → Slot K c → Prop := fun ss r => ∃ cell : Int, ss = [sd (.int cell)] ∧ r = areaS
abbrev n_area : List Str := ["_law_cell", "_law_xs", "_law_box", "_law_row_here", "_law_side"]
theorem sc_area : FnScope n_area ["_law_cell"] (defScope (topS 42)) := ⟨rfl, rfl, rfl, by decide +kernel, rfl, by decide +kernel, by decide +kernel⟩
theorem ok_area (F : FunAt K mg "_law_area" (topS 42) ["_law_cell"]) (F_stream : DefOk (c := c) P w K mg base "_law_stream" 1 R_stream) : DefOk (c := c) P w K mg base "_law_area" 2 R_area := by
  refine def_okF F sc_area (fun ss r h => by obtain ⟨cell, rfl, _⟩ := h; rfl) ?_
  rintro fa cdv A outer s H E ss r ⟨cell, rfl, rfl⟩ C
  refine dss_set C 1 (DX.frozen (dx_call F_stream (C.room.mono (by decide)) (das_cons (DE.da (de_name 0)) (das_cons (DE.da de_int) das_nil)) ⟨cell, 5, rfl, rfl, by decide⟩)) ?_
  have hl := streamF_len cell 5
  generalize streamF cell 5 = xs at hl
  have ix : ∀ j : Nat, j < 5 → atI (xs.map PyData.int) (j : Int) = some (.int (xs.getD j 0)) := fun j hj => by
    have := ints_at (l := xs) (i := (j : Int)) (by omega) (by omega)
    rw [Int.toNat_natCast] at this
    exact this
  have i0 := ix 0 (by decide)
  have i1 := ix 1 (by decide)
  have i2 := ix 2 (by decide)
  have i3 := ix 3 (by decide)
  have i4 := ix 4 (by decide)
  generalize xs.getD 0 0 = z0 at i0
  generalize xs.getD 1 0 = z1 at i1
  generalize xs.getD 2 0 = z2 at i2
  generalize xs.getD 3 0 = z3 at i3
  generalize xs.getD 4 0 = z4 at i4
  refine dss_set C 2 (d := Bx.d ⟨0 - z1 % 4, 0 - z2 % 5, z3 % 4, z4 % 5⟩) (de_tup (des_cons (de_bin (DE.dr de_int) (DE.dr (de_bin (dr_ix (DE.dr (de_name 1)) (DE.dr de_int) (ixd_list i1)) (DE.dr de_int) (od_mod (by decide)))) od_sub) (des_cons (de_bin (DE.dr de_int) (DE.dr (de_bin (dr_ix (DE.dr (de_name 1)) (DE.dr de_int) (ixd_list i2)) (DE.dr de_int) (od_mod (by decide)))) od_sub) (des_cons (de_bin (dr_ix (DE.dr (de_name 1)) (DE.dr de_int) (ixd_list i3)) (DE.dr de_int) (od_mod (by decide))) (des_cons (de_bin (dr_ix (DE.dr (de_name 1)) (DE.dr de_int) (ixd_list i4)) (DE.dr de_int) (od_mod (by decide))) des_nil))))) ?_
  have n1 := Int.emod_nonneg z1 (show (4 : Int) ≠ 0 by decide)
  have n2 := Int.emod_nonneg z2 (show (5 : Int) ≠ 0 by decide)
  have n3 := Int.emod_nonneg z3 (show (4 : Int) ≠ 0 by decide)
  have n4 := Int.emod_nonneg z4 (show (5 : Int) ≠ 0 by decide)
  refine dss_if (dt_cmp (DE.dr (de_bin (dr_ix (DE.dr (de_name 1)) (DE.dr de_int) (ixd_list i0)) (DE.dr de_int) (od_mod (by decide)))) (DE.dr de_int) (od_eqI C)) (fun hb => ?_) (fun hb => dss_nil ?_)
  · refine dss_retX (DE.dxE (f := fun t : Am × Bx => arD t.1 t.2) (q := fun t => arHas t.1 t.2 (0, 0) = true) (.box, ⟨0 - z1 % 4, 0 - z2 % 5, z3 % 4, z4 % 5⟩) ?_ (de_tup (des_cons de_str (des_cons (de_name 2) des_nil)))) rfl
    show ((decide (0 - z1 % 4 ≤ 0) && decide ((0 : Int) ≤ z3 % 4)) && (decide (0 - z2 % 5 ≤ 0) && decide ((0 : Int) ≤ z4 % 5))) = true
    simp only [Bool.and_eq_true, decide_eq_true_eq]
    omega
  refine dss_if (dt_cmp (DE.dr (de_bin (dr_ix (DE.dr (de_name 1)) (DE.dr de_int) (ixd_list i0)) (DE.dr de_int) (od_mod (by decide)))) (DE.dr de_int) (od_eqI C)) (fun hb2 => ?_) (fun hb2 => dss_nil ?_)
  · refine dss_set C 3 (d := .int (z1 % 5 - 2)) (de_bin (DE.dr (de_bin (dr_ix (DE.dr (de_name 1)) (DE.dr de_int) (ixd_list i1)) (DE.dr de_int) (od_mod (by decide)))) (DE.dr de_int) od_sub) ?_
    have m2a := Int.emod_nonneg z2 (show (2 : Int) ≠ 0 by decide)
    have m2b := Int.emod_lt_of_pos z2 (show (0 : Int) < 2 by decide)
    obtain ⟨sd0, hs0, hs1⟩ : ∃ v : Int, atI [PyData.int 1, .int (-3)] (z2 % 2) = some (.int v) ∧ (v = 1 ∨ v = -3) := by
      rcases (show z2 % 2 = 0 ∨ z2 % 2 = 1 by omega) with e | e
      · exact ⟨1, by rw [e]; rfl, .inl rfl⟩
      · exact ⟨-3, by rw [e]; rfl, .inr rfl⟩
    have m3a := Int.emod_nonneg z4 (show (3 : Int) ≠ 0 by decide)
    have m3b := Int.emod_lt_of_pos z4 (show (0 : Int) < 3 by decide)
    refine dss_set C 4 (d := .int sd0) (DR.de (dr_ix (DE.dr (DX.frozen (dx_lst (des_cons de_int (des_cons (de_un (DE.dr de_int) od_neg) des_nil))))) (DE.dr (de_bin (dr_ix (DE.dr (de_name 1)) (DE.dr de_int) (ixd_list i2)) (DE.dr de_int) (od_mod (by decide)))) (ixd_list hs0))) ?_
    refine dss_retX (DE.dxE (f := fun t : Am × Bx => arD t.1 t.2) (q := fun t => arHas t.1 t.2 (0, 0) = true) (.out, ⟨z1 % 5 - 2, sd0, z1 % 5 - 2 + z3 % 3, sd0 + z4 % 3⟩) ?_ (de_tup (des_cons de_str (des_cons (de_tup (des_cons (de_name 3) (des_cons (de_name 4) (des_cons (de_bin (DE.dr (de_name 3)) (DE.dr (de_bin (dr_ix (DE.dr (de_name 1)) (DE.dr de_int) (ixd_list i3)) (DE.dr de_int) (od_mod (by decide)))) od_add) (des_cons (de_bin (DE.dr (de_name 4)) (DE.dr (de_bin (dr_ix (DE.dr (de_name 1)) (DE.dr de_int) (ixd_list i4)) (DE.dr de_int) (od_mod (by decide)))) od_add) des_nil))))) des_nil)))) rfl
    show (!((decide (z1 % 5 - 2 ≤ 0) && decide ((0 : Int) ≤ z1 % 5 - 2 + z3 % 3)) && (decide (sd0 ≤ 0) && decide ((0 : Int) ≤ sd0 + z4 % 3)))) = true
    have : (decide (sd0 ≤ 0) && decide ((0 : Int) ≤ sd0 + z4 % 3)) = false := by
      rcases hs1 with rfl | rfl
      · rfl
      · rw [show decide ((0 : Int) ≤ -3 + z4 % 3) = false from decide_eq_false (by omega)]; rfl
    rw [this, Bool.and_false]; rfl
  exact dss_retX (DE.dxE (f := fun t : Am × Bx => arD t.1 t.2) (q := fun t => arHas t.1 t.2 (0, 0) = true) (.all, ⟨0 - z1 % 4, 0 - z2 % 5, z3 % 4, z4 % 5⟩) rfl (de_tup (des_cons de_str (des_cons (de_name 2) des_nil)))) rfl
def R_made : List (Slot K c) → Slot K c → Prop := fun ss r => ∃ (a : Am) (x : Bx), ss = [sd (arD a x)] ∧ r = sd (arE a x)
abbrev n_made : List Str := ["_law_area_here", "_law_top", "_law_left", "_law_bottom", "_law_right"]
theorem sc_made : FnScope n_made ["_law_area_here"] (defScope (topS 45)) := ⟨rfl, rfl, rfl, by decide +kernel, rfl, by decide +kernel, by decide +kernel⟩
theorem ok_made (F : FunAt K mg "_law_made" (topS 45) ["_law_area_here"]) (I : Inits K c mg) (N_bx : MkOk P w K c mg base 1 "Box" 1 ["top", "left", "bottom", "right"]) (N_ou : MkOk P w K c mg base 4 "Outside" 1 ["one"]) : DefOk (c := c) P w K mg base "_law_made" 3 R_made := by
  refine def_okF F sc_made (fun ss r h => by obtain ⟨a, x, rfl, _⟩ := h; rfl) ?_
  rintro fa cdv A outer s H E ss r ⟨a, x, rfl, rfl⟩ C
  refine dss_asg C (DR.de (dr_ix (DE.dr (de_name 0)) (DE.dr de_int) (ixd_tup (d := x.d) rfl))) (dg_tup C (dgs_cons (dg_name C 1) (dgs_cons (dg_name C 2) (dgs_cons (dg_name C 3) (dgs_cons (dg_name C 4) dgs_nil))))) ?_
  cases a with
  | all =>
    refine dss_ifT (dt_cmp (dr_ix (DE.dr (de_name 0)) (DE.dr de_int) (ixd_tup rfl)) (DE.dr de_str) (od_eqS (y := "all") C)) (by decide +kernel) ?_
    exact dss_ret (de_makeE I.ev) rfl
  | box =>
    refine dss_skip (dt_cmp (dr_ix (DE.dr (de_name 0)) (DE.dr de_int) (ixd_tup rfl)) (DE.dr de_str) (od_eqS (y := "box") C)) (by decide +kernel) ?_
    refine dss_ifT (dt_cmp (dr_ix (DE.dr (de_name 0)) (DE.dr de_int) (ixd_tup rfl)) (DE.dr de_str) (od_eqS (y := "box") C)) (by decide +kernel) ?_
    exact dss_ret (de_make N_bx (C.room.mono (by decide)) (des_cons (de_name 1) (des_cons (de_name 2) (des_cons (de_name 3) (des_cons (de_name 4) des_nil))))) rfl
  | out =>
    refine dss_skip (dt_cmp (dr_ix (DE.dr (de_name 0)) (DE.dr de_int) (ixd_tup rfl)) (DE.dr de_str) (od_eqS (y := "out") C)) (by decide +kernel) ?_
    refine dss_skip (dt_cmp (dr_ix (DE.dr (de_name 0)) (DE.dr de_int) (ixd_tup rfl)) (DE.dr de_str) (od_eqS (y := "out") C)) (by decide +kernel) ?_
    exact dss_ret (de_make N_ou (C.room.mono (by decide)) (des_cons (de_make N_bx (C.room.mono (by decide)) (des_cons (de_name 1) (des_cons (de_name 2) (des_cons (de_name 3) (des_cons (de_name 4) des_nil))))) des_nil)) rfl
end

end Lw

namespace Lw
open PySem L2 PyProof.Rows Dw
local macro_rules | `(tactic| walk_at "shp") => `(tactic| first | exact Shp.int _ _ | exact Shp.bool _ _ | exact Shp.none _ | exact Shp.str _ _ (by decide +kernel) | (refine Shp.tuple ?_; walk_at "shp") | (refine Shp.list ?_; walk_at "shp") | exact ShpA.nil _ | (refine ShpA.cons ?_ ?_ <;> walk_at "shp") | (refine Shp.mono (En.shp _) ?_; decide))
local macro_rules | `(tactic| walk_at "wk") => `(tactic| first | exact wk_nil | exact Wk.refl _ | (refine wk_same ?_; walk_at "wk") | (refine wk_none ?_; walk_at "wk"))
local macro_rules | `(tactic| walk_at "sz") => `(tactic| first | exact lt_line (Nat.le_of_ble_eq_true rfl) | exact small (Nat.le_of_ble_eq_true rfl) | (apply lt_line; simp; omega) | (apply small; simp; omega))
local macro_rules | `(tactic| walk_at "call") => `(tactic| first | exact ⟨_, rfl, rfl⟩ | exact ⟨_, _, rfl, rfl⟩ | exact ⟨_, rfl, rfl, by decide⟩ | exact ⟨_, _, rfl, rfl, by decide⟩ | exact ⟨_, _, _, rfl, rfl⟩ | exact ⟨_, _, rfl, rfl, by omega⟩)
theorem upds_snoc {α : Type} (m more : List (Cell × α)) (p : Cell × α) : upds m (more ++ [p]) = put (upds m more) p.1 p.2 := by unfold upds; rw [List.foldl_append]; rfl
theorem nodup_upds {α : Type} {m : List (Cell × α)} (more : List (Cell × α)) (h : (m.map (·.1)).Nodup) : ((upds m more).map (·.1)).Nodup := by
  refine snoc_ind (Q := fun more => ((upds m more).map (·.1)).Nodup) h (fun L b ih => ?_) more
  rw [upds_snoc]
  exact nodup_put ih
theorem five_at (p : Cell) (f : Cell → Gd) {n : Nat} (hn : n < 5) : (five p f).take (n + 1) = (five p f).take n ++ [((fiveL p).getD n (0, 0), f ((fiveL p).getD n (0, 0)))] := by
  rcases (show n = 0 ∨ n = 1 ∨ n = 2 ∨ n = 3 ∨ n = 4 by omega) with rfl | rfl | rfl | rfl | rfl <;> rfl
/-- the law's own order -/
def lstS (m : Mp) (a : Am) (x : Bx) : List (Cell × Fin 4) := m.flatMap fun e => (stepsF m a x e.1).map fun i => (e.1, i)
theorem mem_lstS {m : Mp} {a : Am} {x : Bx} {p : Cell} {i : Fin 4} : (p, i) ∈ lstS m a x ↔ i ∈ stepsF m a x p := by
  unfold lstS
  rw [List.mem_flatMap]
  constructor
  · rintro ⟨e, _, h⟩
    obtain ⟨j, h1, h2⟩ := List.mem_map.mp h
    cases h2
    exact h1
  · intro h
    have hb := (stepsF_mem.mp h).2
    unfold stepB at hb
    rw [Bool.and_eq_true] at hb
    obtain ⟨k1, z1, k2, z2, e1, e2⟩ := stepK_gr hb.2
    exact ⟨(p, _), look_mem (knOf_gr.mp e1), List.mem_map.mpr ⟨i, h, rfl⟩⟩
theorem lstS_len (a : Am) (x : Bx) (m l : Mp) : (l.flatMap fun e => (stepsF m a x e.1).map fun i => (e.1, i)).length ≤ 4 * l.length := by
  induction l with
  | nil => exact Nat.le_refl _
  | cons e r ih =>
    rw [List.flatMap_cons, List.length_append, List.length_map, List.length_cons]
    have := stepsF_len m a x e.1
    omega
theorem look_nodup {α : Type} {m : List (Cell × α)} (nd : (m.map (·.1)).Nodup) {e : Cell × α} (h : e ∈ m) : look m e.1 = some e.2 := by
  induction m with
  | nil => cases h
  | cons p r ih =>
    rw [List.map_cons, List.nodup_cons] at nd
    rcases List.mem_cons.mp h with rfl | h
    · exact look_pos rfl
    · rw [look_neg fun z => nd.1 (by rw [z]; exact List.mem_map.mpr ⟨_, h, rfl⟩)]; exact ih nd.2 h
section
variable {c : Cl} {P : Program} {w : World} {K : PySem.W.Frag} {mg : Str → Option Value} {base : Heap}
def R_noted (P : Program) (w : World) : List (Slot K c) → Kind K c → D → Prop := fun ss k' d => ∃ (m g : Mp) (p : Cell), ss = [kn (kDct P w (encM m)) true, kb (kDct P w (encM g)), sd (cD p)] ∧ k' = kDct P w (encM (upds m (five p (gOf g)))) ∧ d = .none ∧ m.length ≤ 100000
abbrev n_noted : List Str := ["_law_known", "_law_grounds_here", "_law_cell", "_law_one", "_law_side"]
theorem sc_noted : FnScope n_noted ["_law_known", "_law_grounds_here", "_law_cell"] (defScope (topS 46)) := ⟨rfl, rfl, rfl, by decide +kernel, rfl, by decide +kernel, by decide +kernel⟩
theorem ok_noted (F : FunAt K mg "_law_noted" (topS 46) ["_law_known", "_law_grounds_here", "_law_cell"]) (F_lbes : DefOk (c := c) P w K mg base "_law_beside" 1 R_lbes) : DefOkM P w K c mg base "_law_noted" 2 0 (R_noted P w) := by
  refine def_okM F sc_noted (fun ss k' d h => by obtain ⟨m, g, p, rfl, _⟩ := h; rfl) ?_
  rintro fa cdv A outer s H E ss k0 k' d ⟨m, g, p, rfl, rfl, rfl, hl⟩ hj C
  refine dss_for C (n := 5) (g := fun i => sd (cD ((fiveL p).getD i (0, 0)))) (di_map cD (0, 0) (L := fiveL p) (DX.frozen (dx_cat (ds := [cD p]) (zs := fil (fun _ => true) (fun i => cD (besi p (f4 i))) 4) (dl_x (dx_lst (des_cons (de_name 2) des_nil))) (dl_x (dx_lc1 C 4 (di_nesw de_str) (blkOk_by (N := n_noted) (sc := defScope (topS 46)) (by decide +kernel)) _ _ (lt_line (by decide)) (fun j i hi => dts_nil) (fun j i hi hb => ?elt))) (small (show 5 ≤ 1000000 by decide))))) (fun n => [some (kn (kDct P w (encM (upds m ((five p (gOf g)).take n)))) true), some (kb (kDct P w (encM g))), some (sd (cD p)), none, none]) ?wk (is := [3]) (fun n hn => dg_name C 3) (fun n hn => ?turn) ?rest
  case elt => exact de_call F_lbes (C.blk.room.mono (by decide)) (das_cons (DE.da (de_name 2)) (das_cons (DE.da (de_name 4)) das_nil)) ⟨p, f4 i, rfl, rfl⟩
  case wk => show Wk _ _; walk_at "wk"
  case turn =>
    have lu : (upds m ((five p (gOf g)).take n)).length ≤ 100005 := Nat.le_trans (len_upds _ _) (by rw [List.length_take]; have : (five p (gOf g)).length = 5 := rfl; omega)
    rw [five_at p _ hn, upds_snoc]
    generalize (fiveL p).getD n (0, 0) = q
    refine dss_xput (kvs := encM (upds m ((five p (gOf g)).take n))) C 0 (k := q) (de_cast (de_xget1 C (dk_bor 1) (de_name 3)) (gOf_enc g q)) (de_name 3) (dss_nil ?_) (lt_line (by rw [encM, List.length_map]; omega))
    rw [put_encM]
    show Wk _ _
    walk_at "wk"
  case rest =>
  exact dss_nil ⟨rfl, rfl⟩
theorem di_itemsM {X : Cx} {G : Dw.Env X.K c} {tg e : Expr} {m : Mp} (h : DI X G tg e (encM m).length (fun i => sd (.tuple [cD ((encM m)[i]?.getD ((0, 0), .none)).1, ((encM m)[i]?.getD ((0, 0), .none)).2]))) : DI X G tg e m.length (fun i => sd (.tuple [cD (m.getD i ((0, 0), .wall)).1, enc (m.getD i ((0, 0), .wall)).2])) := by
  have l : (encM m).length = m.length := by rw [encM, List.length_map]
  rw [l] at h
  refine h.cast fun n hn => ?_
  have : (encM m)[n]?.getD ((0, 0), .none) = ((m.getD n ((0, 0), .wall)).1, (enc (m.getD n ((0, 0), .wall)).2 : D)) := by
    rw [encM, List.getElem?_map, List.getElem?_eq_getElem hn, List.getD_eq_getElem?_getD, List.getElem?_eq_getElem hn]; rfl
  rw [this]
theorem stepsF_no {m : Mp} {a : Am} {x : Bx} {p : Cell} (h : ∀ u z, knOf m p ≠ .gr u z) : stepsF m a x p = [] := by
  refine List.eq_nil_iff_forall_not_mem.mpr fun i hi => ?_
  have hb := (stepsF_mem.mp hi).2
  unfold stepB at hb
  rw [Bool.and_eq_true] at hb
  obtain ⟨k1, z1, k2, z2, e1, e2⟩ := stepK_gr hb.2
  exact h _ _ e1
def R_steps (P : Program) (w : World) : List (Slot K c) → Slot K c → Prop := fun ss r => ∃ (m : Mp) (a : Am) (x : Bx), ss = [kb (kDct P w (encM m)), sd (arD a x)] ∧ r = so ((lstS m a x).map (asD m)) ∧ m.length ≤ 1000 ∧ (m.map (·.1)).Nodup
abbrev n_steps : List Str := ["_law_known", "_law_area_here", "_law_found", "_law_cell", "_law_ground", "_law_side", "_law_other", "_law_end"]
theorem sc_steps : FnScope n_steps ["_law_known", "_law_area_here"] (defScope (topS 47)) := ⟨rfl, rfl, rfl, by decide +kernel, rfl, by decide +kernel, by decide +kernel⟩
theorem ok_steps (F : FunAt K mg "_law_steps" (topS 47) ["_law_known", "_law_area_here"]) (F_has : DefOk (c := c) P w K mg base "_law_has" 2 R_lhas) (F_lbes : DefOk (c := c) P w K mg base "_law_beside" 1 R_lbes) : DefOk (c := c) P w K mg base "_law_steps" 3 (R_steps P w) := by
  refine def_okF F sc_steps (fun ss r h => by obtain ⟨m, a, x, rfl, _⟩ := h; rfl) ?_
  rintro fa cdv A outer s H E ss r ⟨m, a, x, rfl, rfl, hlen, hnd⟩ C
  refine dss_setX C 2 (dx_lst des_nil) ?_
  have tk : ∀ n, ((m.take n).flatMap fun e => (stepsF m a x e.1).map fun i => (e.1, i)).length ≤ 4000 := fun n => by
    have := lstS_len a x m (m.take n)
    rw [List.length_take] at this
    omega
  refine dss_for C (di_itemsM (di_xitems 0)) (fun n => [some (kb (kDct P w (encM m))), some (sd (arD a x)), some (so (((m.take n).flatMap fun e => (stepsF m a x e.1).map fun i => (e.1, i)).map (asD m))), none, none, none, none, none]) ?wk (is := [3, 4]) (fun n hn => dg_tup C (dgs_cons (dg_name C 3) (dgs_cons (dg_name C 4) dgs_nil))) (fun n hn => ?turn) ?rest
  case wk => show Wk _ _; walk_at "wk"
  case turn =>
    have hem : m.getD n ((0, 0), .wall) ∈ m := by
      rw [List.getD_eq_getElem?_getD, List.getElem?_eq_getElem hn]
      exact List.getElem_mem hn
    rw [take_atD ((0, 0), .wall) hn, List.flatMap_append, List.flatMap_cons, List.flatMap_nil, List.append_nil, List.map_append]
    have tl : (((m.take n).flatMap fun e => (stepsF m a x e.1).map fun i => (e.1, i)).map (asD m)).length ≤ 4000 := by rw [List.length_map]; exact tk n
    generalize ((m.take n).flatMap fun e => (stepsF m a x e.1).map fun i => (e.1, i)).map (asD m) = acc0 at tl ⊢
    generalize m.getD n ((0, 0), .wall) = e at hem ⊢
    obtain ⟨p, g⟩ := e
    have lk : look m p = some g := look_nodup hnd hem
    cases g with
    | wall =>
      have e0 : stepsF m a x p = [] := stepsF_no fun u z h => by rw [knOf_gr, lk] at h; cases h
      refine dss_skip (dt_cast (DW.dt (dw_and (k' := false) (dt_cmp (DE.dr (de_name 4)) (DE.dr de_non) od_isnot) fun z => by cases z)) rfl) rfl (dss_nil ?_)
      show Wk _ [_, _, some (so (acc0 ++ ((stepsF m a x p).map fun i => (p, i)).map (asD m))), _, _, _, _, _]
      rw [e0, List.map_nil, List.map_nil, List.append_nil]
      walk_at "wk"
    | gr u h =>
      have kp : knOf m p = .gr u h := knOf_gr.mpr lk
      refine dss_if (DW.dt (dw_and (dt_cmp (DE.dr (de_name 4)) (DE.dr de_non) od_isnot) fun _ => dw_and1 (dt_val (de_call F_has (C.room.mono (by decide)) (das_cons (DE.da (de_name 1)) (das_cons (DE.da (de_name 3)) das_nil)) ⟨a, x, p, rfl, rfl⟩)))) (fun hb => ?_) (fun hb => ?_)
      · have ha : arHas a x p = true := by have hb : (true && arHas a x p) = true := hb; rwa [Bool.true_and] at hb
        have sF : stepsF m a x p = all4.filter (stepB m a x p) := by unfold stepsF; rw [ha]; rfl
        refine dss_for C (di_nesw de_str) (fun k => [some (kb (kDct P w (encM m))), some (sd (arD a x)), some (so (acc0 ++ (((all4.take k).filter (stepB m a x p)).map fun i => (p, i)).map (asD m))), some (sd (cD p)), some (sd (enc (Gd.gr u h))), none, none, none]) ?wk2 (is := [5]) (fun k hk => dg_name C 5) (fun k hk => ?turn2) ?rest2
        case wk2 =>
          rw [List.take_zero, List.filter_nil, List.map_nil, List.map_nil, List.append_nil]
          show Wk _ _
          walk_at "wk"
        case turn2 =>
          have e4 : all4.take (k + 1) = all4.take k ++ [f4 k] := by rcases lt4 hk with rfl | rfl | rfl | rfl <;> rfl
          have hl : (acc0 ++ (((all4.take k).filter (stepB m a x p)).map fun i => (p, i)).map (asD m)).length < sizeLine := lt_line (by
            rw [List.length_append, List.length_map, List.length_map]
            have := List.length_filter_le (stepB m a x p) (all4.take k)
            have : (all4.take k).length ≤ 4 := by rw [List.length_take]; exact Nat.min_le_right _ _
            omega)
          rw [e4, List.filter_append, List.map_append, List.map_append, ← List.append_assoc]
          generalize acc0 ++ (((all4.take k).filter (stepB m a x p)).map fun i => (p, i)).map (asD m) = acc at hl
          generalize f4 k = i
          refine dss_set C 6 (de_call F_lbes (C.room.mono (by decide)) (das_cons (DE.da (de_name 3)) (das_cons (DE.da (de_name 5)) das_nil)) ⟨p, i, rfl, rfl⟩) ?_
          refine dss_set C 7 (de_cast (de_xget1 C (dk_bor 0) (de_name 6)) (gOf_enc m (besi p i))) ?_
          have no : stepB m a x p i = false → Wk (c := c) (K := K) [some (kb (kDct P w (encM m))), some (sd (arD a x)), some (so acc), some (sd (cD p)), some (sd (enc (Gd.gr u h))), some (sd (.str (sideS i))), some (sd (cD (besi p i))), some (sd (enc (gOf m (besi p i))))] [some (kb (kDct P w (encM m))), some (sd (arD a x)), some (so (acc ++ ((List.filter (stepB m a x p) [i]).map fun i => (p, i)).map (asD m))), some (sd (cD p)), some (sd (enc (Gd.gr u h))), none, none, none] := fun h => by
            rw [List.filter_cons_of_neg (by rw [h]; exact Bool.false_ne_true), List.filter_nil, List.map_nil, List.map_nil, List.append_nil]
            walk_at "wk"
          cases hg : gOf m (besi p i) with
          | wall =>
            have sB : stepB m a x p i = false := by
              unfold stepB
              have : ∀ u z, knOf m (besi p i) ≠ .gr u z := fun u z e => by
                rw [knOf_gr] at e
                unfold gOf at hg
                rw [e] at hg; cases hg
              rw [kp]
              cases hk2 : knOf m (besi p i) with
              | unk => rw [show stepK (.gr u h) .unk = false from rfl, Bool.and_false]
              | wall => rw [show stepK (.gr u h) .wall = false from rfl, Bool.and_false]
              | gr u' z' => exact absurd hk2 (this u' z')
            refine dss_skip (dt_cast (DW.dt (dw_and (k' := false) (dt_cmp (DE.dr (de_name 7)) (DE.dr de_non) od_isnot) fun z => by cases z)) rfl) rfl (dss_nil ?_)
            have := no sB
            rw [hg] at this
            exact this
          | gr u' h' =>
            have kq : knOf m (besi p i) = .gr u' h' := by
              rw [knOf_gr]
              unfold gOf at hg
              cases hl2 : look m (besi p i) with
              | none => rw [hl2] at hg; cases hg
              | some g => rw [hl2] at hg; exact congrArg some hg
            have sB : stepB m a x p i = (arHas a x (besi p i) && decide (h' ≤ h)) := by unfold stepB; rw [kp, kq]; rfl
            refine dss_if (DW.dt (dw_and (dt_cmp (DE.dr (de_name 7)) (DE.dr de_non) od_isnot) fun _ => dw_and (dt_val (de_call F_has (C.room.mono (by decide)) (das_cons (DE.da (de_name 1)) (das_cons (DE.da (de_name 6)) das_nil)) ⟨a, x, besi p i, rfl, rfl⟩)) fun _ => dw_and1 (dt_cmp (dr_ix (DE.dr (de_name 7)) (DE.dr de_int) (ixd_tup rfl)) (dr_ix (DE.dr (de_name 4)) (DE.dr de_int) (ixd_tup rfl)) od_le))) (fun hb2 => ?_) (fun hb2 => ?_)
            · have sB' : stepB m a x p i = true := by have hb2 : (true && (arHas a x (besi p i) && decide (h' ≤ h))) = true := hb2; rw [Bool.true_and] at hb2; exact sB.trans hb2
              refine dss_mut 2 (dm_append 2 (d := asD m (p, i)) (de_tup (des_cons (de_name 3) (des_cons (de_name 5) (des_cons (de_name 6) (des_cons (DR.de (dr_ix (DE.dr (de_name 7)) (DE.dr de_int) (ixd_tup (by rw [kq]; rfl)))) des_nil))))) rfl hl) (dss_nil ?_)
              refine dss_nil ?_
              rw [List.filter_cons_of_pos sB']
              show Wk _ _
              walk_at "wk"
            · have sB' : stepB m a x p i = false := by have hb2 : (true && (arHas a x (besi p i) && decide (h' ≤ h))) = false := hb2; rw [Bool.true_and] at hb2; exact sB.trans hb2
              refine dss_nil (dss_nil ?_)
              have := no sB'
              rw [hg] at this
              exact this
        case rest2 =>
        refine dss_nil (dss_nil ?_)
        show Wk _ [_, _, some (so (acc0 ++ ((stepsF m a x p).map fun i => (p, i)).map (asD m))), _, _, _, _, _]
        rw [sF]
        walk_at "wk"
      · have ha : arHas a x p = false := by
          cases q : arHas a x p with
          | false => rfl
          | true => rw [q] at hb; cases hb
        have e0 : stepsF m a x p = [] := by unfold stepsF; rw [ha]; rfl
        refine dss_nil (dss_nil ?_)
        show Wk _ [_, _, some (so (acc0 ++ ((stepsF m a x p).map fun i => (p, i)).map (asD m))), _, _, _, _, _]
        rw [e0, List.map_nil, List.map_nil, List.append_nil]
        walk_at "wk"
  case rest =>
  rw [List.take_of_length_le (Nat.le_refl _)]
  exact dss_retO 2 rfl
end

end Lw

namespace Lw
open PySem L2 PyProof.Rows Dw
local macro_rules | `(tactic| walk_at "shp") => `(tactic| first | exact Shp.int _ _ | exact Shp.bool _ _ | exact Shp.none _ | exact Shp.str _ _ (by decide +kernel) | (refine Shp.tuple ?_; walk_at "shp") | (refine Shp.list ?_; walk_at "shp") | exact ShpA.nil _ | (refine ShpA.cons ?_ ?_ <;> walk_at "shp") | (refine Shp.mono (En.shp _) ?_; decide))
local macro_rules | `(tactic| walk_at "wk") => `(tactic| first | exact wk_nil | exact Wk.refl _ | (refine wk_same ?_; walk_at "wk") | (refine wk_none ?_; walk_at "wk"))
local macro_rules | `(tactic| walk_at "sz") => `(tactic| first | exact lt_line (Nat.le_of_ble_eq_true rfl) | exact small (Nat.le_of_ble_eq_true rfl) | (apply lt_line; simp; omega) | (apply small; simp; omega))
local macro_rules | `(tactic| walk_at "call") => `(tactic| first | exact ⟨_, rfl, rfl⟩ | exact ⟨_, _, rfl, rfl⟩ | exact ⟨_, rfl, rfl, by decide⟩ | exact ⟨_, _, rfl, rfl, by decide⟩ | exact ⟨_, _, _, rfl, rfl⟩ | exact ⟨_, _, rfl, rfl, by omega⟩)
theorem way_congr {adj adj' : Cell → Cs} (h : ∀ q e, e ∈ adj q → e ∈ adj' q) {s a : Cell} {k : Int} (w : Way adj s a k) : Way adj' s a k := by
  induction w with
  | here => exact .here
  | step _ w2 ih => exact .step ih (h _ _ w2)
theorem CostOk.congr {adj adj' : Cell → Cs} {fd : Cs} (h : CostOk adj fd) (e : ∀ q e, e ∈ adj q ↔ e ∈ adj' q) : CostOk adj' fd where
  f := fun a k hk => ⟨way_congr (fun q z => (e q z).mp) (h.f a k hk).1, fun k' w => (h.f a k hk).2 k' (way_congr (fun q z => (e q z).mpr) w)⟩
  d := fun a k w => h.d a k (way_congr (fun q z => (e q z).mpr) w)
  l := h.l
def homeL (m : Mp) (a : Am) (x : Bx) (n : Nat) : Ways := foldA (fun q : Cell × Fin 4 => besi q.1 q.2) (fun q => (q.1, costK (knOf m (besi q.1 q.2)))) ((lstS m a x).take n)
theorem mem_homeL {m : Mp} {a : Am} {x : Bx} {q : Cell} {e : Cell × Int} : e ∈ adjW (foldA (fun q : Cell × Fin 4 => besi q.1 q.2) (fun q => (q.1, costK (knOf m (besi q.1 q.2)))) (lstS m a x)) q ↔ e ∈ adjH m a x q := by
  rw [mem_foldA]
  obtain ⟨p, n⟩ := e
  rw [mem_adjH]
  constructor
  · rintro ⟨⟨p', i⟩, h1, h2, h3⟩
    cases h3
    exact ⟨i, mem_lstS.mp h1, h2, by rw [← h2]⟩
  · rintro ⟨i, h1, rfl, rfl⟩
    exact ⟨(p, i), mem_lstS.mpr h1, rfl, rfl⟩
section
variable {c : Cl} {P : Program} {w : World} {K : PySem.W.Frag} {mg : Str → Option Value} {base : Heap}
def R_costs (P : Program) (w : World) : List (Slot K c) → Slot K c → Prop := fun ss r => ∃ (m : Mp) (a : Am) (x : Bx), ss = [kb (kDct P w (encM m)), sd (arD a x), sd (.bool true)] ∧ r = costS P w (adjH m a x) ∧ m.length ≤ 1000 ∧ (m.map (·.1)).Nodup ∧ Pos1 m ∧ ∃ u h, look m (0, 0) = some (.gr u h)
abbrev n_costs : List Str := ["_law_known", "_law_area_here", "_law_homeward", "_law_ways", "_law_cell", "_law_side", "_law_other", "_law_cost", "_law_one", "_law_found", "_law_left"]
theorem sc_costs : FnScope n_costs ["_law_known", "_law_area_here", "_law_homeward"] (defScope (topS 48)) := ⟨rfl, rfl, rfl, by decide +kernel, rfl, by decide +kernel, by decide +kernel⟩
theorem ok_costs {cc PT : Addr} (F : FunAtC K mg "_law_costs" (topS 48) ["_law_known", "_law_area_here", "_law_homeward"] cc) (TB : LamX.TabB base mg cc PT) (hP : (PT, ("" : Str)) ∈ c.tabs) (F_steps : DefOk (c := c) P w K mg base "_law_steps" 3 (R_steps P w)) (b_min : mg "min" = none) (b_int : mg "int" = none) : DefOk (c := c) P w K mg base "_law_costs" 4 (R_costs P w) := by
  refine def_okC F sc_costs (fun ss r h => by obtain ⟨m, a, x, rfl, _⟩ := h; rfl) ?_
  rintro fa A outer s H E ss r ⟨m, a, x, rfl, rfl, hlen, hnd, hpos, ud, hdd, hdock⟩ C
  refine dss_setX C 3 dx_xnewL ?_
  have al : (lstS m a x).length ≤ 4000 := by have := lstS_len a x m m; unfold lstS; omega
  refine dss_for C (di_map (asD m) ((0, 0), 0) (DX.frozen (dx_call F_steps (C.room.mono (by decide)) (das_cons (DK.da (dk_bor 0)) (das_cons (DE.da (de_name 1)) das_nil)) ⟨m, a, x, rfl, rfl, hlen, hnd⟩)))
    (fun n => [some (kb (kDct P w (encM m))), some (sd (arD a x)), some (sd (.bool true)), some (kn (kDL P w (encW (homeL m a x n)))), none, none, none, none, none, none, none]) ?wk (is := [4, 5, 6, 7]) (fun n hn => dg_tup C (dgs_cons (dg_name C 4) (dgs_cons (dg_name C 5) (dgs_cons (dg_name C 6) (dgs_cons (dg_name C 7) dgs_nil))))) (fun n hn => ?turn) ?rest
  case wk => show Wk _ _; walk_at "wk"
  case turn =>
    have hs : homeL m a x (n + 1) = putA (homeL m a x n) (besi ((lstS m a x).getD n ((0, 0), 0)).1 ((lstS m a x).getD n ((0, 0), 0)).2) (((lstS m a x).getD n ((0, 0), 0)).1, costK (knOf m (besi ((lstS m a x).getD n ((0, 0), 0)).1 ((lstS m a x).getD n ((0, 0), 0)).2))) := by
      unfold homeL
      rw [take_atD ((0, 0), 0) hn, foldA_snoc]
    rw [hs, ← putA_encW]
    have l3 : ((lstS m a x).take n).length ≤ 4000 := Nat.le_trans (by rw [List.length_take]; exact Nat.min_le_right _ _) al
    have l1 : (homeL m a x n).length ≤ 4000 := Nat.le_trans (len_foldA _ _ _) l3
    have l2 : ∀ j, (adjW (homeL m a x n) j).length ≤ 4000 := fun j => Nat.le_trans (adj_foldA_len j _) l3
    generalize homeL m a x n = wy at l1 l2
    generalize (lstS m a x).getD n ((0, 0), 0) = q
    refine dss_set C 8 (d := cD (besi q.1 q.2)) (DR.de (dr_ix (DE.dr (DX.frozen (dx_lst (des_cons (de_name 4) (des_cons (de_name 6) des_nil))))) (DE.dr (de_callT (cd_intB true) b_int (drs_cons (DE.dr (de_name 2)) drs_nil))) (ixd_list rfl))) ?_
    refine dss_mut 3 (dm_setdef (m := encW wy) (d := eD (q.1, costK (knOf m (besi q.1 q.2)))) C 3 (de_name 8) (de_tup (des_cons (DR.de (dr_ix (d := cD q.1) (DE.dr (DX.frozen (dx_lst (des_cons (de_name 6) (des_cons (de_name 4) des_nil))))) (DE.dr (de_callT (cd_intB true) b_int (drs_cons (DE.dr (de_name 2)) drs_nil))) (ixd_list rfl))) (des_cons (de_name 7) des_nil))) (lt_line (by unfold encW; rw [List.length_map]; omega)) (fun ds hds => lt_line ?_)) (dss_nil ?_)
    · have e := look_encW wy (besi q.1 q.2)
      rw [hds] at e
      rw [show ds = (adjW wy (besi q.1 q.2)).map eD from e, List.length_map]
      have := l2 (besi q.1 q.2)
      omega
    · show Wk _ _
      walk_at "wk"
  case rest =>
  have em : ∀ q e, e ∈ adjW (homeL m a x (lstS m a x).length) q ↔ e ∈ adjH m a x q := fun q e => by
    unfold homeL
    rw [List.take_of_length_le (Nat.le_refl _)]
    exact mem_homeL
  generalize homeL m a x (lstS m a x).length = st at em
  have pos : ∀ a b n, (b, n) ∈ adjW st a → 0 ≤ n := fun q b n h => adjH_pos hpos q b n ((em q _).mp h)
  obtain ⟨U, hul, h0, hU⟩ : ∃ U : List Cell, U.length ≤ 5000 ∧ (0, 0) ∈ U ∧ ∀ a e, e ∈ adjW st a → e.1 ∈ U := by
    refine ⟨(0, 0) :: openC m, ?_, List.mem_cons_self, fun q e he => ?_⟩
    · have := openC_len m
      rw [List.length_cons]
      omega
    · obtain ⟨p, n⟩ := e
      obtain ⟨i, h1, h2, h3⟩ := mem_adjH.mp ((em q _).mp he)
      exact List.mem_cons_of_mem _ (mem_allS (step_allS.mpr h1)).1
  refine dss_freezeZ 3 ?_
  refine dss_setX C 9 dx_xnew ?_
  refine dss_setX C 10 dx_xnew ?_
  have dk : (look (encM m) (0, 0)).getD .none = enc (Gd.gr ud hdd) := by rw [look_enc, hdock]; rfl
  refine dss_ifT (dt_cmp (DE.dr (de_cast (de_xget1 C (dk_bor 0) (de_tup (des_cons de_int (des_cons de_int des_nil)))) dk)) (DE.dr de_non) od_isnot) rfl ?_
  refine dss_xput (kvs := []) C 10 (k := (0, 0)) de_int (de_tup (des_cons de_int (des_cons de_int des_nil))) (dss_nil ?_) (lt_line (by decide))
  refine dss_while C (fun t : { p : Cs × Cs // SpI (adjW st) U p.1 p.2 } => [some (kb (kDct P w (encM m))), some (sd (arD a x)), some (sd (.bool true)), some (kz (kDL P w (encW st))), none, none, none, none, none, some (kn (kDct P w (encI t.1.2))), some (kn (kDct P w (encI t.1.1)))]) (fun t => U.length - t.1.2.length) (fun t => !(encI t.1.1).isEmpty) ⟨([((0, 0), 0)], []), SpI.start h0⟩ ?wk3 (fun t => dt_xne0 C (dk_own 10)) (fun t hb => ?turn3) (fun t hb => ?rest3)
  case wk3 => show Wk _ _; walk_at "wk"
  case turn3 =>
    obtain ⟨⟨left, found⟩, S⟩ := t
    have S : SpI (adjW st) U left found := S
    have hne : left ≠ [] := fun z => by subst z; exact absurd hb Bool.false_ne_true
    refine dss_setX C 4 (dx_minlam (j := 10) (m := left) (z := "_law_left") (y := "_law_one") (pr := false) (l := 0) (.inl ⟨false, rfl⟩) hne hP rfl b_min rfl (lam1_by rfl) TB rfl rfl rfl (fun _ _ _ _ _ _ => rfl) (C.room.mono (by decide)) (fun A outer s H f c' hr => lam1_get (y := "_law_one") (z := "_law_left") (lam1_by rfl) hr (by decide) (by decide) (by decide) (by decide)) key_one) ?_
    refine dss_exE (f := fun k : Cell => sd (cD k)) 4 fun k hk => ?_
    obtain ⟨n, hn, hmin⟩ := hk
    obtain ⟨S', hlen'⟩ := S.turn pos hU hn hmin
    have fl := S'.len
    have ll : ∀ j, (relax (put found k n) n (drop left k) ((adjW st k).take j)).length ≤ 5000 := fun j => by
      obtain ⟨q1, q2⟩ := relax_keys (found := put found k n) (k := n) (es := (adjW st k).take j) (nodup_drop (k := k) S.nl)
      have := nodup_le (u := U) q1 fun i hi => by
        rcases q2 i hi with z | ⟨e, he, rfl⟩
        · exact S.ul i (mem_drop z)
        · exact hU k e (List.mem_of_mem_take he)
      rw [List.length_map] at this
      omega
    refine dss_xputM (kvs := encI found) C 9 10 (by decide) (dmd_pop (d := .int n) C 10 (de_name 4) (by rw [look_encI, hn]; rfl)) (de_name 4) ?_ (lt_line (by unfold encI; rw [List.length_map]; omega))
    rw [put_encI, drop_encI]
    have sp : ∀ j, j < (adjW st k).length → relax (put found k n) n (drop left k) ((adjW st k).take (j + 1)) = (if (look (put found k n) ((adjW st k).getD j ((0, 0), 0)).1).isSome then relax (put found k n) n (drop left k) ((adjW st k).take j) else put (relax (put found k n) n (drop left k) ((adjW st k).take j)) ((adjW st k).getD j ((0, 0), 0)).1 (min ((look (relax (put found k n) n (drop left k) ((adjW st k).take j)) ((adjW st k).getD j ((0, 0), 0)).1).getD (n + ((adjW st k).getD j ((0, 0), 0)).2)) (n + ((adjW st k).getD j ((0, 0), 0)).2))) := fun j hj => by
      rw [take_atD ((0, 0), 0) hj]
      unfold relax
      rw [List.foldl_append]
      rfl
    refine dss_for C (di_mapZ eD ((0, 0), 0) (dz_cast (dz_getZ C 3 (de_name 4)) (congrArg PyData.list (look_encW st k)))) (fun j => [some (kb (kDct P w (encM m))), some (sd (arD a x)), some (sd (.bool true)), some (kz (kDL P w (encW st))), some (sd (cD k)), none, none, none, none, some (kn (kDct P w (encI (put found k n)))), some (kn (kDct P w (encI (relax (put found k n) n (drop left k) ((adjW st k).take j)))))]) ?wk4 (is := [6, 7]) (fun j hj => dg_tup C (dgs_cons (dg_name C 6) (dgs_cons (dg_name C 7) dgs_nil))) (fun j hj => ?turn4) ?rest4
    case wk4 => show Wk _ _; walk_at "wk"
    case turn4 =>
      have e := sp j hj
      generalize (adjW st k).getD j ((0, 0), 0) = q at e
      rw [e]
      have hl := ll j
      generalize relax (put found k n) n (drop left k) ((adjW st k).take j) = lf at hl
      cases hs : (look (put found k n) q.1).isSome with
      | true =>
        refine dss_skip (dt_xnotin C (de_name 6) (dk_own 9)) (by rw [look_encI, Option.isSome_map, hs]; rfl) (dss_nil ?_)
        rw [if_pos rfl]
        show Wk _ _
        walk_at "wk"
      | false =>
        have fk : look (encI (put found k n)) k = some (.int n) := by rw [look_encI, look_put, if_pos rfl]; rfl
        refine dss_ifT (dt_xnotin C (de_name 6) (dk_own 9)) (by rw [look_encI, Option.isSome_map, hs]; rfl) ?_
        have gd : (look (encI lf) q.1).getD (.int (n + q.2)) = .int ((look lf q.1).getD (n + q.2)) := by rw [look_encI]; cases look lf q.1 <;> rfl
        refine dss_xput (kvs := encI lf) C 10 (k := q.1) (d := .int (min ((look lf q.1).getD (n + q.2)) (n + q.2))) (de_callB (cd_min2 C _ _) b_min (drs_cons (DE.dr (de_cast (de_xget2 C (dk_own 10) (de_name 6) (de_bin (DE.dr (de_xget C (dk_own 9) (de_name 4) fk)) (DE.dr (de_name 7)) od_add)) gd)) (drs_cons (DE.dr (de_bin (DE.dr (de_xget C (dk_own 9) (de_name 4) fk)) (DE.dr (de_name 7)) od_add)) drs_nil))) (de_name 6) (dss_nil ?_) (lt_line (by unfold encI; rw [List.length_map]; omega))
        rw [put_encI, if_neg Bool.false_ne_true]
        refine dss_nil ?_
        show Wk _ _
        walk_at "wk"
    case rest4 =>
    rw [List.take_of_length_le (Nat.le_refl _)]
    refine dss_nil ⟨⟨(_, _), S'⟩, ?_, ?_⟩
    · show U.length - (put found k n).length < U.length - found.length
      omega
    · show Wk _ _
      walk_at "wk"
  case rest3 =>
  obtain ⟨⟨left, found⟩, S⟩ := t
  have he : left = [] := by
    cases left with
    | nil => rfl
    | cons _ _ => cases hb
  subst he
  have ok : CostOk (adjW st) found := ⟨S.dj.f, fun a k h => S.dj.done pos h, by have := S.len; exact Nat.le_trans this hul⟩
  refine dss_exI (f := fun found : Cs => kn (kDct P w (encI found))) (q := CostOk (adjH m a x)) 9 found (ok.congr em) ?_
  exact dss_retO 9 rfl
end

end Lw

namespace Lw
open PySem L2 PyProof.Rows Dw
local macro_rules | `(tactic| walk_at "shp") => `(tactic| first | exact Shp.int _ _ | exact Shp.bool _ _ | exact Shp.none _ | exact Shp.str _ _ (by decide +kernel) | (refine Shp.tuple ?_; walk_at "shp") | (refine Shp.list ?_; walk_at "shp") | exact ShpA.nil _ | (refine ShpA.cons ?_ ?_ <;> walk_at "shp") | (refine Shp.mono (En.shp _) ?_; decide))
local macro_rules | `(tactic| walk_at "wk") => `(tactic| first | exact wk_nil | exact Wk.refl _ | (refine wk_same ?_; walk_at "wk") | (refine wk_none ?_; walk_at "wk"))
local macro_rules | `(tactic| walk_at "sz") => `(tactic| first | exact lt_line (Nat.le_of_ble_eq_true rfl) | exact small (Nat.le_of_ble_eq_true rfl) | (apply lt_line; simp; omega) | (apply small; simp; omega))
local macro_rules | `(tactic| walk_at "call") => `(tactic| first | exact ⟨_, rfl, rfl⟩ | exact ⟨_, _, rfl, rfl⟩ | exact ⟨_, rfl, rfl, by decide⟩ | exact ⟨_, _, rfl, rfl, by decide⟩ | exact ⟨_, _, _, rfl, rfl⟩ | exact ⟨_, _, rfl, rfl, by omega⟩)
theorem look_note {m : Mp} {p k : Cell} {f : Cell → Gd} : look (upds m (five p f)) k = if k ∈ fiveL p then some (f k) else look m k := by
  have e : upds m (five p f) = put (put (put (put (put m p (f p)) (besi p 0) (f (besi p 0))) (besi p 1) (f (besi p 1))) (besi p 2) (f (besi p 2))) (besi p 3) (f (besi p 3)) := rfl
  rw [e, look_put, look_put, look_put, look_put, look_put]
  by_cases h3 : k = besi p 3
  · rw [if_pos h3, if_pos (by simp [h3]), h3]
  rw [if_neg h3]
  by_cases h2 : k = besi p 2
  · rw [if_pos h2, if_pos (by simp [h2]), h2]
  rw [if_neg h2]
  by_cases h1 : k = besi p 1
  · rw [if_pos h1, if_pos (by simp [h1]), h1]
  rw [if_neg h1]
  by_cases h0 : k = besi p 0
  · rw [if_pos h0, if_pos (by simp [h0]), h0]
  rw [if_neg h0]
  by_cases hp : k = p
  · rw [if_pos hp, if_pos (by simp [hp]), hp]
  rw [if_neg hp, if_neg (by simp [hp, h0, h1, h2, h3])]
theorem knOf_sub {m m' : Mp} (s : ∀ k v, look m k = some v → look m' k = some v) {k : Cell} {u h : Int} (e : knOf m k = .gr u h) : knOf m' k = .gr u h := knOf_gr.mpr (s _ _ (knOf_gr.mp e))
theorem steps_sub {m m' : Mp} {a : Am} {x : Bx} (s : ∀ k v, look m k = some v → look m' k = some v) {p : Cell} {i : Fin 4} (h : i ∈ stepsF m a x p) : i ∈ stepsF m' a x p ∧ costK (knOf m' (besi p i)) = costK (knOf m (besi p i)) := by
  obtain ⟨h1, h2⟩ := stepsF_mem.mp h
  unfold stepB at h2
  rw [Bool.and_eq_true] at h2
  obtain ⟨k1, z1, k2, z2, e1, e2⟩ := stepK_gr h2.2
  refine ⟨stepsF_mem.mpr ⟨h1, ?_⟩, by rw [e2, knOf_sub s e2]⟩
  unfold stepB
  rw [h2.1, Bool.true_and, knOf_sub s e1, knOf_sub s e2, ← e1, ← e2]
  exact h2.2
theorem adjH_sub {m m' : Mp} {a : Am} {x : Bx} (s : ∀ k v, look m k = some v → look m' k = some v) (q : Cell) (e : Cell × Int) (h : e ∈ adjH m a x q) : e ∈ adjH m' a x q := by
  obtain ⟨p, n⟩ := e
  obtain ⟨i, h1, rfl, rfl⟩ := mem_adjH.mp h
  obtain ⟨h2, h3⟩ := steps_sub s h1
  exact mem_adjH.mpr ⟨i, h2, rfl, h3.symm⟩
/-- where there is a way, there is a least one -/
theorem way_least {adj : Cell → Cs} (pos : ∀ a b w, (b, w) ∈ adj a → 0 ≤ w) {q : Cell} : ∀ (n : Nat) (k : Int), k.toNat ≤ n → Way adj (0, 0) q k → ∃ v, leastC adj q = some v ∧ v ≤ k
  | n, k, hn, w => by
    by_cases h : ∃ k', Way adj (0, 0) q k' ∧ k' < k
    · obtain ⟨k', w', l⟩ := h
      have n0 := Way.nn pos w'
      match n with
      | 0 => omega
      | n + 1 =>
        obtain ⟨v, h1, h2⟩ := way_least pos n k' (by omega) w'
        exact ⟨v, h1, by omega⟩
    · exact ⟨k, leastC_some.mpr ⟨w, fun k' w' => by
        by_cases z : k' < k
        · exact absurd ⟨k', w', z⟩ h
        · omega⟩, Int.le_refl _⟩
structure SOk (unit fu : Int) (g : Mp) (a : Am) (x : Bx) (n : Nat) (m : Mp) (tr : Grs) (p : Cell) (lf : Int) : Prop where
  con : ∀ k v, look m k = some v → v = gOf g k
  nd : (m.map (·.1)).Nodup
  ml : m.length ≤ 5 * n
  tl : tr.length ≤ n
  dk : look m (0, 0) = some (gOf g (0, 0))
  home : ∃ v, leastC (adjH m a x) p = some v ∧ v ≤ lf
  le : lf ≤ fu
theorem gOf_gr {g : Mp} {k : Cell} {u h : Int} (e : gOf g k = .gr u h) : look g k = some (.gr u h) := by
  unfold gOf at e
  cases hl : look g k with
  | none => rw [hl] at e; cases e
  | some v => rw [hl] at e; exact congrArg some e
theorem SOk.pos {unit fu : Int} {g : Mp} {a : Am} {x : Bx} {n : Nat} {m : Mp} {tr : Grs} {p : Cell} {lf : Int} (S : SOk unit fu g a x n m tr p lf) (gr : GrOk unit g) (hu : 1 ≤ unit) : Pos1 m := fun k u h e => by
  have := gOf_gr (S.con k _ e).symm
  obtain ⟨u', h', e', l⟩ := gr.cost k _ this
  cases e'
  omega
theorem SOk.mpOk {unit fu : Int} {g : Mp} {a : Am} {x : Bx} {n : Nat} {m : Mp} {tr : Grs} {p : Cell} {lf : Int} (S : SOk unit fu g a x n m tr p lf) (gr : GrOk unit g) (hu : 1 ≤ unit) (hd : arHas a x (0, 0) = true) (hn : n ≤ 200) : MpOk m a x := by
  refine ⟨hd, by have := S.ml; omega, ?_, S.pos gr hu⟩
  obtain ⟨u, h, e⟩ := gr.dock
  have : knOf m (0, 0) = .gr u h := knOf_gr.mpr (by rw [S.dk]; unfold gOf; rw [e]; rfl)
  rw [this]
  show decide (h ≤ h) = true
  exact decide_eq_true (Int.le_refl _)
theorem SOk.start {unit fu : Int} {g : Mp} {a : Am} {x : Bx} (gr : GrOk unit g) (hu : 1 ≤ unit) (h0 : 0 ≤ fu) (tr : Grs) (ht : tr.length ≤ 1) : SOk unit fu g a x 1 (upds [] (five (0, 0) (gOf g))) tr (0, 0) fu where
  con := fun k v e => by
    rw [look_note] at e
    split at e
    · cases e; rfl
    · cases e
  nd := nodup_upds _ (by simp)
  ml := by have := len_upds (five (0, 0) (gOf g)) []; exact this
  tl := ht
  dk := by rw [look_note, if_pos List.mem_cons_self]
  home := ⟨0, leastC_some.mpr ⟨.here, fun k' w => by
    refine Way.nn (fun q p n h => adjH_pos (a := a) (x := x) (fun k u h e => ?_) q p n h) w
    have e' : Gd.gr u h = gOf g k := by
      rw [look_note] at e
      split at e
      · exact (Option.some.inj e).symm
      · cases e
    obtain ⟨u', h', e2, l⟩ := gr.cost k _ (gOf_gr e'.symm)
    cases e2
    omega⟩, h0⟩
  le := Int.le_refl _
structure StepOk (unit fu : Int) (g : Mp) (a : Am) (x : Bx) (n : Nat) (m : Mp) (tr : Grs) (p : Cell) (lf : Int) (i : Fin 4) (u : Int) : Prop where
  ex : ∃ h u0 h0, look g (besi p i) = some (.gr u h) ∧ look g p = some (.gr u0 h0) ∧ h ≤ h0
  has : arHas a x (besi p i) = true
  le : u ≤ lf
  un : unit ≤ u
  ag : Agree m (five (besi p i) (gOf g))
  next : SOk unit fu g a x (n + 1) (upds m (five (besi p i) (gOf g))) (put tr (besi p i) (.bool true)) (besi p i) (if besi p i = (0, 0) then fu else lf - u)
theorem SOk.step {unit fu : Int} {g : Mp} {a : Am} {x : Bx} {n : Nat} {m : Mp} {tr : Grs} {p : Cell} {lf : Int} {i : Fin 4} (S : SOk unit fu g a x n m tr p lf) (gr : GrOk unit g) (hu : 1 ≤ unit) (hi : i ∈ letL m a x p lf) : ∃ u, StepOk unit fu g a x n m tr p lf i u := by
  unfold letL at hi
  rw [List.mem_filter] at hi
  obtain ⟨h1, h2⟩ := hi
  have hb := (stepsF_mem.mp h1).2
  unfold stepB at hb
  rw [Bool.and_eq_true] at hb
  obtain ⟨k1, z1, k2, z2, e1, e2⟩ := stepK_gr hb.2
  have hz : z2 ≤ z1 := by have := hb.2; rw [e1, e2] at this; exact of_decide_eq_true this
  have gq := gOf_gr (S.con _ _ (knOf_gr.mp e2)).symm
  have gp := gOf_gr (S.con _ _ (knOf_gr.mp e1)).symm
  obtain ⟨k2', z2', ee, hun⟩ := gr.cost _ _ gq
  cases ee
  have pos := fun q p n h => adjH_pos (a := a) (x := x) (S.pos gr hu) q p n h
  have ag : Agree m (five (besi p i) (gOf g)) := fun k v y hv hy => by
    have : look (five (besi p i) (gOf g)) k = some y → y = gOf g k := fun h => by
      have hm := look_mem h
      simp only [five, List.mem_cons, Prod.mk.injEq, List.not_mem_nil, or_false] at hm
      rcases hm with ⟨rfl, rfl⟩ | ⟨rfl, rfl⟩ | ⟨rfl, rfl⟩ | ⟨rfl, rfl⟩ | ⟨rfl, rfl⟩ <;> rfl
    rw [S.con k v hv, this hy]
  have sub : ∀ k v, look m k = some v → look (upds m (five (besi p i) (gOf g))) k = some v := fun k v h => by
    rw [look_note]
    split
    · rw [S.con k v h]
    · exact h
  cases hl : leastC (adjH m a x) (besi p i) with
  | none => unfold letB at h2; rw [hl] at h2; cases h2
  | some v =>
    have hv : v ≤ lf - k2 := by unfold letB at h2; rw [hl, e2] at h2; exact of_decide_eq_true h2
    have hw := (leastC_some.mp hl).1
    have v0 := Way.nn pos hw
    have con' : ∀ k v, look (upds m (five (besi p i) (gOf g))) k = some v → v = gOf g k := fun k v e => by
      rw [look_note] at e
      split at e
      · cases e; rfl
      · exact S.con k v e
    have pos' : Pos1 (upds m (five (besi p i) (gOf g))) := fun k u h e => by
      obtain ⟨u', h', e', l⟩ := gr.cost k _ (gOf_gr (con' k _ e).symm)
      cases e'
      omega
    refine ⟨k2, ⟨z2, k1, z1, gq, gp, hz⟩, hb.1, by omega, hun, ag, con', nodup_upds _ S.nd, ?_, ?_, ?_, ?_, ?_⟩
    · have := len_upds (five (besi p i) (gOf g)) m
      have e5 : (five (besi p i) (gOf g)).length = 5 := rfl
      have := S.ml
      omega
    · have := len_put tr (besi p i) (PyData.bool true)
      have := S.tl
      omega
    · rw [look_note]
      split
      · rfl
      · exact S.dk
    · obtain ⟨v', h3, h4⟩ := way_least (fun q p n h => adjH_pos (a := a) (x := x) pos' q p n h) v.toNat v (Nat.le_refl _) (way_congr (adjH_sub sub) hw)
      refine ⟨v', h3, ?_⟩
      split
      · have := S.le; omega
      · omega
    · split
      · exact Int.le_refl _
      · have := S.le; omega
theorem least_unit {unit fu : Int} {g : Mp} {a : Am} {x : Bx} {n : Nat} {m : Mp} {tr : Grs} {p : Cell} {lf v : Int} (S : SOk unit fu g a x n m tr p lf) (gr : GrOk unit g) (hu : 1 ≤ unit) (hp : p ≠ (0, 0)) (hv : leastC (adjH m a x) p = some v) : unit ≤ v := by
  obtain ⟨i, h1, u, h2, h3⟩ := step_home hv hp
  have u0 := Way.nn (fun q p n h => adjH_pos (a := a) (x := x) (S.pos gr hu) q p n h) (leastC_some.mp h2).1
  have hb := (stepsF_mem.mp h1).2
  unfold stepB at hb
  rw [Bool.and_eq_true] at hb
  obtain ⟨k1, z1, k2, z2, e1, e2⟩ := stepK_gr hb.2
  obtain ⟨k2', z2', ee, hun⟩ := gr.cost _ _ (gOf_gr (S.con _ _ (knOf_gr.mp e2)).symm)
  cases ee
  rw [e2] at h3
  have : u + k2 = v := h3
  omega

end Lw

namespace Lw
open PySem L2 PyProof.Rows Dw
local macro_rules | `(tactic| walk_at "shp") => `(tactic| first | exact Shp.int _ _ | exact Shp.bool _ _ | exact Shp.none _ | exact Shp.str _ _ (by decide +kernel) | (refine Shp.tuple ?_; walk_at "shp") | (refine Shp.list ?_; walk_at "shp") | exact ShpA.nil _ | (refine ShpA.cons ?_ ?_ <;> walk_at "shp") | (refine Shp.mono (En.shp _) ?_; decide))
local macro_rules | `(tactic| walk_at "wk") => `(tactic| first | exact wk_nil | exact Wk.refl _ | (refine wk_same ?_; walk_at "wk") | (refine wk_none ?_; walk_at "wk"))
local macro_rules | `(tactic| walk_at "sz") => `(tactic| first | exact lt_line (Nat.le_of_ble_eq_true rfl) | exact small (Nat.le_of_ble_eq_true rfl) | (apply lt_line; simp; omega) | (apply small; simp; omega))
local macro_rules | `(tactic| walk_at "call") => `(tactic| first | exact ⟨_, rfl, rfl⟩ | exact ⟨_, _, rfl, rfl⟩ | exact ⟨_, rfl, rfl, by decide⟩ | exact ⟨_, _, rfl, rfl, by decide⟩ | exact ⟨_, _, _, rfl, rfl⟩ | exact ⟨_, _, rfl, rfl, by omega⟩)
section
variable {c : Cl} {P : Program} {w : World} {K : PySem.W.Frag} {mg : Str → Option Value} {base : Heap}
abbrev mD (p : Cell) (lf fu : Int) : D := .tuple [cD p, .int lf, .int fu]
def R_gone (P : Program) (w : World) : List (Slot K c) → Kind K c → D → Prop := fun ss k' d => ∃ (unit fu : Int) (g : Mp) (a : Am) (x : Bx) (n : Nat) (m : Mp) (tr : Grs) (p : Cell) (lf : Int) (i : Fin 4) (u : Int),
  ss = [kb (kDct P w (encM g)), sd (arD a x), kn (kCh P w (encM m) tr) true, sd (mD p lf fu), sd (.str (sideS i))] ∧ k' = kCh P w (encM (upds m (five (besi p i) (gOf g)))) (put tr (besi p i) (.bool true)) ∧
  d = mD (besi p i) (if besi p i = (0, 0) then fu else lf - u) fu ∧ StepOk unit fu g a x n m tr p lf i u ∧ (∃ h, look g (besi p i) = some (.gr u h)) ∧ m ≠ [] ∧ m.length ≤ 1000 ∧ tr.length ≤ 1000
abbrev n_gone : List Str := ["_law_grounds_here", "_law_area_here", "_law_chart", "_law_machine", "_law_side", "_law_place", "_law_left", "_law_full", "_law_other"]
theorem sc_gone : FnScope n_gone ["_law_grounds_here", "_law_area_here", "_law_chart", "_law_machine", "_law_side"] (defScope (topS 49)) := ⟨rfl, rfl, rfl, by decide +kernel, rfl, by decide +kernel, by decide +kernel⟩
theorem ok_gone (F : FunAt K mg "_law_gone" (topS 49) ["_law_grounds_here", "_law_area_here", "_law_chart", "_law_machine", "_law_side"]) (F_lbes : DefOk (c := c) P w K mg base "_law_beside" 1 R_lbes) (F_has : DefOk (c := c) P w K mg base "_law_has" 2 R_lhas) (F_felt : DefOk (c := c) P w K mg base "_law_felt" 2 (R_felt P w)) (M_note : MthOkM P w K c mg base 6 "note" 3 (R_note P w)) :
    DefOkM P w K c mg base "_law_gone" 4 2 (R_gone P w) := by
  refine def_okM F sc_gone (fun ss k' d h => by obtain ⟨unit, fu, g, a, x, n, m, tr, p, lf, i, u, rfl, _⟩ := h; rfl) ?_
  rintro fa cdv A outer s H E ss k0 k' d ⟨unit, fu, g, a, x, n, m, tr, p, lf, i, u, rfl, rfl, rfl, st, ⟨h, hq⟩, hm, hml, htl⟩ hj C
  obtain ⟨h', u0, h0, hq', hp, hle⟩ := st.ex
  rw [hq] at hq'
  cases hq'
  refine dss_asg C (de_name 3) (dg_tup C (dgs_cons (dg_name C 5) (dgs_cons (dg_name C 6) (dgs_cons (dg_name C 7) dgs_nil)))) ?_
  refine dss_set C 8 (de_call F_lbes (C.room.mono (by decide)) (das_cons (DE.da (de_name 5)) (das_cons (DE.da (de_name 4)) das_nil)) ⟨p, i, rfl, rfl⟩) ?_
  have lq : look (encM g) (besi p i) = some (enc (Gd.gr u h)) := by rw [look_enc, hq]; rfl
  have lp : look (encM g) p = some (enc (Gd.gr u0 h0)) := by rw [look_enc, hp]; rfl
  refine dss_skip (DW.dt (dw_or (dt_xnotin C (de_name 5) (dk_bor 0)) fun _ => dw_or (dt_xnotin C (de_name 8) (dk_bor 0)) fun _ => dw_or1 (dt_cmp (dr_ix (DE.dr (de_xget C (dk_bor 0) (de_name 8) lq)) (DE.dr de_int) (ixd_tup rfl)) (dr_ix (DE.dr (de_xget C (dk_bor 0) (de_name 5) lp)) (DE.dr de_int) (ixd_tup rfl)) od_gt))) (by rw [lq, lp, show decide (h0 < h) = false from decide_eq_false (by omega)]; rfl) ?_
  refine dss_skip (DW.dt (dw_or (dt_not (dt_val (de_call F_has (C.room.mono (by decide)) (das_cons (DE.da (de_name 1)) (das_cons (DE.da (de_name 8)) das_nil)) ⟨a, x, besi p i, rfl, rfl⟩))) fun _ => dw_or1 (dt_cmp (DE.dr (de_name 6)) (dr_ix (DE.dr (de_xget C (dk_bor 0) (de_name 8) lq)) (DE.dr de_int) (ixd_tup rfl)) od_lt))) (by rw [st.has, show decide (lf < u) = false from decide_eq_false (by have := st.le; omega)]; rfl) ?_
  refine dss_mut 2 (DMD.dm (dmd_meth M_note (C.room.mono (by decide)) (dans_cons (dan_de (de_name 8)) (dans_cons (dan_de (DX.frozen (dx_call F_felt (C.room.mono (by decide)) (das_cons (DK.da (dk_bor 0)) (das_cons (DE.da (de_name 8)) das_nil)) ⟨g, besi p i, rfl, rfl⟩))) dans_nil)) ⟨m, tr, besi p i, gOf g, rfl, rfl, rfl, st.ag, .inl hm, by omega, by omega⟩ (fun s hs => ?pf))) ?_
  case pf =>
    rcases List.mem_cons.mp hs with rfl | hs
    · rfl
    · rcases List.mem_cons.mp hs with rfl | hs
      · rfl
      · cases hs
  refine dss_set C 6 (de_bin (DE.dr (de_name 6)) (dr_ix (DE.dr (de_xget C (dk_bor 0) (de_name 8) lq)) (DE.dr de_int) (ixd_tup rfl)) od_sub) ?_
  refine dss_if (dt_cmp (DE.dr (de_name 8)) (DE.dr (de_tup (des_cons de_int (des_cons de_int des_nil)))) (od_eqE C (besi p i) ((0, 0) : Int × Int))) (fun hb => ?_) (fun hb => dss_nil ?_)
  · have e : besi p i = (0, 0) := of_decide_eq_true hb
    refine dss_set C 6 (de_name 7) (dss_nil ?_)
    refine dss_ret (de_tup (des_cons (de_name 8) (des_cons (de_name 6) (des_cons (de_name 7) des_nil)))) ⟨?_, rfl⟩
    rw [if_pos e]
  · have e : ¬ besi p i = (0, 0) := of_decide_eq_false hb
    refine dss_ret (de_tup (des_cons (de_name 8) (des_cons (de_name 6) (des_cons (de_name 7) des_nil)))) ⟨?_, rfl⟩
    rw [if_neg e]
def R_safe (P : Program) (w : World) : List (Slot K c) → Slot K c → Prop := fun ss r => ∃ (unit fu : Int) (g : Mp) (a : Am) (x : Bx) (n : Nat) (m : Mp) (tr : Grs) (p : Cell) (lf : Int), ss = [kb (kDct P w (encM m)), sd (arD a x), sd (mD p lf fu)] ∧ r = sd (.bool true) ∧ SOk unit fu g a x n m tr p lf ∧ GrOk unit g ∧ 1 ≤ unit ∧ n ≤ 200
abbrev n_safe : List Str := ["_law_known", "_law_area_here", "_law_machine", "_law_place", "_law_left", "_law_full", "_law_homes_of"]
theorem sc_safe : FnScope n_safe ["_law_known", "_law_area_here", "_law_machine"] (defScope (topS 50)) := ⟨rfl, rfl, rfl, by decide +kernel, rfl, by decide +kernel, by decide +kernel⟩
theorem ok_safe (F : FunAt K mg "_law_safe" (topS 50) ["_law_known", "_law_area_here", "_law_machine"]) (F_costs : DefOk (c := c) P w K mg base "_law_costs" 4 (R_costs P w)) : DefOk (c := c) P w K mg base "_law_safe" 5 (R_safe P w) := by
  refine def_okF F sc_safe (fun ss r h => by obtain ⟨unit, fu, g, a, x, n, m, tr, p, lf, rfl, _⟩ := h; rfl) ?_
  rintro fa cdv A outer s H E ss r ⟨unit, fu, g, a, x, n, m, tr, p, lf, rfl, rfl, S, gr, hu, hn⟩ C
  refine dss_asg C (de_name 2) (dg_tup C (dgs_cons (dg_name C 3) (dgs_cons (dg_name C 4) (dgs_cons (dg_name C 5) dgs_nil)))) ?_
  refine dss_setX C 6 (dx_call F_costs (C.room.mono (by decide)) (das_cons (DK.da (dk_bor 0)) (das_cons (DE.da (de_name 1)) (das_cons (DE.da de_bl) das_nil))) ⟨m, a, x, rfl, rfl, by have := S.ml; omega, S.nd, S.pos gr hu, ?dk⟩) ?_
  case dk =>
    obtain ⟨u, h, e⟩ := gr.dock
    exact ⟨u, h, by rw [S.dk]; unfold gOf; rw [e]; rfl⟩
  refine dss_exE (f := fun found : Cs => kn (kDct P w (encI found))) 6 fun fd hfd => ?_
  obtain ⟨v, hv, hvl⟩ := S.home
  have lk : look (encI fd) p = some (.int v) := by rw [look_encI, hfd.look, hv]; rfl
  refine dss_skip (DW.dt (dw_and (dt_cmp (DE.dr (de_name 3)) (DE.dr (de_tup (des_cons de_int (des_cons de_int des_nil)))) (od_neE C p ((0, 0) : Int × Int))) fun _ => dw_and1 (dt_cmp (DE.dr (de_name 4)) (DE.dr de_int) od_lt))) ?_ ?_
  · by_cases hp : p = (0, 0)
    · rw [show decide (p = ((0, 0) : Int × Int)) = true from decide_eq_true hp]; rfl
    · have := least_unit S gr hu hp hv
      rw [show decide (lf < 1) = false from decide_eq_false (by omega), Bool.and_false]
  refine dss_ret (de_and (de_xin C (de_name 3) (dk_own 6)) fun _ => de_one (de_cmp (DE.dr (de_xget C (dk_own 6) (de_name 3) lk)) (DE.dr (de_name 4)) od_le)) ?_
  rw [lk, show decide (v ≤ lf) = true from decide_eq_true hvl]
  rfl
end

end Lw

namespace Lw
open PySem L2 PyProof.Rows Dw
local macro_rules | `(tactic| walk_at "shp") => `(tactic| first | exact Shp.int _ _ | exact Shp.bool _ _ | exact Shp.none _ | exact Shp.str _ _ (by decide +kernel) | (refine Shp.tuple ?_; walk_at "shp") | (refine Shp.list ?_; walk_at "shp") | exact ShpA.nil _ | (refine ShpA.cons ?_ ?_ <;> walk_at "shp") | (refine Shp.mono (En.shp _) ?_; decide))
local macro_rules | `(tactic| walk_at "wk") => `(tactic| first | exact wk_nil | exact Wk.refl _ | (refine wk_same ?_; walk_at "wk") | (refine wk_none ?_; walk_at "wk"))
local macro_rules | `(tactic| walk_at "sz") => `(tactic| first | exact lt_line (Nat.le_of_ble_eq_true rfl) | exact small (Nat.le_of_ble_eq_true rfl) | (apply lt_line; simp; omega) | (apply small; simp; omega))
local macro_rules | `(tactic| walk_at "call") => `(tactic| first | exact ⟨_, rfl, rfl⟩ | exact ⟨_, _, rfl, rfl⟩ | exact ⟨_, rfl, rfl, by decide⟩ | exact ⟨_, _, rfl, rfl, by decide⟩ | exact ⟨_, _, _, rfl, rfl⟩ | exact ⟨_, _, rfl, rfl, by omega⟩)
section
variable {c : Cl} {P : Program} {w : World} {K : PySem.W.Frag} {mg : Str → Option Value} {base : Heap}
def chE (P : Program) (w : World) : Kind K c := kE (fun t : Mp × Grs => kCh P w (encM t.1) t.2) (fun _ => True)
def R_home (P : Program) (w : World) : List (Slot K c) → Kind K c → D → Prop := fun ss k' d => ∃ (unit fu : Int) (g : Mp) (a : Am) (x : Bx) (n0 : Nat) (m : Mp) (tr : Grs) (p : Cell) (lf : Int),
  ss = [kb (kDct P w (encM g)), sd (arD a x), kn (kCh P w (encM m) tr) true, sd (mD p lf fu)] ∧ k' = chE P w ∧ d = .bool true ∧ SOk unit fu g a x n0 m tr p lf ∧ GrOk unit g ∧ 1 ≤ unit ∧ arHas a x (0, 0) = true ∧ fu < 30 * unit ∧ n0 ≤ 100
theorem de_at0 {X : Cx} {G : Dw.Env X.K c} {e1 e2 : Expr} {pos : Pos} {z rest : Str} {i : Fin 4} (ha : DE X G e1 (.str z)) (hb : DE X G e2 (.int 0)) (hz : z = sideS i ++ rest) (hs : PlainIxT e2 := by exact fun _ _ => rfl) : DE X G (.Subscript e1 e2 pos) (.str (sideS i)) := by
  obtain ⟨t1, p1, r1⟩ := ha
  obtain ⟨t2, p2, r2⟩ := hb
  refine ⟨_, pe_item_str p1 p2 hs, fun Z B H σ Q E g => r1 Z B H σ _ E fun v B1 H1 q1 h1 => r2 Z B1 H1 σ _ (E.ext q1) fun u B2 H2 q2 h2 => ?_⟩
  cases h1
  cases h2
  subst hz
  have sz : (sideS i ++ rest).cps[0]? = some ((sideS i).cps.getD 0 0) := by
    rw [Str.cps_append, Array.getElem?_append]
    match i with
    | 0 => rfl
    | 1 => rfl
    | 2 => rfl
    | 3 => rfl
  refine ⟨_, 0, (sideS i).cps.getD 0 0, rfl, rfl, by decide, by decide, ?_, sz, ?_⟩
  · rw [Str.length_append]
    have : 0 < (sideS i).length := by
      match i with
      | 0 => decide
      | 1 => decide
      | 2 => decide
      | 3 => decide
    omega
  · have : (⟨#[(sideS i).cps.getD 0 0]⟩ : Str) = sideS i := by
      match i with
      | 0 => rfl
      | 1 => rfl
      | 2 => rfl
      | 3 => rfl
    rw [this]
    exact g _ B2 H2 (q1.trans q2) (.str _)
theorem side_ne (i : Fin 4) (rest : Str) : sideS i ++ rest ≠ "" := fun e => by
  have := congrArg Str.length e
  rw [Str.length_append] at this
  have h1 : 0 < (sideS i).length := by
    match i with
    | 0 => decide
    | 1 => decide
    | 2 => decide
    | 3 => decide
  have h2 : ("" : Str).length = 0 := by decide
  omega
abbrev n_home : List Str := ["_law_grounds_here", "_law_area_here", "_law_chart", "_law_machine", "_law_turn", "_law_place", "_law_left", "_law_full", "_law_way"]
theorem sc_home : FnScope n_home ["_law_grounds_here", "_law_area_here", "_law_chart", "_law_machine"] (defScope (topS 51)) := ⟨rfl, rfl, rfl, by decide +kernel, rfl, by decide +kernel, by decide +kernel⟩
structure HmI (unit fu : Int) (g : Mp) (a : Am) (x : Bx) (n0 i : Nat) (t : Mp × Grs × Cell × Int) : Prop where
  s : SOk unit fu g a x (n0 + i) t.1 t.2.1 t.2.2.1 t.2.2.2
  c : (t.2.2.1 = (0, 0) ∧ i ≤ 29) ∨ (t.2.2.1 ≠ (0, 0) ∧ t.2.2.2 + i * unit < 30 * unit)
theorem lt_of_mul {i : Nat} {unit lf : Int} (hu : 1 ≤ unit) (h1 : unit ≤ lf) (h2 : lf + i * unit < 30 * unit) : i + 1 ≤ 29 := by
  have h3 : ((i : Int) + 1) * unit < 30 * unit := by rw [Int.add_mul]; omega
  have := Int.lt_of_mul_lt_mul_right h3 (by omega)
  omega
theorem ok_home (F : FunAt K mg "_law_home" (topS 51) ["_law_grounds_here", "_law_area_here", "_law_chart", "_law_machine"]) (F_wh : DefOk (c := c) P w K mg base "way_home" 6 (R_wh P w)) (F_made : DefOk (c := c) P w K mg base "_law_made" 3 R_made) (F_lets : DefOk (c := c) P w K mg base "lets" 7 (R_lets P w)) (F_gone : DefOkM P w K c mg base "_law_gone" 4 2 (R_gone P w))
    (b_range : mg "range" = none) (b_isinstance : mg "isinstance" = none) (b_str : mg "str" = none) : DefOkM P w K c mg base "_law_home" 8 2 (R_home P w) := by
  refine def_okM F sc_home (fun ss k' d h => by obtain ⟨unit, fu, g, a, x, n0, m, tr, p, lf, rfl, _⟩ := h; rfl) ?_
  rintro fa cdv A outer s H E ss k0 k' d ⟨unit, fu, g, a, x, n0, m0, tr0, p0, lf0, rfl, rfl, rfl, S0, gr, hu, hd, hfu, hn0⟩ hj C
  refine dss_forE C (di_range1 (m := 30) de_int (by decide) (by decide) b_range) (fun _ t => [some (kb (kDct P w (encM g))), some (sd (arD a x)), some (kn (kCh P w (encM t.1) t.2.1) true), some (sd (mD t.2.2.1 t.2.2.2 fu)), none, none, none, none, none]) (HmI unit fu g a x n0) (m0, tr0, p0, lf0) ⟨S0, ?q0⟩ ?wk (is := [4]) (fun i t hi => dg_name C 4) (fun i t hi qt => ?turn) (fun t qt => ?rest)
  case q0 =>
    by_cases h : p0 = (0, 0)
    · exact .inl ⟨h, by decide⟩
    · refine .inr ⟨h, ?_⟩
      have := S0.le
      show lf0 + ((0 : Nat) : Int) * unit < 30 * unit
      simp only [Int.natCast_zero, Int.zero_mul, Int.add_zero]
      omega
  case wk => show Wk _ _; walk_at "wk"
  case turn =>
    obtain ⟨m, tr, p, lf⟩ := t
    obtain ⟨S, hc⟩ := qt
    have hi : i < 30 := hi
    have S : SOk unit fu g a x (n0 + i) m tr p lf := S
    have hc : (p = (0, 0) ∧ i ≤ 29) ∨ (p ≠ (0, 0) ∧ lf + i * unit < 30 * unit) := hc
    have mo := S.mpOk gr hu hd (by omega)
    obtain ⟨v, hv, hvl⟩ := S.home
    refine dss_asg C (de_name 3) (dg_tup C (dgs_cons (dg_name C 5) (dgs_cons (dg_name C 6) (dgs_cons (dg_name C 7) dgs_nil)))) ?_
    refine dss_setX C 8 (dx_call F_wh (C.room.mono (by decide)) (das_cons (DK.da (dk_own 2)) (das_cons (DE.da (de_call F_made (C.room.mono (by decide)) (das_cons (DE.da (de_name 1)) das_nil) ⟨a, x, rfl, rfl⟩)) (das_cons (DE.da (de_name 5)) das_nil))) ⟨m, tr, a, x, p, rfl, rfl, mo, v, hv⟩) ?_
    refine dss_exE (f := fun s : Str => sd (.str s)) 8 fun z hz => ?_
    refine dss_if (dt_cmp (DE.dr (de_name 5)) (DE.dr (de_tup (des_cons de_int (des_cons de_int des_nil)))) (od_eqE C p ((0, 0) : Int × Int))) (fun hb => ?_) (fun hb => dss_nil ?_)
    · have e : p = (0, 0) := of_decide_eq_true hb
      have ez := hz.dock e
      subst ez
      refine dss_kEI (f := fun t : Mp × Grs => kCh P w (encM t.1) t.2) (q := fun _ => True) 2 (m, tr) trivial ?_
      refine dss_ret (de_cmp (DE.dr (de_name 8)) (DE.dr de_str) (od_eqS (y := "") C)) ⟨?_, rfl⟩
      rw [decide_eq_true (show ("" : Str) = "" from rfl)]
    have hp : p ≠ (0, 0) := of_decide_eq_false hb
    obtain ⟨j, hj1, u', v', rest, hz1, hl1, hl2, hl3⟩ := hz.first hp
    have hlv : lf + i * unit < 30 * unit := by
      rcases hc with ⟨e, _⟩ | ⟨_, e⟩
      · exact absurd e hp
      · exact e
    have hvu := least_unit S gr hu hp hv
    rw [hv] at hl2
    cases hl2
    have hlet : j ∈ letL m a x p lf := by
      unfold letL
      rw [List.mem_filter]
      refine ⟨hj1, ?_⟩
      unfold letB
      rw [hl1]
      exact decide_eq_true (by omega)
    obtain ⟨u, st⟩ := S.step gr hu hlet
    obtain ⟨h, u0, h0, hq, hgp, hle⟩ := st.ex
    have zne : z ≠ "" := by rw [hz1]; exact side_ne j rest
    refine dss_skip (DW.dt (dw_or (dt_not (dt_val (de_isd "str" (DE.dr (de_name 8)) b_isinstance b_str))) fun _ => dw_or1 (dt_cmp (DE.dr (de_name 8)) (DE.dr de_str) (od_eqS (z := "") C hz.ok)))) (by rw [decide_eq_false zne]; rfl) ?_
    refine dss_skip (dt_not (dt_val (de_call F_lets (C.room.mono (by decide)) (das_cons (DK.da (dk_own 2)) (das_cons (DE.da (de_call F_made (C.room.mono (by decide)) (das_cons (DE.da (de_name 1)) das_nil) ⟨a, x, rfl, rfl⟩)) (das_cons (DE.da (de_name 5)) (das_cons (DE.da (de_name 6)) (das_cons (DE.da (de_at0 (de_name 8) de_int hz1)) das_nil))))) ⟨m, tr, a, x, p, lf, j, rfl, rfl, mo, hlet⟩))) rfl ?_
    have hml := S.ml
    have htl := S.tl
    refine dss_setM C 2 3 (dmd_call F_gone (C.room.mono (by decide)) (dans_cons (dan_kb 0) (dans_cons (dan_de (de_name 1)) (dans_cons dan_me (dans_cons (dan_de (de_name 3)) (dans_cons (dan_de (de_at0 (de_name 8) de_int hz1)) dans_nil))))) ⟨unit, fu, g, a, x, n0 + i, m, tr, p, lf, j, u, rfl, rfl, rfl, st, ⟨h, hq⟩, (fun e => by rw [e] at S; have := S.dk; cases this), by omega, by omega⟩ rfl (fun l s hl hs => ?pf)) ?_
    case pf =>
      match l with
      | 0 => cases hl; cases hs
      | 1 => cases hl; cases hs
      | 2 => rfl
      | 3 => cases hl; cases hs
      | 4 => cases hl; cases hs
      | l + 5 => cases hl
    refine dss_skip (dt_cmp (DE.dr (de_name 3)) (DE.dr de_non) od_is) rfl (dss_nil ?_)
    refine ⟨(upds m (five (besi p j) (gOf g)), put tr (besi p j) (.bool true), besi p j, if besi p j = (0, 0) then fu else lf - u), ⟨st.next, ?_⟩, ?_⟩
    · have h29 := lt_of_mul hu (Int.le_trans hvu hvl) hlv
      by_cases e : besi p j = (0, 0)
      · exact .inl ⟨e, h29⟩
      · refine .inr ⟨e, ?_⟩
        show (if besi p j = (0, 0) then fu else lf - u) + ((i + 1 : Nat) : Int) * unit < 30 * unit
        rw [if_neg e]
        have := st.un
        have e2 : ((i + 1 : Nat) : Int) * unit = i * unit + unit := by rw [Int.natCast_add, Int.add_mul]; simp
        rw [e2]
        omega
    · show Wk _ _
      walk_at "wk"
  case rest =>
  exfalso
  obtain ⟨m, tr, p, lf⟩ := t
  obtain ⟨S, hc⟩ := qt
  obtain ⟨v, hv, hvl⟩ := S.home
  have v0 := Way.nn (fun q p n h => adjH_pos (a := a) (x := x) (S.pos gr hu) q p n h) (leastC_some.mp hv).1
  rcases hc with ⟨_, h⟩ | ⟨_, h⟩
  · exact absurd h (by decide)
  · have h : lf + ((30 : Nat) : Int) * unit < 30 * unit := h
    have hvl : v ≤ lf := hvl
    omega
end

end Lw

namespace Lw
open PySem L2 PyProof.Rows Dw
local macro_rules | `(tactic| walk_at "shp") => `(tactic| first | exact Shp.int _ _ | exact Shp.bool _ _ | exact Shp.none _ | exact Shp.str _ _ (by decide +kernel) | (refine Shp.tuple ?_; walk_at "shp") | (refine Shp.list ?_; walk_at "shp") | exact ShpA.nil _ | (refine ShpA.cons ?_ ?_ <;> walk_at "shp") | (refine Shp.mono (En.shp _) ?_; decide))
local macro_rules | `(tactic| walk_at "wk") => `(tactic| first | exact wk_nil | exact Wk.refl _ | (refine wk_same ?_; walk_at "wk") | (refine wk_none ?_; walk_at "wk"))
local macro_rules | `(tactic| walk_at "sz") => `(tactic| first | exact lt_line (Nat.le_of_ble_eq_true rfl) | exact small (Nat.le_of_ble_eq_true rfl) | (apply lt_line; simp; omega) | (apply small; simp; omega))
local macro_rules | `(tactic| walk_at "call") => `(tactic| first | exact ⟨_, rfl, rfl⟩ | exact ⟨_, _, rfl, rfl⟩ | exact ⟨_, rfl, rfl, by decide⟩ | exact ⟨_, _, rfl, rfl, by decide⟩ | exact ⟨_, _, _, rfl, rfl⟩ | exact ⟨_, _, rfl, rfl, by omega⟩)
theorem SOk.up {unit fu : Int} {g : Mp} {a : Am} {x : Bx} {n : Nat} {m : Mp} {tr : Grs} {p : Cell} {lf : Int} (S : SOk unit fu g a x n m tr p lf) : SOk unit fu g a x (n + 1) m tr p lf :=
  ⟨S.con, S.nd, by have := S.ml; omega, by have := S.tl; omega, S.dk, S.home, S.le⟩
section
variable {c : Cl} {P : Program} {w : World} {K : PySem.W.Frag} {mg : Str → Option Value} {base : Heap}
abbrev n_law : List Str := ["_law_script", "_law_rows", "_law_dock", "_law_unit", "_law_grounds_here", "_law_area_here", "_law_full", "_law_chart", "_law_known", "_law_machine", "_law_cell", "_law_sides"]
theorem sc_law : FnScope n_law ["_law_script"] (defScope (topS 52)) := ⟨rfl, rfl, rfl, by decide +kernel, rfl, by decide +kernel, by decide +kernel⟩
structure LwI (unit fu : Int) (g : Mp) (a : Am) (x : Bx) (i : Nat) (t : Mp × Grs × Cell × Int) : Prop where
  s : SOk unit fu g a x (1 + i) t.1 t.2.1 t.2.2.1 t.2.2.2
theorem eqv_nil (L : List (Fin 4)) : PyData.eqv (.list (L.map fun i => (.str (sideS i) : D))) (.list []) = L.isEmpty := by
  cases L with
  | nil => rfl
  | cons a r => simp [PyData.eqv, PyData.eqvAll]
theorem ok_law (F_cell : DefOk (c := c) P w K mg base "_law_cell_at" 1 R_cell_at) (F_floor : DefOk (c := c) P w K mg base "_law_floor" 3 R_floor) (F_grounds : DefOk (c := c) P w K mg base "_law_grounds" 1 (R_grounds P w)) (F_area : DefOk (c := c) P w K mg base "_law_area" 2 R_area) (N_chart : NewOkM P w K c mg base 6 "Chart" 1 (R_chart P w))
    (M_note : MthOkM P w K c mg base 6 "note" 3 (R_note P w)) (F_felt : DefOk (c := c) P w K mg base "_law_felt" 2 (R_felt P w)) (F_noted : DefOkM P w K c mg base "_law_noted" 2 0 (R_noted P w)) (F_sl : DefOk (c := c) P w K mg base "sides_let" 6 (R_sl P w)) (F_made : DefOk (c := c) P w K mg base "_law_made" 3 R_made)
    (F_gone : DefOkM P w K c mg base "_law_gone" 4 2 (R_gone P w)) (F_safe : DefOk (c := c) P w K mg base "_law_safe" 5 (R_safe P w)) (F_home : DefOkM P w K c mg base "_law_home" 8 2 (R_home P w)) (b_len : mg "len" = none) {x qual : Str} {fl : Addr} {fd : FuncData} (F : Fun K x qual (topS 52) fl fd) :
    FnOk P w K mg base CX0 10 fl fd ["_law_script"] (spS K (RLaw K c)) := by
  refine def_fn F sc_law (fun ss r h => by obtain ⟨ns, _, rfl, _⟩ := h; rfl) ?_
  rintro cdv A outer s H E ss r ⟨ns, hns, rfl, rfl⟩ C
  refine dss_asgE C (d := Fl.d) (q := FlOk) (dx_call F_floor (C.room.mono (by decide)) (das_cons (DR.da (DZ.dr (dz_name 0))) das_nil) ⟨ns, rfl, rfl⟩) (fun f => dg_tup C (dgs_cons (dg_name C 1) (dgs_cons (dg_name C 2) (dgs_cons (dg_name C 3) dgs_nil)))) fun f ok => ?_
  refine dss_setX C 4 (dx_call F_grounds (C.room.mono (by decide)) (das_cons (DE.da (de_name 1)) (das_cons (DE.da (de_name 2)) das_nil)) ⟨f, rfl, rfl, ok⟩) ?_
  refine dss_exE (f := fun g : Mp => kn (kDct P w (encM g))) 4 fun g gr => ?_
  have hu := ok.unit
  generalize f.unit = unit at gr hu
  refine dss_setX C 5 (dx_call F_area (C.room.mono (by decide)) (das_cons (DE.da (de_call F_cell (C.room.mono (by decide)) (das_cons (DR.da (DZ.dr (dz_name 0))) (das_cons (DE.da de_int) das_nil)) ⟨ns, 6, rfl, rfl, by decide⟩)) das_nil) ⟨cellAt ns 6, rfl, rfl⟩) ?_
  refine dss_exE (f := fun t : Am × Bx => sd (arD t.1 t.2)) 5 fun ax hax => ?_
  obtain ⟨a, x⟩ := ax
  have hd : arHas a x (0, 0) = true := hax
  have h30 : (0 : Int) < 30 * unit := by omega
  refine dss_set C 6 (d := .int (cellAt ns 7 % (30 * unit))) (de_bin (DE.dr (de_call F_cell (C.room.mono (by decide)) (das_cons (DR.da (DZ.dr (dz_name 0))) (das_cons (DE.da de_int) das_nil)) ⟨ns, 7, rfl, rfl, by decide⟩)) (DE.dr (de_bin (DE.dr de_int) (DE.dr (de_name 3)) (od_mulS (.inl (by decide))))) (od_mod h30)) ?_
  have fu0 := Int.emod_nonneg (cellAt ns 7) (show 30 * unit ≠ 0 by omega)
  have fu1 := Int.emod_lt_of_pos (cellAt ns 7) h30
  generalize cellAt ns 7 % (30 * unit) = fu at fu0 fu1
  refine dss_setX C 7 (dx_newM0 N_chart (C.room.mono (by decide)) ⟨rfl, rfl, rfl⟩) ?_
  refine dss_setX C 8 dx_xnew ?_
  refine dss_set C 9 (d := mD (0, 0) fu fu) (de_tup (des_cons (de_tup (des_cons de_int (des_cons de_int des_nil))) (des_cons (de_name 6) (des_cons (de_name 6) des_nil)))) ?_
  refine dss_mut 7 (DMD.dm (dmd_meth M_note (C.room.mono (by decide)) (dans_cons (dan_de (d := cD (0, 0)) (de_tup (des_cons de_int (des_cons de_int des_nil)))) (dans_cons (dan_de (DX.frozen (dx_call F_felt (C.room.mono (by decide)) (das_cons (DK.da (dk_own 4)) (das_cons (DE.da (de_tup (des_cons de_int (des_cons de_int des_nil)))) das_nil)) ⟨g, (0, 0), rfl, rfl⟩))) dans_nil)) ⟨[], [], (0, 0), gOf g, rfl, rfl, rfl, (fun k u v h => nomatch h), .inr rfl, by decide, by decide⟩ (fun s hs => ?pf1))) ?_
  case pf1 =>
    rcases List.mem_cons.mp hs with rfl | hs
    · rfl
    · rcases List.mem_cons.mp hs with rfl | hs
      · rfl
      · cases hs
  refine dss_mut 8 (DMD.dm (dmd_call F_noted (C.room.mono (by decide)) (dans_cons dan_me (dans_cons (dan_kn 4) (dans_cons (dan_de (d := cD (0, 0)) (de_tup (des_cons de_int (des_cons de_int des_nil)))) dans_nil))) ⟨[], g, (0, 0), rfl, rfl, rfl, by decide⟩ rfl (fun l s hl hs => ?pf2))) ?_
  case pf2 =>
    match l with
    | 0 => rfl
    | 1 => cases hl; cases hs
    | 2 => cases hl; cases hs
    | l + 3 => cases hl
  have cl : (cutA ns (some ((8 : Nat) : Int)) (some ((48 : Nat) : Int))).length ≤ 40 := cutA_le ns 8 48
  have slice : Dw.cutD (ns.map PyData.int) (some 8) (some 48) = (cutA ns (some ((8 : Nat) : Int)) (some ((48 : Nat) : Int))).map PyData.int := cutD_map PyData.int ns _ _
  generalize cutA ns (some ((8 : Nat) : Int)) (some ((48 : Nat) : Int)) = cs at cl slice
  refine dss_forE C (di_map PyData.int 0 (de_cast (DX.frozen (dx_slice (dz_name 0) (fun d hd => by obtain ⟨i, _, rfl⟩ := List.mem_map.mp hd; rfl) (do_some de_int) (do_some de_int))) (congrArg PyData.list slice)))
    (fun _ t => [some (sb (.list (ns.map .int))), none, none, some (sd (.int unit)), some (kn (kDct P w (encM g))), some (sd (arD a x)), some (sd (.int fu)), some (kn (kCh P w (encM t.1) t.2.1)), some (kn (kDct P w (encM t.1))), some (sd (mD t.2.2.1 t.2.2.2 fu)), none, none]) (LwI unit fu g a x) (upds [] (five (0, 0) (gOf g)), put [] (0, 0) (.bool true), (0, 0), fu) ⟨SOk.start gr hu fu0 _ (Nat.le_refl _)⟩ ?wk (is := [10]) (fun i t hi => dg_name C 10) (fun i t hi qt => ?turn) (fun t qt => ?rest)
  case wk => exact wk_same (wk_none (wk_none (wk_same (wk_same (wk_same (wk_same (wk_same (wk_same (wk_same (wk_same (wk_same wk_nil)))))))))))
  case turn =>
    obtain ⟨m, tr, p, lf⟩ := t
    obtain ⟨S⟩ := qt
    have S : SOk unit fu g a x (1 + i) m tr p lf := S
    have mo := S.mpOk gr hu hd (by omega)
    have hml := S.ml
    have htl := S.tl
    generalize cs.getD i 0 = z
    refine dss_set C 11 (DX.frozen (dx_call F_sl (C.room.mono (by decide)) (das_cons (DK.da (dk_own 7)) (das_cons (DE.da (de_call F_made (C.room.mono (by decide)) (das_cons (DE.da (de_name 5)) das_nil) ⟨a, x, rfl, rfl⟩)) (das_cons (DE.da (DR.de (dr_ix (d := cD p) (DE.dr (de_name 9)) (DE.dr de_int) (ixd_tup rfl)))) (das_cons (DE.da (DR.de (dr_ix (d := .int lf) (DE.dr (de_name 9)) (DE.dr de_int) (ixd_tup rfl)))) das_nil)))) ⟨m, tr, a, x, p, lf, rfl, rfl, mo⟩)) ?_
    refine dss_if (DW.dt (dw_and (dt_cmp (DE.dr (de_name 11)) (DE.dr (de_lst des_nil)) (od_ne (n := 1) (m := 1) C (Shp.list (ShpA.map fun j _ => Shp.str 0 _ (sideS_ok j))) (Shp.list (ShpA.nil 0)))) fun _ => dw_and1 (dt_cmp (DE.dr (de_bin (DE.dr (de_name 10)) (DE.dr de_int) (od_mod (by decide)))) (DE.dr de_int) od_gt))) (fun hb => ?_) (fun hb => dss_nil ?_)
    · have hne : letL m a x p lf ≠ [] := fun e => by
        rw [e] at hb
        exact absurd hb (by simp [PyData.eqv, PyData.eqvAll])
      have hlen : 0 < (letL m a x p lf).length := List.length_pos_iff.mpr hne
      have hlenI : (0 : Int) < (((letL m a x p lf).map fun i => (.str (sideS i) : D)).length : Int) := by rw [List.length_map]; omega
      have i0 := Int.emod_nonneg (z / 9) (show (((letL m a x p lf).map fun i => (.str (sideS i) : D)).length : Int) ≠ 0 by omega)
      have i1 := Int.emod_lt_of_pos (z / 9) hlenI
      obtain ⟨j, hj, hat⟩ : ∃ j, j ∈ letL m a x p lf ∧ atI ((letL m a x p lf).map fun i => (.str (sideS i) : D)) (z / 9 % (((letL m a x p lf).map fun i => (.str (sideS i) : D)).length : Int)) = some (.str (sideS j)) := by
        generalize z / 9 % (((letL m a x p lf).map fun i => (.str (sideS i) : D)).length : Int) = q at i0 i1
        rw [List.length_map] at i1
        have hq : q.toNat < (letL m a x p lf).length := by omega
        exact ⟨_, List.getElem_mem hq, atI_of i0 (by rw [List.getElem?_map, List.getElem?_eq_getElem hq]; rfl)⟩
      obtain ⟨u, st⟩ := S.step gr hu hj
      obtain ⟨h, u0, h0, hq, hgp, hle⟩ := st.ex
      have hml := S.ml
      have htl := S.tl
      refine dss_setM C 7 9 (dmd_call F_gone (C.room.mono (by decide)) (dans_cons (dan_kn 4) (dans_cons (dan_de (de_name 5)) (dans_cons dan_me (dans_cons (dan_de (de_name 9)) (dans_cons (dan_de (DR.de (dr_ix (d := .str (sideS j)) (DE.dr (de_name 11)) (DE.dr (de_bin (DE.dr (de_bin (DE.dr (de_name 10)) (DE.dr de_int) od_fdivC)) (DE.dr (de_callB cd_lenL b_len (drs_cons (DE.dr (de_name 11)) drs_nil))) (od_mod hlenI))) (ixd_list hat)))) dans_nil)))))
        ⟨unit, fu, g, a, x, 1 + i, m, tr, p, lf, j, u, rfl, rfl, rfl, st, ⟨h, hq⟩, (fun e => by rw [e] at S; have := S.dk; cases this), by omega, by omega⟩ rfl (fun l s hl hs => ?pf3)) ?_
      case pf3 =>
        match l with
        | 0 => cases hl; cases hs
        | 1 => cases hl; cases hs
        | 2 => rfl
        | 3 => cases hl; cases hs
        | 4 => cases hl; cases hs
        | l + 5 => cases hl
      refine dss_skip (dt_cmp (DE.dr (de_name 9)) (DE.dr de_non) od_is) rfl ?_
      refine dss_mut 8 (DMD.dm (dmd_call F_noted (C.room.mono (by decide)) (dans_cons dan_me (dans_cons (dan_kn 4) (dans_cons (dan_de (DR.de (dr_ix (d := cD (besi p j)) (DE.dr (de_name 9)) (DE.dr de_int) (ixd_tup rfl)))) dans_nil))) ⟨m, g, besi p j, rfl, rfl, rfl, by omega⟩ rfl (fun l s hl hs => ?pf4))) ?_
      case pf4 =>
        match l with
        | 0 => rfl
        | 1 => cases hl; cases hs
        | 2 => cases hl; cases hs
        | l + 3 => cases hl
      refine dss_nil ?_
      have S' := st.next
      generalize upds m (five (besi p j) (gOf g)) = m' at S' ⊢
      generalize put tr (besi p j) (.bool true) = tr' at S' ⊢
      generalize (if besi p j = (0, 0) then fu else lf - u) = lf' at S' ⊢
      generalize besi p j = p' at S' ⊢
      refine dss_skip (dt_not (dt_val (de_call F_safe (C.room.mono (by decide)) (das_cons (DK.da (dk_own 8)) (das_cons (DE.da (de_name 5)) (das_cons (DE.da (de_name 9)) das_nil))) ⟨unit, fu, g, a, x, 1 + i + 1, m', tr', p', lf', rfl, rfl, S', gr, hu, by omega⟩))) rfl (dss_nil ⟨(m', tr', p', lf'), ⟨S'⟩, ?_⟩)
      exact wk_same (wk_none (wk_none (wk_same (wk_same (wk_same (wk_same (wk_same (wk_same (wk_same (wk_none (wk_none wk_nil)))))))))))
    · refine dss_skip (dt_not (dt_val (de_call F_safe (C.room.mono (by decide)) (das_cons (DK.da (dk_own 8)) (das_cons (DE.da (de_name 5)) (das_cons (DE.da (de_name 9)) das_nil))) ⟨unit, fu, g, a, x, 1 + i + 1, m, tr, p, lf, rfl, rfl, S.up, gr, hu, by omega⟩))) rfl (dss_nil ⟨(m, tr, p, lf), ⟨S.up⟩, ?_⟩)
      exact wk_same (wk_none (wk_none (wk_same (wk_same (wk_same (wk_same (wk_same (wk_same (wk_same (wk_none (wk_none wk_nil)))))))))))
  case rest =>
  obtain ⟨m, tr, p, lf⟩ := t
  obtain ⟨S⟩ := qt
  have S : SOk unit fu g a x (1 + cs.length) m tr p lf := S
  refine dss_retM 7 (dmd_call F_home (C.room.mono (by decide)) (dans_cons (dan_kn 4) (dans_cons (dan_de (de_name 5)) (dans_cons dan_me (dans_cons (dan_de (de_name 9)) dans_nil)))) ⟨unit, fu, g, a, x, 1 + cs.length, m, tr, p, lf, rfl, rfl, rfl, S, gr, hu, hd, fu1, by omega⟩ rfl (fun l s hl hs => ?pf3)) rfl
  case pf3 =>
    match l with
    | 0 => cases hl; cases hs
    | 1 => cases hl; cases hs
    | 2 => rfl
    | 3 => cases hl; cases hs
    | l + 4 => cases hl
end

end Lw

namespace Lw
open PySem L2 PyProof.Rows Dw
theorem all_mk {l : PySem.W.OpenLaw} {w : World} {K : PySem.W.Frag} {h : Heap} {mg : Str → Option Value} {fa : Addr} {q : Program} (X : K.In h) (G : h.Ns mainGlobals mg) (hfa : mg "law" = some (.ref fa))
    {f0 : Addr} {oc0 kV0 dc0 pm0 cd0 ct0 : Value} {od0 an0 : Option Addr} {sl0 : Array (Option Value)}
    {f1 : Addr} {oc1 kV1 dc1 pm1 cd1 ct1 : Value} {od1 an1 : Option Addr} {sl1 : Array (Option Value)}
    {f2 : Addr} {oc2 kV2 dc2 pm2 cd2 ct2 : Value} {od2 an2 : Option Addr} {sl2 : Array (Option Value)}
    {f3 : Addr} {oc3 kV3 dc3 pm3 cd3 ct3 : Value} {od3 an3 : Option Addr} {sl3 : Array (Option Value)}
    {f4 : Addr} {oc4 kV4 dc4 pm4 cd4 ct4 : Value} {od4 an4 : Option Addr} {sl4 : Array (Option Value)}
    {f5 : Addr} {oc5 kV5 dc5 pm5 cd5 ct5 : Value} {od5 an5 : Option Addr} {sl5 : Array (Option Value)}
    {f6 : Addr} {oc6 kV6 dc6 pm6 cd6 ct6 : Value} {od6 an6 : Option Addr} {sl6 : Array (Option Value)}
    {f7 cc7 PT7 : Addr} {oc7 kV7 dc7 pm7 ct7 tc7 : Value} {od7 an7 td7 : Option Addr} {sl7 ts7 : Array (Option Value)} {tv7 : Array Value}
    {f8 : Addr} {oc8 kV8 dc8 pm8 cd8 ct8 : Value} {od8 an8 : Option Addr} {sl8 : Array (Option Value)}
    {f9 : Addr} {oc9 kV9 dc9 pm9 cd9 ct9 : Value} {od9 an9 : Option Addr} {sl9 : Array (Option Value)}
    {f10 : Addr} {oc10 kV10 dc10 pm10 cd10 ct10 : Value} {od10 an10 : Option Addr} {sl10 : Array (Option Value)}
    {f11 : Addr} {oc11 kV11 dc11 pm11 cd11 ct11 : Value} {od11 an11 : Option Addr} {sl11 : Array (Option Value)}
    {f12 : Addr} {oc12 kV12 dc12 pm12 cd12 ct12 : Value} {od12 an12 : Option Addr} {sl12 : Array (Option Value)}
    {f13 : Addr} {oc13 kV13 dc13 pm13 cd13 ct13 : Value} {od13 an13 : Option Addr} {sl13 : Array (Option Value)}
    {f14 : Addr} {oc14 kV14 dc14 pm14 cd14 ct14 : Value} {od14 an14 : Option Addr} {sl14 : Array (Option Value)}
    {f15 : Addr} {oc15 kV15 dc15 pm15 cd15 ct15 : Value} {od15 an15 : Option Addr} {sl15 : Array (Option Value)}
    {f16 : Addr} {oc16 kV16 dc16 pm16 cd16 ct16 : Value} {od16 an16 : Option Addr} {sl16 : Array (Option Value)}
    {f17 : Addr} {oc17 kV17 dc17 pm17 cd17 ct17 : Value} {od17 an17 : Option Addr} {sl17 : Array (Option Value)}
    {f18 : Addr} {oc18 kV18 dc18 pm18 cd18 ct18 : Value} {od18 an18 : Option Addr} {sl18 : Array (Option Value)}
    {f19 : Addr} {oc19 kV19 dc19 pm19 cd19 ct19 : Value} {od19 an19 : Option Addr} {sl19 : Array (Option Value)}
    {f20 : Addr} {oc20 kV20 dc20 pm20 cd20 ct20 : Value} {od20 an20 : Option Addr} {sl20 : Array (Option Value)}
    {f21 : Addr} {oc21 kV21 dc21 pm21 cd21 ct21 : Value} {od21 an21 : Option Addr} {sl21 : Array (Option Value)}
    {f22 : Addr} {oc22 kV22 dc22 pm22 cd22 ct22 : Value} {od22 an22 : Option Addr} {sl22 : Array (Option Value)}
    {f23 : Addr} {oc23 kV23 dc23 pm23 cd23 ct23 : Value} {od23 an23 : Option Addr} {sl23 : Array (Option Value)}
    {f24 : Addr} {oc24 kV24 dc24 pm24 cd24 ct24 : Value} {od24 an24 : Option Addr} {sl24 : Array (Option Value)}
    {f25 : Addr} {oc25 kV25 dc25 pm25 cd25 ct25 : Value} {od25 an25 : Option Addr} {sl25 : Array (Option Value)}
    {f26 : Addr} {oc26 kV26 dc26 pm26 cd26 ct26 : Value} {od26 an26 : Option Addr} {sl26 : Array (Option Value)}
    {f27 : Addr} {oc27 kV27 dc27 pm27 cd27 ct27 : Value} {od27 an27 : Option Addr} {sl27 : Array (Option Value)}
    {f28 : Addr} {oc28 kV28 dc28 pm28 cd28 ct28 : Value} {od28 an28 : Option Addr} {sl28 : Array (Option Value)}
    {f29 cc29 PT29 : Addr} {oc29 kV29 dc29 pm29 ct29 tc29 : Value} {od29 an29 td29 : Option Addr} {sl29 ts29 : Array (Option Value)} {tv29 : Array Value}
    {f30 : Addr} {oc30 kV30 dc30 pm30 cd30 ct30 : Value} {od30 an30 : Option Addr} {sl30 : Array (Option Value)}
    {f31 : Addr} {oc31 kV31 dc31 pm31 cd31 ct31 : Value} {od31 an31 : Option Addr} {sl31 : Array (Option Value)}
    {f32 : Addr} {oc32 kV32 dc32 pm32 cd32 ct32 : Value} {od32 an32 : Option Addr} {sl32 : Array (Option Value)}
    {f33 : Addr} {oc33 kV33 dc33 pm33 cd33 ct33 : Value} {od33 an33 : Option Addr} {sl33 : Array (Option Value)}
    {gU : Tok}
    {gS : Addr} {gSd : Option Addr} {gSn : Nat} {gSs : Array (Option Value)} {gS0 gS1 gS2 gS3 : Tok}
    {gD : Addr} {gDd : Option Addr} {gDn : Nat} {gDs : Array (Option Value)} {gD0 gD1 : Tok}
    {gM p0 p1 p2 p3 : Addr} {gMe : Array DictEntry} {gMn m0 m1 m2 m3 : Nat} {q0 q1 q2 q3 : Option Addr} {r0 r1 r2 r3 : Array (Option Value)} {t0 u0 t1 u1 t2 u2 t3 u3 : Tok}
    {C_Everywhere : Addr}
    {f_Everywhere_has : Addr} {oc_Everywhere_has kV_Everywhere_has dc_Everywhere_has pm_Everywhere_has cd_Everywhere_has ct_Everywhere_has : Value} {od_Everywhere_has an_Everywhere_has : Option Addr} {sl_Everywhere_has : Array (Option Value)}
    {C_Box : Addr}
    {f_Box_init : Addr} {oc_Box_init kV_Box_init dc_Box_init pm_Box_init cd_Box_init ct_Box_init : Value} {od_Box_init an_Box_init : Option Addr} {sl_Box_init : Array (Option Value)}
    {f_Box_has : Addr} {oc_Box_has kV_Box_has dc_Box_has pm_Box_has cd_Box_has ct_Box_has : Value} {od_Box_has an_Box_has : Option Addr} {sl_Box_has : Array (Option Value)}
    {C_Outside : Addr}
    {f_Outside_init : Addr} {oc_Outside_init kV_Outside_init dc_Outside_init pm_Outside_init cd_Outside_init ct_Outside_init : Value} {od_Outside_init an_Outside_init : Option Addr} {sl_Outside_init : Array (Option Value)}
    {f_Outside_has : Addr} {oc_Outside_has kV_Outside_has dc_Outside_has pm_Outside_has cd_Outside_has ct_Outside_has : Value} {od_Outside_has an_Outside_has : Option Addr} {sl_Outside_has : Array (Option Value)}
    {C_Chart : Addr}
    {f_Chart_init : Addr} {oc_Chart_init kV_Chart_init dc_Chart_init pm_Chart_init cd_Chart_init ct_Chart_init : Value} {od_Chart_init an_Chart_init : Option Addr} {sl_Chart_init : Array (Option Value)}
    {f_Chart_note : Addr} {oc_Chart_note kV_Chart_note dc_Chart_note pm_Chart_note cd_Chart_note ct_Chart_note : Value} {od_Chart_note an_Chart_note : Option Addr} {sl_Chart_note : Array (Option Value)}
    {f_Chart_ground : Addr} {oc_Chart_ground kV_Chart_ground dc_Chart_ground pm_Chart_ground cd_Chart_ground ct_Chart_ground : Value} {od_Chart_ground an_Chart_ground : Option Addr} {sl_Chart_ground : Array (Option Value)}
    {f_Chart_known : Addr} {oc_Chart_known kV_Chart_known dc_Chart_known pm_Chart_known cd_Chart_known ct_Chart_known : Value} {od_Chart_known an_Chart_known : Option Addr} {sl_Chart_known : Array (Option Value)}
    {f_Chart_open_cells : Addr} {oc_Chart_open_cells kV_Chart_open_cells dc_Chart_open_cells pm_Chart_open_cells cd_Chart_open_cells ct_Chart_open_cells : Value} {od_Chart_open_cells an_Chart_open_cells : Option Addr} {sl_Chart_open_cells : Array (Option Value)}
    {f_Chart_stood : Addr} {oc_Chart_stood kV_Chart_stood dc_Chart_stood pm_Chart_stood cd_Chart_stood ct_Chart_stood : Value} {od_Chart_stood an_Chart_stood : Option Addr} {sl_Chart_stood : Array (Option Value)}
    {f_Chart_has_stood : Addr} {oc_Chart_has_stood kV_Chart_has_stood dc_Chart_has_stood pm_Chart_has_stood cd_Chart_has_stood ct_Chart_has_stood : Value} {od_Chart_has_stood an_Chart_has_stood : Option Addr} {sl_Chart_has_stood : Array (Option Value)}
    {f_Chart_copied : Addr} {oc_Chart_copied kV_Chart_copied dc_Chart_copied pm_Chart_copied cd_Chart_copied ct_Chart_copied : Value} {od_Chart_copied an_Chart_copied : Option Addr} {sl_Chart_copied : Array (Option Value)}
    {C_DustError : Addr}
    {C_Clash : Addr}
    {C_NoDock : Addr}
    {C_Area : Addr}
    (a0 : PySem.W.nsIn K mainGlobals "_wall" = some (some (.ref f0)))
    (l0 : K.lookup f0 = some ⟨oc0, od0, .func (PySem.W.fnOf "_wall" "_wall" (defArgs (topS 0)) (defBody (topS 0)) (defScope (topS 0)) .none kV0 dc0 pm0 an0 cd0 ct0), sl0⟩)
    (c0 : PySem.W.codeIn K cd0 "_wall" = true)
    (k0 : PySem.W.keepIn K (.ref f0) = true)
    (a1 : PySem.W.nsIn K mainGlobals "beside" = some (some (.ref f1)))
    (l1 : K.lookup f1 = some ⟨oc1, od1, .func (PySem.W.fnOf "beside" "beside" (defArgs (topS 5)) (defBody (topS 5)) (defScope (topS 5)) .none kV1 dc1 pm1 an1 cd1 ct1), sl1⟩)
    (c1 : PySem.W.codeIn K cd1 "beside" = true)
    (k1 : PySem.W.keepIn K (.ref f1) = true)
    (a2 : PySem.W.nsIn K mainGlobals "can_step" = some (some (.ref f2)))
    (l2 : K.lookup f2 = some ⟨oc2, od2, .func (PySem.W.fnOf "can_step" "can_step" (defArgs (topS 6)) (defBody (topS 6)) (defScope (topS 6)) .none kV2 dc2 pm2 an2 cd2 ct2), sl2⟩)
    (c2 : PySem.W.codeIn K cd2 "can_step" = true)
    (k2 : PySem.W.keepIn K (.ref f2) = true)
    (a3 : PySem.W.nsIn K mainGlobals "check_dock" = some (some (.ref f3)))
    (l3 : K.lookup f3 = some ⟨oc3, od3, .func (PySem.W.fnOf "check_dock" "check_dock" (defArgs (topS 12)) (defBody (topS 12)) (defScope (topS 12)) .none kV3 dc3 pm3 an3 cd3 ct3), sl3⟩)
    (c3 : PySem.W.codeIn K cd3 "check_dock" = true)
    (k3 : PySem.W.keepIn K (.ref f3) = true)
    (a4 : PySem.W.nsIn K mainGlobals "steps_from" = some (some (.ref f4)))
    (l4 : K.lookup f4 = some ⟨oc4, od4, .func (PySem.W.fnOf "steps_from" "steps_from" (defArgs (topS 13)) (defBody (topS 13)) (defScope (topS 13)) .none kV4 dc4 pm4 an4 cd4 ct4), sl4⟩)
    (c4 : PySem.W.codeIn K cd4 "steps_from" = true)
    (k4 : PySem.W.keepIn K (.ref f4) = true)
    (a5 : PySem.W.nsIn K mainGlobals "known_steps" = some (some (.ref f5)))
    (l5 : K.lookup f5 = some ⟨oc5, od5, .func (PySem.W.fnOf "known_steps" "known_steps" (defArgs (topS 14)) (defBody (topS 14)) (defScope (topS 14)) .none kV5 dc5 pm5 an5 cd5 ct5), sl5⟩)
    (c5 : PySem.W.codeIn K cd5 "known_steps" = true)
    (k5 : PySem.W.keepIn K (.ref f5) = true)
    (a6 : PySem.W.nsIn K mainGlobals "all_steps" = some (some (.ref f6)))
    (l6 : K.lookup f6 = some ⟨oc6, od6, .func (PySem.W.fnOf "all_steps" "all_steps" (defArgs (topS 15)) (defBody (topS 15)) (defScope (topS 15)) .none kV6 dc6 pm6 an6 cd6 ct6), sl6⟩)
    (c6 : PySem.W.codeIn K cd6 "all_steps" = true)
    (k6 : PySem.W.keepIn K (.ref f6) = true)
    (a7 : PySem.W.nsIn K mainGlobals "least_of" = some (some (.ref f7)))
    (l7 : K.lookup f7 = some ⟨oc7, od7, .func (PySem.W.fnOf "least_of" "least_of" (defArgs (topS 16)) (defBody (topS 16)) (defScope (topS 16)) .none kV7 dc7 pm7 an7 (.ref cc7) ct7), sl7⟩)
    (c7 : PySem.W.codeIn K (.ref cc7) "least_of" = true)
    (k7 : PySem.W.keepIn K (.ref f7) = true)
    (lc7 : K.lookup cc7 = some ⟨tc7, td7, .fields tv7, ts7⟩)
    (lp7 : tv7[11]? = some (.ref PT7))
    (lt7 : PySem.W.tabIn K "least_of" = some (cc7, PT7))
    (ln7 : K.lookup PT7 = none)
    (lr7 : ∃ r, (recsOf q).find? (fun e => e.name == ("least_of" : Str)) = some r)
    (a8 : PySem.W.nsIn K mainGlobals "spread" = some (some (.ref f8)))
    (l8 : K.lookup f8 = some ⟨oc8, od8, .func (PySem.W.fnOf "spread" "spread" (defArgs (topS 17)) (defBody (topS 17)) (defScope (topS 17)) .none kV8 dc8 pm8 an8 cd8 ct8), sl8⟩)
    (c8 : PySem.W.codeIn K cd8 "spread" = true)
    (k8 : PySem.W.keepIn K (.ref f8) = true)
    (a9 : PySem.W.nsIn K mainGlobals "has_dock" = some (some (.ref f9)))
    (l9 : K.lookup f9 = some ⟨oc9, od9, .func (PySem.W.fnOf "has_dock" "has_dock" (defArgs (topS 18)) (defBody (topS 18)) (defScope (topS 18)) .none kV9 dc9 pm9 an9 cd9 ct9), sl9⟩)
    (c9 : PySem.W.codeIn K cd9 "has_dock" = true)
    (k9 : PySem.W.keepIn K (.ref f9) = true)
    (a10 : PySem.W.nsIn K mainGlobals "homes" = some (some (.ref f10)))
    (l10 : K.lookup f10 = some ⟨oc10, od10, .func (PySem.W.fnOf "homes" "homes" (defArgs (topS 19)) (defBody (topS 19)) (defScope (topS 19)) .none kV10 dc10 pm10 an10 cd10 ct10), sl10⟩)
    (c10 : PySem.W.codeIn K cd10 "homes" = true)
    (k10 : PySem.W.keepIn K (.ref f10) = true)
    (a11 : PySem.W.nsIn K mainGlobals "way_home" = some (some (.ref f11)))
    (l11 : K.lookup f11 = some ⟨oc11, od11, .func (PySem.W.fnOf "way_home" "way_home" (defArgs (topS 20)) (defBody (topS 20)) (defScope (topS 20)) .none kV11 dc11 pm11 an11 cd11 ct11), sl11⟩)
    (c11 : PySem.W.codeIn K cd11 "way_home" = true)
    (k11 : PySem.W.keepIn K (.ref f11) = true)
    (a12 : PySem.W.nsIn K mainGlobals "sides_let" = some (some (.ref f12)))
    (l12 : K.lookup f12 = some ⟨oc12, od12, .func (PySem.W.fnOf "sides_let" "sides_let" (defArgs (topS 22)) (defBody (topS 22)) (defScope (topS 22)) .none kV12 dc12 pm12 an12 cd12 ct12), sl12⟩)
    (c12 : PySem.W.codeIn K cd12 "sides_let" = true)
    (k12 : PySem.W.keepIn K (.ref f12) = true)
    (a13 : PySem.W.nsIn K mainGlobals "lets" = some (some (.ref f13)))
    (l13 : K.lookup f13 = some ⟨oc13, od13, .func (PySem.W.fnOf "lets" "lets" (defArgs (topS 23)) (defBody (topS 23)) (defScope (topS 23)) .none kV13 dc13 pm13 an13 cd13 ct13), sl13⟩)
    (c13 : PySem.W.codeIn K cd13 "lets" = true)
    (k13 : PySem.W.keepIn K (.ref f13) = true)
    (a14 : PySem.W.nsIn K mainGlobals "first_clash" = some (some (.ref f14)))
    (l14 : K.lookup f14 = some ⟨oc14, od14, .func (PySem.W.fnOf "first_clash" "first_clash" (defArgs (topS 31)) (defBody (topS 31)) (defScope (topS 31)) .none kV14 dc14 pm14 an14 cd14 ct14), sl14⟩)
    (c14 : PySem.W.codeIn K cd14 "first_clash" = true)
    (k14 : PySem.W.keepIn K (.ref f14) = true)
    (a15 : PySem.W.nsIn K mainGlobals "around" = some (some (.ref f15)))
    (l15 : K.lookup f15 = some ⟨oc15, od15, .func (PySem.W.fnOf "around" "around" (defArgs (topS 32)) (defBody (topS 32)) (defScope (topS 32)) .none kV15 dc15 pm15 an15 cd15 ct15), sl15⟩)
    (c15 : PySem.W.codeIn K cd15 "around" = true)
    (k15 : PySem.W.keepIn K (.ref f15) = true)
    (a16 : PySem.W.nsIn K mainGlobals "_law_cell_at" = some (some (.ref f16)))
    (l16 : K.lookup f16 = some ⟨oc16, od16, .func (PySem.W.fnOf "_law_cell_at" "_law_cell_at" (defArgs (topS 35)) (defBody (topS 35)) (defScope (topS 35)) .none kV16 dc16 pm16 an16 cd16 ct16), sl16⟩)
    (c16 : PySem.W.codeIn K cd16 "_law_cell_at" = true)
    (k16 : PySem.W.keepIn K (.ref f16) = true)
    (a17 : PySem.W.nsIn K mainGlobals "_law_stream" = some (some (.ref f17)))
    (l17 : K.lookup f17 = some ⟨oc17, od17, .func (PySem.W.fnOf "_law_stream" "_law_stream" (defArgs (topS 36)) (defBody (topS 36)) (defScope (topS 36)) .none kV17 dc17 pm17 an17 cd17 ct17), sl17⟩)
    (c17 : PySem.W.codeIn K cd17 "_law_stream" = true)
    (k17 : PySem.W.keepIn K (.ref f17) = true)
    (a18 : PySem.W.nsIn K mainGlobals "_law_row" = some (some (.ref f18)))
    (l18 : K.lookup f18 = some ⟨oc18, od18, .func (PySem.W.fnOf "_law_row" "_law_row" (defArgs (topS 37)) (defBody (topS 37)) (defScope (topS 37)) .none kV18 dc18 pm18 an18 cd18 ct18), sl18⟩)
    (c18 : PySem.W.codeIn K cd18 "_law_row" = true)
    (k18 : PySem.W.keepIn K (.ref f18) = true)
    (a19 : PySem.W.nsIn K mainGlobals "_law_floor" = some (some (.ref f19)))
    (l19 : K.lookup f19 = some ⟨oc19, od19, .func (PySem.W.fnOf "_law_floor" "_law_floor" (defArgs (topS 38)) (defBody (topS 38)) (defScope (topS 38)) .none kV19 dc19 pm19 an19 cd19 ct19), sl19⟩)
    (c19 : PySem.W.codeIn K cd19 "_law_floor" = true)
    (k19 : PySem.W.keepIn K (.ref f19) = true)
    (a20 : PySem.W.nsIn K mainGlobals "_law_grounds" = some (some (.ref f20)))
    (l20 : K.lookup f20 = some ⟨oc20, od20, .func (PySem.W.fnOf "_law_grounds" "_law_grounds" (defArgs (topS 39)) (defBody (topS 39)) (defScope (topS 39)) .none kV20 dc20 pm20 an20 cd20 ct20), sl20⟩)
    (c20 : PySem.W.codeIn K cd20 "_law_grounds" = true)
    (k20 : PySem.W.keepIn K (.ref f20) = true)
    (a21 : PySem.W.nsIn K mainGlobals "_law_beside" = some (some (.ref f21)))
    (l21 : K.lookup f21 = some ⟨oc21, od21, .func (PySem.W.fnOf "_law_beside" "_law_beside" (defArgs (topS 40)) (defBody (topS 40)) (defScope (topS 40)) .none kV21 dc21 pm21 an21 cd21 ct21), sl21⟩)
    (c21 : PySem.W.codeIn K cd21 "_law_beside" = true)
    (k21 : PySem.W.keepIn K (.ref f21) = true)
    (a22 : PySem.W.nsIn K mainGlobals "_law_felt" = some (some (.ref f22)))
    (l22 : K.lookup f22 = some ⟨oc22, od22, .func (PySem.W.fnOf "_law_felt" "_law_felt" (defArgs (topS 41)) (defBody (topS 41)) (defScope (topS 41)) .none kV22 dc22 pm22 an22 cd22 ct22), sl22⟩)
    (c22 : PySem.W.codeIn K cd22 "_law_felt" = true)
    (k22 : PySem.W.keepIn K (.ref f22) = true)
    (a23 : PySem.W.nsIn K mainGlobals "_law_area" = some (some (.ref f23)))
    (l23 : K.lookup f23 = some ⟨oc23, od23, .func (PySem.W.fnOf "_law_area" "_law_area" (defArgs (topS 42)) (defBody (topS 42)) (defScope (topS 42)) .none kV23 dc23 pm23 an23 cd23 ct23), sl23⟩)
    (c23 : PySem.W.codeIn K cd23 "_law_area" = true)
    (k23 : PySem.W.keepIn K (.ref f23) = true)
    (a24 : PySem.W.nsIn K mainGlobals "_law_in" = some (some (.ref f24)))
    (l24 : K.lookup f24 = some ⟨oc24, od24, .func (PySem.W.fnOf "_law_in" "_law_in" (defArgs (topS 43)) (defBody (topS 43)) (defScope (topS 43)) .none kV24 dc24 pm24 an24 cd24 ct24), sl24⟩)
    (c24 : PySem.W.codeIn K cd24 "_law_in" = true)
    (k24 : PySem.W.keepIn K (.ref f24) = true)
    (a25 : PySem.W.nsIn K mainGlobals "_law_has" = some (some (.ref f25)))
    (l25 : K.lookup f25 = some ⟨oc25, od25, .func (PySem.W.fnOf "_law_has" "_law_has" (defArgs (topS 44)) (defBody (topS 44)) (defScope (topS 44)) .none kV25 dc25 pm25 an25 cd25 ct25), sl25⟩)
    (c25 : PySem.W.codeIn K cd25 "_law_has" = true)
    (k25 : PySem.W.keepIn K (.ref f25) = true)
    (a26 : PySem.W.nsIn K mainGlobals "_law_made" = some (some (.ref f26)))
    (l26 : K.lookup f26 = some ⟨oc26, od26, .func (PySem.W.fnOf "_law_made" "_law_made" (defArgs (topS 45)) (defBody (topS 45)) (defScope (topS 45)) .none kV26 dc26 pm26 an26 cd26 ct26), sl26⟩)
    (c26 : PySem.W.codeIn K cd26 "_law_made" = true)
    (k26 : PySem.W.keepIn K (.ref f26) = true)
    (a27 : PySem.W.nsIn K mainGlobals "_law_noted" = some (some (.ref f27)))
    (l27 : K.lookup f27 = some ⟨oc27, od27, .func (PySem.W.fnOf "_law_noted" "_law_noted" (defArgs (topS 46)) (defBody (topS 46)) (defScope (topS 46)) .none kV27 dc27 pm27 an27 cd27 ct27), sl27⟩)
    (c27 : PySem.W.codeIn K cd27 "_law_noted" = true)
    (k27 : PySem.W.keepIn K (.ref f27) = true)
    (a28 : PySem.W.nsIn K mainGlobals "_law_steps" = some (some (.ref f28)))
    (l28 : K.lookup f28 = some ⟨oc28, od28, .func (PySem.W.fnOf "_law_steps" "_law_steps" (defArgs (topS 47)) (defBody (topS 47)) (defScope (topS 47)) .none kV28 dc28 pm28 an28 cd28 ct28), sl28⟩)
    (c28 : PySem.W.codeIn K cd28 "_law_steps" = true)
    (k28 : PySem.W.keepIn K (.ref f28) = true)
    (a29 : PySem.W.nsIn K mainGlobals "_law_costs" = some (some (.ref f29)))
    (l29 : K.lookup f29 = some ⟨oc29, od29, .func (PySem.W.fnOf "_law_costs" "_law_costs" (defArgs (topS 48)) (defBody (topS 48)) (defScope (topS 48)) .none kV29 dc29 pm29 an29 (.ref cc29) ct29), sl29⟩)
    (c29 : PySem.W.codeIn K (.ref cc29) "_law_costs" = true)
    (k29 : PySem.W.keepIn K (.ref f29) = true)
    (lc29 : K.lookup cc29 = some ⟨tc29, td29, .fields tv29, ts29⟩)
    (lp29 : tv29[11]? = some (.ref PT29))
    (lt29 : PySem.W.tabIn K "_law_costs" = some (cc29, PT29))
    (ln29 : K.lookup PT29 = none)
    (lr29 : ∃ r, (recsOf q).find? (fun e => e.name == ("_law_costs" : Str)) = some r)
    (a30 : PySem.W.nsIn K mainGlobals "_law_gone" = some (some (.ref f30)))
    (l30 : K.lookup f30 = some ⟨oc30, od30, .func (PySem.W.fnOf "_law_gone" "_law_gone" (defArgs (topS 49)) (defBody (topS 49)) (defScope (topS 49)) .none kV30 dc30 pm30 an30 cd30 ct30), sl30⟩)
    (c30 : PySem.W.codeIn K cd30 "_law_gone" = true)
    (k30 : PySem.W.keepIn K (.ref f30) = true)
    (a31 : PySem.W.nsIn K mainGlobals "_law_safe" = some (some (.ref f31)))
    (l31 : K.lookup f31 = some ⟨oc31, od31, .func (PySem.W.fnOf "_law_safe" "_law_safe" (defArgs (topS 50)) (defBody (topS 50)) (defScope (topS 50)) .none kV31 dc31 pm31 an31 cd31 ct31), sl31⟩)
    (c31 : PySem.W.codeIn K cd31 "_law_safe" = true)
    (k31 : PySem.W.keepIn K (.ref f31) = true)
    (a32 : PySem.W.nsIn K mainGlobals "_law_home" = some (some (.ref f32)))
    (l32 : K.lookup f32 = some ⟨oc32, od32, .func (PySem.W.fnOf "_law_home" "_law_home" (defArgs (topS 51)) (defBody (topS 51)) (defScope (topS 51)) .none kV32 dc32 pm32 an32 cd32 ct32), sl32⟩)
    (c32 : PySem.W.codeIn K cd32 "_law_home" = true)
    (k32 : PySem.W.keepIn K (.ref f32) = true)
    (a33 : PySem.W.nsIn K mainGlobals "law" = some (some (.ref f33)))
    (l33 : K.lookup f33 = some ⟨oc33, od33, .func (PySem.W.fnOf "law" "law" (defArgs (topS 52)) (defBody (topS 52)) (defScope (topS 52)) .none kV33 dc33 pm33 an33 cd33 ct33), sl33⟩)
    (c33 : PySem.W.codeIn K cd33 "law" = true)
    (k33 : PySem.W.keepIn K (.ref f33) = true)
    (z_ValueError : PySem.W.nsIn K mainGlobals "ValueError" = some none)
    (z_int : PySem.W.nsIn K mainGlobals "int" = some none)
    (z_isinstance : PySem.W.nsIn K mainGlobals "isinstance" = some none)
    (z_len : PySem.W.nsIn K mainGlobals "len" = some none)
    (z_min : PySem.W.nsIn K mainGlobals "min" = some none)
    (z_range : PySem.W.nsIn K mainGlobals "range" = some none)
    (z_sorted : PySem.W.nsIn K mainGlobals "sorted" = some none)
    (z_str : PySem.W.nsIn K mainGlobals "str" = some none)
    (z_tuple : PySem.W.nsIn K mainGlobals "tuple" = some none)
    (z_zip : PySem.W.nsIn K mainGlobals "zip" = some none)
    (aU : PySem.W.nsIn K mainGlobals "UNKNOWN" = some (some (.str "?" gU)))
    (aS : PySem.W.nsIn K mainGlobals "SIDES" = some (some (.ref gS)))
    (lS : K.lookup gS = some ⟨.type "tuple", gSd, .seq #[.str "n" gS0, .str "e" gS1, .str "s" gS2, .str "w" gS3] gSn, gSs⟩)
    (aD : PySem.W.nsIn K mainGlobals "DOCK" = some (some (.ref gD)))
    (lD : K.lookup gD = some ⟨.type "tuple", gDd, .seq #[.int 0 gD0, .int 0 gD1] gDn, gDs⟩)
    (aM : PySem.W.nsIn K mainGlobals "MOVES" = some (some (.ref gM)))
    (lM : K.lookup gM = some ⟨.type "dict", none, .dict gMe gMn, #[]⟩)
    (kM : PySem.W.KeysLit w.params gMe.toList)
    (aM0 : PySem.W.nsIn K gM "n" = some (some (.ref p0)))
    (aM1 : PySem.W.nsIn K gM "e" = some (some (.ref p1)))
    (aM2 : PySem.W.nsIn K gM "s" = some (some (.ref p2)))
    (aM3 : PySem.W.nsIn K gM "w" = some (some (.ref p3)))
    (lM0 : K.lookup p0 = some ⟨.type "tuple", q0, .seq #[.int (-1) t0, .int (0) u0] m0, r0⟩)
    (lM1 : K.lookup p1 = some ⟨.type "tuple", q1, .seq #[.int (0) t1, .int (1) u1] m1, r1⟩)
    (lM2 : K.lookup p2 = some ⟨.type "tuple", q2, .seq #[.int (1) t2, .int (0) u2] m2, r2⟩)
    (lM3 : K.lookup p3 = some ⟨.type "tuple", q3, .seq #[.int (0) t3, .int (-1) u3] m3, r3⟩)
    (aC_Everywhere : PySem.W.nsIn K mainGlobals "Everywhere" = some (some (.ref C_Everywhere)))
    (pg_Everywhere : PySem.W.plainGet K C_Everywhere Str.empty = true)
    (hd_Everywhere : PySem.W.hasDictIn K C_Everywhere = true)
    (po_Everywhere : PySem.W.plainOver K C_Everywhere = true)
    (sa_Everywhere : PySem.W.findIn K (.ref C_Everywhere) "__setattr__" = some (some (.builtin "object.__setattr__")))
    (mk_Everywhere : PySem.W.makesIn K C_Everywhere = true)
    (kc_Everywhere : PySem.W.keepIn K (.ref C_Everywhere) = true)
    (a_Everywhere_has : PySem.W.findIn K (.ref C_Everywhere) "has" = some (some (.ref f_Everywhere_has)))
    (i_Everywhere_has : PySem.W.isFn K (.ref f_Everywhere_has) = true)
    (l_Everywhere_has : K.lookup f_Everywhere_has = some ⟨oc_Everywhere_has, od_Everywhere_has, .func (PySem.W.fnOf "has" "Everywhere.has" (defArgs (inClass (topS 26) 0)) (defBody (inClass (topS 26) 0)) (defScope (inClass (topS 26) 0)) .none kV_Everywhere_has dc_Everywhere_has pm_Everywhere_has an_Everywhere_has cd_Everywhere_has ct_Everywhere_has), sl_Everywhere_has⟩)
    (c_Everywhere_has : PySem.W.codeIn K cd_Everywhere_has "Everywhere.has" = true)
    (k_Everywhere_has : PySem.W.keepIn K (.ref f_Everywhere_has) = true)
    (in_Everywhere : PySem.W.findIn K (.ref C_Everywhere) "__init__" = some (some (.builtin "object.__init__")))
    (aC_Box : PySem.W.nsIn K mainGlobals "Box" = some (some (.ref C_Box)))
    (pg_Box : PySem.W.plainGet K C_Box Str.empty = true)
    (hd_Box : PySem.W.hasDictIn K C_Box = true)
    (po_Box : PySem.W.plainOver K C_Box = true)
    (sa_Box : PySem.W.findIn K (.ref C_Box) "__setattr__" = some (some (.builtin "object.__setattr__")))
    (mk_Box : PySem.W.makesIn K C_Box = true)
    (kc_Box : PySem.W.keepIn K (.ref C_Box) = true)
    (n_Box_top : PySem.W.findIn K (.ref C_Box) "top" = some none)
    (n_Box_left : PySem.W.findIn K (.ref C_Box) "left" = some none)
    (n_Box_bottom : PySem.W.findIn K (.ref C_Box) "bottom" = some none)
    (n_Box_right : PySem.W.findIn K (.ref C_Box) "right" = some none)
    (a_Box_init : PySem.W.findIn K (.ref C_Box) "__init__" = some (some (.ref f_Box_init)))
    (i_Box_init : PySem.W.isFn K (.ref f_Box_init) = true)
    (l_Box_init : K.lookup f_Box_init = some ⟨oc_Box_init, od_Box_init, .func (PySem.W.fnOf "__init__" "Box.__init__" (defArgs (inClass (topS 27) 0)) (defBody (inClass (topS 27) 0)) (defScope (inClass (topS 27) 0)) .none kV_Box_init dc_Box_init pm_Box_init an_Box_init cd_Box_init ct_Box_init), sl_Box_init⟩)
    (c_Box_init : PySem.W.codeIn K cd_Box_init "Box.__init__" = true)
    (k_Box_init : PySem.W.keepIn K (.ref f_Box_init) = true)
    (a_Box_has : PySem.W.findIn K (.ref C_Box) "has" = some (some (.ref f_Box_has)))
    (i_Box_has : PySem.W.isFn K (.ref f_Box_has) = true)
    (l_Box_has : K.lookup f_Box_has = some ⟨oc_Box_has, od_Box_has, .func (PySem.W.fnOf "has" "Box.has" (defArgs (inClass (topS 27) 1)) (defBody (inClass (topS 27) 1)) (defScope (inClass (topS 27) 1)) .none kV_Box_has dc_Box_has pm_Box_has an_Box_has cd_Box_has ct_Box_has), sl_Box_has⟩)
    (c_Box_has : PySem.W.codeIn K cd_Box_has "Box.has" = true)
    (k_Box_has : PySem.W.keepIn K (.ref f_Box_has) = true)
    (aC_Outside : PySem.W.nsIn K mainGlobals "Outside" = some (some (.ref C_Outside)))
    (pg_Outside : PySem.W.plainGet K C_Outside Str.empty = true)
    (hd_Outside : PySem.W.hasDictIn K C_Outside = true)
    (po_Outside : PySem.W.plainOver K C_Outside = true)
    (sa_Outside : PySem.W.findIn K (.ref C_Outside) "__setattr__" = some (some (.builtin "object.__setattr__")))
    (mk_Outside : PySem.W.makesIn K C_Outside = true)
    (kc_Outside : PySem.W.keepIn K (.ref C_Outside) = true)
    (n_Outside_one : PySem.W.findIn K (.ref C_Outside) "one" = some none)
    (a_Outside_init : PySem.W.findIn K (.ref C_Outside) "__init__" = some (some (.ref f_Outside_init)))
    (i_Outside_init : PySem.W.isFn K (.ref f_Outside_init) = true)
    (l_Outside_init : K.lookup f_Outside_init = some ⟨oc_Outside_init, od_Outside_init, .func (PySem.W.fnOf "__init__" "Outside.__init__" (defArgs (inClass (topS 28) 0)) (defBody (inClass (topS 28) 0)) (defScope (inClass (topS 28) 0)) .none kV_Outside_init dc_Outside_init pm_Outside_init an_Outside_init cd_Outside_init ct_Outside_init), sl_Outside_init⟩)
    (c_Outside_init : PySem.W.codeIn K cd_Outside_init "Outside.__init__" = true)
    (k_Outside_init : PySem.W.keepIn K (.ref f_Outside_init) = true)
    (a_Outside_has : PySem.W.findIn K (.ref C_Outside) "has" = some (some (.ref f_Outside_has)))
    (i_Outside_has : PySem.W.isFn K (.ref f_Outside_has) = true)
    (l_Outside_has : K.lookup f_Outside_has = some ⟨oc_Outside_has, od_Outside_has, .func (PySem.W.fnOf "has" "Outside.has" (defArgs (inClass (topS 28) 1)) (defBody (inClass (topS 28) 1)) (defScope (inClass (topS 28) 1)) .none kV_Outside_has dc_Outside_has pm_Outside_has an_Outside_has cd_Outside_has ct_Outside_has), sl_Outside_has⟩)
    (c_Outside_has : PySem.W.codeIn K cd_Outside_has "Outside.has" = true)
    (k_Outside_has : PySem.W.keepIn K (.ref f_Outside_has) = true)
    (aC_Chart : PySem.W.nsIn K mainGlobals "Chart" = some (some (.ref C_Chart)))
    (pg_Chart : PySem.W.plainGet K C_Chart Str.empty = true)
    (hd_Chart : PySem.W.hasDictIn K C_Chart = true)
    (po_Chart : PySem.W.plainOver K C_Chart = true)
    (sa_Chart : PySem.W.findIn K (.ref C_Chart) "__setattr__" = some (some (.builtin "object.__setattr__")))
    (mk_Chart : PySem.W.makesIn K C_Chart = true)
    (kc_Chart : PySem.W.keepIn K (.ref C_Chart) = true)
    (n_Chart_grounds : PySem.W.findIn K (.ref C_Chart) "grounds" = some none)
    (n_Chart_trod : PySem.W.findIn K (.ref C_Chart) "trod" = some none)
    (a_Chart_init : PySem.W.findIn K (.ref C_Chart) "__init__" = some (some (.ref f_Chart_init)))
    (i_Chart_init : PySem.W.isFn K (.ref f_Chart_init) = true)
    (l_Chart_init : K.lookup f_Chart_init = some ⟨oc_Chart_init, od_Chart_init, .func (PySem.W.fnOf "__init__" "Chart.__init__" (defArgs (inClass (topS 33) 0)) (defBody (inClass (topS 33) 0)) (defScope (inClass (topS 33) 0)) .none kV_Chart_init dc_Chart_init pm_Chart_init an_Chart_init cd_Chart_init ct_Chart_init), sl_Chart_init⟩)
    (c_Chart_init : PySem.W.codeIn K cd_Chart_init "Chart.__init__" = true)
    (k_Chart_init : PySem.W.keepIn K (.ref f_Chart_init) = true)
    (a_Chart_note : PySem.W.findIn K (.ref C_Chart) "note" = some (some (.ref f_Chart_note)))
    (i_Chart_note : PySem.W.isFn K (.ref f_Chart_note) = true)
    (l_Chart_note : K.lookup f_Chart_note = some ⟨oc_Chart_note, od_Chart_note, .func (PySem.W.fnOf "note" "Chart.note" (defArgs (inClass (topS 33) 1)) (defBody (inClass (topS 33) 1)) (defScope (inClass (topS 33) 1)) .none kV_Chart_note dc_Chart_note pm_Chart_note an_Chart_note cd_Chart_note ct_Chart_note), sl_Chart_note⟩)
    (c_Chart_note : PySem.W.codeIn K cd_Chart_note "Chart.note" = true)
    (k_Chart_note : PySem.W.keepIn K (.ref f_Chart_note) = true)
    (a_Chart_ground : PySem.W.findIn K (.ref C_Chart) "ground" = some (some (.ref f_Chart_ground)))
    (i_Chart_ground : PySem.W.isFn K (.ref f_Chart_ground) = true)
    (l_Chart_ground : K.lookup f_Chart_ground = some ⟨oc_Chart_ground, od_Chart_ground, .func (PySem.W.fnOf "ground" "Chart.ground" (defArgs (inClass (topS 33) 2)) (defBody (inClass (topS 33) 2)) (defScope (inClass (topS 33) 2)) .none kV_Chart_ground dc_Chart_ground pm_Chart_ground an_Chart_ground cd_Chart_ground ct_Chart_ground), sl_Chart_ground⟩)
    (c_Chart_ground : PySem.W.codeIn K cd_Chart_ground "Chart.ground" = true)
    (k_Chart_ground : PySem.W.keepIn K (.ref f_Chart_ground) = true)
    (a_Chart_known : PySem.W.findIn K (.ref C_Chart) "known" = some (some (.ref f_Chart_known)))
    (i_Chart_known : PySem.W.isFn K (.ref f_Chart_known) = true)
    (l_Chart_known : K.lookup f_Chart_known = some ⟨oc_Chart_known, od_Chart_known, .func (PySem.W.fnOf "known" "Chart.known" (defArgs (inClass (topS 33) 3)) (defBody (inClass (topS 33) 3)) (defScope (inClass (topS 33) 3)) .none kV_Chart_known dc_Chart_known pm_Chart_known an_Chart_known cd_Chart_known ct_Chart_known), sl_Chart_known⟩)
    (c_Chart_known : PySem.W.codeIn K cd_Chart_known "Chart.known" = true)
    (k_Chart_known : PySem.W.keepIn K (.ref f_Chart_known) = true)
    (a_Chart_open_cells : PySem.W.findIn K (.ref C_Chart) "open_cells" = some (some (.ref f_Chart_open_cells)))
    (i_Chart_open_cells : PySem.W.isFn K (.ref f_Chart_open_cells) = true)
    (l_Chart_open_cells : K.lookup f_Chart_open_cells = some ⟨oc_Chart_open_cells, od_Chart_open_cells, .func (PySem.W.fnOf "open_cells" "Chart.open_cells" (defArgs (inClass (topS 33) 4)) (defBody (inClass (topS 33) 4)) (defScope (inClass (topS 33) 4)) .none kV_Chart_open_cells dc_Chart_open_cells pm_Chart_open_cells an_Chart_open_cells cd_Chart_open_cells ct_Chart_open_cells), sl_Chart_open_cells⟩)
    (c_Chart_open_cells : PySem.W.codeIn K cd_Chart_open_cells "Chart.open_cells" = true)
    (k_Chart_open_cells : PySem.W.keepIn K (.ref f_Chart_open_cells) = true)
    (a_Chart_stood : PySem.W.findIn K (.ref C_Chart) "stood" = some (some (.ref f_Chart_stood)))
    (i_Chart_stood : PySem.W.isFn K (.ref f_Chart_stood) = true)
    (l_Chart_stood : K.lookup f_Chart_stood = some ⟨oc_Chart_stood, od_Chart_stood, .func (PySem.W.fnOf "stood" "Chart.stood" (defArgs (inClass (topS 33) 5)) (defBody (inClass (topS 33) 5)) (defScope (inClass (topS 33) 5)) .none kV_Chart_stood dc_Chart_stood pm_Chart_stood an_Chart_stood cd_Chart_stood ct_Chart_stood), sl_Chart_stood⟩)
    (c_Chart_stood : PySem.W.codeIn K cd_Chart_stood "Chart.stood" = true)
    (k_Chart_stood : PySem.W.keepIn K (.ref f_Chart_stood) = true)
    (a_Chart_has_stood : PySem.W.findIn K (.ref C_Chart) "has_stood" = some (some (.ref f_Chart_has_stood)))
    (i_Chart_has_stood : PySem.W.isFn K (.ref f_Chart_has_stood) = true)
    (l_Chart_has_stood : K.lookup f_Chart_has_stood = some ⟨oc_Chart_has_stood, od_Chart_has_stood, .func (PySem.W.fnOf "has_stood" "Chart.has_stood" (defArgs (inClass (topS 33) 6)) (defBody (inClass (topS 33) 6)) (defScope (inClass (topS 33) 6)) .none kV_Chart_has_stood dc_Chart_has_stood pm_Chart_has_stood an_Chart_has_stood cd_Chart_has_stood ct_Chart_has_stood), sl_Chart_has_stood⟩)
    (c_Chart_has_stood : PySem.W.codeIn K cd_Chart_has_stood "Chart.has_stood" = true)
    (k_Chart_has_stood : PySem.W.keepIn K (.ref f_Chart_has_stood) = true)
    (a_Chart_copied : PySem.W.findIn K (.ref C_Chart) "copied" = some (some (.ref f_Chart_copied)))
    (i_Chart_copied : PySem.W.isFn K (.ref f_Chart_copied) = true)
    (l_Chart_copied : K.lookup f_Chart_copied = some ⟨oc_Chart_copied, od_Chart_copied, .func (PySem.W.fnOf "copied" "Chart.copied" (defArgs (inClass (topS 33) 7)) (defBody (inClass (topS 33) 7)) (defScope (inClass (topS 33) 7)) .none kV_Chart_copied dc_Chart_copied pm_Chart_copied an_Chart_copied cd_Chart_copied ct_Chart_copied), sl_Chart_copied⟩)
    (c_Chart_copied : PySem.W.codeIn K cd_Chart_copied "Chart.copied" = true)
    (k_Chart_copied : PySem.W.keepIn K (.ref f_Chart_copied) = true)
    (aC_DustError : PySem.W.nsIn K mainGlobals "DustError" = some (some (.ref C_DustError)))
    (aC_Clash : PySem.W.nsIn K mainGlobals "Clash" = some (some (.ref C_Clash)))
    (aC_NoDock : PySem.W.nsIn K mainGlobals "NoDock" = some (some (.ref C_NoDock)))
    (aC_Area : PySem.W.nsIn K mainGlobals "Area" = some (some (.ref C_Area))) :
    ∃ (fd : FuncData) (ts : List (Str × Addr × Addr)), (∀ t ∈ ts, (∃ r, (recsOf q).find? (fun e => e.name == t.1) = some r) ∧ PySem.W.tabIn K t.1 = some t.2 ∧ K.lookup t.2.2 = none) ∧ (∀ (s : Shared) (v : Value), BindsTo s fd ⟨[v], []⟩ [("_law_script", v)]) ∧ ∀ base : Heap, K.In base → base.Ns mainGlobals mg → (∀ t ∈ ts, LamX.TabB base mg t.2.1 t.2.2) → FnOk l.prog w K mg base CX0 10 fa fd ["_law_script"] (spT K (ts.map (·.2))) := by
  have e := hfa.symm.trans (PySem.W.mg_of X G a33)
  cases e
  obtain ⟨c, hT, hc_Everywhere, hc_Box, hc_Outside, hc_Chart⟩ : ∃ c : Cl, c.tabs = [(PT7, ("" : Str)), (PT29, ("" : Str))] ∧ c 0 = some C_Everywhere ∧ c 1 = some C_Box ∧ c 4 = some C_Outside ∧ c 6 = some C_Chart := ⟨⟨fun n => if n = 0 then some C_Everywhere else if n = 1 then some C_Box else if n = 4 then some C_Outside else if n = 6 then some C_Chart else none, [(PT7, ("" : Str)), (PT29, ("" : Str))]⟩, rfl, rfl, rfl, rfl, rfl⟩
  have K_Everywhere : Cls K C_Everywhere := ⟨pg_Everywhere, hd_Everywhere, po_Everywhere, sa_Everywhere⟩
  have m_Everywhere := PySem.W.mg_of X G aC_Everywhere
  have F_Everywhere_has := fun_mk (st := (inClass (topS 26) 0)) l_Everywhere_has c_Everywhere_has k_Everywhere_has
  have b_Everywhere_has := F_Everywhere_has.binds (ps := ["self", "cell"]) fun _ _ _ _ _ _ us hl => match us, hl with | [_, _], _ => rfl
  have M_Everywhere_has : MethAt K c 0 "has" "Everywhere.has" (inClass (topS 26) 0) ["self", "cell"] := ⟨C_Everywhere, f_Everywhere_has, _, hc_Everywhere, K_Everywhere, ⟨a_Everywhere_has, i_Everywhere_has, k_Everywhere_has⟩, F_Everywhere_has, b_Everywhere_has⟩
  have E_Everywhere : MkEAt K c mg 0 "Everywhere" := ⟨C_Everywhere, hc_Everywhere, m_Everywhere, ⟨mk_Everywhere, in_Everywhere, kc_Everywhere⟩⟩
  have K_Box : Cls K C_Box := ⟨pg_Box, hd_Box, po_Box, sa_Box⟩
  have m_Box := PySem.W.mg_of X G aC_Box
  have T_Box : ClsAt K c 1 ["top", "left", "bottom", "right"] := ⟨C_Box, hc_Box, K_Box, (allNo_cons n_Box_top (allNo_cons n_Box_left (allNo_cons n_Box_bottom (allNo_cons n_Box_right allNo_nil))))⟩
  have F_Box_init := fun_mk (st := (inClass (topS 27) 0)) l_Box_init c_Box_init k_Box_init
  have b_Box_init := F_Box_init.binds (ps := ["self", "top", "left", "bottom", "right"]) fun _ _ _ _ _ _ us hl => match us, hl with | [_, _, _, _, _], _ => rfl
  have I_Box : ∃ C f fd, c 1 = some C ∧ mg "Box" = some (.ref C) ∧ Mk K C f ∧ Fun K "__init__" "Box.__init__" (inClass (topS 27) 0) f fd ∧ Binds K fd ["self", "top", "left", "bottom", "right"] [] := ⟨C_Box, f_Box_init, _, hc_Box, m_Box, ⟨mk_Box, a_Box_init, i_Box_init, kc_Box⟩, F_Box_init, b_Box_init⟩
  have F_Box_has := fun_mk (st := (inClass (topS 27) 1)) l_Box_has c_Box_has k_Box_has
  have b_Box_has := F_Box_has.binds (ps := ["self", "cell"]) fun _ _ _ _ _ _ us hl => match us, hl with | [_, _], _ => rfl
  have M_Box_has : MethAt K c 1 "has" "Box.has" (inClass (topS 27) 1) ["self", "cell"] := ⟨C_Box, f_Box_has, _, hc_Box, K_Box, ⟨a_Box_has, i_Box_has, k_Box_has⟩, F_Box_has, b_Box_has⟩
  have K_Outside : Cls K C_Outside := ⟨pg_Outside, hd_Outside, po_Outside, sa_Outside⟩
  have m_Outside := PySem.W.mg_of X G aC_Outside
  have T_Outside : ClsAt K c 4 ["one"] := ⟨C_Outside, hc_Outside, K_Outside, (allNo_cons n_Outside_one allNo_nil)⟩
  have F_Outside_init := fun_mk (st := (inClass (topS 28) 0)) l_Outside_init c_Outside_init k_Outside_init
  have b_Outside_init := F_Outside_init.binds (ps := ["self", "one"]) fun _ _ _ _ _ _ us hl => match us, hl with | [_, _], _ => rfl
  have I_Outside : ∃ C f fd, c 4 = some C ∧ mg "Outside" = some (.ref C) ∧ Mk K C f ∧ Fun K "__init__" "Outside.__init__" (inClass (topS 28) 0) f fd ∧ Binds K fd ["self", "one"] [] := ⟨C_Outside, f_Outside_init, _, hc_Outside, m_Outside, ⟨mk_Outside, a_Outside_init, i_Outside_init, kc_Outside⟩, F_Outside_init, b_Outside_init⟩
  have F_Outside_has := fun_mk (st := (inClass (topS 28) 1)) l_Outside_has c_Outside_has k_Outside_has
  have b_Outside_has := F_Outside_has.binds (ps := ["self", "cell"]) fun _ _ _ _ _ _ us hl => match us, hl with | [_, _], _ => rfl
  have M_Outside_has : MethAt K c 4 "has" "Outside.has" (inClass (topS 28) 1) ["self", "cell"] := ⟨C_Outside, f_Outside_has, _, hc_Outside, K_Outside, ⟨a_Outside_has, i_Outside_has, k_Outside_has⟩, F_Outside_has, b_Outside_has⟩
  have K_Chart : Cls K C_Chart := ⟨pg_Chart, hd_Chart, po_Chart, sa_Chart⟩
  have m_Chart := PySem.W.mg_of X G aC_Chart
  have T_Chart : ClsAt K c 6 ["grounds", "trod"] := ⟨C_Chart, hc_Chart, K_Chart, (allNo_cons n_Chart_grounds (allNo_cons n_Chart_trod allNo_nil))⟩
  have F_Chart_init := fun_mk (st := (inClass (topS 33) 0)) l_Chart_init c_Chart_init k_Chart_init
  have b_Chart_init := F_Chart_init.binds (ps := ["self"]) fun _ _ _ _ _ _ us hl => match us, hl with | [_], _ => rfl
  have I_Chart : ∃ C f fd, c 6 = some C ∧ mg "Chart" = some (.ref C) ∧ Mk K C f ∧ Fun K "__init__" "Chart.__init__" (inClass (topS 33) 0) f fd ∧ Binds K fd ["self"] [] := ⟨C_Chart, f_Chart_init, _, hc_Chart, m_Chart, ⟨mk_Chart, a_Chart_init, i_Chart_init, kc_Chart⟩, F_Chart_init, b_Chart_init⟩
  have F_Chart_note := fun_mk (st := (inClass (topS 33) 1)) l_Chart_note c_Chart_note k_Chart_note
  have b_Chart_note := F_Chart_note.binds (ps := ["self", "cell", "felt"]) fun _ _ _ _ _ _ us hl => match us, hl with | [_, _, _], _ => rfl
  have M_Chart_note : MethAt K c 6 "note" "Chart.note" (inClass (topS 33) 1) ["self", "cell", "felt"] := ⟨C_Chart, f_Chart_note, _, hc_Chart, K_Chart, ⟨a_Chart_note, i_Chart_note, k_Chart_note⟩, F_Chart_note, b_Chart_note⟩
  have F_Chart_ground := fun_mk (st := (inClass (topS 33) 2)) l_Chart_ground c_Chart_ground k_Chart_ground
  have b_Chart_ground := F_Chart_ground.binds (ps := ["self", "cell"]) fun _ _ _ _ _ _ us hl => match us, hl with | [_, _], _ => rfl
  have M_Chart_ground : MethAt K c 6 "ground" "Chart.ground" (inClass (topS 33) 2) ["self", "cell"] := ⟨C_Chart, f_Chart_ground, _, hc_Chart, K_Chart, ⟨a_Chart_ground, i_Chart_ground, k_Chart_ground⟩, F_Chart_ground, b_Chart_ground⟩
  have F_Chart_known := fun_mk (st := (inClass (topS 33) 3)) l_Chart_known c_Chart_known k_Chart_known
  have b_Chart_known := F_Chart_known.binds (ps := ["self"]) fun _ _ _ _ _ _ us hl => match us, hl with | [_], _ => rfl
  have M_Chart_known : MethAt K c 6 "known" "Chart.known" (inClass (topS 33) 3) ["self"] := ⟨C_Chart, f_Chart_known, _, hc_Chart, K_Chart, ⟨a_Chart_known, i_Chart_known, k_Chart_known⟩, F_Chart_known, b_Chart_known⟩
  have F_Chart_open_cells := fun_mk (st := (inClass (topS 33) 4)) l_Chart_open_cells c_Chart_open_cells k_Chart_open_cells
  have b_Chart_open_cells := F_Chart_open_cells.binds (ps := ["self"]) fun _ _ _ _ _ _ us hl => match us, hl with | [_], _ => rfl
  have M_Chart_open_cells : MethAt K c 6 "open_cells" "Chart.open_cells" (inClass (topS 33) 4) ["self"] := ⟨C_Chart, f_Chart_open_cells, _, hc_Chart, K_Chart, ⟨a_Chart_open_cells, i_Chart_open_cells, k_Chart_open_cells⟩, F_Chart_open_cells, b_Chart_open_cells⟩
  have F_Chart_stood := fun_mk (st := (inClass (topS 33) 5)) l_Chart_stood c_Chart_stood k_Chart_stood
  have b_Chart_stood := F_Chart_stood.binds (ps := ["self"]) fun _ _ _ _ _ _ us hl => match us, hl with | [_], _ => rfl
  have M_Chart_stood : MethAt K c 6 "stood" "Chart.stood" (inClass (topS 33) 5) ["self"] := ⟨C_Chart, f_Chart_stood, _, hc_Chart, K_Chart, ⟨a_Chart_stood, i_Chart_stood, k_Chart_stood⟩, F_Chart_stood, b_Chart_stood⟩
  have F_Chart_has_stood := fun_mk (st := (inClass (topS 33) 6)) l_Chart_has_stood c_Chart_has_stood k_Chart_has_stood
  have b_Chart_has_stood := F_Chart_has_stood.binds (ps := ["self", "cell"]) fun _ _ _ _ _ _ us hl => match us, hl with | [_, _], _ => rfl
  have M_Chart_has_stood : MethAt K c 6 "has_stood" "Chart.has_stood" (inClass (topS 33) 6) ["self", "cell"] := ⟨C_Chart, f_Chart_has_stood, _, hc_Chart, K_Chart, ⟨a_Chart_has_stood, i_Chart_has_stood, k_Chart_has_stood⟩, F_Chart_has_stood, b_Chart_has_stood⟩
  have F_Chart_copied := fun_mk (st := (inClass (topS 33) 7)) l_Chart_copied c_Chart_copied k_Chart_copied
  have b_Chart_copied := F_Chart_copied.binds (ps := ["self"]) fun _ _ _ _ _ _ us hl => match us, hl with | [_], _ => rfl
  have M_Chart_copied : MethAt K c 6 "copied" "Chart.copied" (inClass (topS 33) 7) ["self"] := ⟨C_Chart, f_Chart_copied, _, hc_Chart, K_Chart, ⟨a_Chart_copied, i_Chart_copied, k_Chart_copied⟩, F_Chart_copied, b_Chart_copied⟩
  have m_DustError := PySem.W.mg_of X G aC_DustError
  have m_Clash := PySem.W.mg_of X G aC_Clash
  have m_NoDock := PySem.W.mg_of X G aC_NoDock
  have m_Area := PySem.W.mg_of X G aC_Area
  have F__wall := funAt (ps := ["k"]) X G a0 l0 c0 k0 (fun _ _ _ _ _ _ us hl => match us, hl with | [_], _ => rfl)
  have F_beside := funAt (ps := ["cell", "side"]) X G a1 l1 c1 k1 (fun _ _ _ _ _ _ us hl => match us, hl with | [_, _], _ => rfl)
  have F_can_step := funAt (ps := ["ground", "other"]) X G a2 l2 c2 k2 (fun _ _ _ _ _ _ us hl => match us, hl with | [_, _], _ => rfl)
  have F_check_dock := funAt (ps := ["area"]) X G a3 l3 c3 k3 (fun _ _ _ _ _ _ us hl => match us, hl with | [_], _ => rfl)
  have F_steps_from := funAt (ps := ["chart", "area", "cell"]) X G a4 l4 c4 k4 (fun _ _ _ _ _ _ us hl => match us, hl with | [_, _, _], _ => rfl)
  have F_known_steps := funAt (ps := ["chart", "area", "cell"]) X G a5 l5 c5 k5 (fun _ _ _ _ _ _ us hl => match us, hl with | [_, _, _], _ => rfl)
  have F_all_steps := funAt (ps := ["chart", "area"]) X G a6 l6 c6 k6 (fun _ _ _ _ _ _ us hl => match us, hl with | [_, _], _ => rfl)
  have F_least_of := funAtC (ps := ["left"]) X G a7 l7 c7 k7 (fun _ _ _ _ _ _ us hl => match us, hl with | [_], _ => rfl)
  have F_spread := funAt (ps := ["steps"]) X G a8 l8 c8 k8 (fun _ _ _ _ _ _ us hl => match us, hl with | [_], _ => rfl)
  have F_has_dock := funAt (ps := ["chart", "area"]) X G a9 l9 c9 k9 (fun _ _ _ _ _ _ us hl => match us, hl with | [_, _], _ => rfl)
  have F_homes := funAt (ps := ["chart", "area"]) X G a10 l10 c10 k10 (fun _ _ _ _ _ _ us hl => match us, hl with | [_, _], _ => rfl)
  have F_way_home := funAt (ps := ["chart", "area", "cell"]) X G a11 l11 c11 k11 (fun _ _ _ _ _ _ us hl => match us, hl with | [_, _, _], _ => rfl)
  have F_sides_let := funAt (ps := ["chart", "area", "place", "left"]) X G a12 l12 c12 k12 (fun _ _ _ _ _ _ us hl => match us, hl with | [_, _, _, _], _ => rfl)
  have F_lets := funAt (ps := ["chart", "area", "place", "left", "side"]) X G a13 l13 c13 k13 (fun _ _ _ _ _ _ us hl => match us, hl with | [_, _, _, _, _], _ => rfl)
  have F_first_clash := funAt (ps := ["grounds", "others"]) X G a14 l14 c14 k14 (fun _ _ _ _ _ _ us hl => match us, hl with | [_, _], _ => rfl)
  have F_around := funAt (ps := ["cell", "felt"]) X G a15 l15 c15 k15 (fun _ _ _ _ _ _ us hl => match us, hl with | [_, _], _ => rfl)
  have F__law_cell_at := funAt (ps := ["_law_script", "_law_k"]) X G a16 l16 c16 k16 (fun _ _ _ _ _ _ us hl => match us, hl with | [_, _], _ => rfl)
  have F__law_stream := funAt (ps := ["_law_cell", "_law_many"]) X G a17 l17 c17 k17 (fun _ _ _ _ _ _ us hl => match us, hl with | [_, _], _ => rfl)
  have F__law_row := funAt (ps := ["_law_cell", "_law_wide", "_law_unit"]) X G a18 l18 c18 k18 (fun _ _ _ _ _ _ us hl => match us, hl with | [_, _, _], _ => rfl)
  have F__law_floor := funAt (ps := ["_law_script"]) X G a19 l19 c19 k19 (fun _ _ _ _ _ _ us hl => match us, hl with | [_], _ => rfl)
  have F__law_grounds := funAt (ps := ["_law_rows", "_law_dock"]) X G a20 l20 c20 k20 (fun _ _ _ _ _ _ us hl => match us, hl with | [_, _], _ => rfl)
  have F__law_beside := funAt (ps := ["_law_cell", "_law_side"]) X G a21 l21 c21 k21 (fun _ _ _ _ _ _ us hl => match us, hl with | [_, _], _ => rfl)
  have F__law_felt := funAt (ps := ["_law_grounds_here", "_law_cell"]) X G a22 l22 c22 k22 (fun _ _ _ _ _ _ us hl => match us, hl with | [_, _], _ => rfl)
  have F__law_area := funAt (ps := ["_law_cell"]) X G a23 l23 c23 k23 (fun _ _ _ _ _ _ us hl => match us, hl with | [_], _ => rfl)
  have F__law_in := funAt (ps := ["_law_box", "_law_cell"]) X G a24 l24 c24 k24 (fun _ _ _ _ _ _ us hl => match us, hl with | [_, _], _ => rfl)
  have F__law_has := funAt (ps := ["_law_area_here", "_law_cell"]) X G a25 l25 c25 k25 (fun _ _ _ _ _ _ us hl => match us, hl with | [_, _], _ => rfl)
  have F__law_made := funAt (ps := ["_law_area_here"]) X G a26 l26 c26 k26 (fun _ _ _ _ _ _ us hl => match us, hl with | [_], _ => rfl)
  have F__law_noted := funAt (ps := ["_law_known", "_law_grounds_here", "_law_cell"]) X G a27 l27 c27 k27 (fun _ _ _ _ _ _ us hl => match us, hl with | [_, _, _], _ => rfl)
  have F__law_steps := funAt (ps := ["_law_known", "_law_area_here"]) X G a28 l28 c28 k28 (fun _ _ _ _ _ _ us hl => match us, hl with | [_, _], _ => rfl)
  have F__law_costs := funAtC (ps := ["_law_known", "_law_area_here", "_law_homeward"]) X G a29 l29 c29 k29 (fun _ _ _ _ _ _ us hl => match us, hl with | [_, _, _], _ => rfl)
  have F__law_gone := funAt (ps := ["_law_grounds_here", "_law_area_here", "_law_chart", "_law_machine", "_law_side"]) X G a30 l30 c30 k30 (fun _ _ _ _ _ _ us hl => match us, hl with | [_, _, _, _, _], _ => rfl)
  have F__law_safe := funAt (ps := ["_law_known", "_law_area_here", "_law_machine"]) X G a31 l31 c31 k31 (fun _ _ _ _ _ _ us hl => match us, hl with | [_, _, _], _ => rfl)
  have F__law_home := funAt (ps := ["_law_grounds_here", "_law_area_here", "_law_chart", "_law_machine"]) X G a32 l32 c32 k32 (fun _ _ _ _ _ _ us hl => match us, hl with | [_, _, _, _], _ => rfl)
  have F_law := fun_mk (st := topS 52) l33 c33 k33
  have b_ValueError := PySem.W.mg_none_of X G z_ValueError
  have b_int := PySem.W.mg_none_of X G z_int
  have b_isinstance := PySem.W.mg_none_of X G z_isinstance
  have b_len := PySem.W.mg_none_of X G z_len
  have b_min := PySem.W.mg_none_of X G z_min
  have b_range := PySem.W.mg_none_of X G z_range
  have b_sorted := PySem.W.mg_none_of X G z_sorted
  have b_str := PySem.W.mg_none_of X G z_str
  have b_tuple := PySem.W.mg_none_of X G z_tuple
  have b_zip := PySem.W.mg_none_of X G z_zip
  have g_UNKNOWN : ConstAt K c mg "UNKNOWN" (.str "?") := ⟨_, .str "?", PySem.W.mg_of X G aU, ⟨_, rfl⟩, fun B => .str _⟩
  have g_SIDES : ConstAt K c mg "SIDES" _ := const_s4 (PySem.W.mg_of X G aS) lS
  have g_DOCK : ConstAt K c mg "DOCK" _ := const_ii (PySem.W.mg_of X G aD) lD
  have M : MovesAt K c w mg := moves_at (PySem.W.mg_of X G aM) lM kM aM0 aM1 aM2 aM3 lM0 lM1 lM2 lM3
  have TT : Meths K c := ⟨M_Everywhere_has, M_Box_has, M_Outside_has, T_Box, T_Outside⟩
  have II : Inits K c mg := ⟨E_Everywhere, I_Box, I_Outside⟩
  have CI : ChartI K c mg := ⟨I_Chart⟩
  have CM : ChartM K c := ⟨M_Chart_note, M_Chart_ground, M_Chart_known, M_Chart_open_cells, T_Chart⟩
  have tok : ∀ t ∈ [(("least_of" : Str), cc7, PT7), (("_law_costs" : Str), cc29, PT29)], (∃ r, (recsOf q).find? (fun e => e.name == t.1) = some r) ∧ PySem.W.tabIn K t.1 = some t.2 ∧ K.lookup t.2.2 = none := fun t tm => by
    rcases List.mem_cons.mp tm with rfl | tm
    · exact ⟨lr7, lt7, ln7⟩
    rcases List.mem_cons.mp tm with rfl | tm
    · exact ⟨lr29, lt29, ln29⟩
    cases tm
  refine ⟨PySem.W.fnOf "law" "law" (defArgs (topS 52)) (defBody (topS 52)) (defScope (topS 52)) .none kV33 dc33 pm33 an33 cd33 ct33, _, tok, fun s v => .of_eq rfl, fun base _ _ TB => ?_⟩
  have TB_least_of := TB _ List.mem_cons_self
  have hP_least_of : (PT7, ("" : Str)) ∈ c.tabs := by rw [hT]; exact List.mem_cons_self
  have TB__law_costs := TB _ (List.mem_cons_of_mem _ List.mem_cons_self)
  have hP__law_costs : (PT29, ("" : Str)) ∈ c.tabs := by rw [hT]; exact (List.mem_cons_of_mem _ List.mem_cons_self)
  have D_cell := ok_cell_at (P := l.prog) (w := w) (base := base) (c := c) F__law_cell_at b_len
  have D_beside := ok_beside (P := l.prog) (w := w) (base := base) (c := c) F_beside M
  have D_can := ok_can_step (P := l.prog) (w := w) (base := base) (c := c) F_can_step b_isinstance b_tuple
  have D_chart := new_chart (P := l.prog) (w := w) (base := base) CI CM
  have D_chGround := mth_chGround (P := l.prog) (w := w) (mg := mg) (base := base) CM g_UNKNOWN
  have D_chKnown := mth_chKnown (P := l.prog) (w := w) (mg := mg) (base := base) CM b_sorted
  have D_clash := ok_clash (P := l.prog) (w := w) (base := base) (c := c) F_first_clash b_sorted
  have D_chOpen := mth_chOpen CM D_chKnown
  have D_lin := ok_lin (P := l.prog) (w := w) (base := base) (c := c) F__law_in
  have D_lhas := ok_lhas F__law_has D_lin
  have D_around := ok_around F_around D_beside g_SIDES b_zip
  have D_note := mth_note CM D_around D_clash
  have D_has := has_ok (P := l.prog) (w := w) (base := base) (mg := mg) TT
  have D_check := ok_check F_check_dock D_has g_DOCK
  have D_sf := ok_sf F_steps_from D_has D_chGround D_beside D_can g_SIDES
  have D_ks := ok_ks F_known_steps D_check D_sf
  have D_as := ok_as F_all_steps D_chOpen D_sf
  have D_hd := ok_hd F_has_dock D_check D_chGround D_can g_DOCK
  have D_least := ok_least (P := l.prog) (w := w) F_least_of TB_least_of hP_least_of b_min
  have D_spread := ok_spread F_spread D_least g_DOCK b_min
  have D_homes := ok_homes F_homes D_hd D_as D_spread
  have D_sl := ok_sl F_sides_let D_homes D_ks
  have D_lets := ok_lets F_lets D_sl
  have D_wh := ok_wh F_way_home D_homes D_sf g_DOCK
  have D_stream := ok_stream (P := l.prog) (w := w) (base := base) (c := c) F__law_stream b_range
  have D_row := ok_row F__law_row D_stream b_range b_int
  have D_floor := ok_floor F__law_floor D_cell D_row b_range
  have D_grounds := ok_grounds (P := l.prog) (w := w) (base := base) (c := c) F__law_grounds b_range b_len
  have D_ou := mk_ou (P := l.prog) (w := w) (base := base) TT II
  have D_bx := mk_bx (P := l.prog) (w := w) (base := base) TT II
  have D_lbes := ok_lbes (P := l.prog) (w := w) (base := base) (c := c) F__law_beside
  have D_felt := ok_felt F__law_felt D_lbes
  have D_area := ok_area F__law_area D_stream
  have D_made := ok_made F__law_made II D_bx D_ou
  have D_noted := ok_noted F__law_noted D_lbes
  have D_steps := ok_steps F__law_steps D_lhas D_lbes
  have D_costs := ok_costs F__law_costs TB__law_costs hP__law_costs D_steps b_min b_int
  have D_gone := ok_gone F__law_gone D_lbes D_lhas D_felt D_note
  have D_safe := ok_safe F__law_safe D_costs
  have D_home := ok_home F__law_home D_wh D_made D_lets D_gone b_range b_isinstance b_str
  exact law_impT (cs := [(cc7, PT7), (cc29, PT29)]) (by rw [hT]; exact tabs_two) (ok_law D_cell D_floor D_grounds D_area D_chart D_note D_felt D_noted D_sl D_made D_gone D_safe D_home b_len F_law)
end Lw
open PySem PySem.W PyProof.Rows
set_option maxRecDepth 100000 in
set_option maxHeartbeats 0 in
theorem PySem.Challenge.cw_dustwalk_k32_whole_never_stranded_holds : PySem.Challenge.rw_dustwalk_k32_whole_never_stranded.Holds := by
  w_on; o_law; k_head; (case hw => w_witness2)
  k_fill
  refine Dw.law_walkT (l := PySem.Challenge.rw_dustwalk_k32_whole_never_stranded) (k := 10) (x := "_law_script") rfl rfl ⟨rfl, by decide, by decide⟩ (fun w h Y => PySem.W.km_in_of Y) ?F
  case F =>
    intro w mg fa h KX G hmg
    refine' Lw.all_mk KX G hmg ?a0 ?l0 ?c0 ?k0 ?a1 ?l1 ?c1 ?k1 ?a2 ?l2 ?c2 ?k2 ?a3 ?l3 ?c3 ?k3 ?a4 ?l4 ?c4 ?k4 ?a5 ?l5 ?c5 ?k5 ?a6 ?l6 ?c6 ?k6 ?a7 ?l7 ?c7 ?k7 ?lc7 ?lp7 ?lt7 ?ln7 ?lr7 ?a8 ?l8 ?c8 ?k8 ?a9 ?l9 ?c9 ?k9 ?a10 ?l10 ?c10 ?k10 ?a11 ?l11 ?c11 ?k11 ?a12 ?l12 ?c12 ?k12 ?a13 ?l13 ?c13 ?k13 ?a14 ?l14 ?c14 ?k14 ?a15 ?l15 ?c15 ?k15 ?a16 ?l16 ?c16 ?k16 ?a17 ?l17 ?c17 ?k17 ?a18 ?l18 ?c18 ?k18 ?a19 ?l19 ?c19 ?k19 ?a20 ?l20 ?c20 ?k20 ?a21 ?l21 ?c21 ?k21 ?a22 ?l22 ?c22 ?k22 ?a23 ?l23 ?c23 ?k23 ?a24 ?l24 ?c24 ?k24 ?a25 ?l25 ?c25 ?k25 ?a26 ?l26 ?c26 ?k26 ?a27 ?l27 ?c27 ?k27 ?a28 ?l28 ?c28 ?k28 ?a29 ?l29 ?c29 ?k29 ?lc29 ?lp29 ?lt29 ?ln29 ?lr29 ?a30 ?l30 ?c30 ?k30 ?a31 ?l31 ?c31 ?k31 ?a32 ?l32 ?c32 ?k32 ?a33 ?l33 ?c33 ?k33 ?z_ValueError ?z_int ?z_isinstance ?z_len ?z_min ?z_range ?z_sorted ?z_str ?z_tuple ?z_zip ?aU ?aS ?lS ?aD ?lD ?aM ?lM ?kM ?aM0 ?aM1 ?aM2 ?aM3 ?lM0 ?lM1 ?lM2 ?lM3 ?aC_Everywhere ?pg_Everywhere ?hd_Everywhere ?po_Everywhere ?sa_Everywhere ?mk_Everywhere ?kc_Everywhere ?a_Everywhere_has ?i_Everywhere_has ?l_Everywhere_has ?c_Everywhere_has ?k_Everywhere_has ?in_Everywhere ?aC_Box ?pg_Box ?hd_Box ?po_Box ?sa_Box ?mk_Box ?kc_Box ?n_Box_top ?n_Box_left ?n_Box_bottom ?n_Box_right ?a_Box_init ?i_Box_init ?l_Box_init ?c_Box_init ?k_Box_init ?a_Box_has ?i_Box_has ?l_Box_has ?c_Box_has ?k_Box_has ?aC_Outside ?pg_Outside ?hd_Outside ?po_Outside ?sa_Outside ?mk_Outside ?kc_Outside ?n_Outside_one ?a_Outside_init ?i_Outside_init ?l_Outside_init ?c_Outside_init ?k_Outside_init ?a_Outside_has ?i_Outside_has ?l_Outside_has ?c_Outside_has ?k_Outside_has ?aC_Chart ?pg_Chart ?hd_Chart ?po_Chart ?sa_Chart ?mk_Chart ?kc_Chart ?n_Chart_grounds ?n_Chart_trod ?a_Chart_init ?i_Chart_init ?l_Chart_init ?c_Chart_init ?k_Chart_init ?a_Chart_note ?i_Chart_note ?l_Chart_note ?c_Chart_note ?k_Chart_note ?a_Chart_ground ?i_Chart_ground ?l_Chart_ground ?c_Chart_ground ?k_Chart_ground ?a_Chart_known ?i_Chart_known ?l_Chart_known ?c_Chart_known ?k_Chart_known ?a_Chart_open_cells ?i_Chart_open_cells ?l_Chart_open_cells ?c_Chart_open_cells ?k_Chart_open_cells ?a_Chart_stood ?i_Chart_stood ?l_Chart_stood ?c_Chart_stood ?k_Chart_stood ?a_Chart_has_stood ?i_Chart_has_stood ?l_Chart_has_stood ?c_Chart_has_stood ?k_Chart_has_stood ?a_Chart_copied ?i_Chart_copied ?l_Chart_copied ?c_Chart_copied ?k_Chart_copied ?aC_DustError ?aC_Clash ?aC_NoDock ?aC_Area
    (case a0 => k_is)
    (case l0 => k_is)
    (case c0 => k_is)
    (case k0 => k_is)
    (case a1 => k_is)
    (case l1 => k_is)
    (case c1 => k_is)
    (case k1 => k_is)
    (case a2 => k_is)
    (case l2 => k_is)
    (case c2 => k_is)
    (case k2 => k_is)
    (case a3 => k_is)
    (case l3 => k_is)
    (case c3 => k_is)
    (case k3 => k_is)
    (case a4 => k_is)
    (case l4 => k_is)
    (case c4 => k_is)
    (case k4 => k_is)
    (case a5 => k_is)
    (case l5 => k_is)
    (case c5 => k_is)
    (case k5 => k_is)
    (case a6 => k_is)
    (case l6 => k_is)
    (case c6 => k_is)
    (case k6 => k_is)
    (case a7 => k_is)
    (case l7 => k_is)
    (case c7 => k_is)
    (case k7 => k_is)
    (case lc7 => k_is)
    (case lp7 => exact rfl)
    (case lt7 => kernel_rfl)
    (case ln7 => kernel_rfl)
    (case lr7 => exact ⟨_, rfl⟩)
    (case a8 => k_is)
    (case l8 => k_is)
    (case c8 => k_is)
    (case k8 => k_is)
    (case a9 => k_is)
    (case l9 => k_is)
    (case c9 => k_is)
    (case k9 => k_is)
    (case a10 => k_is)
    (case l10 => k_is)
    (case c10 => k_is)
    (case k10 => k_is)
    (case a11 => k_is)
    (case l11 => k_is)
    (case c11 => k_is)
    (case k11 => k_is)
    (case a12 => k_is)
    (case l12 => k_is)
    (case c12 => k_is)
    (case k12 => k_is)
    (case a13 => k_is)
    (case l13 => k_is)
    (case c13 => k_is)
    (case k13 => k_is)
    (case a14 => k_is)
    (case l14 => k_is)
    (case c14 => k_is)
    (case k14 => k_is)
    (case a15 => k_is)
    (case l15 => k_is)
    (case c15 => k_is)
    (case k15 => k_is)
    (case a16 => k_is)
    (case l16 => k_is)
    (case c16 => k_is)
    (case k16 => k_is)
    (case a17 => k_is)
    (case l17 => k_is)
    (case c17 => k_is)
    (case k17 => k_is)
    (case a18 => k_is)
    (case l18 => k_is)
    (case c18 => k_is)
    (case k18 => k_is)
    (case a19 => k_is)
    (case l19 => k_is)
    (case c19 => k_is)
    (case k19 => k_is)
    (case a20 => k_is)
    (case l20 => k_is)
    (case c20 => k_is)
    (case k20 => k_is)
    (case a21 => k_is)
    (case l21 => k_is)
    (case c21 => k_is)
    (case k21 => k_is)
    (case a22 => k_is)
    (case l22 => k_is)
    (case c22 => k_is)
    (case k22 => k_is)
    (case a23 => k_is)
    (case l23 => k_is)
    (case c23 => k_is)
    (case k23 => k_is)
    (case a24 => k_is)
    (case l24 => k_is)
    (case c24 => k_is)
    (case k24 => k_is)
    (case a25 => k_is)
    (case l25 => k_is)
    (case c25 => k_is)
    (case k25 => k_is)
    (case a26 => k_is)
    (case l26 => k_is)
    (case c26 => k_is)
    (case k26 => k_is)
    (case a27 => k_is)
    (case l27 => k_is)
    (case c27 => k_is)
    (case k27 => k_is)
    (case a28 => k_is)
    (case l28 => k_is)
    (case c28 => k_is)
    (case k28 => k_is)
    (case a29 => k_is)
    (case l29 => k_is)
    (case c29 => k_is)
    (case k29 => k_is)
    (case lc29 => k_is)
    (case lp29 => exact rfl)
    (case lt29 => kernel_rfl)
    (case ln29 => kernel_rfl)
    (case lr29 => exact ⟨_, rfl⟩)
    (case a30 => k_is)
    (case l30 => k_is)
    (case c30 => k_is)
    (case k30 => k_is)
    (case a31 => k_is)
    (case l31 => k_is)
    (case c31 => k_is)
    (case k31 => k_is)
    (case a32 => k_is)
    (case l32 => k_is)
    (case c32 => k_is)
    (case k32 => k_is)
    (case a33 => k_is)
    (case l33 => k_is)
    (case c33 => k_is)
    (case k33 => k_is)
    (case z_ValueError => k_is)
    (case z_int => k_is)
    (case z_isinstance => k_is)
    (case z_len => k_is)
    (case z_min => k_is)
    (case z_range => k_is)
    (case z_sorted => k_is)
    (case z_str => k_is)
    (case z_tuple => k_is)
    (case z_zip => k_is)
    (case aU => k_is)
    (case aS => k_is)
    (case lS => k_is)
    (case aD => k_is)
    (case lD => k_is)
    (case aM => k_is)
    (case lM => k_is)
    (case kM => k_keys)
    (case aM0 => k_is)
    (case aM1 => k_is)
    (case aM2 => k_is)
    (case aM3 => k_is)
    (case lM0 => k_is)
    (case lM1 => k_is)
    (case lM2 => k_is)
    (case lM3 => k_is)
    (case aC_Everywhere => k_is)
    (case pg_Everywhere => k_is)
    (case hd_Everywhere => k_is)
    (case po_Everywhere => k_is)
    (case sa_Everywhere => k_is)
    (case mk_Everywhere => k_is)
    (case kc_Everywhere => k_is)
    (case a_Everywhere_has => k_is)
    (case i_Everywhere_has => k_is)
    (case l_Everywhere_has => k_is)
    (case c_Everywhere_has => k_is)
    (case k_Everywhere_has => k_is)
    (case in_Everywhere => k_is)
    (case aC_Box => k_is)
    (case pg_Box => k_is)
    (case hd_Box => k_is)
    (case po_Box => k_is)
    (case sa_Box => k_is)
    (case mk_Box => k_is)
    (case kc_Box => k_is)
    (case n_Box_top => k_is)
    (case n_Box_left => k_is)
    (case n_Box_bottom => k_is)
    (case n_Box_right => k_is)
    (case a_Box_init => k_is)
    (case i_Box_init => k_is)
    (case l_Box_init => k_is)
    (case c_Box_init => k_is)
    (case k_Box_init => k_is)
    (case a_Box_has => k_is)
    (case i_Box_has => k_is)
    (case l_Box_has => k_is)
    (case c_Box_has => k_is)
    (case k_Box_has => k_is)
    (case aC_Outside => k_is)
    (case pg_Outside => k_is)
    (case hd_Outside => k_is)
    (case po_Outside => k_is)
    (case sa_Outside => k_is)
    (case mk_Outside => k_is)
    (case kc_Outside => k_is)
    (case n_Outside_one => k_is)
    (case a_Outside_init => k_is)
    (case i_Outside_init => k_is)
    (case l_Outside_init => k_is)
    (case c_Outside_init => k_is)
    (case k_Outside_init => k_is)
    (case a_Outside_has => k_is)
    (case i_Outside_has => k_is)
    (case l_Outside_has => k_is)
    (case c_Outside_has => k_is)
    (case k_Outside_has => k_is)
    (case aC_Chart => k_is)
    (case pg_Chart => k_is)
    (case hd_Chart => k_is)
    (case po_Chart => k_is)
    (case sa_Chart => k_is)
    (case mk_Chart => k_is)
    (case kc_Chart => k_is)
    (case n_Chart_grounds => k_is)
    (case n_Chart_trod => k_is)
    (case a_Chart_init => k_is)
    (case i_Chart_init => k_is)
    (case l_Chart_init => k_is)
    (case c_Chart_init => k_is)
    (case k_Chart_init => k_is)
    (case a_Chart_note => k_is)
    (case i_Chart_note => k_is)
    (case l_Chart_note => k_is)
    (case c_Chart_note => k_is)
    (case k_Chart_note => k_is)
    (case a_Chart_ground => k_is)
    (case i_Chart_ground => k_is)
    (case l_Chart_ground => k_is)
    (case c_Chart_ground => k_is)
    (case k_Chart_ground => k_is)
    (case a_Chart_known => k_is)
    (case i_Chart_known => k_is)
    (case l_Chart_known => k_is)
    (case c_Chart_known => k_is)
    (case k_Chart_known => k_is)
    (case a_Chart_open_cells => k_is)
    (case i_Chart_open_cells => k_is)
    (case l_Chart_open_cells => k_is)
    (case c_Chart_open_cells => k_is)
    (case k_Chart_open_cells => k_is)
    (case a_Chart_stood => k_is)
    (case i_Chart_stood => k_is)
    (case l_Chart_stood => k_is)
    (case c_Chart_stood => k_is)
    (case k_Chart_stood => k_is)
    (case a_Chart_has_stood => k_is)
    (case i_Chart_has_stood => k_is)
    (case l_Chart_has_stood => k_is)
    (case c_Chart_has_stood => k_is)
    (case k_Chart_has_stood => k_is)
    (case a_Chart_copied => k_is)
    (case i_Chart_copied => k_is)
    (case l_Chart_copied => k_is)
    (case c_Chart_copied => k_is)
    (case k_Chart_copied => k_is)
    (case aC_DustError => k_is)
    (case aC_Clash => k_is)
    (case aC_NoDock => k_is)
    (case aC_Area => k_is)
#print axioms PySem.Challenge.cw_dustwalk_k32_whole_never_stranded_holds

