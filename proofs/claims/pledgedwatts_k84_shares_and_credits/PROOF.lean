import PyProof.Rows.All
import Wide.All
import OpenK.AllK
import Wide.FinOn
import HandS.ForMost
import HandS.AnyAll
import HandS.Exc
import HandS.Wide
import HandS.TupAny
import HandS.Deep
import KE.DataEq
import KE.DataCmp
import HandS.TupLe
import HandS.TupMul
import KE.DataIsa
import HandS.Conv
import HandS.IsInst
import HandS.Zip
import HandS.ForExc
import HandS.More
import HandS.SortKw
import KE.SortData
import KE.DataMinMax
import HandS.HeadHook4
import HandS.HeadWalk
import HandS.HeadEnd
import HandS.Defaults
import HandS.Head4
import KE.GoesEnum
import PySem.Challenge.RW_pledgedwatts_k84_shares_and_credits
set_option Elab.async false
set_option linter.all false
set_option maxRecDepth 100000
set_option maxHeartbeats 1000000
/-! The data layer, part 1: values as data, owned cells, what a reading comes to. -/
namespace Dl
open PySem L2

/-- a value as data: frozen data, an owned cell, the script -/
inductive W where
  | d (x : PyData)
  | own (a : Addr)
  | scr (ns : List Int)
  | ty (n : String)
/-- what stands in an owned cell; vdk, vdt: a locked dict as it is seen while a loop walks it -/
inductive Cell where
  | lst (ws : List W)
  | tup (ws : List W)
  | dk (kvs : List (Key × W))
  | dt (kvs : List (List Key × W))
  | ins (C : Addr) (fs : List (Str × W))
  | vdk (kvs : List (Key × W))
  | vdt (kvs : List (List Key × W))
abbrev Cm := Addr → Option Cell
def cup (C : Cm) (a : Addr) (c : Cell) : Cm := fun b => if b = a then some c else C b
def cdel (C : Cm) (a : Addr) : Cm := fun b => if b = a then none else C b
theorem cup_same {C : Cm} {a : Addr} {c : Cell} : cup C a c a = some c := by unfold cup; rw [if_pos rfl]
theorem cup_ne {C : Cm} {a b : Addr} {c : Cell} (h : b ≠ a) : cup C a c b = C b := by unfold cup; rw [if_neg h]
theorem cup_cup {C : Cm} {a : Addr} {c c' : Cell} : cup (cup C a c) a c' = cup C a c' := by
  funext b; unfold cup; split <;> rfl
theorem cup_comm {C : Cm} {a b : Addr} {c c' : Cell} (h : a ≠ b) : cup (cup C a c) b c' = cup (cup C b c') a c := by
  funext x; unfold cup
  by_cases h1 : x = b <;> by_cases h2 : x = a
  · exact absurd (h2.symm.trans h1) h
  · simp only [h1, if_true]; rw [if_neg (fun e => h e.symm)]
  · simp only [h2, if_true]; rw [if_neg h]
  · simp only [if_neg h1, if_neg h2]
theorem cup_self {C : Cm} {a : Addr} {c : Cell} (h : C a = some c) : cup C a c = C := by
  funext b; unfold cup; split
  · rename_i e; rw [e, h]
  · rfl
theorem cdel_same {C : Cm} {a : Addr} : cdel C a a = none := by unfold cdel; rw [if_pos rfl]
theorem cdel_ne {C : Cm} {a b : Addr} (h : b ≠ a) : cdel C a b = C b := by unfold cdel; rw [if_neg h]
/-- fewer cells -/
def Sub (C C' : Cm) : Prop := ∀ a c, C a = some c → C' a = some c
theorem Sub.refl (C : Cm) : Sub C C := fun _ _ h => h
theorem Sub.trans {A B C : Cm} (h : Sub A B) (k : Sub B C) : Sub A C := fun a c e => k a c (h a c e)
theorem Sub.cup {C : Cm} {a : Addr} {c : Cell} (h : C a = none) : Sub C (cup C a c) := fun b x e => by
  rw [cup_ne (fun z => by rw [z, h] at e; cases e)]; exact e
theorem Sub.del {C : Cm} {a : Addr} : Sub (cdel C a) C := fun b x e => by
  unfold cdel at e; split at e
  · cases e
  · exact e

/-! ### what stands for what -/
mutual
inductive Rp (K : PySem.W.Frag) (S : Hp) : PyData → V → Prop
  | non : Rp K S .none .non
  | bl (b : Bool) : Rp K S (.bool b) (.bl b)
  | int (i : Int) : Rp K S (.int i) (.int i)
  | str (x : Str) : Rp K S (.str x) (.str x)
  | lst {a : Addr} {xs : List PyData} {vs : List V} : S a = some (.lst vs) → Rps K S xs vs → Rp K S (.list xs) (.ref a)
  | tup {a : Addr} {xs : List PyData} {vs : List V} : SqT K S a vs → Rps K S xs vs → Rp K S (.tuple xs) (.ref a)
inductive Rps (K : PySem.W.Frag) (S : Hp) : List PyData → List V → Prop
  | nil : Rps K S [] []
  | cons {x : PyData} {v : V} {xs : List PyData} {vs : List V} : Rp K S x v → Rps K S xs vs → Rps K S (x :: xs) (v :: vs)
end
inductive Rw (K : PySem.W.Frag) (S : Hp) : W → V → Prop
  | d {x : PyData} {v : V} : Rp K S x v → Rw K S (.d x) v
  | own (a : Addr) : Rw K S (.own a) (.ref a)
  | scr {ns : List Int} {a : Addr} : SqL K S a (ns.map V.int) → Rw K S (.scr ns) (.ref a)
  | ty (n : String) : Rw K S (.ty n) (.ty n)
abbrev Rws (K : PySem.W.Frag) (S : Hp) : List W → List V → Prop := Paired (Rw K S)
abbrev Rkv {κ : Type} (K : PySem.W.Frag) (S : Hp) : List (κ × W) → List (κ × V) → Prop := Paired fun p q => p.1 = q.1 ∧ Rw K S p.2 q.2
abbrev Ext (S S' : Hp) : Prop := Same S S'
theorem Ext.sqt {K : PySem.W.Frag} {S S' : Hp} {a : Addr} {vs : List V} (e : Ext S S') (h : SqT K S a vs) : SqT K S' a vs := by
  rcases h with (h | ⟨o, h⟩) | h
  · exact .inl (.inl (e _ _ h))
  · exact .inl (.inr ⟨o, e _ _ h⟩)
  · exact .inr h
mutual
theorem Rp.mono {K : PySem.W.Frag} {S S' : Hp} (e : Ext S S') : ∀ {x : PyData} {v : V}, Rp K S x v → Rp K S' x v
  | _, _, .non => .non
  | _, _, .bl b => .bl b
  | _, _, .int i => .int i
  | _, _, .str x => .str x
  | _, _, .lst h r => .lst (e _ _ h) (Rps.mono e r)
  | _, _, .tup h r => .tup (Ext.sqt e h) (Rps.mono e r)
theorem Rps.mono {K : PySem.W.Frag} {S S' : Hp} (e : Ext S S') : ∀ {xs : List PyData} {vs : List V}, Rps K S xs vs → Rps K S' xs vs
  | _, _, .nil => .nil
  | _, _, .cons h r => .cons (Rp.mono e h) (Rps.mono e r)
end
theorem Rw.mono {K : PySem.W.Frag} {S S' : Hp} (e : Ext S S') {w : W} {v : V} (h : Rw K S w v) : Rw K S' w v := by
  cases h with
  | d h => exact .d (h.mono e)
  | own a => exact .own a
  | scr h => exact .scr (Same.seq e h)
  | ty n => exact .ty n
theorem Rws.mono {K : PySem.W.Frag} {S S' : Hp} (e : Ext S S') : ∀ {ws : List W} {vs : List V}, Rws K S ws vs → Rws K S' ws vs
  | _, _, .nil => .nil
  | _, _, .cons h r => .cons (h.mono e) (Rws.mono e r)
theorem Rkv.mono {κ : Type} {K : PySem.W.Frag} {S S' : Hp} (e : Ext S S') : ∀ {ws : List (κ × W)} {vs : List (κ × V)}, Rkv K S ws vs → Rkv K S' ws vs
  | _, _, .nil => .nil
  | _, _, .cons h r => .cons ⟨h.1, h.2.mono e⟩ (Rkv.mono e r)
theorem Rps.ws {K : PySem.W.Frag} {S : Hp} : ∀ {xs : List PyData} {vs : List V}, Rps K S xs vs → Rws K S (xs.map W.d) vs
  | _, _, .nil => .nil
  | _, _, .cons h r => .cons (.d h) (Rps.ws r)
theorem Rps.of_ws {K : PySem.W.Frag} {S : Hp} : ∀ {xs : List PyData} {vs : List V}, Rws K S (xs.map W.d) vs → Rps K S xs vs
  | [], _, h => by cases h; exact .nil
  | x :: xs, _, h => by
    cases h with
    | cons h r => cases h with | d h => exact .cons h (Rps.of_ws r)
theorem Rps.length {K : PySem.W.Frag} {S : Hp} {xs : List PyData} {vs : List V} (h : Rps K S xs vs) : xs.length = vs.length := by
  have := Paired.length h.ws; simpa using this
theorem Rws.get {K : PySem.W.Frag} {S : Hp} : ∀ {ws : List W} {vs : List V} {i : Nat} {w : W}, Rws K S ws vs → ws[i]? = some w → ∃ v, vs[i]? = some v ∧ Rw K S w v
  | _, _, _, _, .nil, e => by simp at e
  | _, _, 0, _, .cons r _, e => by simp at e; subst e; exact ⟨_, rfl, r⟩
  | _, _, i + 1, w, .cons _ t, e => by
    obtain ⟨u, h1, h2⟩ := Rws.get (i := i) (w := w) t (by simpa using e)
    exact ⟨u, by simpa using h1, h2⟩

/-- a cell and the object that bears it -/
def CellR (K : PySem.W.Frag) (S : Hp) (a : Addr) : Cell → HO → Prop
  | .lst ws, o => ∃ vs, o = .lst vs ∧ Rws K S ws vs
  | .tup ws, o => ∃ vs, o = .tup vs ∧ Rws K S ws vs
  | .dk kvs, o => ∃ ps, o = .dK ps ∧ Rkv K S kvs ps
  | .dt kvs, o => ∃ ps, o = .dT ps ∧ Rkv K S kvs ps
  | .ins C fs, o => ∃ dx gs, o = .ins C dx gs ∧ S dx = some (.own a) ∧ Rkv K S fs gs
  | .vdk _, _ => False
  | .vdt _, _ => False
theorem CellR.mono {K : PySem.W.Frag} {S S' : Hp} {a : Addr} (e : Ext S S') : ∀ {c : Cell} {o : HO}, CellR K S a c o → CellR K S' a c o
  | .lst _, _, ⟨vs, h, r⟩ => ⟨vs, h, Rws.mono e r⟩
  | .tup _, _, ⟨vs, h, r⟩ => ⟨vs, h, Rws.mono e r⟩
  | .dk _, _, ⟨vs, h, r⟩ => ⟨vs, h, Rkv.mono e r⟩
  | .dt _, _, ⟨vs, h, r⟩ => ⟨vs, h, Rkv.mono e r⟩
  | .ins _ _, _, ⟨dx, gs, h, d, r⟩ => ⟨dx, gs, h, e _ _ d, Rkv.mono e r⟩
/-- the view of a locked dict -/
def ViewR (K : PySem.W.Frag) (S F : Hp) (a : Addr) : Cell → Prop
  | .vdk kvs => ∃ o ps, F a = some (.frz o (.dK ps)) ∧ Rkv K S kvs ps
  | .vdt kvs => ∃ o ps, F a = some (.frz o (.dT ps)) ∧ Rkv K S kvs ps
  | _ => False
theorem ViewR.mono {K : PySem.W.Frag} {S S' F : Hp} {a : Addr} (e : Ext S S') : ∀ {c : Cell}, ViewR K S F a c → ViewR K S' F a c
  | .vdk _, ⟨o, ps, h, r⟩ => ⟨o, ps, h, Rkv.mono e r⟩
  | .vdt _, ⟨o, ps, h, r⟩ => ⟨o, ps, h, Rkv.mono e r⟩

/-- the heap H: the frozen part S, the cells C, the frame F, code tables at T -/
structure Rel (K : PySem.W.Frag) (T : Addr → Prop) (S : Hp) (C : Cm) (F H : Hp) : Prop where
  s : Ext S H
  f : ∀ a o, F a = some o → H a = some o ∧ S a = none
  c : ∀ a c, C a = some c → S a = none ∧ ((F a = none ∧ ∃ o, H a = some o ∧ CellR K S a c o) ∨ ViewR K S F a c)
  t : ∀ P, T P → GxR.TabG H P ∧ S P = none ∧ C P = none ∧ F P = none
section
variable {K : PySem.W.Frag} {T : Addr → Prop} {S S' F H : Hp} {C C' : Cm} {p a : Addr}
theorem Rel.sub (r : Rel K T S C F H) (h : Sub C' C) : Rel K T S C' F H := ⟨r.s, r.f, fun a c e => r.c a c (h a c e), fun P t => ⟨(r.t P t).1, (r.t P t).2.1, by
  cases q : C' P with
  | none => rfl
  | some c => rw [← (r.t P t).2.2.1, h _ _ q], (r.t P t).2.2.2⟩⟩
theorem Rel.cH (r : Rel K T S C F H) {c : Cell} (e : C a = some c) : ∃ o, H a = some o := by
  rcases (r.c a c e).2 with ⟨_, o, h, _⟩ | h
  · exact ⟨o, h⟩
  · cases c with
    | vdk kvs => obtain ⟨o, ps, h, _⟩ := h; exact ⟨_, (r.f _ _ h).1⟩
    | vdt kvs => obtain ⟨o, ps, h, _⟩ := h; exact ⟨_, (r.f _ _ h).1⟩
    | _ => exact h.elim
theorem Rel.freeS (r : Rel K T S C F H) (h : H p = none) : S p = none := r.s.free h
theorem Rel.freeC (r : Rel K T S C F H) (h : H p = none) : C p = none := by
  cases q : C p with
  | none => rfl
  | some c => obtain ⟨o, e⟩ := r.cH q; rw [h] at e; cases e
theorem Rel.freeF (r : Rel K T S C F H) (h : H p = none) : F p = none := by
  cases q : F p with
  | none => rfl
  | some c => have e := (r.f _ _ q).1; rw [h] at e; cases e
theorem Rel.tne (r : Rel K T S C F H) {P : Addr} (t : T P) {o : HO} (h : H p = none) : p ≠ P := fun e => by
  obtain ⟨⟨ps, h', _⟩, _⟩ := r.t P t
  rw [e, h'] at h; cases h
theorem ext_new {o : HO} (h : S p = none) : Ext S (upd S p o) := fun b x e => by
  rw [upd_ne (ne_of_none e h)]; exact e
/-- a new frozen object -/
theorem Rel.newS (r : Rel K T S C F H) {o : HO} (h : H p = none) : Rel K T (upd S p o) C F (upd H p o) := by
  have hs := r.freeS h
  refine ⟨fun b x e => ?_, fun a x e => ?_, fun a c e => ?_, fun P t => ?_⟩
  · by_cases hb : b = p
    · subst hb; rw [upd_same] at e ⊢; exact e
    · rw [upd_ne hb] at e ⊢; exact r.s _ _ e
  · have hb : a ≠ p := ne_of_none e (r.freeF h)
    rw [upd_ne hb, upd_ne hb]; exact r.f _ _ e
  · obtain ⟨o', e'⟩ := r.cH e
    have hb : a ≠ p := ne_of_none e' h
    rw [upd_ne hb]
    obtain ⟨h1, h2⟩ := r.c a c e
    refine ⟨h1, ?_⟩
    rcases h2 with ⟨hf, o'', h2, h3⟩ | h2
    · exact .inl ⟨hf, o'', by rw [upd_ne hb]; exact h2, h3.mono (ext_new hs)⟩
    · exact .inr (h2.mono (ext_new hs))
  · obtain ⟨⟨ps, h', ok⟩, h2, h3, h4⟩ := r.t P t
    have hb : P ≠ p := ne_of_none h' h
    exact ⟨⟨ps, by rw [upd_ne hb]; exact h', ok⟩, by rw [upd_ne hb]; exact h2, h3, h4⟩
/-- a new cell -/
theorem Rel.newC (r : Rel K T S C F H) {o : HO} {c : Cell} (h : H p = none) (hc : CellR K S p c o) : Rel K T S (cup C p c) F (upd H p o) := by
  refine ⟨fun b x e => ?_, fun a x e => ?_, fun a c' e => ?_, fun P t => ?_⟩
  · rw [upd_ne (ne_of_none e (r.freeS h))]; exact r.s _ _ e
  · rw [upd_ne (ne_of_none e (r.freeF h))]; exact r.f _ _ e
  · by_cases hb : a = p
    · subst hb; rw [cup_same] at e; cases e
      exact ⟨r.freeS h, .inl ⟨r.freeF h, o, upd_same, hc⟩⟩
    · rw [cup_ne hb] at e
      obtain ⟨h1, h2⟩ := r.c a c' e
      refine ⟨h1, ?_⟩
      rcases h2 with ⟨hf, o'', h2, h3⟩ | h2
      · exact .inl ⟨hf, o'', by rw [upd_ne hb]; exact h2, h3⟩
      · exact .inr h2
  · obtain ⟨⟨ps, h', ok⟩, h2, h3, h4⟩ := r.t P t
    have hb : P ≠ p := ne_of_none h' h
    exact ⟨⟨ps, by rw [upd_ne hb]; exact h', ok⟩, h2, by rw [cup_ne hb]; exact h3, h4⟩
/-- a cell is written -/
theorem Rel.put (r : Rel K T S C F H) {o : HO} {c c0 : Cell} (h : C p = some c0) (hv : F p = none) (hc : CellR K S p c o) : Rel K T S (cup C p c) F (upd H p o) := by
  have h1 := (r.c p c0 h).1
  refine ⟨fun b x e => ?_, fun a x e => ?_, fun a c' e => ?_, fun P t => ?_⟩
  · rw [upd_ne (ne_of_none e h1)]; exact r.s _ _ e
  · rw [upd_ne (ne_of_none e hv)]; exact r.f _ _ e
  · by_cases hb : a = p
    · subst hb; rw [cup_same] at e; cases e
      exact ⟨h1, .inl ⟨hv, o, upd_same, hc⟩⟩
    · rw [cup_ne hb] at e
      obtain ⟨h1, h2⟩ := r.c a c' e
      refine ⟨h1, ?_⟩
      rcases h2 with ⟨hf, o'', h2, h3⟩ | h2
      · exact .inl ⟨hf, o'', by rw [upd_ne hb]; exact h2, h3⟩
      · exact .inr h2
  · obtain ⟨⟨ps, h', ok⟩, h2, h3, h4⟩ := r.t P t
    have hb : P ≠ p := fun e => by rw [e, h] at h3; cases h3
    exact ⟨⟨ps, by rw [upd_ne hb]; exact h', ok⟩, h2, by rw [cup_ne hb]; exact h3, h4⟩
/-- a cell becomes frozen -/
theorem Rel.freeze (r : Rel K T S C F H) {o : HO} {c : Cell} (h : C p = some c) (hv : F p = none) (ho : H p = some o) : Rel K T (upd S p o) (cdel C p) F H := by
  have hs := (r.c p c h).1
  refine ⟨fun b x e => ?_, fun a x e => ?_, fun a c' e => ?_, fun P t => ?_⟩
  · by_cases hb : b = p
    · subst hb; rw [upd_same] at e; cases e; exact ho
    · rw [upd_ne hb] at e; exact r.s _ _ e
  · rw [upd_ne (ne_of_none e hv)]; exact r.f _ _ e
  · by_cases hb : a = p
    · subst hb; rw [cdel_same] at e; cases e
    · rw [cdel_ne hb] at e
      obtain ⟨h1, h2⟩ := r.c a c' e
      refine ⟨by rw [upd_ne hb]; exact h1, ?_⟩
      rcases h2 with ⟨hf, o'', h2, h3⟩ | h2
      · exact .inl ⟨hf, o'', h2, h3.mono (ext_new hs)⟩
      · exact .inr (h2.mono (ext_new hs))
  · obtain ⟨⟨ps, h', ok⟩, h2, h3, h4⟩ := r.t P t
    have hb : P ≠ p := fun e => by rw [e, h] at h3; cases h3
    exact ⟨⟨ps, h', ok⟩, by rw [upd_ne hb]; exact h2, by rw [cdel_ne hb]; exact h3, h4⟩
/-- one thing more in the frame: fresh -/
theorem Rel.newF (r : Rel K T S C F H) {o : HO} (h : H p = none) : Rel K T S C (upd F p o) (upd H p o) := by
  refine ⟨fun b x e => ?_, fun a x e => ?_, fun a c e => ?_, fun P t => ?_⟩
  · rw [upd_ne (ne_of_none e (r.freeS h))]; exact r.s _ _ e
  · by_cases hb : a = p
    · subst hb; rw [upd_same] at e ⊢; exact ⟨e, r.freeS h⟩
    · rw [upd_ne hb] at e ⊢; exact r.f _ _ e
  · obtain ⟨o', e'⟩ := r.cH e
    have hb : a ≠ p := ne_of_none e' h
    obtain ⟨h1, h2⟩ := r.c a c e
    refine ⟨h1, ?_⟩
    rw [upd_ne hb, upd_ne hb]
    rcases h2 with h2 | h2
    · exact .inl h2
    · refine .inr ?_
      cases c with
      | vdk kvs => obtain ⟨o, ps, h, q⟩ := h2; exact ⟨o, ps, by rw [upd_ne hb]; exact h, q⟩
      | vdt kvs => obtain ⟨o, ps, h, q⟩ := h2; exact ⟨o, ps, by rw [upd_ne hb]; exact h, q⟩
      | _ => exact h2.elim
  · obtain ⟨⟨ps, h', ok⟩, h2, h3, h4⟩ := r.t P t
    have hb : P ≠ p := ne_of_none h' h
    exact ⟨⟨ps, by rw [upd_ne hb]; exact h', ok⟩, h2, h3, by rw [upd_ne hb]; exact h4⟩
end
end Dl

set_option Elab.async false
set_option linter.all false
set_option maxRecDepth 100000
set_option maxHeartbeats 1000000
/-! The data layer, part 2: judgements; names, constants, operators. -/
namespace Dl
open PySem L2

abbrev En := List (Option W)
abbrev WK := W → Cm → Prop
abbrev EXd := Value → List (Str × W) → En → Cm → Prop
abbrev TEd := En → Cm → WK → Prop
abbrev TTd := En → Cm → (Bool → Cm → Prop) → Prop
abbrev TAd := En → Cm → (List W → Cm → Prop) → Prop
structure EndsD where
  nx : En → Cm → Prop
  rt : WK
  bk : En → Cm → Prop := fun _ _ => False
  ct : En → Cm → Prop := fun _ _ => False
abbrev TSd := EndsD → En → Cm → Prop
/-- the situation of a derivation -/
structure Sit where
  T : Addr → Prop
  W : WX
  EE : EXd
def EnR (K : PySem.W.Frag) (S : Hp) (γ : En) (σ : L2.St) : Prop := γ.length = σ.length ∧ ∀ (i : Nat) (w : W), γ[i]? = some (some w) → ∃ v, σ[i]? = some (some v) ∧ Rw K S w v
def ExOk (K : PySem.W.Frag) (G : Sit) (S F : Hp) : Prop := ∀ c fs d gs γ σ C H S', Ext S S' → Rel K G.T S' C F H → EnR K S' γ σ → S' d = some (.xd gs) → Rkv K S' fs gs → G.EE c fs γ C → G.W c (some d) σ H
section
variable {K : PySem.W.Frag} {S S' F : Hp} {γ : En} {σ : L2.St} {G : Sit}
theorem EnR.mono (e : Ext S S') (h : EnR K S γ σ) : EnR K S' γ σ := ⟨h.1, fun i w q => let ⟨v, a, b⟩ := h.2 i w q; ⟨v, a, b.mono e⟩⟩
theorem EnR.set {w : W} {v : V} (h : EnR K S γ σ) (r : Rw K S w v) (i : Nat) : EnR K S (γ.set i (some w)) (σ.set i (some v)) := by
  refine ⟨by rw [List.length_set, List.length_set]; exact h.1, fun j u q => ?_⟩
  by_cases hj : i = j
  · subst hj
    by_cases hl : i < γ.length
    · rw [List.getElem?_set_self hl] at q
      cases q
      rw [List.getElem?_set_self (by rw [← h.1]; exact hl)]
      exact ⟨v, rfl, r⟩
    · rw [List.getElem?_eq_none (by simpa using hl)] at q; cases q
  · rw [List.getElem?_set_ne hj] at q
    rw [List.getElem?_set_ne hj]
    exact h.2 j u q
theorem ExOk.mono (e : Ext S S') (h : ExOk K G S F) : ExOk K G S' F := fun c fs d gs γ σ C H S2 e2 => h c fs d gs γ σ C H S2 (e.trans e2)
end
/-- an expression's reading comes to w -/
def RefE (K : PySem.W.Frag) (G : Sit) (t : TE) (w : TEd) : Prop := ∀ (S : Hp) (C : Cm) (F H : Hp) (γ : En) (σ : L2.St) (Q0 : WK) (Q : VK), Rel K G.T S C F H → EnR K S γ σ → ExOk K G S F → w γ C Q0 →
  (∀ d C' S' H' v, Ext S S' → Rel K G.T S' C' F H' → Rw K S' d v → Q0 d C' → Q v H') → t σ H Q
def RefT (K : PySem.W.Frag) (G : Sit) (t : TT) (w : TTd) : Prop := ∀ (S : Hp) (C : Cm) (F H : Hp) (γ : En) (σ : L2.St) (Q0 : Bool → Cm → Prop) (Q : Bool → Hp → Prop), Rel K G.T S C F H → EnR K S γ σ → ExOk K G S F → w γ C Q0 →
  (∀ b C' S' H', Ext S S' → Rel K G.T S' C' F H' → Q0 b C' → Q b H') → t σ H Q
def RefA (K : PySem.W.Frag) (G : Sit) (t : TA) (w : TAd) : Prop := ∀ (S : Hp) (C : Cm) (F H : Hp) (γ : En) (σ : L2.St) (Q0 : List W → Cm → Prop) (Q : List V → Hp → Prop), Rel K G.T S C F H → EnR K S γ σ → ExOk K G S F → w γ C Q0 →
  (∀ ds C' S' H' vs, Ext S S' → Rel K G.T S' C' F H' → Rws K S' ds vs → Q0 ds C' → Q vs H') → t σ H Q
structure EndOk (K : PySem.W.Frag) (G : Sit) (S F : Hp) (D0 : EndsD) (D : Ends) : Prop where
  nx : ∀ γ σ C H S', Ext S S' → Rel K G.T S' C F H → EnR K S' γ σ → D0.nx γ C → D.nx σ H
  rt : ∀ d v C H S', Ext S S' → Rel K G.T S' C F H → Rw K S' d v → D0.rt d C → D.rt v H
  bk : ∀ γ σ C H S', Ext S S' → Rel K G.T S' C F H → EnR K S' γ σ → D0.bk γ C → D.bk σ H
  ct : ∀ γ σ C H S', Ext S S' → Rel K G.T S' C F H → EnR K S' γ σ → D0.ct γ C → D.ct σ H
theorem EndOk.mono {K : PySem.W.Frag} {G : Sit} {S S' F : Hp} {D0 : EndsD} {D : Ends} (e : Ext S S') (h : EndOk K G S F D0 D) : EndOk K G S' F D0 D :=
  ⟨fun γ σ C H S2 e2 => h.nx γ σ C H S2 (e.trans e2), fun d v C H S2 e2 => h.rt d v C H S2 (e.trans e2), fun γ σ C H S2 e2 => h.bk γ σ C H S2 (e.trans e2), fun γ σ C H S2 e2 => h.ct γ σ C H S2 (e.trans e2)⟩
def RefS (K : PySem.W.Frag) (G : Sit) (t : TS) (w : TSd) : Prop := ∀ (S : Hp) (C : Cm) (F H : Hp) (γ : En) (σ : L2.St) (D0 : EndsD) (D : Ends), Rel K G.T S C F H → EnR K S γ σ → ExOk K G S F → w D0 γ C → EndOk K G S F D0 D → t D σ H
/-- the derivations -/
def DE (G : Sit) (X : Cx) (e : Expr) (t : TE) (w : TEd) : Prop := PE X e t ∧ RefE X.K G t w
def DT (G : Sit) (X : Cx) (e : Expr) (t : TT) (w : TTd) : Prop := PT X e t ∧ RefT X.K G t w
def DW (G : Sit) (X : Cx) (e : Expr) (t : TT) (w : TTd) : Prop := PW X e t ∧ RefT X.K G t w
def DA (G : Sit) (X : Cx) (es : List Expr) (t : TA) (w : TAd) : Prop := PA X es t ∧ RefA X.K G t w
def DS (G : Sit) (X : Cx) (st : Stmt) (t : TS) (w : TSd) : Prop := PS X st t ∧ RefS X.K G t w
def DSs (G : Sit) (X : Cx) (sts : List Stmt) (t : TS) (w : TSd) : Prop := PSs X sts t ∧ RefS X.K G t w

/-! ### names and constants -/
def eVar (i : Nat) : TEd := fun γ C Q => match γ[i]? with
  | some (some w) => Q w C
  | _ => False
def eC (w : W) : TEd := fun _ C Q => Q w C
section
variable {G : Sit} {X : Cx} {pos : Pos}
theorem d_var (i : Nat) {x : Str} (hN : X.N[i]? = some x := by rfl) (hv : Vis X.env.scope x := by first | exact Or.inl rfl | exact Or.inr (Or.inl rfl) | exact Or.inr (Or.inr rfl)) (hd : (x == ("__debug__" : Str)) = false := by decide)
    (hcd : (x == ("__classdict__" : Str)) = false := by decide) : DE G X (.Name x pos) (tVar i) (eVar i) :=
  ⟨pe_var hN hv hd hcd, fun S C F H γ σ Q0 Q r e _ h k => by
    unfold eVar at h
    split at h
    · rename_i w q
      obtain ⟨v, a, b⟩ := e.2 i w q
      exact ⟨v, a, k w C S H v (Same.refl S) r b h⟩
    · exact h.elim⟩
theorem ref_c {v : V} {w : W} (h : ∀ S, Rw X.K S w v) : RefE X.K G (tC v) (eC w) := fun S C F H γ σ Q0 Q r _ _ q k => k w C S H v (Same.refl S) r (h S) q
theorem d_int {i : Int} {j : Nat} : DE G X (.Constant (.int i) j pos) (tC (.int i)) (eC (.d (.int i))) := ⟨pe_int, ref_c fun _ => .d (.int i)⟩
theorem d_bl {b : Bool} {j : Nat} : DE G X (.Constant (.bool b) j pos) (tC (.bl b)) (eC (.d (.bool b))) := ⟨pe_bl, ref_c fun _ => .d (.bl b)⟩
theorem d_non {j : Nat} : DE G X (.Constant .none j pos) (tC .non) (eC (.d .none)) := ⟨pe_non, ref_c fun _ => .d .non⟩
theorem d_str {x : Str} {j : Nat} : DE G X (.Constant (.str x) j pos) (tC (.str x)) (eC (.d (.str x))) := ⟨pe_str, ref_c fun _ => .d (.str x)⟩
/-- a module's constant: an int, a text, a tuple of the top -/
theorem d_glob {x : Str} {w : W} {v : V} {u : Value} (hm : X.mg x = some u) (r : RelV v u) (h : ∀ S, Rw X.K S w v) (hg : Gl X x := by rfl) (hd : (x == ("__debug__" : Str)) = false := by decide) : DE G X (.Name x pos) (tC v) (eC w) :=
  ⟨pe_glob hg hm r hd, ref_c h⟩
end

/-! ### new lists and tuples -/
/-- all items are data -/
def dAll : List W → Option (List PyData)
  | [] => some []
  | .d x :: ws => (dAll ws).map (x :: ·)
  | _ :: _ => none
theorem dAll_map (xs : List PyData) : dAll (xs.map W.d) = some xs := by
  induction xs with
  | nil => rfl
  | cons x xs ih => show (dAll (xs.map W.d)).map (x :: ·) = _; rw [ih]; rfl
theorem dAll_eq : ∀ {ws : List W} {xs : List PyData}, dAll ws = some xs → ws = xs.map W.d
  | [], xs, h => by cases h; rfl
  | .d x :: ws, xs, h => by
    unfold dAll at h
    cases e : dAll ws with
    | none => rw [e] at h; cases h
    | some ys => rw [e] at h; cases h; rw [dAll_eq e]; rfl
  | .own _ :: _, _, h => by cases h
  | .scr _ :: _, _, h => by cases h
  | .ty _ :: _, _, h => by cases h
/-- a new list: frozen, or (m) an owned cell -/
def newL (m : Bool) (ws : List W) (C : Cm) (Q : WK) : Prop := match m with
  | true => ∀ p, C p = none → Q (.own p) (cup C p (.lst ws))
  | false => match dAll ws with
    | some xs => Q (.d (.list xs)) C
    | none => False
def newT (m : Bool) (ws : List W) (C : Cm) (Q : WK) : Prop := match m with
  | true => ∀ p, C p = none → Q (.own p) (cup C p (.tup ws))
  | false => match dAll ws with
    | some xs => Q (.d (.tuple xs)) C
    | none => False
theorem newL_d {xs : List PyData} {C : Cm} {Q : WK} : newL false (xs.map W.d) C Q = Q (.d (.list xs)) C := by
  unfold newL; simp only [dAll_map]
theorem newT_d {xs : List PyData} {C : Cm} {Q : WK} : newT false (xs.map W.d) C Q = Q (.d (.tuple xs)) C := by
  unfold newT; simp only [dAll_map]
section
variable {K : PySem.W.Frag} {T : Addr → Prop} {S F H : Hp} {C : Cm} {ws : List W} {vs : List V} {Q0 : WK} {Q : VK} {m : Bool}
theorem newL_ok (r : Rel K T S C F H) (rw_ : Rws K S ws vs) (h : newL m ws C Q0) (k : ∀ d C' S' H' v, Ext S S' → Rel K T S' C' F H' → Rw K S' d v → Q0 d C' → Q v H') : ∀ p, H p = none → Q (.ref p) (upd H p (.lst vs)) := fun p hp => by
  unfold newL at h
  cases m with
  | true => exact k (.own p) _ S _ _ (Same.refl S) (r.newC (c := .lst ws) hp ⟨vs, rfl, rw_⟩) (.own p) (h p (r.freeC hp))
  | false =>
    cases e : dAll ws with
    | none => rw [e] at h; exact h.elim
    | some xs =>
      rw [e] at h
      have x := ext_new (o := .lst vs) (r.freeS hp)
      rw [dAll_eq e] at rw_
      exact k (.d (.list xs)) C _ _ _ x (r.newS hp) (.d (.lst upd_same ((Rps.of_ws rw_).mono x))) h
theorem newT_ok (r : Rel K T S C F H) (rw_ : Rws K S ws vs) (h : newT m ws C Q0) (k : ∀ d C' S' H' v, Ext S S' → Rel K T S' C' F H' → Rw K S' d v → Q0 d C' → Q v H') : ∀ p, H p = none → Q (.ref p) (upd H p (.tup vs)) := fun p hp => by
  unfold newT at h
  cases m with
  | true => exact k (.own p) _ S _ _ (Same.refl S) (r.newC (c := .tup ws) hp ⟨vs, rfl, rw_⟩) (.own p) (h p (r.freeC hp))
  | false =>
    cases e : dAll ws with
    | none => rw [e] at h; exact h.elim
    | some xs =>
      rw [e] at h
      have x := ext_new (o := .tup vs) (r.freeS hp)
      rw [dAll_eq e] at rw_
      exact k (.d (.tuple xs)) C _ _ _ x (r.newS hp) (.d (.tup (.inl (.inl upd_same)) ((Rps.of_ws rw_).mono x))) h
end
/-! ### lists as they are read -/
def asL (C : Cm) : W → Option (List W)
  | .d (.list xs) => some (xs.map W.d)
  | .own a => match C a with
    | some (.lst ws) => some ws
    | _ => none
  | .scr ns => some (ns.map fun n => W.d (.int n))
  | _ => none
def asT (C : Cm) : W → Option (List W)
  | .d (.tuple xs) => some (xs.map W.d)
  | .own a => match C a with
    | some (.tup ws) => some ws
    | _ => none
  | _ => none
section
variable {K : PySem.W.Frag} {T : Addr → Prop} {S F H : Hp} {C : Cm} {w : W} {v : V} {ws : List W}
theorem Rel.cell (r : Rel K T S C F H) {a : Addr} {c : Cell} (e : C a = some c) (hn : (match c with | .vdk _ => False | .vdt _ => False | _ => True)) : S a = none ∧ F a = none ∧ ∃ o, H a = some o ∧ CellR K S a c o := by
  obtain ⟨h1, h2⟩ := r.c a c e
  rcases h2 with ⟨hf, o, h2, h3⟩ | h2
  · exact ⟨h1, hf, o, h2, h3⟩
  · cases c <;> first | exact hn.elim | exact h2.elim
theorem ints_ws {ns : List Int} : Rws K S (ns.map fun n => W.d (.int n)) (ns.map V.int) := by
  induction ns with
  | nil => exact .nil
  | cons n ns ih => exact .cons (.d (.int n)) ih
theorem asL_ok (r : Rel K T S C F H) (rv : Rw K S w v) (h : asL C w = some ws) : ∃ a vs, v = .ref a ∧ SqL K H a vs ∧ Rws K S ws vs := by
  cases rv with
  | d rp =>
    cases rp with
    | lst e rs =>
      simp only [asL] at h
      cases h
      exact ⟨_, _, rfl, SqL.of (r.s _ _ e), rs.ws⟩
    | _ => simp only [asL] at h; cases h
  | own a =>
    simp only [asL] at h
    split at h
    · rename_i us e
      cases h
      obtain ⟨_, _, o, e2, vs, rfl, q⟩ := r.cell e trivial
      exact ⟨a, vs, rfl, SqL.of e2, q⟩
    · cases h
  | ty n => simp only [asL] at h; cases h
  | scr sq =>
    simp only [asL] at h
    cases h
    exact ⟨_, _, rfl, Same.seq r.s sq, ints_ws⟩
/-- .. not the script: it stands in H as a list -/
theorem asL_ok' (r : Rel K T S C F H) (rv : Rw K S w v) (h : asL C w = some ws) (hs : ∀ ns, w ≠ .scr ns) : ∃ a vs, v = .ref a ∧ H a = some (.lst vs) ∧ Rws K S ws vs := by
  cases rv with
  | d rp =>
    cases rp with
    | lst e rs =>
      simp only [asL] at h
      cases h
      exact ⟨_, _, rfl, r.s _ _ e, rs.ws⟩
    | _ => simp only [asL] at h; cases h
  | own a =>
    simp only [asL] at h
    split at h
    · rename_i us e
      cases h
      obtain ⟨_, _, o, e2, vs, rfl, q⟩ := r.cell e trivial
      exact ⟨a, vs, rfl, e2, q⟩
    · cases h
  | ty n => simp only [asL] at h; cases h
  | scr sq => exact absurd rfl (hs _)
theorem asT_ok (r : Rel K T S C F H) (rv : Rw K S w v) (h : asT C w = some ws) : ∃ a vs, v = .ref a ∧ SqT K H a vs ∧ Rws K S ws vs := by
  cases rv with
  | d rp =>
    cases rp with
    | tup e rs =>
      simp only [asT] at h
      cases h
      exact ⟨_, _, rfl, Ext.sqt r.s e, rs.ws⟩
    | _ => simp only [asT] at h; cases h
  | own a =>
    simp only [asT] at h
    split at h
    · rename_i us e
      cases h
      obtain ⟨_, _, o, e2, vs, rfl, q⟩ := r.cell e trivial
      exact ⟨a, vs, rfl, SqT.of e2, q⟩
    · cases h
  | scr sq => simp only [asT] at h; cases h
  | ty n => simp only [asT] at h; cases h
end
/-- a value as frozen data, own cells looked through (n deep) -/
def wpy : Nat → Cm → W → Option PyData
  | _, _, .d x => some x
  | _, _, .scr ns => some (.list (ns.map .int))
  | 0, _, .own _ => none
  | _, _, .ty _ => none
  | n + 1, C, .own a => match C a with
    | some (.lst ws) => (go n C ws).map .list
    | some (.tup ws) => (go n C ws).map .tuple
    | _ => none
where
  go (n : Nat) (C : Cm) : List W → Option (List PyData)
  | [] => some []
  | w :: ws => match wpy n C w, go n C ws with
    | some x, some xs => some (x :: xs)
    | _, _ => none
end Dl

set_option Elab.async false
set_option linter.all false
set_option maxRecDepth 100000
set_option maxHeartbeats 1000000
/-! The data layer, part 3: operators. -/
namespace Dl
open PySem L2

section
variable {K : PySem.W.Frag} {T : Addr → Prop} {S F H : Hp} {C : Cm}
mutual
theorem Rp.plain : ∀ {x : PyData} {v : V}, Rp K S x v → x.plain = true
  | _, _, .non => by simp [PyData.plain]
  | _, _, .bl b => by simp [PyData.plain]
  | _, _, .int i => by simp [PyData.plain]
  | _, _, .str x => by simp [PyData.plain]
  | _, _, .lst h r => by simp only [PyData.plain]; exact Rps.plain r
  | _, _, .tup h r => by simp only [PyData.plain]; exact Rps.plain r
theorem Rps.plain : ∀ {xs : List PyData} {vs : List V}, Rps K S xs vs → PyData.plainAll xs = true
  | _, _, .nil => by simp [PyData.plainAll]
  | _, _, .cons h r => by simp only [PyData.plainAll, Bool.and_eq_true]; exact ⟨Rp.plain h, Rps.plain r⟩
end
mutual
theorem Rp.dp : ∀ {x : PyData} {v : V}, Rp K S x v → Dp K S v x
  | _, _, .non => .non
  | _, _, .bl b => .bl b
  | _, _, .int i => .int i
  | _, _, .str x => .str x
  | _, _, .lst h r => .lst (SqL.of h) (Rps.dp r)
  | _, _, .tup h r => .tup h (Rps.dp r)
theorem Rps.dp : ∀ {xs : List PyData} {vs : List V}, Rps K S xs vs → DpAll K S vs xs
  | _, _, .nil => .nil
  | _, _, .cons h r => .cons (Rp.dp h) (Rps.dp r)
end
mutual
theorem Dp.plain : ∀ {x : PyData} {v : V}, Dp K H v x → x.plain = true
  | _, _, .non => by simp [PyData.plain]
  | _, _, .bl b => by simp [PyData.plain]
  | _, _, .int i => by simp [PyData.plain]
  | _, _, .str x => by simp [PyData.plain]
  | _, _, .lst h r => by simp only [PyData.plain]; exact DpAll.plain r
  | _, _, .tup h r => by simp only [PyData.plain]; exact DpAll.plain r
theorem DpAll.plain : ∀ {xs : List PyData} {vs : List V}, DpAll K H vs xs → PyData.plainAll xs = true
  | _, _, .nil => by simp [PyData.plainAll]
  | _, _, .cons h r => by simp only [PyData.plainAll, Bool.and_eq_true]; exact ⟨Dp.plain h, DpAll.plain r⟩
end
theorem dp_ints {ns : List Int} : DpAll K H (ns.map V.int) (ns.map PyData.int) := by
  induction ns with
  | nil => exact .nil
  | cons n ns ih => exact .cons (.int n) ih
mutual
theorem wpy_ok (r : Rel K T S C F H) : ∀ (n : Nat) {w : W} {v : V} {d : PyData}, Rw K S w v → wpy n C w = some d → Dp K H v d
  | n, .d x, v, d, rv, h => by
    have e : d = x := by cases n <;> (simp only [wpy] at h; exact (Option.some.inj h).symm)
    subst e
    cases rv with | d q => exact (q.mono r.s).dp
  | n, .scr ns, v, d, rv, h => by
    have e : d = .list (ns.map .int) := by cases n <;> (simp only [wpy] at h; exact (Option.some.inj h).symm)
    subst e
    cases rv with | scr q => exact .lst (Same.seq r.s q) dp_ints
  | 0, .own a, v, d, rv, h => by simp only [wpy] at h; cases h
  | n, .ty t, v, d, rv, h => by cases n <;> (simp only [wpy] at h; cases h)
  | n + 1, .own a, v, d, rv, h => by
    cases rv
    simp only [wpy] at h
    split at h
    · rename_i ws e
      obtain ⟨_, _, o, e2, vs, rfl, q⟩ := r.cell e trivial
      cases e3 : wpy.go n C ws with
      | none => rw [e3] at h; cases h
      | some xs => rw [e3] at h; cases h; exact .lst (SqL.of e2) (wpyAll_ok r n q e3)
    · rename_i ws e
      obtain ⟨_, _, o, e2, vs, rfl, q⟩ := r.cell e trivial
      cases e3 : wpy.go n C ws with
      | none => rw [e3] at h; cases h
      | some xs => rw [e3] at h; cases h; exact .tup (SqT.of e2) (wpyAll_ok r n q e3)
    · cases h
theorem wpyAll_ok (r : Rel K T S C F H) : ∀ (n : Nat) {ws : List W} {vs : List V} {ds : List PyData}, Rws K S ws vs → wpy.go n C ws = some ds → DpAll K H vs ds
  | n, [], vs, ds, rv, h => by
    cases rv
    simp only [wpy.go] at h
    cases h
    exact .nil
  | n, w :: ws, vs, ds, rv, h => by
    cases rv with
    | cons r1 r2 =>
      simp only [wpy.go] at h
      split at h
      · rename_i x xs e1 e2
        cases h
        exact .cons (wpy_ok r n r1 e1) (wpyAll_ok r n r2 e2)
      · cases h
end
end

/-! ### a two-place operation by values -/
abbrev O2 := W → W → Cm → WK → Prop
def eOp (w : O2) (a b : TEd) : TEd := fun γ C Q => a γ C fun x C1 => b γ C1 fun y C2 => w x y C2 Q
def RefR2 (K : PySem.W.Frag) (G : Sit) (r : R2) (w : O2) : Prop := ∀ (S : Hp) (C : Cm) (F H : Hp) (d e : W) (x y : V) (Q0 : WK) (Q : VK), Rel K G.T S C F H → Rw K S d x → Rw K S e y → w d e C Q0 →
  (∀ d' C' S' H' v, Ext S S' → Rel K G.T S' C' F H' → Rw K S' d' v → Q0 d' C' → Q v H') → r x y H Q
theorem ref_op {K : PySem.W.Frag} {G : Sit} {r : R2} {w : O2} {ta tb : TE} {wa wb : TEd} (hr : RefR2 K G r w) (ha : RefE K G ta wa) (hb : RefE K G tb wb) : RefE K G (tOp r ta tb) (eOp w wa wb) := by
  intro S C F H γ σ Q0 Q R e x h k
  refine ha S C F H γ σ _ _ R e x h fun d C1 S1 H1 v e1 R1 r1 h1 => ?_
  refine hb S1 C1 F H1 γ σ _ _ R1 (e.mono e1) (x.mono e1) h1 fun d2 C2 S2 H2 v2 e2 R2 r2 h2 => ?_
  exact hr S2 C2 F H2 d d2 v v2 _ _ R2 (r1.mono e2) r2 h2 fun d' C' S' H' v' e3 R3 r3 q => k d' C' S' H' v' ((e1.trans e2).trans e3) R3 r3 q

/-- a + b -/
def opAdd (m : Bool) : O2 := fun x y C Q => match x, y with
  | .d (.int i), .d (.int j) => Q (.d (.int (i + j))) C
  | .d (.str x), .d (.str y) => x.length + y.length ≤ sizeLine ∧ Q (.d (.str (x ++ y))) C
  | .d (.tuple xs), .d (.tuple ys) => xs.length + ys.length ≤ sizeLine ∧ Q (.d (.tuple (xs ++ ys))) C
  | .scr _, _ => False
  | _, .scr _ => False
  | x, y => match asL C x, asL C y with
    | some ws, some us => ws.length + us.length ≤ sizeLine ∧ newL m (ws ++ us) C Q
    | _, _ => False
def rAdd (K : PySem.W.Frag) : R2 := fun x y H Q => rI0 (fun i j => .int (i + j)) x y H Q ∨ (∃ i j, x = .str i ∧ y = .str j ∧ i.length + j.length ≤ sizeLine ∧ Q (.str (i ++ j)) H) ∨ rCatA K x y H Q ∨ rCat x y H Q
theorem op_Add {X : Cx} : OpR X (binaryOp .Add) (rAdd X.K) := op_add.or (op_add_str.or (op_catA.or op_cat))
theorem rps_append {K : PySem.W.Frag} {S : Hp} : ∀ {xs ys : List PyData} {vs us : List V}, Rps K S xs vs → Rps K S ys us → Rps K S (xs ++ ys) (vs ++ us)
  | _, _, _, _, .nil, h => h
  | _, _, _, _, .cons a b, h => .cons a (rps_append b h)
theorem rws_append {K : PySem.W.Frag} {S : Hp} : ∀ {xs ys : List W} {vs us : List V}, Rws K S xs vs → Rws K S ys us → Rws K S (xs ++ ys) (vs ++ us)
  | _, _, _, _, .nil, h => h
  | _, _, _, _, .cons a b, h => .cons a (rws_append b h)
theorem ref_add {K : PySem.W.Frag} {G : Sit} {m : Bool} : RefR2 K G (rAdd K) (opAdd m) := by
  intro S C F H d e x y Q0 Q R r1 r2 h k
  unfold opAdd at h
  split at h
  · rename_i i j
    cases r1 with | d r1 => cases r2 with | d r2 =>
      cases r1; cases r2
      exact .inl ⟨i, j, rfl, rfl, k _ C S H _ (Same.refl S) R (.d (.int _)) h⟩
  · rename_i i j
    cases r1 with | d r1 => cases r2 with | d r2 =>
      cases r1; cases r2
      exact .inr (.inl ⟨i, j, rfl, rfl, h.1, k _ C S H _ (Same.refl S) R (.d (.str _)) h.2⟩)
  · rename_i xs ys
    cases r1 with | d r1 => cases r2 with | d r2 =>
      cases r1 with | tup q1 s1 => cases r2 with | tup q2 s2 =>
        rename_i a vs b us
        refine .inr (.inr (.inl ⟨a, b, vs, us, rfl, rfl, Ext.sqt R.s q1, Ext.sqt R.s q2, by rw [← s1.length, ← s2.length]; exact h.1, fun e0 => ?_, fun _ e0 => ?_, fun _ _ p hp => ?_⟩))
        · subst e0
          cases s1
          exact k _ C S H _ (Same.refl S) R (.d (.tup q2 s2)) h.2
        · subst e0
          cases s2
          rw [List.append_nil] at h
          exact k _ C S H _ (Same.refl S) R (.d (.tup q1 s1)) h.2
        · have x := ext_new (o := .tup (vs ++ us)) (R.freeS hp)
          exact k _ C _ _ _ x (R.newS hp) (.d (.tup (SqT.of upd_same) ((rps_append s1 s2).mono x))) h.2
  · exact h.elim
  · exact h.elim
  · split at h
    · rename_i ws us e1 e2
      obtain ⟨a, vs, rfl, l1, s1⟩ := asL_ok' R r1 e1 (fun ns e0 => ‹∀ ns : List Int, d = W.scr ns → False› ns e0)
      obtain ⟨b, us', rfl, l2, s2⟩ := asL_ok' R r2 e2 (fun ns e0 => ‹∀ ns : List Int, e = W.scr ns → False› ns e0)
      refine .inr (.inr (.inr ⟨a, b, vs, us', rfl, rfl, l1, l2, by rw [← Paired.length s1, ← Paired.length s2]; exact h.1, newL_ok R (rws_append s1 s2) h.2 k⟩))
    · exact h.elim
section
variable {G : Sit} {X : Cx} {a b : Expr} {ta tb : TE} {wa wb : TEd} {pos : Pos}
theorem d_add (m : Bool) (ha : DE G X a ta wa) (hb : DE G X b tb wb) : DE G X (.BinOp a .Add b pos) (tOp (rAdd X.K) ta tb) (eOp (opAdd m) wa wb) := ⟨pe_op op_Add ha.1 hb.1, ref_op ref_add ha.2 hb.2⟩
end
theorem opAdd_list {xs ys : List PyData} {C : Cm} {Q : WK} : opAdd false (.d (.list xs)) (.d (.list ys)) C Q = (xs.length + ys.length ≤ sizeLine ∧ Q (.d (.list (xs ++ ys))) C) := by
  unfold opAdd
  simp only [asL, List.length_map, ← List.map_append, newL_d]

/-- ints to an int -/
def opI (p : Int → Int → Prop) (f : Int → Int → PyData) : O2 := fun x y C Q => match x, y with
  | .d (.int i), .d (.int j) => p i j ∧ Q (.d (f i j)) C
  | _, _ => False
def opI0 (f : Int → Int → PyData) : O2 := fun x y C Q => match x, y with
  | .d (.int i), .d (.int j) => Q (.d (f i j)) C
  | _, _ => False
theorem ref_I {K : PySem.W.Frag} {G : Sit} {p : Int → Int → Prop} {f : Int → Int → Int} : RefR2 K G (rI p fun i j => .int (f i j)) (opI p fun i j => .int (f i j)) := by
  intro S C F H d e x y Q0 Q R r1 r2 h k
  unfold opI at h
  split at h
  · rename_i i j
    cases r1 with | d r1 => cases r2 with | d r2 =>
      cases r1; cases r2
      exact ⟨i, j, rfl, rfl, h.1, k _ C S H _ (Same.refl S) R (.d (.int _)) h.2⟩
  · exact h.elim
theorem ref_I0 {K : PySem.W.Frag} {G : Sit} {f : Int → Int → Int} : RefR2 K G (rI0 fun i j => .int (f i j)) (opI0 fun i j => .int (f i j)) := by
  intro S C F H d e x y Q0 Q R r1 r2 h k
  unfold opI0 at h
  split at h
  · rename_i i j
    cases r1 with | d r1 => cases r2 with | d r2 =>
      cases r1; cases r2
      exact ⟨i, j, rfl, rfl, k _ C S H _ (Same.refl S) R (.d (.int _)) h⟩
  · exact h.elim
theorem ref_B0 {K : PySem.W.Frag} {G : Sit} {f : Int → Int → Bool} : RefR2 K G (rI0 fun i j => .bl (f i j)) (opI0 fun i j => .bool (f i j)) := by
  intro S C F H d e x y Q0 Q R r1 r2 h k
  unfold opI0 at h
  split at h
  · rename_i i j
    cases r1 with | d r1 => cases r2 with | d r2 =>
      cases r1; cases r2
      exact ⟨i, j, rfl, rfl, k _ C S H _ (Same.refl S) R (.d (.bl _)) h⟩
  · exact h.elim
/-- a * b: ints (one factor small); a list by an int -/
def opMul (m : Bool) : O2 := fun x y C Q => match x, y with
  | .d (.int i), .d (.int j) => CMul i j ∧ Q (.d (.int (i * j))) C
  | .d (.tuple xs), .d (.int k) => (xs ≠ [] ∧ 2 ≤ k ∧ k ≤ 1000 ∧ xs.length ≤ 1000) ∧ Q (.d (.tuple (List.replicate k.toNat xs).flatten)) C
  | .scr _, _ => False
  | x, .d (.int k) => match asL C x with
    | some ws => (-(2 ^ 63) ≤ k ∧ k < 2 ^ 63 ∧ ws.length * k.toNat ≤ sizeLine) ∧ newL m (List.replicate k.toNat ws).flatten C Q
    | none => False
  | _, _ => False
def rMulA (K : PySem.W.Frag) : R2 := fun x y H Q => rI CMul (fun i j => .int (i * j)) x y H Q ∨ rRepT K x y H Q ∨ rRep x y H Q
theorem op_Mul {X : Cx} : OpR X (binaryOp .Mult) (rMulA X.K) := op_mul.or (op_repT.or op_rep)
theorem rws_rep {K : PySem.W.Frag} {S : Hp} {ws : List W} {vs : List V} (h : Rws K S ws vs) (n : Nat) : Rws K S (List.replicate n ws).flatten (List.replicate n vs).flatten := by
  induction n with
  | zero => exact .nil
  | succ n ih => rw [List.replicate_succ, List.replicate_succ, List.flatten_cons, List.flatten_cons]; exact rws_append h ih
theorem rps_rep {K : PySem.W.Frag} {S : Hp} {ws : List PyData} {vs : List V} (h : Rps K S ws vs) (n : Nat) : Rps K S (List.replicate n ws).flatten (List.replicate n vs).flatten := by
  induction n with
  | zero => exact .nil
  | succ n ih => rw [List.replicate_succ, List.replicate_succ, List.flatten_cons, List.flatten_cons]; exact rps_append h ih
theorem ref_mul {K : PySem.W.Frag} {G : Sit} {m : Bool} : RefR2 K G (rMulA K) (opMul m) := by
  intro S C F H d e x y Q0 Q R r1 r2 h k
  unfold opMul at h
  split at h
  · rename_i i j
    cases r1 with | d r1 => cases r2 with | d r2 =>
      cases r1; cases r2
      exact .inl ⟨i, j, rfl, rfl, h.1, k _ C S H _ (Same.refl S) R (.d (.int _)) h.2⟩
  · rename_i xs n
    cases r1 with | d r1 => cases r2 with | d r2 =>
      cases r2
      cases r1 with | tup q1 s1 =>
        rename_i a vs
        obtain ⟨⟨h1, h2, h3, h4⟩, h5⟩ := h
        refine .inr (.inl ⟨a, n, vs, rfl, rfl, Ext.sqt R.s q1, fun e0 => ?_, h2, h3, by rw [← s1.length]; exact h4, fun p hp => ?_⟩)
        · subst e0; cases s1; exact h1 rfl
        · have x := ext_new (o := .tup (List.replicate n.toNat vs).flatten) (R.freeS hp)
          exact k _ C _ _ _ x (R.newS hp) (.d (.tup (SqT.of upd_same) ((rps_rep s1 _).mono x))) h5
  · exact h.elim
  · split at h
    · rename_i ws e1
      cases r2 with | d r2 =>
        cases r2
        obtain ⟨a, vs, rfl, l1, s1⟩ := asL_ok' R r1 e1 (fun ns e0 => ‹∀ ns : List Int, d = W.scr ns → False› ns e0)
        refine .inr (.inr ⟨a, _, vs, rfl, rfl, l1, h.1.1, h.1.2.1, by rw [← Paired.length s1]; exact h.1.2.2, newL_ok R (rws_rep s1 _) h.2 k⟩)
    · exact h.elim
  · exact h.elim
theorem opMul_list {xs : List PyData} {n : Int} {C : Cm} {Q : WK} : opMul false (.d (.list xs)) (.d (.int n)) C Q = ((-(2 ^ 63) ≤ n ∧ n < 2 ^ 63 ∧ xs.length * n.toNat ≤ sizeLine) ∧ Q (.d (.list (List.replicate n.toNat xs).flatten)) C) := by
  unfold opMul
  have e : (List.replicate n.toNat (xs.map W.d)).flatten = (List.replicate n.toNat xs).flatten.map W.d := by
    rw [List.map_flatten, List.map_replicate]
  simp only [asL, List.length_map, e, newL_d]

/-! ### comparisons -/
/-- == (or !=) of data -/
def opEq (neg : Bool) : O2 := fun x y C Q => match wpy 3 C x, wpy 3 C y with
  | some a, some b => (a.depth ≤ 60 ∨ b.depth ≤ 60) ∧ Q (.d (.bool (if neg then !PyData.eqv a b else PyData.eqv a b))) C
  | _, _ => False
def rEqP (K : PySem.W.Frag) (neg : Bool) : R2 := fun x y H Q => ∃ d e, Dp K H x d ∧ Dp K H y e ∧ (d.depth ≤ 60 ∨ e.depth ≤ 60) ∧ Q (.bl (if neg then !PyData.eqv d e else PyData.eqv d e)) H
theorem op_eqP {X : Cx} {k : Nat} (hr : Room k X.A) : OpR X (compareOp .Eq) (rEqP X.K false) := by
  intro pins s σ H x y v u Q I rx ry h
  obtain ⟨d, e, hd, he, hz, q⟩ := h
  obtain ⟨as, r1⟩ := Dp.reads I d x v hd rx
  obtain ⟨bs, r2⟩ := Dp.reads I e y u he ry
  have hu := hr.units
  exact SeqAt.eq_plain r1 r2 (Dp.plain hd) (Dp.plain he) (by have := Nat.min_le_left d.depth e.depth; have := Nat.min_le_right d.depth e.depth; omega) ⟨.bl _, H, I, rfl, q⟩
theorem op_neP {X : Cx} {k : Nat} (hr : Room k X.A) : OpR X (compareOp .NotEq) (rEqP X.K true) := by
  intro pins s σ H x y v u Q I rx ry h
  obtain ⟨d, e, hd, he, hz, q⟩ := h
  obtain ⟨as, r1⟩ := Dp.reads I d x v hd rx
  obtain ⟨bs, r2⟩ := Dp.reads I e y u he ry
  have hu := hr.units
  exact SeqAt.ne_plain r1 r2 (Dp.plain hd) (Dp.plain he) (by have := Nat.min_le_left d.depth e.depth; have := Nat.min_le_right d.depth e.depth; omega) ⟨.bl _, H, I, rfl, q⟩
theorem ref_eq {K : PySem.W.Frag} {G : Sit} {neg : Bool} : RefR2 K G (rEqP K neg) (opEq neg) := by
  intro S C F H d e x y Q0 Q R r1 r2 h k
  unfold opEq at h
  split at h
  · rename_i a b e1 e2
    exact ⟨a, b, wpy_ok R 3 r1 e1, wpy_ok R 3 r2 e2, h.1, k _ C S H _ (Same.refl S) R (.d (.bl _)) h.2⟩
  · exact h.elim
/-- x in c (a list, a tuple of data) -/
def opIn (neg : Bool) : O2 := fun x y C Q => match wpy 3 C x, wpy 3 C y with
  | some (.str a), some (.str b) => Q (.d (.bool (if neg then !!(Builtin.Str.occurrences b a 0 b.length 1).isEmpty else !(Builtin.Str.occurrences b a 0 b.length 1).isEmpty))) C
  | some a, some (.list bs) => (a.depth ≤ 60) ∧ Q (.d (.bool (if neg then !(bs.any fun z => PyData.eqv z a) else bs.any fun z => PyData.eqv z a))) C
  | some a, some (.tuple bs) => (a.depth ≤ 60) ∧ Q (.d (.bool (if neg then !(bs.any fun z => PyData.eqv z a) else bs.any fun z => PyData.eqv z a))) C
  | _, _ => False
def rInP (K : PySem.W.Frag) (neg : Bool) : R2 := fun x y H Q => ∃ d es, Dp K H x d ∧ (Dp K H y (.list es) ∨ Dp K H y (.tuple es)) ∧ d.depth ≤ 60 ∧ Q (.bl (if neg then !(es.any fun z => PyData.eqv z d) else es.any fun z => PyData.eqv z d)) H
theorem op_inP {X : Cx} {k : Nat} (hr : Room k X.A) : OpR X (compareOp .In) (rInP X.K false) := by
  intro pins s σ H x y v u Q I rx ry h
  obtain ⟨d, es, hd, he, hz, q⟩ := h
  obtain ⟨as, r1⟩ := Dp.reads I d x v hd rx
  have hu := hr.units
  have hu2 : X.A.units + 1 + min (PyData.depthAll es) d.depth < cLine := by have := Nat.min_le_right (PyData.depthAll es) d.depth; omega
  rcases he with he | he
  · obtain ⟨bs, r2⟩ := Dp.reads I _ y u he ry
    exact SeqAt.in_list_data r2 r1 (by have := Dp.plain he; simpa [PyData.plain] using this) (Dp.plain hd) hu2 ⟨.bl _, H, I, rfl, q⟩
  · obtain ⟨bs, r2⟩ := Dp.reads I _ y u he ry
    exact SeqAt.in_tuple_data r2 r1 (by have := Dp.plain he; simpa [PyData.plain] using this) (Dp.plain hd) hu2 ⟨.bl _, H, I, rfl, q⟩
theorem op_notInP {X : Cx} {k : Nat} (hr : Room k X.A) : OpR X (compareOp .NotIn) (rInP X.K true) := by
  intro pins s σ H x y v u Q I rx ry h
  obtain ⟨d, es, hd, he, hz, q⟩ := h
  obtain ⟨as, r1⟩ := Dp.reads I d x v hd rx
  have hu := hr.units
  have hu2 : X.A.units + 1 + min (PyData.depthAll es) d.depth < cLine := by have := Nat.min_le_right (PyData.depthAll es) d.depth; omega
  rcases he with he | he
  · obtain ⟨bs, r2⟩ := Dp.reads I _ y u he ry
    exact SeqAt.notIn_list_data r2 r1 (by have := Dp.plain he; simpa [PyData.plain] using this) (Dp.plain hd) hu2 ⟨.bl _, H, I, rfl, q⟩
  · obtain ⟨bs, r2⟩ := Dp.reads I _ y u he ry
    exact SeqAt.notIn_tuple_data r2 r1 (by have := Dp.plain he; simpa [PyData.plain] using this) (Dp.plain hd) hu2 ⟨.bl _, H, I, rfl, q⟩
def rStrIn (neg : Bool) : R2 := fun x y H Q => ∃ i j, x = .str i ∧ y = .str j ∧ Q (.bl (if neg then !!(Builtin.Str.occurrences j i 0 j.length 1).isEmpty else !(Builtin.Str.occurrences j i 0 j.length 1).isEmpty)) H
theorem op_strIn {X : Cx} : OpR X (compareOp .In) (rStrIn false) := fun pins s σ H x y v u Q I rx ry h => op_in_str pins s σ H x y v u Q I rx ry h
theorem op_strNotIn {X : Cx} : OpR X (compareOp .NotIn) (rStrIn true) := fun pins s σ H x y v u Q I rx ry h => op_notin_str pins s σ H x y v u Q I rx ry h
theorem wpy_str {n : Nat} {C : Cm} {w : W} {a : Str} (h : wpy n C w = some (.str a)) : w = .d (.str a) := by
  cases w with
  | d x => cases n <;> (simp only [wpy] at h; rw [Option.some.inj h])
  | scr ns => cases n <;> (simp only [wpy] at h; cases h)
  | ty t => cases n <;> (simp only [wpy] at h; cases h)
  | own p =>
    cases n with
    | zero => simp only [wpy] at h; cases h
    | succ n =>
      simp only [wpy] at h
      split at h
      · cases e : wpy.go n C _ with
        | none => rw [e] at h; cases h
        | some xs => rw [e] at h; cases h
      · cases e : wpy.go n C _ with
        | none => rw [e] at h; cases h
        | some xs => rw [e] at h; cases h
      · cases h
theorem ref_in {K : PySem.W.Frag} {G : Sit} {neg : Bool} : RefR2 K G (fun x y H Q => rInP K neg x y H Q ∨ rStrIn neg x y H Q) (opIn neg) := by
  intro S C F H d e x y Q0 Q R r1 r2 h k
  unfold opIn at h
  split at h
  · rename_i a b e1 e2
    cases wpy_str e1
    cases wpy_str e2
    cases r1 with | d r1 => cases r2 with | d r2 =>
      cases r1; cases r2
      exact .inr ⟨a, b, rfl, rfl, k _ C S H _ (Same.refl S) R (.d (.bl _)) h⟩
  · rename_i a bs e2 e3
    exact .inl ⟨a, bs, wpy_ok R 3 r1 e2, .inl (wpy_ok R 3 r2 e3), h.1, k _ C S H _ (Same.refl S) R (.d (.bl _)) h.2⟩
  · rename_i a bs e2 e3
    exact .inl ⟨a, bs, wpy_ok R 3 r1 e2, .inr (wpy_ok R 3 r2 e3), h.1, k _ C S H _ (Same.refl S) R (.d (.bl _)) h.2⟩
  · exact h.elim
end Dl

set_option Elab.async false
set_option linter.all false
set_option maxRecDepth 100000
set_option maxHeartbeats 1000000
/-! The data layer, part 4: tests, displays, subscripts, slices, built-in functions. -/
namespace Dl
open PySem L2

section
variable {K : PySem.W.Frag} {G : Sit} {X : Cx} {a b c : Expr} {ta tb tc : TE} {wa wb wc : TEd} {pos : Pos}
/-! ### operators by their rules -/
theorem d_sub (ha : DE G X a ta wa) (hb : DE G X b tb wb) : DE G X (.BinOp a .Sub b pos) (tOp (rI0 fun i j => .int (i - j)) ta tb) (eOp (opI0 fun i j => .int (i - j)) wa wb) := ⟨pe_op op_sub ha.1 hb.1, ref_op ref_I0 ha.2 hb.2⟩
theorem d_mul (m : Bool) (ha : DE G X a ta wa) (hb : DE G X b tb wb) : DE G X (.BinOp a .Mult b pos) (tOp (rMulA X.K) ta tb) (eOp (opMul m) wa wb) := ⟨pe_op op_Mul ha.1 hb.1, ref_op ref_mul ha.2 hb.2⟩
theorem d_mod (ha : DE G X a ta wa) (hb : DE G X b tb wb) : DE G X (.BinOp a .Mod b pos) (tOp (rI (fun _ j => 0 < j) fun i j => .int (i % j)) ta tb) (eOp (opI (fun _ j => 0 < j) fun i j => .int (i % j)) wa wb) := ⟨pe_op op_mod ha.1 hb.1, ref_op ref_I ha.2 hb.2⟩
theorem d_fdiv (ha : DE G X a ta wa) (hb : DE G X b tb wb) : DE G X (.BinOp a .FloorDiv b pos) (tOp (rI CDiv fun i j => .int (i / j)) ta tb) (eOp (opI CDiv fun i j => .int (i / j)) wa wb) := ⟨pe_op op_fdiv ha.1 hb.1, ref_op ref_I ha.2 hb.2⟩
theorem d_pow (ha : DE G X a ta wa) (hb : DE G X b tb wb) : DE G X (.BinOp a .Pow b pos) (tOp (rI CPow fun i j => .int (i ^ j.toNat)) ta tb) (eOp (opI CPow fun i j => .int (i ^ j.toNat)) wa wb) := ⟨pe_op op_pow ha.1 hb.1, ref_op ref_I ha.2 hb.2⟩
/-- -a -/
def opNeg : W → Cm → WK → Prop := fun x C Q => match x with
  | .d (.int i) => Q (.d (.int (-i))) C
  | _ => False
def eUn (w : W → Cm → WK → Prop) (a : TEd) : TEd := fun γ C Q => a γ C fun x C1 => w x C1 Q
theorem d_neg (ha : DE G X a ta wa) : DE G X (.UnaryOp .USub a pos) (tUn (rU fun i => .int (-i)) ta) (eUn opNeg wa) := ⟨pe_un un_neg ha.1, by
  intro S C F H γ σ Q0 Q R e x h k
  refine ha.2 S C F H γ σ _ _ R e x h fun d C1 S1 H1 v e1 R1 r1 h1 => ?_
  unfold opNeg at h1
  split at h1
  · cases r1 with | d r1 => cases r1; exact ⟨_, rfl, k _ _ _ _ _ e1 R1 (.d (.int _)) h1⟩
  · exact h1.elim⟩
theorem d_lt (ha : DE G X a ta wa) (hb : DE G X b tb wb) : DE G X (.Compare a [.Lt] [b] pos) (tOp (rI0 fun i j => .bl (decide (i < j))) ta tb) (eOp (opI0 fun i j => .bool (decide (i < j))) wa wb) := ⟨pe_cmpR op_lt ha.1 hb.1 (nomark _), ref_op ref_B0 ha.2 hb.2⟩
theorem d_le (ha : DE G X a ta wa) (hb : DE G X b tb wb) : DE G X (.Compare a [.LtE] [b] pos) (tOp (rI0 fun i j => .bl (decide (i ≤ j))) ta tb) (eOp (opI0 fun i j => .bool (decide (i ≤ j))) wa wb) := ⟨pe_cmpR op_le ha.1 hb.1 (nomark _), ref_op ref_B0 ha.2 hb.2⟩
theorem d_gt (ha : DE G X a ta wa) (hb : DE G X b tb wb) : DE G X (.Compare a [.Gt] [b] pos) (tOp (rI0 fun i j => .bl (decide (j < i))) ta tb) (eOp (opI0 fun i j => .bool (decide (j < i))) wa wb) := ⟨pe_cmpR op_gt ha.1 hb.1 (nomark _), ref_op ref_B0 ha.2 hb.2⟩
theorem d_ge (ha : DE G X a ta wa) (hb : DE G X b tb wb) : DE G X (.Compare a [.GtE] [b] pos) (tOp (rI0 fun i j => .bl (decide (j ≤ i))) ta tb) (eOp (opI0 fun i j => .bool (decide (j ≤ i))) wa wb) := ⟨pe_cmpR op_ge ha.1 hb.1 (nomark _), ref_op ref_B0 ha.2 hb.2⟩
theorem d_eq {k : Nat} (hr : Room k X.A) (ha : DE G X a ta wa) (hb : DE G X b tb wb) : DE G X (.Compare a [.Eq] [b] pos) (tOp (rEqP X.K false) ta tb) (eOp (opEq false) wa wb) := ⟨pe_cmpR (op_eqP hr) ha.1 hb.1 (nomark _), ref_op ref_eq ha.2 hb.2⟩
theorem d_ne {k : Nat} (hr : Room k X.A) (ha : DE G X a ta wa) (hb : DE G X b tb wb) : DE G X (.Compare a [.NotEq] [b] pos) (tOp (rEqP X.K true) ta tb) (eOp (opEq true) wa wb) := ⟨pe_cmpR (op_neP hr) ha.1 hb.1 (nomark _), ref_op ref_eq ha.2 hb.2⟩
theorem d_in {k : Nat} (hr : Room k X.A) (ha : DE G X a ta wa) (hb : DE G X b tb wb) (hm : behindInMarks .In b = false := by rfl) : DE G X (.Compare a [.In] [b] pos) (tOp (fun x y H Q => rInP X.K false x y H Q ∨ rStrIn false x y H Q) ta tb) (eOp (opIn false) wa wb) :=
  ⟨pe_cmpR ((op_inP hr).or op_strIn) ha.1 hb.1 hm, ref_op ref_in ha.2 hb.2⟩
theorem d_notin {k : Nat} (hr : Room k X.A) (ha : DE G X a ta wa) (hb : DE G X b tb wb) (hm : behindInMarks .NotIn b = false := by rfl) : DE G X (.Compare a [.NotIn] [b] pos) (tOp (fun x y H Q => rInP X.K true x y H Q ∨ rStrIn true x y H Q) ta tb) (eOp (opIn true) wa wb) :=
  ⟨pe_cmpR ((op_notInP hr).or op_strNotIn) ha.1 hb.1 hm, ref_op ref_in ha.2 hb.2⟩
/-- a is None -/
def isNone : W → Bool
  | .d .none => true
  | _ => false
def opIsN (neg : Bool) : W → Cm → WK → Prop := fun x C Q => Q (.d (.bool (if neg then !isNone x else isNone x))) C
theorem isNone_ok {S : Hp} {w : W} {v : V} (r : Rw K S w v) : isNone w = decide (v = .non) := by
  cases r with
  | d r => cases r <;> simp [isNone]
  | own a => simp [isNone]
  | scr h => simp [isNone]
  | ty n => simp [isNone]
theorem d_isN {j : Nat} {p2 : Pos} (ha : DE G X a ta wa) : DE G X (.Compare a [.Is] [.Constant .none j p2] pos) (tIsN ta) (eUn (opIsN false) wa) := ⟨pe_cmp (pc_isN ha.1) rfl, by
  intro S C F H γ σ Q0 Q R e x h k
  refine ha.2 S C F H γ σ _ _ R e x h fun d C1 S1 H1 v e1 R1 r1 h1 => ?_
  rw [← isNone_ok r1]
  exact k _ _ _ _ _ e1 R1 (.d (.bl _)) h1⟩
theorem d_notN {j : Nat} {p2 : Pos} (ha : DE G X a ta wa) : DE G X (.Compare a [.IsNot] [.Constant .none j p2] pos) (tNotN ta) (eUn (opIsN true) wa) := ⟨pe_cmp (pc_notN ha.1) rfl, by
  intro S C F H γ σ Q0 Q R e x h k
  refine ha.2 S C F H γ σ _ _ R e x h fun d C1 S1 H1 v e1 R1 r1 h1 => ?_
  rw [← isNone_ok r1]
  exact k _ _ _ _ _ e1 R1 (.d (.bl _)) h1⟩
/-- a < b < c, by the operators' rules -/
def eChain (w w' : O2) (a b c : TEd) : TEd := fun γ C Q => a γ C fun x C1 => b γ C1 fun y C2 => w x y C2 fun z C3 => match z with
  | .d (.bool true) => c γ C3 fun u C4 => w' y u C4 Q
  | .d (.bool false) => Q (.d (.bool false)) C3
  | _ => False
theorem ref_chain {r r' : R2} {w w' : O2} (hr : RefR2 K G r w) (hr' : RefR2 K G r' w') (ha : RefE K G ta wa) (hb : RefE K G tb wb) (hc : RefE K G tc wc) : RefE K G (tChain r r' ta tb tc) (eChain w w' wa wb wc) := by
  intro S C F H γ σ Q0 Q R e x h k
  refine ha S C F H γ σ _ _ R e x h fun d C1 S1 H1 v e1 R1 r1 h1 => ?_
  refine hb S1 C1 F H1 γ σ _ _ R1 (e.mono e1) (x.mono e1) h1 fun d2 C2 S2 H2 v2 e2 R2 r2 h2 => ?_
  refine hr S2 C2 F H2 d d2 v v2 _ _ R2 (r1.mono e2) r2 h2 fun d3 C3 S3 H3 v3 e3 R3 r3 h3 => ?_
  split at h3
  · cases r3 with | d r3 =>
      cases r3
      refine ⟨true, rfl, ?_⟩
      rw [if_pos rfl]
      have e13 := (e1.trans e2).trans e3
      refine hc S3 C3 F H3 γ σ _ _ R3 (e.mono e13) (x.mono e13) h3 fun d4 C4 S4 H4 v4 e4 R4 r4 h4 => ?_
      exact hr' S4 C4 F H4 d2 d4 v2 v4 _ _ R4 (r2.mono (e3.trans e4)) r4 h4 fun d' C' S' H' v' e5 R5 r5 q => k d' C' S' H' v' ((e13.trans e4).trans e5) R5 r5 q
  · cases r3 with | d r3 =>
      cases r3
      refine ⟨false, rfl, ?_⟩
      rw [if_neg Bool.false_ne_true]
      exact k _ _ _ _ _ ((e1.trans e2).trans e3) R3 (.d (.bl _)) h3
  · exact h3.elim
theorem d_chain {op op' : CmpOp} {r r' : R2} {w w' : O2} (o : OpR X (compareOp op) r) (o' : OpR X (compareOp op') r') (hr : RefR2 X.K G r w) (hr' : RefR2 X.K G r' w') (ha : DE G X a ta wa) (hb : DE G X b tb wb) (hc : DE G X c tc wc)
    (hm : lastMarks [op, op'] [b, c] = false := by rfl) : DE G X (.Compare a [op, op'] [b, c] pos) (tChain r r' ta tb tc) (eChain w w' wa wb wc) := ⟨pe_chain o o' ha.1 hb.1 hc.1 hm, ref_chain hr hr' ha.2 hb.2 hc.2⟩

/-! ### tests -/
def opTru : W → Cm → (Bool → Cm → Prop) → Prop := fun x C Q => match x with
  | .d .none => Q false C
  | .d (.bool b) => Q b C
  | .d (.int i) => Q (i != 0) C
  | .d (.str s) => s.length ≤ sizeLine ∧ Q ((s.length : Int) != 0) C
  | .d (.list xs) => Q (!xs.isEmpty) C
  | .d (.tuple xs) => Q (!xs.isEmpty) C
  | .scr ns => Q (!ns.isEmpty) C
  | .own a => match C a with
    | some (.lst ws) => Q (!ws.isEmpty) C
    | some (.tup ws) => Q (!ws.isEmpty) C
    | some (.dk kvs) => Q (!kvs.isEmpty) C
    | _ => False
  | _ => False
theorem emptyR {α β : Type} {P : α → β → Prop} {xs : List α} {vs : List β} (h : Paired P xs vs) : (!vs.isEmpty) = !xs.isEmpty := by cases h <;> rfl
theorem emptyP {S : Hp} {xs : List PyData} {vs : List V} (h : Rps K S xs vs) : (!vs.isEmpty) = !xs.isEmpty := by cases h <;> rfl
def tTruth (K : PySem.W.Frag) (ta : TE) : TT := fun σ H Q => ta σ H fun x H' => ∃ k, TruV K x H' k ∧ Q k H'
def tTru (a : TEd) : TTd := fun γ C Q => a γ C fun x C1 => opTru x C1 Q
theorem ref_tru (ha : RefE K G ta wa) : RefT K G (tTruth K ta) (tTru wa) := by
  intro S C F H γ σ Q0 Q R e x h k
  refine ha S C F H γ σ _ _ R e x h fun d C1 S1 H1 v e1 R1 r1 h1 => ?_
  have go : ∀ b, Q0 b C1 → Q b H1 := fun b q => k b C1 S1 H1 e1 R1 q
  unfold opTru at h1
  split at h1
  · cases r1 with | d r1 => cases r1; exact ⟨_, rfl, go _ h1⟩
  · cases r1 with | d r1 => cases r1; exact ⟨_, rfl, go _ h1⟩
  · cases r1 with | d r1 => cases r1; exact ⟨_, rfl, go _ h1⟩
  · cases r1 with | d r1 => cases r1; exact ⟨_, ⟨h1.1, rfl⟩, go _ h1.2⟩
  · cases r1 with | d r1 =>
      cases r1 with | lst q s => exact ⟨_, .inl ⟨_, SqL.of (R1.s _ _ q), rfl⟩, go _ (by rw [emptyP s]; exact h1)⟩
  · cases r1 with | d r1 =>
      cases r1 with | tup q s => exact ⟨_, .inr (.inl ⟨_, Ext.sqt R1.s q, rfl⟩), go _ (by rw [emptyP s]; exact h1)⟩
  · cases r1 with | scr q => exact ⟨_, .inl ⟨_, Same.seq R1.s q, rfl⟩, go _ (by rw [List.isEmpty_map]; exact h1)⟩
  · cases r1
    split at h1
    · rename_i ws e2
      obtain ⟨_, _, o, e3, vs, rfl, q⟩ := R1.cell e2 trivial
      exact ⟨_, .inl ⟨_, SqL.of e3, rfl⟩, go _ (by rw [emptyR q]; exact h1)⟩
    · rename_i ws e2
      obtain ⟨_, _, o, e3, vs, rfl, q⟩ := R1.cell e2 trivial
      exact ⟨_, .inr (.inl ⟨_, SqT.of e3, rfl⟩), go _ (by rw [emptyR q]; exact h1)⟩
    · rename_i ws e2
      obtain ⟨_, _, o, e3, vs, rfl, q⟩ := R1.cell e2 trivial
      exact ⟨_, .inr (.inr ⟨_, e3, rfl⟩), go _ (by rw [emptyR q]; exact h1)⟩
    · exact h1.elim
  · exact h1.elim
/-- an expression as a test, by its truth -/
theorem t_e (ha : DE G X a ta wa) (he : ∀ whole, isTrue a X.env whole = (do let v ← whole; standAt a.pos; holding [v] (truthy v)) := by intro _; rfl) : DT G X a (tTruth X.K ta) (tTru wa) := ⟨pt_truth ha.1 he, ref_tru ha.2⟩
def tAndD (a b : TTd) : TTd := fun γ C Q => a γ C fun c C1 => if c = true then b γ C1 Q else Q false C1
def tOrD (a b : TTd) : TTd := fun γ C Q => a γ C fun c C1 => if c = true then Q true C1 else b γ C1 Q
def tNotD (a : TTd) : TTd := fun γ C Q => a γ C fun c C1 => Q (!c) C1
variable {t u : TT} {wt wu : TTd} {rest : List Expr}
theorem ref_and (h1 : RefT K G t wt) (h2 : RefT K G u wu) : RefT K G (tAnd t u) (tAndD wt wu) := by
  intro S C F H γ σ Q0 Q R e x h k
  refine h1 S C F H γ σ _ _ R e x h fun b C1 S1 H1 e1 R1 q => ?_
  by_cases hb : b = true
  · rw [if_pos hb] at q ⊢
    exact h2 S1 C1 F H1 γ σ _ _ R1 (e.mono e1) (x.mono e1) q fun b2 C2 S2 H2 e2 R2 q2 => k b2 C2 S2 H2 (e1.trans e2) R2 q2
  · rw [if_neg hb] at q ⊢
    exact k _ _ _ _ e1 R1 q
theorem ref_or (h1 : RefT K G t wt) (h2 : RefT K G u wu) : RefT K G (tOr t u) (tOrD wt wu) := by
  intro S C F H γ σ Q0 Q R e x h k
  refine h1 S C F H γ σ _ _ R e x h fun b C1 S1 H1 e1 R1 q => ?_
  by_cases hb : b = true
  · rw [if_pos hb] at q ⊢
    exact k _ _ _ _ e1 R1 q
  · rw [if_neg hb] at q ⊢
    exact h2 S1 C1 F H1 γ σ _ _ R1 (e.mono e1) (x.mono e1) q fun b2 C2 S2 H2 e2 R2 q2 => k b2 C2 S2 H2 (e1.trans e2) R2 q2
theorem w_and (ha : DT G X a t wt) (hb : DW G X (.BoolOp .And (b :: rest) pos) u wu) : DW G X (.BoolOp .And (a :: b :: rest) pos) (tAnd t u) (tAndD wt wu) := ⟨pw_and ha.1 hb.1, ref_and ha.2 hb.2⟩
theorem w_and1 (ha : DT G X a t wt) : DW G X (.BoolOp .And [a] pos) t wt := ⟨pw_and1 ha.1, ha.2⟩
theorem w_or (ha : DT G X a t wt) (hb : DW G X (.BoolOp .Or (b :: rest) pos) u wu) : DW G X (.BoolOp .Or (a :: b :: rest) pos) (tOr t u) (tOrD wt wu) := ⟨pw_or ha.1 hb.1, ref_or ha.2 hb.2⟩
theorem w_or1 (ha : DT G X a t wt) : DW G X (.BoolOp .Or [a] pos) t wt := ⟨pw_or1 ha.1, ha.2⟩
theorem t_w (h : DW G X a t wt) : DT G X a t wt := ⟨h.1.pt, h.2⟩
theorem t_not (h : DT G X a t wt) : DT G X (.UnaryOp .Not a pos) (tNot t) (tNotD wt) := ⟨pt_not h.1, by
  intro S C F H γ σ Q0 Q R e x h0 k
  exact h.2 S C F H γ σ _ _ R e x h0 fun b C1 S1 H1 e1 R1 q => k _ _ _ _ e1 R1 q⟩
/-- and, or, not as values (bools) -/
def eAnd (a b : TEd) : TEd := fun γ C Q => a γ C fun x C1 => match x with
  | .d (.bool true) => b γ C1 Q
  | .d (.bool false) => Q (.d (.bool false)) C1
  | _ => False
def eOr (a b : TEd) : TEd := fun γ C Q => a γ C fun x C1 => match x with
  | .d (.bool true) => Q (.d (.bool true)) C1
  | .d (.bool false) => b γ C1 Q
  | _ => False
def opNot : W → Cm → WK → Prop := fun x C Q => match x with
  | .d (.bool b) => Q (.d (.bool (!b))) C
  | _ => False
theorem d_one {op : BoolOp} (ha : DE G X a ta wa) : DE G X (.BoolOp op [a] pos) ta wa := ⟨pe_one ha.1, ha.2⟩
theorem d_and (ha : DE G X a ta wa) (hb : DE G X (.BoolOp .And (b :: rest) pos) tb wb) : DE G X (.BoolOp .And (a :: b :: rest) pos) (tAndV ta tb) (eAnd wa wb) := ⟨pe_and ha.1 hb.1, by
  intro S C F H γ σ Q0 Q R e x h k
  refine ha.2 S C F H γ σ _ _ R e x h fun d C1 S1 H1 v e1 R1 r1 h1 => ?_
  split at h1
  · cases r1 with | d r1 =>
      cases r1
      refine ⟨true, rfl, ?_⟩
      rw [if_pos rfl]
      exact hb.2 S1 C1 F H1 γ σ _ _ R1 (e.mono e1) (x.mono e1) h1 fun d2 C2 S2 H2 v2 e2 R2 r2 q2 => k _ _ _ _ _ (e1.trans e2) R2 r2 q2
  · cases r1 with | d r1 =>
      cases r1
      refine ⟨false, rfl, ?_⟩
      rw [if_neg Bool.false_ne_true]
      exact k _ _ _ _ _ e1 R1 (.d (.bl _)) h1
  · exact h1.elim⟩
theorem d_or (ha : DE G X a ta wa) (hb : DE G X (.BoolOp .Or (b :: rest) pos) tb wb) : DE G X (.BoolOp .Or (a :: b :: rest) pos) (tOrV ta tb) (eOr wa wb) := ⟨pe_or ha.1 hb.1, by
  intro S C F H γ σ Q0 Q R e x h k
  refine ha.2 S C F H γ σ _ _ R e x h fun d C1 S1 H1 v e1 R1 r1 h1 => ?_
  split at h1
  · cases r1 with | d r1 =>
      cases r1
      refine ⟨true, rfl, ?_⟩
      rw [if_pos rfl]
      exact k _ _ _ _ _ e1 R1 (.d (.bl _)) h1
  · cases r1 with | d r1 =>
      cases r1
      refine ⟨false, rfl, ?_⟩
      rw [if_neg Bool.false_ne_true]
      exact hb.2 S1 C1 F H1 γ σ _ _ R1 (e.mono e1) (x.mono e1) h1 fun d2 C2 S2 H2 v2 e2 R2 r2 q2 => k _ _ _ _ _ (e1.trans e2) R2 r2 q2
  · exact h1.elim⟩
theorem d_not (ha : DE G X a ta wa) : DE G X (.UnaryOp .Not a pos) (tNotV ta) (eUn opNot wa) := ⟨pe_not ha.1, by
  intro S C F H γ σ Q0 Q R e x h k
  refine ha.2 S C F H γ σ _ _ R e x h fun d C1 S1 H1 v e1 R1 r1 h1 => ?_
  unfold opNot at h1
  split at h1
  · cases r1 with | d r1 => cases r1; exact ⟨_, rfl, k _ _ _ _ _ e1 R1 (.d (.bl _)) h1⟩
  · exact h1.elim⟩
def eIf (t : TTd) (a b : TEd) : TEd := fun γ C Q => t γ C fun c C1 => if c = true then a γ C1 Q else b γ C1 Q
theorem d_if (ht : DT G X c t wt) (ha : DE G X a ta wa) (hb : DE G X b tb wb) : DE G X (.IfExp c a b pos) (tIf t ta tb) (eIf wt wa wb) := ⟨pe_ifExp ht.1 ha.1 hb.1, by
  intro S C F H γ σ Q0 Q R e x h k
  refine ht.2 S C F H γ σ _ _ R e x h fun b C1 S1 H1 e1 R1 q => ?_
  by_cases hb' : b = true
  · rw [if_pos hb'] at q ⊢
    exact ha.2 S1 C1 F H1 γ σ _ _ R1 (e.mono e1) (x.mono e1) q fun d2 C2 S2 H2 v2 e2 R2 r2 q2 => k _ _ _ _ _ (e1.trans e2) R2 r2 q2
  · rw [if_neg hb'] at q ⊢
    exact hb.2 S1 C1 F H1 γ σ _ _ R1 (e.mono e1) (x.mono e1) q fun d2 C2 S2 H2 v2 e2 R2 r2 q2 => k _ _ _ _ _ (e1.trans e2) R2 r2 q2⟩
end

/-! ### argument lists, displays -/
def aNil : TAd := fun _ C Q => Q [] C
def aCons (a : TEd) (r : TAd) : TAd := fun γ C Q => a γ C fun x C1 => r γ C1 fun xs C2 => Q (x :: xs) C2
def eTup (m : Bool) (as : TAd) : TEd := fun γ C Q => as γ C fun ds C1 => ds.length ≤ sizeLine ∧ newT m ds C1 Q
def eLst (m : Bool) (as : TAd) : TEd := fun γ C Q => as γ C fun ds C1 => ds.length ≤ sizeLine ∧ newL m ds C1 Q
section
variable {K : PySem.W.Frag} {G : Sit} {X : Cx} {e : Expr} {es : List Expr} {te : TE} {we : TEd} {t : TA} {w : TAd} {pos : Pos}
theorem a_nil : DA G X [] tNil aNil := ⟨pa_nil, fun S C F H γ σ Q0 Q R _ _ h k => k [] C S H [] (Same.refl S) R .nil h⟩
theorem a_cons (ha : DE G X e te we) (hr : DA G X es t w) (hs : starEach (e :: es) X.env = (false, eval e X.env) :: starEach es X.env := by rfl) : DA G X (e :: es) (tCons te t) (aCons we w) := ⟨pa_cons ha.1 hr.1 hs, by
  intro S C F H γ σ Q0 Q R en x h k
  refine ha.2 S C F H γ σ _ _ R en x h fun d C1 S1 H1 v e1 R1 r1 h1 => ?_
  exact hr.2 S1 C1 F H1 γ σ _ _ R1 (en.mono e1) (x.mono e1) h1 fun ds C2 S2 H2 vs e2 R2 r2 q2 => k _ _ _ _ _ (e1.trans e2) R2 (.cons (r1.mono e2) r2) q2⟩
theorem d_tup (m : Bool) {k : Nat} (h : DA G X es t w) : DE G X (.Tuple es k pos) (tTup t) (eTup m w) := ⟨pe_tup h.1, by
  intro S C F H γ σ Q0 Q R en x h0 k
  refine h.2 S C F H γ σ _ _ R en x h0 fun ds C1 S1 H1 vs e1 R1 r1 h1 => ?_
  exact ⟨by rw [← Paired.length r1]; exact h1.1, newT_ok R1 r1 h1.2 fun d C' S' H' v e2 => k d C' S' H' v (e1.trans e2)⟩⟩
theorem d_lst (m : Bool) (h : DA G X es t w) : DE G X (.List es pos) (tLst t) (eLst m w) := ⟨pe_lst h.1, by
  intro S C F H γ σ Q0 Q R en x h0 k
  refine h.2 S C F H γ σ _ _ R en x h0 fun ds C1 S1 H1 vs e1 R1 r1 h1 => ?_
  exact ⟨by rw [← Paired.length r1]; exact h1.1, newL_ok R1 r1 h1.2 fun d C' S' H' v e2 => k d C' S' H' v (e1.trans e2)⟩⟩
end

/-! ### subscripts -/
def opIx : O2 := fun x y C Q => match x, y with
  | .d (.list xs), .d (.int i) => match atI xs i with
    | some v => Q (.d v) C
    | none => False
  | .d (.tuple xs), .d (.int i) => match atI xs i with
    | some v => Q (.d v) C
    | none => False
  | .d (.str s), .d (.int i) => match atI s.cps.toList i with
    | some c => s.length ≤ sizeLine ∧ Q (.d (.str ⟨#[c]⟩)) C
    | none => False
  | .scr ns, .d (.int i) => match atI ns i with
    | some v => Q (.d (.int v)) C
    | none => False
  | .own a, .d (.int i) => match C a with
    | some (.lst ws) => match atI ws i with
      | some w => Q w C
      | none => False
    | some (.tup ws) => match atI ws i with
      | some w => Q w C
      | none => False
    | _ => False
  | _, _ => False
theorem rws_atI {K : PySem.W.Frag} {S : Hp} {ws : List W} {vs : List V} {i : Int} {w : W} (h : Rws K S ws vs) (e : atI ws i = some w) : ∃ v, atI vs i = some v ∧ Rw K S w v := by
  unfold atI at e ⊢
  rw [← Paired.length h]
  cases q : ixN ws.length i with
  | none => rw [q] at e; cases e
  | some j =>
    rw [q] at e
    obtain ⟨v, h1, h2⟩ := Rws.get (i := j) h e
    exact ⟨v, h1, h2⟩
theorem atI_map {α β : Type} (f : α → β) (xs : List α) (i : Int) : atI (xs.map f) i = (atI xs i).map f := by
  unfold atI
  rw [List.length_map]
  cases ixN xs.length i with
  | none => rfl
  | some j => show (xs.map f)[j]? = (xs[j]?).map f; rw [List.getElem?_map]
section
variable {K : PySem.W.Frag} {G : Sit} {X : Cx} {a b : Expr} {ta tb : TE} {wa wb : TEd} {pos : Pos}
theorem ref_ix : RefR2 K G (rIx K) opIx := by
  intro S C F H d e x y Q0 Q R r1 r2 h k
  unfold opIx at h
  split at h
  · split at h
    · rename_i xs i _ v e0
      cases r1 with | d r1 => cases r2 with | d r2 =>
        cases r2
        cases r1 with | lst q s =>
          obtain ⟨u, h1, h2⟩ := rws_atI s.ws (by rw [atI_map, e0]; rfl)
          exact .inl ⟨_, _, i, u, rfl, rfl, SqL.of (R.s _ _ q), h1, k _ C S H _ (Same.refl S) R h2 h⟩
    · exact h.elim
  · split at h
    · rename_i xs i _ v e0
      cases r1 with | d r1 => cases r2 with | d r2 =>
        cases r2
        cases r1 with | tup q s =>
          obtain ⟨u, h1, h2⟩ := rws_atI s.ws (by rw [atI_map, e0]; rfl)
          exact .inr (.inl ⟨_, _, i, u, rfl, rfl, Ext.sqt R.s q, h1, k _ C S H _ (Same.refl S) R h2 h⟩)
    · exact h.elim
  · split at h
    · rename_i z i _ c e0
      cases r1 with | d r1 => cases r2 with | d r2 =>
        cases r1; cases r2
        exact .inr (.inr ⟨z, i, c, rfl, rfl, h.1, e0, k _ C S H _ (Same.refl S) R (.d (.str _)) h.2⟩)
    · exact h.elim
  · split at h
    · rename_i ns i _ v e0
      cases r2 with | d r2 =>
        cases r2
        cases r1 with | scr q =>
          exact .inl ⟨_, _, i, .int v, rfl, rfl, Same.seq R.s q, by rw [atI_map, e0]; rfl, k _ C S H _ (Same.refl S) R (.d (.int _)) h⟩
    · exact h.elim
  · rename_i p i
    cases r2 with | d r2 =>
      cases r2
      cases r1
      split at h
      · rename_i ws e2
        obtain ⟨_, _, o, e3, vs, rfl, q⟩ := R.cell e2 trivial
        split at h
        · rename_i w e0
          obtain ⟨u, h1, h2⟩ := rws_atI q e0
          exact .inl ⟨_, _, i, u, rfl, rfl, SqL.of e3, h1, k _ C S H _ (Same.refl S) R h2 h⟩
        · exact h.elim
      · rename_i ws e2
        obtain ⟨_, _, o, e3, vs, rfl, q⟩ := R.cell e2 trivial
        split at h
        · rename_i w e0
          obtain ⟨u, h1, h2⟩ := rws_atI q e0
          exact .inr (.inl ⟨_, _, i, u, rfl, rfl, SqT.of e3, h1, k _ C S H _ (Same.refl S) R h2 h⟩)
        · exact h.elim
      · exact h.elim
  · exact h.elim
theorem d_ix (ha : DE G X a ta wa) (hb : DE G X b tb wb) (hs : PlainIx b := by exact fun _ _ => rfl) : DE G X (.Subscript a b pos) (tOp (rIx X.K) ta tb) (eOp opIx wa wb) := ⟨pe_ix ix_seq ha.1 hb.1 hs, ref_op ref_ix ha.2 hb.2⟩
end
end Dl

set_option Elab.async false
set_option linter.all false
set_option maxRecDepth 100000
set_option maxHeartbeats 1000000
/-! The data layer, part 5: slices, built-in functions by name. -/
namespace Dl
open PySem L2

/-! ### slices -/
abbrev TOd := En → Cm → (Option Int → Cm → Prop) → Prop
def RefO (K : PySem.W.Frag) (G : Sit) (t : TO) (w : TOd) : Prop := ∀ (S : Hp) (C : Cm) (F H : Hp) (γ : En) (σ : L2.St) (Q0 : Option Int → Cm → Prop) (Q : Option Int → Hp → Prop), Rel K G.T S C F H → EnR K S γ σ → ExOk K G S F → w γ C Q0 →
  (∀ b C' S' H', Ext S S' → Rel K G.T S' C' F H' → Q0 b C' → Q b H') → t σ H Q
def DO (G : Sit) (X : Cx) (e : Option Expr) (t : TO) (w : TOd) : Prop := PO X e t ∧ RefO X.K G t w
def oNone : TOd := fun _ C Q => Q none C
def oSome (a : TEd) : TOd := fun γ C Q => a γ C fun x C1 => match x with
  | .d (.int i) => Q (some i) C1
  | _ => False
/-- the cut of a list -/
def cut {α : Type} (xs : List α) (lo hi : Option Int) : List α := (xs.drop (HT.sIx xs.length 0 lo)).take (HT.sIx xs.length xs.length hi - HT.sIx xs.length 0 lo)
theorem cut_map {α β : Type} (f : α → β) (xs : List α) (lo hi : Option Int) : cut (xs.map f) lo hi = (cut xs lo hi).map f := by
  unfold cut; rw [List.length_map, List.map_take, List.map_drop]
theorem cut_to {α : Type} {xs : List α} {n : Int} (h0 : 0 ≤ n) : cut xs none (some n) = xs.take n.toNat := by
  unfold cut
  show (xs.drop 0).take ((if n < 0 then (n + (xs.length : Int)).toNat else min n.toNat xs.length) - 0) = _
  rw [if_neg (by omega), List.drop_zero, Nat.sub_zero]
  by_cases h : n.toNat ≤ xs.length
  · rw [Nat.min_eq_left h]
  · rw [Nat.min_eq_right (by omega), List.take_of_length_le (Nat.le_refl _), List.take_of_length_le (by omega)]
theorem cut_from {α : Type} {xs : List α} {n : Int} (h0 : 0 ≤ n) : cut xs (some n) none = xs.drop n.toNat := by
  unfold cut
  show (xs.drop (if n < 0 then (n + (xs.length : Int)).toNat else min n.toNat xs.length)).take (xs.length - (if n < 0 then (n + (xs.length : Int)).toNat else min n.toNat xs.length)) = _
  rw [if_neg (by omega)]
  by_cases h : n.toNat ≤ xs.length
  · rw [Nat.min_eq_left h, List.take_of_length_le (by rw [List.length_drop]; omega)]
  · rw [Nat.min_eq_right (by omega), List.drop_of_length_le (Nat.le_refl _), List.drop_of_length_le (by omega), List.take_nil]
theorem cut_mid {α : Type} {xs : List α} {a b : Int} (h0 : 0 ≤ a) (h1 : 0 ≤ b) : cut xs (some a) (some b) = (xs.take b.toNat).drop a.toNat := by
  unfold cut
  show (xs.drop (if a < 0 then (a + (xs.length : Int)).toNat else min a.toNat xs.length)).take ((if b < 0 then (b + (xs.length : Int)).toNat else min b.toNat xs.length) - (if a < 0 then (a + (xs.length : Int)).toNat else min a.toNat xs.length)) = _
  rw [if_neg (by omega), if_neg (by omega)]
  rw [List.drop_take]
  by_cases ha : a.toNat ≤ xs.length
  · rw [Nat.min_eq_left ha]
    by_cases hb : b.toNat ≤ xs.length
    · rw [Nat.min_eq_left hb]
    · rw [Nat.min_eq_right (by omega), List.take_of_length_le (by rw [List.length_drop]; omega), List.take_of_length_le (by rw [List.length_drop]; omega)]
  · rw [Nat.min_eq_right (by omega : xs.length ≤ a.toNat), List.drop_of_length_le (Nat.le_refl _), List.drop_of_length_le (by omega), List.take_nil, List.take_nil]
theorem rws_cut {K : PySem.W.Frag} {S : Hp} {ws : List W} {vs : List V} (h : Rws K S ws vs) (lo hi : Option Int) : Rws K S (cut ws lo hi) (cutV vs lo hi) := by
  have d : ∀ (n : Nat) {ws : List W} {vs : List V}, Rws K S ws vs → Rws K S (ws.drop n) (vs.drop n) := by
    intro n
    induction n with
    | zero => intro ws vs h; exact h
    | succ n ih => intro ws vs h; cases h with | nil => exact .nil | cons a b => exact ih b
  have t : ∀ (n : Nat) {ws : List W} {vs : List V}, Rws K S ws vs → Rws K S (ws.take n) (vs.take n) := by
    intro n
    induction n with
    | zero => intro ws vs h; exact .nil
    | succ n ih => intro ws vs h; cases h with | nil => exact .nil | cons a b => exact .cons a (ih b)
  unfold cut cutV
  rw [Paired.length h]
  exact t _ (d _ h)
def opSl (m : Bool) : W → Option Int → Option Int → Cm → WK → Prop := fun x lo hi C Q => match x with
  | .d (.str s) => s.length ≤ sizeLine ∧ Q (.d (.str (cutS s lo hi))) C
  | .d (.tuple xs) => Q (.d (.tuple (cut xs lo hi))) C
  | .scr _ => False
  | x => match asL C x with
    | some ws => newL m (cut ws lo hi) C Q
    | none => False
theorem opSl_list {xs : List PyData} {lo hi : Option Int} {C : Cm} {Q : WK} : opSl false (.d (.list xs)) lo hi C Q = Q (.d (.list (cut xs lo hi))) C := by
  unfold opSl
  simp only [asL, cut_map, newL_d]
def eSl (m : Bool) (a : TEd) (lo hi : TOd) : TEd := fun γ C Q => a γ C fun x C1 => lo γ C1 fun l C2 => hi γ C2 fun u C3 => opSl m x l u C3 Q
def rSlD (K : PySem.W.Frag) : V → Option Int → Option Int → Hp → VK → Prop := fun x lo hi H Q => rSlS x lo hi H Q ∨ rSlA K x lo hi H Q ∨ rSlL K x lo hi H Q
theorem sl_D {X : Cx} : SlR X (rSlD X.K) := sl_str.or (sl_tupA.or sl_list)
section
variable {K : PySem.W.Frag} {G : Sit} {X : Cx} {e : Expr} {te : TE} {we : TEd} {lo hi : Option Expr} {tl th : TO} {wl wh : TOd} {pos p2 : Pos}
theorem o_none : DO G X none tNoPart oNone := ⟨po_none, fun S C F H γ σ Q0 Q R _ _ h k => k none C S H (Same.refl S) R h⟩
theorem o_some (h : DE G X e te we) : DO G X (some e) (tPart te) (oSome we) := ⟨po_some h.1, by
  intro S C F H γ σ Q0 Q R en x h0 k
  refine h.2 S C F H γ σ _ _ R en x h0 fun d C1 S1 H1 v e1 R1 r1 h1 => ?_
  split at h1
  · cases r1 with | d r1 => cases r1; exact ⟨_, rfl, k _ _ _ _ e1 R1 h1⟩
  · exact h1.elim⟩
theorem d_sl (m : Bool) (he : DE G X e te we) (hl : DO G X lo tl wl) (hh : DO G X hi th wh) : DE G X (.Subscript e (.Slice lo hi none p2) pos) (tSl (rSlD X.K) te tl th) (eSl m we wl wh) := ⟨pe_slice sl_D he.1 hl.1 hh.1, by
  intro S C F H γ σ Q0 Q R en x h0 k
  refine he.2 S C F H γ σ _ _ R en x h0 fun d C1 S1 H1 v e1 R1 r1 h1 => ?_
  refine hl.2 S1 C1 F H1 γ σ _ _ R1 (en.mono e1) (x.mono e1) h1 fun l C2 S2 H2 e2 R2 h2 => ?_
  have e12 := e1.trans e2
  refine hh.2 S2 C2 F H2 γ σ _ _ R2 (en.mono e12) (x.mono e12) h2 fun u C3 S3 H3 e3 R3 h3 => ?_
  have e13 := e12.trans e3
  have r3 := r1.mono (e2.trans e3)
  have kk : ∀ d C' S' H' v, Ext S3 S' → Rel X.K G.T S' C' F H' → Rw X.K S' d v → Q0 d C' → Q v H' := fun d C' S' H' v e4 => k d C' S' H' v (e13.trans e4)
  unfold opSl at h3
  split at h3
  · cases r3 with | d r3 => cases r3; exact .inl ⟨_, rfl, h3.1, kk _ _ _ _ _ (Same.refl _) R3 (.d (.str _)) h3.2⟩
  · rename_i xs
    cases r3 with | d r3 =>
      cases r3 with | tup q s =>
        rename_i a vs
        refine .inr (.inl ⟨a, vs, rfl, Ext.sqt R3.s q, fun hw => ?_, fun _ p hp => ?_⟩)
        · have hx : cut xs l u = xs := by
            unfold cut
            rw [s.length, hw.1, hw.2, List.drop_zero, Nat.sub_zero, List.take_of_length_le (by rw [s.length]; exact Nat.le_refl _)]
          rw [hx] at h3
          exact kk _ _ _ _ _ (Same.refl _) R3 (.d (.tup q s)) h3
        · have xx := ext_new (o := .tup (cutV vs l u)) (R3.freeS hp)
          exact kk _ _ _ _ _ xx (R3.newS hp) (.d (.tup (SqT.of upd_same) ((Rps.of_ws (by rw [← cut_map]; exact rws_cut s.ws l u)).mono xx))) h3
  · exact h3.elim
  · split at h3
    · rename_i ws e0
      obtain ⟨a, vs, rfl, l1, s1⟩ := asL_ok' R3 r3 e0 (fun ns e0 => ‹∀ ns : List Int, d = W.scr ns → False› ns e0)
      exact .inr (.inr ⟨a, vs, rfl, SqL.of l1, newL_ok R3 (rws_cut s1 l u) h3 kk⟩)
    · exact h3.elim⟩
end

/-! ### built-in functions -/
abbrev OC := List W → Cm → WK → Prop
def RefC (K : PySem.W.Frag) (G : Sit) (r : List V → Hp → VK → Prop) (w : OC) : Prop := ∀ (S : Hp) (C : Cm) (F H : Hp) (ds : List W) (vs : List V) (Q0 : WK) (Q : VK), Rel K G.T S C F H → Rws K S ds vs → w ds C Q0 →
  (∀ d' C' S' H' v, Ext S S' → Rel K G.T S' C' F H' → Rw K S' d' v → Q0 d' C' → Q v H') → r vs H Q
def eCB (w : OC) (as : TAd) : TEd := fun γ C Q => as γ C fun ds C1 => w ds C1 Q
theorem CallR.or {X : Cx} {f : Value} {r r' : List V → Hp → VK → Prop} (h : CallR X f r) (h' : CallR X f r') : CallR X f (fun xs H Q => r xs H Q ∨ r' xs H Q) := by
  intro pins s σ H xs us Q I rr q
  rcases q with q | q
  · exact h pins s σ H xs us Q I rr q
  · exact h' pins s σ H xs us Q I rr q
section
variable {K : PySem.W.Frag} {G : Sit} {X : Cx} {e : Expr} {es : List Expr} {x : Str} {p pos : Pos} {id T : String} {t : TA} {w : TAd} {r : List V → Hp → VK → Prop} {wc : OC}
theorem ref_cb (hr : RefC K G r wc) (ha : RefA K G t w) : RefE K G (tCB r t) (eCB wc w) := by
  intro S C F H γ σ Q0 Q R en x h k
  refine ha S C F H γ σ _ _ R en x h fun ds C1 S1 H1 vs e1 R1 r1 h1 => ?_
  exact hr S1 C1 F H1 ds vs _ _ R1 r1 h1 fun d' C' S' H' v e2 => k d' C' S' H' v (e1.trans e2)
/-- a built-in function, a built-in class by its name -/
theorem d_callB (hc : CallR X (.builtin id) r) (hw : RefC X.K G r wc) (hm : X.mg x = none) (ha : DA G X (e :: es) t w) (hv : bootBuiltins x = some (.builtin id) := by decide +kernel) (hg : Gl X x := by rfl) (hn : x ≠ "__name__" := by decide) (hdb : (x == ("__debug__" : Str)) = false := by decide)
    (he : starEach (e :: es) X.env = (false, eval e X.env) :: starEach es X.env := by rfl) (hpl : (backTo pos (starEach es X.env)).any (·.1) = false := by rfl) : DE G X (.Call (.Name x p) (e :: es) [] pos) (tCB r t) (eCB wc w) :=
  ⟨pe_callB hc hg hm hv ha.1 hn hdb he hpl, ref_cb hw ha.2⟩
theorem d_callT (hc : CallR X (.type T) r) (hw : RefC X.K G r wc) (hm : X.mg x = none) (ha : DA G X (e :: es) t w) (hv : bootBuiltins x = some (.type T) := by decide +kernel) (hg : Gl X x := by rfl) (hn : x ≠ "__name__" := by decide) (hdb : (x == ("__debug__" : Str)) = false := by decide)
    (he : starEach (e :: es) X.env = (false, eval e X.env) :: starEach es X.env := by rfl) (hpl : (backTo pos (starEach es X.env)).any (·.1) = false := by rfl) : DE G X (.Call (.Name x p) (e :: es) [] pos) (tCB r t) (eCB wc w) :=
  ⟨pe_callTy hc hg hm hv ha.1 hn hdb he hpl, ref_cb hw ha.2⟩
/-- a built-in class as a value -/
theorem d_ty {x : Str} (T : String) (hm : X.mg x = none) (hv : bootBuiltins x = some (.type T) := by decide +kernel) (hg : Gl X x := by rfl) (hn : x ≠ "__name__" := by decide) (hd : (x == ("__debug__" : Str)) = false := by decide) : DE G X (.Name x pos) (tC (.ty T)) (eC (.ty T)) :=
  ⟨pe_bltn hg hm hv rfl hn hd, ref_c fun _ => .ty T⟩

/-- len -/
def opLen : OC := fun ds C Q => match ds with
  | [.d (.list xs)] => Q (.d (.int xs.length)) C
  | [.d (.tuple xs)] => Q (.d (.int xs.length)) C
  | [.d (.str s)] => s.length ≤ sizeLine ∧ Q (.d (.int s.length)) C
  | [.scr ns] => Q (.d (.int ns.length)) C
  | [.own a] => match C a with
    | some (.lst ws) => Q (.d (.int ws.length)) C
    | some (.tup ws) => Q (.d (.int ws.length)) C
    | _ => False
  | _ => False
def rLen (K : PySem.W.Frag) : List V → Hp → VK → Prop := fun xs H Q => (∃ p ys, xs = [.ref p] ∧ (SqL K H p ys ∨ SqT K H p ys) ∧ Q (.int ys.length) H) ∨ ∃ z, xs = [.str z] ∧ z.length ≤ sizeLine ∧ Q (.int z.length) H
theorem c_len : CallR X (.builtin "len") (rLen X.K) := call_len_seq.or call_len_str
theorem one_ws {S : Hp} {d : W} {vs : List V} (h : Rws K S [d] vs) : ∃ v, vs = [v] ∧ Rw K S d v := by
  cases h with | cons a b => cases b; exact ⟨_, rfl, a⟩
theorem ref_len : RefC K G (rLen K) opLen := by
  intro S C F H ds vs Q0 Q R rv h k
  have go : ∀ n : Nat, Q0 (.d (.int n)) C → Q (.int n) H := fun n q => k _ C S H _ (Same.refl S) R (.d (.int _)) q
  unfold opLen at h
  split at h
  · obtain ⟨v, rfl, r⟩ := one_ws rv
    cases r with | d r => cases r with | lst q s => exact .inl ⟨_, _, rfl, .inl (SqL.of (R.s _ _ q)), by rw [← s.length]; exact go _ h⟩
  · obtain ⟨v, rfl, r⟩ := one_ws rv
    cases r with | d r => cases r with | tup q s => exact .inl ⟨_, _, rfl, .inr (Ext.sqt R.s q), by rw [← s.length]; exact go _ h⟩
  · obtain ⟨v, rfl, r⟩ := one_ws rv
    cases r with | d r => cases r; exact .inr ⟨_, rfl, h.1, go _ h.2⟩
  · obtain ⟨v, rfl, r⟩ := one_ws rv
    cases r with | scr q => exact .inl ⟨_, _, rfl, .inl (Same.seq R.s q), by rw [List.length_map]; exact go _ h⟩
  · obtain ⟨v, rfl, r⟩ := one_ws rv
    cases r
    split at h
    · rename_i ws e2
      obtain ⟨_, _, o, e3, vs, rfl, q⟩ := R.cell e2 trivial
      exact .inl ⟨_, _, rfl, .inl (SqL.of e3), by rw [← Paired.length q]; exact go _ h⟩
    · rename_i ws e2
      obtain ⟨_, _, o, e3, vs, rfl, q⟩ := R.cell e2 trivial
      exact .inl ⟨_, _, rfl, .inr (SqT.of e3), by rw [← Paired.length q]; exact go _ h⟩
    · exact h.elim
  · exact h.elim
theorem d_len (hm : X.mg "len" = none) (ha : DA G X (e :: es) t w) (hg : Gl X "len" := by rfl) (he : starEach (e :: es) X.env = (false, eval e X.env) :: starEach es X.env := by rfl) (hpl : (backTo pos (starEach es X.env)).any (·.1) = false := by rfl) :
    DE G X (.Call (.Name "len" p) (e :: es) [] pos) (tCB (rLen X.K) t) (eCB opLen w) := d_callB c_len ref_len hm ha (hv := PySem.boot_len) (hg := hg) (he := he) (hpl := hpl)

/-- list(xs), tuple(xs) -/
def asS (C : Cm) (w : W) : Option (List W) := match asL C w with
  | some ws => some ws
  | none => asT C w
theorem asS_ok {S F H : Hp} {T : Addr → Prop} {C : Cm} {d : W} {v : V} {ws : List W} (R : Rel K T S C F H) (rv : Rw K S d v) (h : asS C d = some ws) : ∃ a vs, v = .ref a ∧ (SqL K H a vs ∨ SqT K H a vs) ∧ Rws K S ws vs := by
  unfold asS at h
  split at h
  · rename_i us e
    cases h
    obtain ⟨a, vs, e1, q, s⟩ := asL_ok R rv e
    exact ⟨a, vs, e1, .inl q, s⟩
  · obtain ⟨a, vs, e1, q, s⟩ := asT_ok R rv h
    exact ⟨a, vs, e1, .inr q, s⟩
def opList (m : Bool) : OC := fun ds C Q => match ds with
  | [w] => match asS C w with
    | some ws => newL m ws C Q
    | none => False
  | _ => False
theorem opList_list {xs : List PyData} {C : Cm} {Q : WK} : opList false [.d (.list xs)] C Q = Q (.d (.list xs)) C := by
  unfold opList; simp only [asS, asL, newL_d]
theorem ref_list {m : Bool} : RefC K G (fun xs H Q => ∃ p ys, xs = [.ref p] ∧ (SqL K H p ys ∨ SqT K H p ys) ∧ ∀ l, H l = none → Q (.ref l) (upd H l (.lst ys))) (opList m) := by
  intro S C F H ds vs Q0 Q R rv h k
  unfold opList at h
  split at h
  · obtain ⟨v, rfl, r⟩ := one_ws rv
    split at h
    · rename_i ws e0
      obtain ⟨a, vs, rfl, q, s⟩ := asS_ok R r e0
      exact ⟨a, vs, rfl, q, newL_ok R s h k⟩
    · exact h.elim
  · exact h.elim
theorem d_list (m : Bool) (hm : X.mg "list" = none) (ha : DA G X (e :: es) t w) (hg : Gl X "list" := by rfl) (he : starEach (e :: es) X.env = (false, eval e X.env) :: starEach es X.env := by rfl) (hpl : (backTo pos (starEach es X.env)).any (·.1) = false := by rfl) :
    DE G X (.Call (.Name "list" p) (e :: es) [] pos) (tCB (fun xs H Q => ∃ p ys, xs = [.ref p] ∧ (SqL X.K H p ys ∨ SqT X.K H p ys) ∧ ∀ l, H l = none → Q (.ref l) (upd H l (.lst ys))) t) (eCB (opList m) w) := d_callT call_list_of ref_list hm ha (hg := hg) (he := he) (hpl := hpl)
def opTuple (m : Bool) : OC := fun ds C Q => match ds with
  | [w] => match asL C w with
    | some ws => newT m ws C Q
    | none => match asT C w with
      | some _ => Q w C
      | none => False
  | _ => False
theorem opTuple_list {xs : List PyData} {C : Cm} {Q : WK} : opTuple false [.d (.list xs)] C Q = Q (.d (.tuple xs)) C := by
  unfold opTuple; simp only [asL, newT_d]
theorem ref_tuple {m : Bool} : RefC K G (fun xs H Q => ∃ p ys, xs = [.ref p] ∧ ((SqL K H p ys ∧ ∀ l, H l = none → Q (.ref l) (upd H l (.tup ys))) ∨ (SqT K H p ys ∧ Q (.ref p) H))) (opTuple m) := by
  intro S C F H ds vs Q0 Q R rv h k
  unfold opTuple at h
  split at h
  · obtain ⟨v, rfl, r⟩ := one_ws rv
    split at h
    · rename_i ws e0
      obtain ⟨a, vs, rfl, q, s⟩ := asL_ok R r e0
      exact ⟨a, vs, rfl, .inl ⟨q, newT_ok R s h k⟩⟩
    · split at h
      · rename_i ws e0
        obtain ⟨a, vs, rfl, q, s⟩ := asT_ok R r e0
        exact ⟨a, vs, rfl, .inr ⟨q, k _ C S H _ (Same.refl S) R r h⟩⟩
      · exact h.elim
  · exact h.elim
theorem d_tuple (m : Bool) (hm : X.mg "tuple" = none) (ha : DA G X (e :: es) t w) (hg : Gl X "tuple" := by rfl) (he : starEach (e :: es) X.env = (false, eval e X.env) :: starEach es X.env := by rfl) (hpl : (backTo pos (starEach es X.env)).any (·.1) = false := by rfl) :
    DE G X (.Call (.Name "tuple" p) (e :: es) [] pos) (tCB (fun xs H Q => ∃ p ys, xs = [.ref p] ∧ ((SqL X.K H p ys ∧ ∀ l, H l = none → Q (.ref l) (upd H l (.tup ys))) ∨ (SqT X.K H p ys ∧ Q (.ref p) H))) t) (eCB (opTuple m) w) := d_callT call_tuple_of ref_tuple hm ha (hg := hg) (he := he) (hpl := hpl)

/-- int of an int, of a truth value -/
def opInt : OC := fun ds C Q => match ds with
  | [.d (.int i)] => Q (.d (.int i)) C
  | [.d (.bool b)] => Q (.d (.int (if b then 1 else 0))) C
  | _ => False
theorem ref_int : RefC K G (fun xs H Q => (∃ i, xs = [.int i] ∧ Q (.int i) H) ∨ ∃ k, xs = [.bl k] ∧ Q (.int (if k then 1 else 0)) H) opInt := by
  intro S C F H ds vs Q0 Q R rv h k
  unfold opInt at h
  split at h
  · obtain ⟨v, rfl, r⟩ := one_ws rv
    cases r with | d r => cases r; exact .inl ⟨_, rfl, k _ C S H _ (Same.refl S) R (.d (.int _)) h⟩
  · obtain ⟨v, rfl, r⟩ := one_ws rv
    cases r with | d r => cases r; exact .inr ⟨_, rfl, k _ C S H _ (Same.refl S) R (.d (.int _)) h⟩
  · exact h.elim
theorem d_intc (hm : X.mg "int" = none) (ha : DA G X (e :: es) t w) (hg : Gl X "int" := by rfl) (he : starEach (e :: es) X.env = (false, eval e X.env) :: starEach es X.env := by rfl) (hpl : (backTo pos (starEach es X.env)).any (·.1) = false := by rfl) :
    DE G X (.Call (.Name "int" p) (e :: es) [] pos) (tCB (fun xs H Q => (∃ i, xs = [.int i] ∧ Q (.int i) H) ∨ ∃ k, xs = [.bl k] ∧ Q (.int (if k then 1 else 0)) H) t) (eCB opInt w) := d_callT call_int1 ref_int hm ha (hg := hg) (he := he) (hpl := hpl)

/-- all items are ints, bools -/
def asIs : List W → Option (List Int)
  | [] => some []
  | .d (.int i) :: ws => (asIs ws).map (i :: ·)
  | _ :: _ => none
def asBs : List W → Option (List Bool)
  | [] => some []
  | .d (.bool i) :: ws => (asBs ws).map (i :: ·)
  | _ :: _ => none
theorem asIs_map {α : Type} (f : α → Int) (ns : List α) : asIs (ns.map fun n => W.d (.int (f n))) = some (ns.map f) := by
  induction ns with
  | nil => rfl
  | cons n ns ih => show (asIs _).map _ = _; rw [ih]; rfl
theorem asBs_map {α : Type} (f : α → Bool) (ns : List α) : asBs (ns.map fun n => W.d (.bool (f n))) = some (ns.map f) := by
  induction ns with
  | nil => rfl
  | cons n ns ih => show (asBs _).map _ = _; rw [ih]; rfl
theorem asIs_ok {S : Hp} : ∀ {ws : List W} {ns : List Int} {vs : List V}, asIs ws = some ns → Rws K S ws vs → vs = ns.map V.int
  | [], ns, vs, h, r => by cases h; cases r; rfl
  | .d (.int i) :: ws, ns, vs, h, r => by
    simp only [asIs] at h
    cases e : asIs ws with
    | none => rw [e] at h; cases h
    | some ms =>
      rw [e] at h; cases h
      cases r with | cons a b => cases a with | d a => cases a; rw [asIs_ok e b]; rfl
  | .d .none :: _, _, _, h, _ => by simp only [asIs] at h; cases h
  | .d (.bool _) :: _, _, _, h, _ => by simp only [asIs] at h; cases h
  | .d (.str _) :: _, _, _, h, _ => by simp only [asIs] at h; cases h
  | .d (.list _) :: _, _, _, h, _ => by simp only [asIs] at h; cases h
  | .d (.tuple _) :: _, _, _, h, _ => by simp only [asIs] at h; cases h
  | .d (.dict _) :: _, _, _, h, _ => by simp only [asIs] at h; cases h
  | .own _ :: _, _, _, h, _ => by simp only [asIs] at h; cases h
  | .scr _ :: _, _, _, h, _ => by simp only [asIs] at h; cases h
  | .ty _ :: _, _, _, h, _ => by simp only [asIs] at h; cases h
theorem asBs_ok {S : Hp} : ∀ {ws : List W} {ns : List Bool} {vs : List V}, asBs ws = some ns → Rws K S ws vs → vs = ns.map V.bl
  | [], ns, vs, h, r => by cases h; cases r; rfl
  | .d (.bool i) :: ws, ns, vs, h, r => by
    simp only [asBs] at h
    cases e : asBs ws with
    | none => rw [e] at h; cases h
    | some ms =>
      rw [e] at h; cases h
      cases r with | cons a b => cases a with | d a => cases a; rw [asBs_ok e b]; rfl
  | .d .none :: _, _, _, h, _ => by simp only [asBs] at h; cases h
  | .d (.int _) :: _, _, _, h, _ => by simp only [asBs] at h; cases h
  | .d (.str _) :: _, _, _, h, _ => by simp only [asBs] at h; cases h
  | .d (.list _) :: _, _, _, h, _ => by simp only [asBs] at h; cases h
  | .d (.tuple _) :: _, _, _, h, _ => by simp only [asBs] at h; cases h
  | .d (.dict _) :: _, _, _, h, _ => by simp only [asBs] at h; cases h
  | .own _ :: _, _, _, h, _ => by simp only [asBs] at h; cases h
  | .scr _ :: _, _, _, h, _ => by simp only [asBs] at h; cases h
  | .ty _ :: _, _, _, h, _ => by simp only [asBs] at h; cases h
/-- sum, any, all of a list -/
def opSum : OC := fun ds C Q => match ds with
  | [w] => match (asL C w).bind asIs with
    | some ns => Q (.d (.int ns.sum)) C
    | none => False
  | _ => False
def opAny : OC := fun ds C Q => match ds with
  | [w] => match (asL C w).bind asBs with
    | some bs => Q (.d (.bool (bs.any fun b => b))) C
    | none => False
  | _ => False
def opAll : OC := fun ds C Q => match ds with
  | [w] => match (asL C w).bind asBs with
    | some bs => Q (.d (.bool (bs.all fun b => b))) C
    | none => False
  | _ => False
theorem ref_sum : RefC K G (rSum K) opSum := by
  intro S C F H ds vs Q0 Q R rv h k
  unfold opSum at h
  split at h
  · obtain ⟨v, rfl, r⟩ := one_ws rv
    split at h
    · rename_i d _ ns e0
      cases e1 : asL C d with
      | none => rw [e1] at e0; cases e0
      | some ws =>
        rw [e1] at e0
        obtain ⟨a, vs, rfl, q, s⟩ := asL_ok R r e1
        exact ⟨a, ns, rfl, by rw [← asIs_ok e0 s]; exact q, k _ C S H _ (Same.refl S) R (.d (.int _)) h⟩
    · exact h.elim
  · exact h.elim
theorem ref_any : RefC K G (rAny K) opAny := by
  intro S C F H ds vs Q0 Q R rv h k
  unfold opAny at h
  split at h
  · obtain ⟨v, rfl, r⟩ := one_ws rv
    split at h
    · rename_i d _ ns e0
      cases e1 : asL C d with
      | none => rw [e1] at e0; cases e0
      | some ws =>
        rw [e1] at e0
        obtain ⟨a, vs, rfl, q, s⟩ := asL_ok R r e1
        exact ⟨a, ns, rfl, by rw [← asBs_ok e0 s]; exact q, k _ C S H _ (Same.refl S) R (.d (.bl _)) h⟩
    · exact h.elim
  · exact h.elim
theorem ref_all : RefC K G (rAll K) opAll := by
  intro S C F H ds vs Q0 Q R rv h k
  unfold opAll at h
  split at h
  · obtain ⟨v, rfl, r⟩ := one_ws rv
    split at h
    · rename_i d _ ns e0
      cases e1 : asL C d with
      | none => rw [e1] at e0; cases e0
      | some ws =>
        rw [e1] at e0
        obtain ⟨a, vs, rfl, q, s⟩ := asL_ok R r e1
        exact ⟨a, ns, rfl, by rw [← asBs_ok e0 s]; exact q, k _ C S H _ (Same.refl S) R (.d (.bl _)) h⟩
    · exact h.elim
  · exact h.elim
theorem d_sum (hc : X.calm = true) (hm : X.mg "sum" = none) (ha : DA G X (e :: es) t w) (hg : Gl X "sum" := by rfl) (he : starEach (e :: es) X.env = (false, eval e X.env) :: starEach es X.env := by rfl) (hpl : (backTo pos (starEach es X.env)).any (·.1) = false := by rfl) :
    DE G X (.Call (.Name "sum" p) (e :: es) [] pos) (tCB (rSum X.K) t) (eCB opSum w) := d_callB (cr_sum hc) ref_sum hm ha (hg := hg) (he := he) (hpl := hpl)
theorem d_any (hc : X.calm = true) (hm : X.mg "any" = none) (ha : DA G X (e :: es) t w) (hg : Gl X "any" := by rfl) (he : starEach (e :: es) X.env = (false, eval e X.env) :: starEach es X.env := by rfl) (hpl : (backTo pos (starEach es X.env)).any (·.1) = false := by rfl) :
    DE G X (.Call (.Name "any" p) (e :: es) [] pos) (tCB (rAny X.K) t) (eCB opAny w) := d_callB (cr_any hc) ref_any hm ha (hg := hg) (he := he) (hpl := hpl)
theorem d_all (hc : X.calm = true) (hm : X.mg "all" = none) (ha : DA G X (e :: es) t w) (hg : Gl X "all" := by rfl) (he : starEach (e :: es) X.env = (false, eval e X.env) :: starEach es X.env := by rfl) (hpl : (backTo pos (starEach es X.env)).any (·.1) = false := by rfl) :
    DE G X (.Call (.Name "all" p) (e :: es) [] pos) (tCB (rAll X.K) t) (eCB opAll w) := d_callB (cr_all hc) ref_all hm ha (hg := hg) (he := he) (hpl := hpl)
/-- min, max of two ints, or of a list of ints -/
def opMin : OC := fun ds C Q => match ds with
  | [.d (.int i), .d (.int j)] => Q (.d (.int (if j < i then j else i))) C
  | [w] => match (asL C w).bind asIs with
    | some ns => 0 < ns.length ∧ ∀ m, m ∈ ns → (∀ y, y ∈ ns → m ≤ y) → Q (.d (.int m)) C
    | none => False
  | _ => False
def opMax : OC := fun ds C Q => match ds with
  | [.d (.int i), .d (.int j)] => Q (.d (.int (if j > i then j else i))) C
  | [w] => match (asL C w).bind asIs with
    | some ns => 0 < ns.length ∧ ∀ m, m ∈ ns → (∀ y, y ∈ ns → y ≤ m) → Q (.d (.int m)) C
    | none => False
  | _ => False
theorem ref_min : RefC K G (fun xs H Q => (∃ i j, xs = [.int i, .int j] ∧ Q (.int (if j < i then j else i)) H) ∨ rMin K xs H Q) opMin := by
  intro S C F H ds vs Q0 Q R rv h k
  unfold opMin at h
  split at h
  · cases rv with | cons r1 rv => cases rv with | cons r2 rv =>
      cases rv
      cases r1 with | d r1 => cases r2 with | d r2 =>
        cases r1; cases r2
        exact .inl ⟨_, _, rfl, k _ C S H _ (Same.refl S) R (.d (.int _)) h⟩
  · obtain ⟨v, rfl, r⟩ := one_ws rv
    split at h
    · rename_i d _ ns e0
      cases e1 : asL C d with
      | none => rw [e1] at e0; cases e0
      | some ws =>
        rw [e1] at e0
        obtain ⟨a, vs, rfl, q, s⟩ := asL_ok R r e1
        exact .inr ⟨a, ns, rfl, by rw [← asIs_ok e0 s]; exact q, h.1, fun m h1 h2 => k _ C S H _ (Same.refl S) R (.d (.int _)) (h.2 m h1 h2)⟩
    · exact h.elim
  · exact h.elim
theorem ref_max : RefC K G (fun xs H Q => (∃ i j, xs = [.int i, .int j] ∧ Q (.int (if j > i then j else i)) H) ∨ rMax K xs H Q) opMax := by
  intro S C F H ds vs Q0 Q R rv h k
  unfold opMax at h
  split at h
  · cases rv with | cons r1 rv => cases rv with | cons r2 rv =>
      cases rv
      cases r1 with | d r1 => cases r2 with | d r2 =>
        cases r1; cases r2
        exact .inl ⟨_, _, rfl, k _ C S H _ (Same.refl S) R (.d (.int _)) h⟩
  · obtain ⟨v, rfl, r⟩ := one_ws rv
    split at h
    · rename_i d _ ns e0
      cases e1 : asL C d with
      | none => rw [e1] at e0; cases e0
      | some ws =>
        rw [e1] at e0
        obtain ⟨a, vs, rfl, q, s⟩ := asL_ok R r e1
        exact .inr ⟨a, ns, rfl, by rw [← asIs_ok e0 s]; exact q, h.1, fun m h1 h2 => k _ C S H _ (Same.refl S) R (.d (.int _)) (h.2 m h1 h2)⟩
    · exact h.elim
  · exact h.elim
theorem d_min (hc : X.calm = true) (hm : X.mg "min" = none) (ha : DA G X (e :: es) t w) (hg : Gl X "min" := by rfl) (he : starEach (e :: es) X.env = (false, eval e X.env) :: starEach es X.env := by rfl) (hpl : (backTo pos (starEach es X.env)).any (·.1) = false := by rfl) :
    DE G X (.Call (.Name "min" p) (e :: es) [] pos) (tCB (fun xs H Q => (∃ i j, xs = [.int i, .int j] ∧ Q (.int (if j < i then j else i)) H) ∨ rMin X.K xs H Q) t) (eCB opMin w) := d_callB ((call_min2 hc).or (cr_min hc)) ref_min hm ha (hg := hg) (he := he) (hpl := hpl)
theorem d_max (hc : X.calm = true) (hm : X.mg "max" = none) (ha : DA G X (e :: es) t w) (hg : Gl X "max" := by rfl) (he : starEach (e :: es) X.env = (false, eval e X.env) :: starEach es X.env := by rfl) (hpl : (backTo pos (starEach es X.env)).any (·.1) = false := by rfl) :
    DE G X (.Call (.Name "max" p) (e :: es) [] pos) (tCB (fun xs H Q => (∃ i j, xs = [.int i, .int j] ∧ Q (.int (if j > i then j else i)) H) ∨ rMax X.K xs H Q) t) (eCB opMax w) := d_callB ((call_max2 hc).or (cr_max hc)) ref_max hm ha (hg := hg) (he := he) (hpl := hpl)
end
end Dl

set_option Elab.async false
set_option linter.all false
set_option maxRecDepth 100000
set_option maxHeartbeats 1000000
/-! The data layer, part 6: isinstance. -/
namespace Dl
open PySem L2
/-- the class's name of a value -/
def tyW (C : Cm) : W → Option String
  | .d .none => some "NoneType"
  | .d (.bool _) => some "bool"
  | .d (.int _) => some "int"
  | .d (.str _) => some "str"
  | .d (.list _) => some "list"
  | .d (.tuple _) => some "tuple"
  | .own a => match C a with
    | some (.lst _) => some "list"
    | some (.tup _) => some "tuple"
    | some (.dk _) => some "dict"
    | some (.dt _) => some "dict"
    | _ => none
  | _ => none
def isiAny (n : String) : List W → Option Bool
  | [] => some false
  | .ty T :: ws => match kitB n T, isiAny n ws with
    | some b, some c => some (b || c)
    | _, _ => none
  | _ :: _ => none
section
variable {K : PySem.W.Frag} {T : Addr → Prop} {S F H : Hp} {C : Cm} {G : Sit}
theorem sqt_ty {a : Addr} {xs : List V} (h : SqT K H a xs) : TyX K H (.ref a) (.type "tuple") := by
  rcases h with (h | ⟨o, h⟩) | h
  · exact .base (.tup h)
  · exact .fTuple h
  · obtain ⟨o, its, n, h1, h2, _⟩ := h
    exact .kTuple h1 h2
theorem tyW_ok (R : Rel K T S C F H) {w : W} {v : V} {n : String} (r : Rw K S w v) (h : tyW C w = some n) : TyX K H v (.type n) := by
  cases r with
  | d r =>
    cases r with
    | non => simp only [tyW] at h; cases h; exact .base .non
    | bl b => simp only [tyW] at h; cases h; exact .base (.bl b)
    | int i => simp only [tyW] at h; cases h; exact .base (.int i)
    | str x => simp only [tyW] at h; cases h; exact .base (.str x)
    | lst q s => simp only [tyW] at h; cases h; exact .base (.lst (R.s _ _ q))
    | tup q s => simp only [tyW] at h; cases h; exact sqt_ty (Ext.sqt R.s q)
  | own a =>
    simp only [tyW] at h
    split at h
    · rename_i ws e; obtain ⟨_, _, o, e2, vs, rfl, q⟩ := R.cell e trivial; cases h; exact .base (.lst e2)
    · rename_i ws e; obtain ⟨_, _, o, e2, vs, rfl, q⟩ := R.cell e trivial; cases h; exact .base (.tup e2)
    · rename_i ws e; obtain ⟨_, _, o, e2, vs, rfl, q⟩ := R.cell e trivial; cases h; exact .base (.dK e2)
    · rename_i ws e; obtain ⟨_, _, o, e2, vs, rfl, q⟩ := R.cell e trivial; cases h; exact .base (.dT e2)
    · cases h
  | scr q => simp only [tyW] at h; cases h
  | ty n => simp only [tyW] at h; cases h
theorem isiAny_ok {n : String} : ∀ {ws : List W} {vs : List V} {b : Bool}, Rws K S ws vs → isiAny n ws = some b → ∃ us, Paired ClsV vs us ∧ PySem.W.kitAny K (.type n) us = some b
  | [], _, b, r, h => by cases r; simp only [isiAny] at h; cases h; exact ⟨[], .nil, rfl⟩
  | .ty T :: ws, _, b, r, h => by
    cases r with | cons r1 r2 =>
      cases r1
      simp only [isiAny] at h
      split at h
      · rename_i b' c' e1 e2
        cases h
        obtain ⟨us, q1, q2⟩ := isiAny_ok r2 e2
        refine ⟨.type T :: us, .cons (.ty T) q1, ?_⟩
        unfold PySem.W.kitAny
        rw [kit_ty e1]
        cases b' with
        | true => rfl
        | false => exact q2
      · cases h
  | .d _ :: _, _, _, _, h => by simp only [isiAny] at h; cases h
  | .own _ :: _, _, _, _, h => by simp only [isiAny] at h; cases h
  | .scr _ :: _, _, _, _, h => by simp only [isiAny] at h; cases h
/-- isinstance(x, T), isinstance(x, (T, ..)) -/
def opIsi : OC := fun ds C Q => match ds with
  | [w, .ty T] => match (tyW C w).bind fun n => kitB n T with
    | some b => Q (.d (.bool b)) C
    | none => False
  | [w, .own p] => match C p with
    | some (.tup ts) => match (tyW C w).bind fun n => isiAny n ts with
      | some b => Q (.d (.bool b)) C
      | none => False
    | _ => False
  | _ => False
theorem ref_isi : RefC K G (fun xs H Q => rIsi K xs H Q ∨ rIsiT K xs H Q) opIsi := by
  intro S C F H ds vs Q0 Q R rv h k
  unfold opIsi at h
  split at h
  · cases rv with | cons r1 rv => cases rv with | cons r2 rv =>
      cases rv
      split at h
      · rename_i b e0
        cases r2
        obtain ⟨n, e1, e0⟩ := Option.bind_eq_some_iff.mp e0
        exact .inl ⟨_, _, _, _, b, rfl, .ty _, tyW_ok R r1 e1, kit_ty e0, k _ C S H _ (Same.refl S) R (.d (.bl _)) h⟩
      · exact h.elim
  · cases rv with | cons r1 rv => cases rv with | cons r2 rv =>
      cases rv
      cases r2
      split at h
      · rename_i ts e2
        obtain ⟨_, _, o, e3, vs, rfl, q⟩ := R.cell e2 trivial
        split at h
        · rename_i b e0
          obtain ⟨n, e1, e0⟩ := Option.bind_eq_some_iff.mp e0
          obtain ⟨us, q1, q2⟩ := isiAny_ok (K := K) q e0
          exact .inr ⟨_, _, vs, _, us, b, rfl, e3, q1, tyW_ok R r1 e1, q2, k _ C S H _ (Same.refl S) R (.d (.bl _)) h⟩
        · exact h.elim
      · exact h.elim
  · exact h.elim
end
section
variable {G : Sit} {X : Cx} {e : Expr} {es : List Expr} {p pos : Pos} {t : TA} {w : TAd}
theorem d_isi (hm : X.mg "isinstance" = none) (ha : DA G X (e :: es) t w) (hg : Gl X "isinstance" := by rfl) (he : starEach (e :: es) X.env = (false, eval e X.env) :: starEach es X.env := by rfl) (hpl : (backTo pos (starEach es X.env)).any (·.1) = false := by rfl) :
    DE G X (.Call (.Name "isinstance" p) (e :: es) [] pos) (tCB (fun xs H Q => rIsi X.K xs H Q ∨ rIsiT X.K xs H Q) t) (eCB opIsi w) := d_callB (call_isi.or call_isiT) ref_isi hm ha (hg := hg) (he := he) (hpl := hpl)
end
end Dl

namespace Dl
open PySem L2
theorem kb_NoneType_int : kitB "NoneType" "int" = some false := by decide +kernel
theorem kb_NoneType_bool : kitB "NoneType" "bool" = some false := by decide +kernel
theorem kb_NoneType_str : kitB "NoneType" "str" = some false := by decide +kernel
theorem kb_NoneType_list : kitB "NoneType" "list" = some false := by decide +kernel
theorem kb_NoneType_tuple : kitB "NoneType" "tuple" = some false := by decide +kernel
theorem kb_NoneType_dict : kitB "NoneType" "dict" = some false := by decide +kernel
theorem kb_bool_int : kitB "bool" "int" = some true := by decide +kernel
theorem kb_bool_bool : kitB "bool" "bool" = some true := by decide +kernel
theorem kb_bool_str : kitB "bool" "str" = some false := by decide +kernel
theorem kb_bool_list : kitB "bool" "list" = some false := by decide +kernel
theorem kb_bool_tuple : kitB "bool" "tuple" = some false := by decide +kernel
theorem kb_bool_dict : kitB "bool" "dict" = some false := by decide +kernel
theorem kb_int_int : kitB "int" "int" = some true := by decide +kernel
theorem kb_int_bool : kitB "int" "bool" = some false := by decide +kernel
theorem kb_int_str : kitB "int" "str" = some false := by decide +kernel
theorem kb_int_list : kitB "int" "list" = some false := by decide +kernel
theorem kb_int_tuple : kitB "int" "tuple" = some false := by decide +kernel
theorem kb_int_dict : kitB "int" "dict" = some false := by decide +kernel
theorem kb_str_int : kitB "str" "int" = some false := by decide +kernel
theorem kb_str_bool : kitB "str" "bool" = some false := by decide +kernel
theorem kb_str_str : kitB "str" "str" = some true := by decide +kernel
theorem kb_str_list : kitB "str" "list" = some false := by decide +kernel
theorem kb_str_tuple : kitB "str" "tuple" = some false := by decide +kernel
theorem kb_str_dict : kitB "str" "dict" = some false := by decide +kernel
theorem kb_list_int : kitB "list" "int" = some false := by decide +kernel
theorem kb_list_bool : kitB "list" "bool" = some false := by decide +kernel
theorem kb_list_str : kitB "list" "str" = some false := by decide +kernel
theorem kb_list_list : kitB "list" "list" = some true := by decide +kernel
theorem kb_list_tuple : kitB "list" "tuple" = some false := by decide +kernel
theorem kb_list_dict : kitB "list" "dict" = some false := by decide +kernel
theorem kb_tuple_int : kitB "tuple" "int" = some false := by decide +kernel
theorem kb_tuple_bool : kitB "tuple" "bool" = some false := by decide +kernel
theorem kb_tuple_str : kitB "tuple" "str" = some false := by decide +kernel
theorem kb_tuple_list : kitB "tuple" "list" = some false := by decide +kernel
theorem kb_tuple_tuple : kitB "tuple" "tuple" = some true := by decide +kernel
theorem kb_tuple_dict : kitB "tuple" "dict" = some false := by decide +kernel
theorem kb_dict_int : kitB "dict" "int" = some false := by decide +kernel
theorem kb_dict_bool : kitB "dict" "bool" = some false := by decide +kernel
theorem kb_dict_str : kitB "dict" "str" = some false := by decide +kernel
theorem kb_dict_list : kitB "dict" "list" = some false := by decide +kernel
theorem kb_dict_tuple : kitB "dict" "tuple" = some false := by decide +kernel
theorem kb_dict_dict : kitB "dict" "dict" = some true := by decide +kernel
end Dl

set_option Elab.async false
set_option linter.all false
set_option maxRecDepth 100000
set_option maxHeartbeats 1000000
/-! The data layer, part 7: targets, statements, loops. -/
namespace Dl
open PySem L2

/-! ### targets -/
abbrev TGd := W → En → Cm → (En → Cm → Prop) → Prop
abbrev TGsd := List W → En → Cm → (En → Cm → Prop) → Prop
def RefG (K : PySem.W.Frag) (G : Sit) (t : TG) (w : TGd) : Prop := ∀ (S : Hp) (C : Cm) (F H : Hp) (γ : En) (σ : L2.St) (d : W) (v : V) (Q0 : En → Cm → Prop) (Q : L2.St → Hp → Prop), Rel K G.T S C F H → EnR K S γ σ → ExOk K G S F → Rw K S d v → w d γ C Q0 →
  (∀ γ' σ' C' S' H', Ext S S' → Rel K G.T S' C' F H' → EnR K S' γ' σ' → Q0 γ' C' → Q σ' H') → t v σ H Q
def RefGs (K : PySem.W.Frag) (G : Sit) (t : TGs) (w : TGsd) : Prop := ∀ (S : Hp) (C : Cm) (F H : Hp) (γ : En) (σ : L2.St) (ds : List W) (vs : List V) (Q0 : En → Cm → Prop) (Q : L2.St → Hp → Prop), Rel K G.T S C F H → EnR K S γ σ → ExOk K G S F → Rws K S ds vs → w ds γ C Q0 →
  (∀ γ' σ' C' S' H', Ext S S' → Rel K G.T S' C' F H' → EnR K S' γ' σ' → Q0 γ' C' → Q σ' H') → t vs σ H Q
def DG (G : Sit) (X : Cx) (e : Expr) (t : TG) (w : TGd) : Prop := PG X e t ∧ RefG X.K G t w
def DGs (G : Sit) (X : Cx) (e : List Expr) (t : TGs) (w : TGsd) : Prop := PGs X e t ∧ RefGs X.K G t w
def uName (i : Nat) : TGd := fun d γ C Q => Q (γ.set i (some d)) C
def uNil : TGsd := fun ds γ C Q => match ds with
  | [] => Q γ C
  | _ => False
def uCons (a : TGd) (r : TGsd) : TGsd := fun ds γ C Q => match ds with
  | d :: rest => a d γ C fun γ' C' => r rest γ' C' Q
  | [] => False
def uTup (n : Nat) (r : TGsd) : TGd := fun d γ C Q => match asT C d with
  | some ws => ws.length = n ∧ r ws γ C Q
  | none => False
/-- o[i] = v, o an own list -/
def uSubL (o i : TEd) : TGd := fun d γ C Q => o γ C fun x C1 => i γ C1 fun y C2 => match x, y with
  | .own a, .d (.int k) => match C2 a with
    | some (.lst ws) => match ixN ws.length k with
      | some j => Q γ (cup C2 a (.lst (ws.set j d)))
      | none => False
    | _ => False
  | _, _ => False
section
variable {K : PySem.W.Frag} {G : Sit} {X : Cx} {e o i : Expr} {es : List Expr} {te to ti : TE} {we wo wi : TEd} {tg : TG} {tgs : TGs} {wg : TGd} {wgs : TGsd} {pos : Pos}
theorem g_name (j : Nat) {x : Str} (hN : X.N.Nodup) (hi : X.N[j]? = some x := by rfl) (hx : Loc X.env.scope x := by first | exact Or.inl rfl | exact Or.inr rfl) (hf : X.fn x = true ∨ X.env.scope.names.lookup x = some .local := by first | exact .inl rfl | exact .inr rfl) : DG G X (.Name x pos) (gName j) (uName j) :=
  ⟨pg_name hN hi hx hf, fun S C F H γ σ d v Q0 Q R en _ r h k => k _ _ _ S _ (Same.refl S) R (en.set r j) h⟩
theorem gs_nil : DGs G X [] gNil uNil := ⟨pgs_nil, fun S C F H γ σ ds vs Q0 Q R en _ r h k => by
  unfold uNil at h
  split at h
  · cases r; exact ⟨rfl, k _ _ _ S _ (Same.refl S) R en h⟩
  · exact h.elim⟩
theorem gs_cons (h1 : DG G X e tg wg) (h2 : DGs G X es tgs wgs) (hs : (assignEach (e :: es) X.env).map (·.2) = assign e X.env :: (assignEach es X.env).map (·.2) := by rfl) : DGs G X (e :: es) (gCons tg tgs) (uCons wg wgs) := ⟨pgs_cons h1.1 h2.1 hs, fun S C F H γ σ ds vs Q0 Q R en x r h k => by
  unfold uCons at h
  split at h
  · cases r with
    | cons r1 r2 =>
      refine ⟨_, _, rfl, h1.2 S C F H γ σ _ _ _ _ R en x r1 h fun γ' σ' C' S' H' e1 R1 en1 q => ?_⟩
      exact h2.2 S' C' F H' γ' σ' _ _ _ _ R1 en1 (x.mono e1) (Rws.mono e1 r2) q fun γ2 σ2 C2 S2 H2 e2 R2 en2 q2 => k _ _ _ _ _ (e1.trans e2) R2 en2 q2
  · exact h.elim⟩
theorem g_tup {k n : Nat} (hc : X.calm = true) (h : DGs G X es tgs wgs) (hn : (assignEach es X.env).length = n := by rfl) (hst : (assignEach es X.env).findIdx? (·.1) = none := by rfl) : DG G X (.Tuple es k pos) (gTup X.K n tgs) (uTup n wgs) := ⟨pg_tup hc h.1 hn hst, fun S C F H γ σ d v Q0 Q R en x r h0 kk => by
  unfold uTup at h0
  split at h0
  · rename_i ws e0
    obtain ⟨a, vs, rfl, q, s⟩ := asT_ok R r e0
    exact ⟨a, vs, rfl, q, by rw [← Paired.length s]; exact h0.1, h.2 S C F H γ σ _ _ _ _ R en x s h0.2 kk⟩
  · exact h0.elim⟩
theorem g_sub (ho : DE G X o to wo) (hi : DE G X i ti wi) (ha : ∀ v, assign (.Subscript o i pos) X.env v = (do let ov ← holding [v] (eval o X.env); let iv ← holding [v, ov] (eval i X.env); standAt pos; holding [v, ov, iv] (setItem ov iv v); release [v, ov, iv] []) := by intro _; rfl) : DG G X (.Subscript o i pos) (gSub to ti rSetL) (uSubL wo wi) := ⟨pg_sub ho.1 hi.1 set_list ha, fun S C F H γ σ d v Q0 Q R en x r h k => by
  refine ho.2 S C F H γ σ _ _ R en x h fun d1 C1 S1 H1 v1 e1 R1 r1 h1 => ?_
  refine hi.2 S1 C1 F H1 γ σ _ _ R1 (en.mono e1) (x.mono e1) h1 fun d2 C2 S2 H2 v2 e2 R2 r2 h2 => ?_
  have e12 := e1.trans e2
  split at h2
  · cases r1
    cases r2 with | d r2 =>
      cases r2
      split at h2
      · rename_i ws e3
        obtain ⟨_, hf, o', e4, vs, rfl, q⟩ := R2.cell e3 trivial
        split at h2
        · rename_i j ej
          have q' : Rws X.K S2 (ws.set j d) (vs.set j v) := by
            have rd := r.mono e12
            clear h2 ej e3 e4
            induction q generalizing j with
            | nil => exact .nil
            | cons a b ih => cases j with | zero => exact .cons rd b | succ j => exact .cons a (ih j)
          exact ⟨_, vs, _, j, rfl, rfl, e4, by rw [← Paired.length q]; exact ej, k _ _ _ S2 _ e12 (R2.put (c := .lst _) e3 hf ⟨_, rfl, q'⟩) (en.mono e12) h2⟩
        · exact h2.elim
      · exact h2.elim
  · exact h2.elim⟩
end

/-! ### statements -/
def sSeq (t u : TSd) : TSd := fun D γ C => t { D with nx := u D } γ C
def sNext : TSd := fun D γ C => D.nx γ C
def sDrop (a : TEd) : TSd := fun D γ C => a γ C fun _ C1 => D.nx γ C1
def sRet (a : TEd) : TSd := fun D γ C => a γ C fun d C1 => D.rt d C1
def sRetN : TSd := fun D γ C => D.rt (.d .none) C
def sIf (c : TTd) (t u : TSd) : TSd := fun D γ C => c γ C fun b C1 => if b = true then t D γ C1 else u D γ C1
def sAsg (a : TEd) (g : TGd) : TSd := fun D γ C => a γ C fun d C1 => g d γ C1 D.nx
def sBrk : TSd := fun D γ C => D.bk γ C
def sCnt : TSd := fun D γ C => D.ct γ C
section
variable {K : PySem.W.Frag} {G : Sit} {X : Cx} {st : Stmt} {rest a b : List Stmt} {c e : Expr} {te : TE} {we : TEd} {t u : TS} {wt wu : TSd} {tc : TT} {wc : TTd} {tg : TG} {wg : TGd} {pos : Pos}
theorem ref_seq (h1 : RefS K G t wt) (h2 : RefS K G u wu) : RefS K G (tSeq t u) (sSeq wt wu) := by
  intro S C F H γ σ D0 D R en x h k
  refine h1 S C F H γ σ { D0 with nx := wu D0 } { D with nx := u D } R en x h ⟨fun γ' σ' C' H' S' e1 R1 en1 q => ?_, k.rt, k.bk, k.ct⟩
  exact h2 S' C' F H' γ' σ' D0 D R1 en1 (x.mono e1) q (k.mono e1)
theorem ss_nil : DSs G X [] tNext sNext := ⟨pss_nil, fun S C F H γ σ D0 D R en x h k => k.nx γ σ C H S (Same.refl S) R en h⟩
theorem ss_cons (h1 : DS G X st t wt) (h2 : DSs G X rest u wu) : DSs G X (st :: rest) (tSeq t u) (sSeq wt wu) := ⟨pss_cons h1.1 h2.1, ref_seq h1.2 h2.2⟩
theorem ss_one (h1 : DS G X st t wt) : DSs G X [st] t wt := ⟨pss_one h1.1, h1.2⟩
theorem s_pass : DS G X (.Pass pos) tNext sNext := ⟨ps_pass, fun S C F H γ σ D0 D R en x h k => k.nx γ σ C H S (Same.refl S) R en h⟩
theorem s_brk : DS G X (.Break pos) tBreak sBrk := ⟨ps_break, fun S C F H γ σ D0 D R en x h k => k.bk γ σ C H S (Same.refl S) R en h⟩
theorem s_cnt : DS G X (.Continue pos) tCont sCnt := ⟨ps_continue, fun S C F H γ σ D0 D R en x h k => k.ct γ σ C H S (Same.refl S) R en h⟩
theorem s_expr (he : DE G X e te we) (hs : swapsWith e none pos.line X.env = pure false := by rfl) : DS G X (.Expr e pos) (tDrop te) (sDrop we) := ⟨ps_expr he.1 hs, fun S C F H γ σ D0 D R en x h k =>
  he.2 S C F H γ σ _ _ R en x h fun d C1 S1 H1 v e1 R1 r1 h1 => k.nx γ σ C1 H1 S1 e1 R1 (en.mono e1) h1⟩
theorem s_ret (he : DE G X e te we) : DS G X (.Return (some e) pos) (tRet te) (sRet we) := ⟨ps_ret he.1, fun S C F H γ σ D0 D R en x h k =>
  he.2 S C F H γ σ _ _ R en x h fun d C1 S1 H1 v e1 R1 r1 h1 => k.rt d v C1 H1 S1 e1 R1 r1 h1⟩
theorem s_retN : DS G X (.Return none pos) tRetN sRetN := ⟨ps_retN, fun S C F H γ σ D0 D R en x h k => k.rt _ _ C H S (Same.refl S) R (.d .non) h⟩
theorem s_if (hc : DT G X c tc wc) (ha : DSs G X a t wt) (hb : DSs G X b u wu) : DS G X (.If c a b pos) (tIfS tc t u) (sIf wc wt wu) := ⟨ps_if hc.1 ha.1 hb.1, fun S C F H γ σ D0 D R en x h k => by
  refine hc.2 S C F H γ σ _ _ R en x h fun b' C1 S1 H1 e1 R1 q => ?_
  by_cases hb' : b' = true
  · rw [if_pos hb'] at q ⊢
    exact ha.2 S1 C1 F H1 γ σ D0 D R1 (en.mono e1) (x.mono e1) q (k.mono e1)
  · rw [if_neg hb'] at q ⊢
    exact hb.2 S1 C1 F H1 γ σ D0 D R1 (en.mono e1) (x.mono e1) q (k.mono e1)⟩
theorem ref_asg (he : RefE K G te we) (hg : RefG K G tg wg) : RefS K G (tAsg te tg) (sAsg we wg) := by
  intro S C F H γ σ D0 D R en x h k
  refine he S C F H γ σ _ _ R en x h fun d C1 S1 H1 v e1 R1 r1 h1 => ?_
  exact hg S1 C1 F H1 γ σ d v _ _ R1 (en.mono e1) (x.mono e1) r1 h1 fun γ' σ' C' S' H' e2 R2 en2 q => k.nx γ' σ' C' H' S' (e1.trans e2) R2 en2 q
theorem s_asg {tgt : Expr} (he : DE G X e te we) (hg : DG G X tgt tg wg) (hs : swapsWithSole [tgt] e pos.line X.env = pure false := by rfl) (hw : swappedStores [tgt] e X.env = pure none := by rfl) (h1 : (assignEach [tgt] X.env).map (·.2) = [assign tgt X.env] := by rfl) : DS G X (.Assign [tgt] e pos) (tAsg te tg) (sAsg we wg) := ⟨ps_asg he.1 hg.1 hs hw h1, ref_asg he.2 hg.2⟩
theorem s_set (i : Nat) {x : Str} {pos' : Pos} (hN : X.N.Nodup) (he : DE G X e te we) (hi : X.N[i]? = some x := by rfl) (hx : Loc X.env.scope x := by first | exact Or.inl rfl | exact Or.inr rfl) (hs : swapsWith e (some (.Name x pos')) pos.line X.env = pure false := by rfl) (hf : X.fn x = true ∨ X.env.scope.names.lookup x = some .local := by first | exact .inl rfl | exact .inr rfl) :
    DS G X (.Assign [.Name x pos'] e pos) (tAsg te (gName i)) (sAsg we (uName i)) := ⟨ps_set hN hi hx he.1 hs hf, ref_asg he.2 fun S C F H γ σ d v Q0 Q R en _ r h k => k _ _ _ S _ (Same.refl S) R (en.set r i) h⟩
/-- a, b = e1, e2 (plain names) -/
def sPar (i j : Nat) (as : TAd) : TSd := fun D γ C => as γ C fun ds C1 => match ds with
  | [d, e] => D.nx ((γ.set i (some d)).set j (some e)) C1
  | _ => False
theorem s_par (i j : Nat) {x y : Str} {a b : Expr} {ta : TA} {wa : TAd} {px py pt : Pos} {kt k2 : Nat} {pt2 : Pos} (hc : X.calm = true) (hN : X.N.Nodup) (ha : DA G X [a, b] ta wa) (hw : swappedStores [.Tuple [.Name x px, .Name y py] kt pt] (.Tuple [a, b] k2 pt2) X.env = pure (some [x, y]) := by rfl) (hi : X.N[i]? = some x := by rfl) (hj : X.N[j]? = some y := by rfl) (hij : i ≠ j := by decide)
    (hx : X.env.scope.names.lookup x = some .local := by rfl) (hy : X.env.scope.names.lookup y = some .local := by rfl) (hs : swapsWithSole [.Tuple [.Name x px, .Name y py] kt pt] (.Tuple [a, b] k2 pt2) pos.line X.env = pure false := by rfl) :
    DS G X (.Assign [.Tuple [.Name x px, .Name y py] kt pt] (.Tuple [a, b] k2 pt2) pos) (tPar i j ta) (sPar i j wa) := ⟨ps_par hc hN hi hj hij hx hy ha.1 hw hs, fun S C F H γ σ D0 D R en x h k => by
  refine ha.2 S C F H γ σ _ _ R en x h fun ds C1 S1 H1 vs e1 R1 r1 h1 => ?_
  split at h1
  · cases r1 with | cons r1 r2 => cases r2 with | cons r2 r3 =>
      cases r3
      exact ⟨_, _, rfl, k.nx _ _ _ _ _ e1 R1 (((en.mono e1).set r1 i).set r2 j) h1⟩
  · exact h1.elim⟩
/-- x op= e -/
def sAug (i : Nat) (a : TEd) (w : O2) : TSd := fun D γ C => match γ[i]? with
  | some (some x) => a γ C fun y C1 => w x y C1 fun z C2 => D.nx (γ.set i (some z)) C2
  | _ => False
theorem s_aug (i : Nat) {x : Str} {op : Operator} {ti : TIp} {w : O2} {pos' : Pos} (hN : X.N.Nodup) (he : DE G X e te we) (ho : PIp X op ti) (hw : RefR2 X.K G ti w) (hi : X.N[i]? = some x := by rfl) (hx : Loc X.env.scope x := by first | exact Or.inl rfl | exact Or.inr rfl)
    (hf : X.fn x = true ∨ X.env.scope.names.lookup x = some .local := by first | exact .inl rfl | exact .inr rfl) : DS G X (.AugAssign (.Name x pos') op e pos) (tAug i te ti) (sAug i we w) := ⟨ps_aug hN hi hx he.1 ho hf, fun S C F H γ σ D0 D R en x h k => by
  unfold sAug at h
  split at h
  · rename_i d0 e0
    obtain ⟨v0, ev, rv⟩ := en.2 i d0 e0
    refine ⟨v0, ev, ?_⟩
    refine he.2 S C F H γ σ _ _ R en x h fun d C1 S1 H1 v e1 R1 r1 h1 => ?_
    exact hw S1 C1 F H1 d0 d v0 v _ _ R1 (rv.mono e1) r1 h1 fun d' C' S' H' v' e2 R2 r2 q => k.nx _ _ _ _ _ (e1.trans e2) R2 ((en.mono (e1.trans e2)).set r2 i) q
  · exact h.elim⟩
end

/-! ### what a loop walks -/
abbrev TId := En → Cm → (List W → (Cm → Prop) → Cm → Prop) → Prop
def IterOk (K : PySem.W.Frag) (T : Addr → Prop) (S : Hp) (J : It) (ds : List W) (Gd : Cm → Prop) : Prop := ∀ (i : Nat) (C' : Cm) (F S' H' : Hp), Ext S S' → Rel K T S' C' F H' → Gd C' →
  (ds.length ≤ i → J.stop i H') ∧ ∀ d, ds[i]? = some d → J.go i H' ∧ ∀ x H'', J.yld i H' x H'' → ∃ S'', Ext S' S'' ∧ Rel K T S'' C' F H'' ∧ Rw K S'' d x
def RefI (K : PySem.W.Frag) (G : Sit) (t : TI) (w : TId) : Prop := ∀ (S : Hp) (C : Cm) (F H : Hp) (γ : En) (σ : L2.St) (R0 : List W → (Cm → Prop) → Cm → Prop) (R : It → Hp → Prop), Rel K G.T S C F H → EnR K S γ σ → ExOk K G S F → w γ C R0 →
  (∀ ds Gd J C' S' H', Ext S S' → Rel K G.T S' C' F H' → IterOk K G.T S' J ds Gd → R0 ds Gd C' → R J H') → t σ H R
def DI (G : Sit) (X : Cx) (tg e : Expr) (t : TI) (w : TId) : Prop := PI X tg e t ∧ RefI X.K G t w
/-- a list, a tuple, a text -/
def iSeqD (a : TEd) : TId := fun γ C R => a γ C fun x C1 => match x with
  | .d (.list xs) => R (xs.map W.d) (fun _ => True) C1
  | .d (.tuple xs) => R (xs.map W.d) (fun _ => True) C1
  | .d (.str s) => R (s.cps.toList.map fun c => W.d (.str ⟨#[c]⟩)) (fun _ => True) C1
  | .own a => match C1 a with
    | some (.lst ws) => R ws (fun C' => C' a = some (.lst ws)) C1
    | some (.tup ws) => R ws (fun C' => C' a = some (.tup ws)) C1
    | _ => False
  | _ => False
def iSeq (K : PySem.W.Frag) (tl : TE) : TI := fun σ H R => tl σ H fun x H1 => (∃ a, x = .ref a ∧ (∃ xs, SqL K H1 a xs) ∧ R (Itl K a) H1) ∨ (∃ a, x = .ref a ∧ (∃ xs, SqT K H1 a xs) ∧ R (Itt K a) H1) ∨ ∃ s, x = .str s ∧ R (Its s) H1
theorem pi_seq {X : Cx} {tg l : Expr} {tl : TE} (hl : PE X l tl) : PI X tg l (iSeq X.K tl) := by
  refine ⟨fun pins s σ H R I h => ?_⟩
  refine thn (hl.run pins s σ H _ I h) fun v s1 ⟨x, H1, I1, r1, q1⟩ => ?_
  rcases q1 with ⟨a, e, ⟨xs, hq⟩, q⟩ | ⟨a, e, ⟨xs, hq⟩, q⟩ | ⟨z, e, q⟩
  · subst e
    cases r1
    obtain ⟨its, rv, p, hz⟩ := I1.list hq
    refine wpAny_pyIter_list p.isList ?_
    refine ⟨s1.heap.objs.size, [s1.heap.objs.size], _, _, H1, rfl, I1.kept (t' := s1.toks) fun b o e => Heap.get?_push_of_some _ e, turn_list a _, ⟨_, Heap.get?_push_size _ rfl, rfl, rfl⟩, fun b hb => ?_, q⟩
    have e : b = s1.heap.objs.size := by simpa using hb
    subst e
    exact I1.fpOk (Nat.le_refl _) (I1.hok.fresh (Nat.le_refl _))
  · subst e
    cases r1
    obtain ⟨its, rv, p, hz⟩ := I1.tuple hq
    refine wpAny_pyIter_tuple (show s1.heap.IsTuple a its.toArray from p) ?_
    refine ⟨s1.heap.objs.size, [s1.heap.objs.size], _, _, H1, rfl, I1.kept (t' := s1.toks) fun b o e => Heap.get?_push_of_some _ e, turn_tuple a _, ⟨_, Heap.get?_push_size _ rfl, rfl, rfl⟩, fun b hb => ?_, q⟩
    have e : b = s1.heap.objs.size := by simpa using hb
    subst e
    exact I1.fpOk (Nat.le_refl _) (I1.hok.fresh (Nat.le_refl _))
  · subst e
    obtain ⟨t, rfl⟩ := r1
    cases ha : z.cps.all (· < 128)
    · exact wpAny_pyIter_wide ha (pi_one (tk := s1.toks) I1 _ (turn_str _ z t "str_iterator" (.inr rfl)) ⟨_, Heap.get?_push_size _ rfl, rfl, rfl⟩ q)
    · exact wpAny_pyIter_ascii ha (pi_one (tk := s1.toks) I1 _ (turn_str _ z t "str_ascii_iterator" (.inl rfl)) ⟨_, Heap.get?_push_size _ rfl, rfl, rfl⟩ q)
section
variable {K : PySem.W.Frag} {G : Sit} {X : Cx} {tg e : Expr} {te : TE} {we : TEd} {pos p : Pos}
theorem iter_list {T : Addr → Prop} {S : Hp} {a : Addr} {ds : List W} {Gd : Cm → Prop} (h : ∀ C' F S' H', Ext S S' → Rel K T S' C' F H' → Gd C' → ∃ vs, SqL K H' a vs ∧ Rws K S' ds vs) : IterOk K T S (Itl K a) ds Gd := by
  intro i C' F S' H' e R g
  obtain ⟨vs, q, s⟩ := h C' F S' H' e R g
  refine ⟨fun hi => ⟨vs, q, by rw [← Paired.length s]; exact hi⟩, fun d hd => ?_⟩
  obtain ⟨v, h1, h2⟩ := Rws.get s hd
  refine ⟨⟨vs, v, q, h1⟩, fun x H'' y => ?_⟩
  obtain ⟨rfl, y⟩ := y
  have := y vs q
  rw [h1] at this
  cases this
  exact ⟨S', Same.refl _, R, h2⟩
theorem iter_tup {T : Addr → Prop} {S : Hp} {a : Addr} {ds : List W} {Gd : Cm → Prop} (h : ∀ C' F S' H', Ext S S' → Rel K T S' C' F H' → Gd C' → ∃ vs, SqT K H' a vs ∧ Rws K S' ds vs) : IterOk K T S (Itt K a) ds Gd := by
  intro i C' F S' H' e R g
  obtain ⟨vs, q, s⟩ := h C' F S' H' e R g
  refine ⟨fun hi => ⟨vs, q, by rw [← Paired.length s]; exact hi⟩, fun d hd => ?_⟩
  obtain ⟨v, h1, h2⟩ := Rws.get s hd
  refine ⟨⟨vs, v, q, h1⟩, fun x H'' y => ?_⟩
  obtain ⟨rfl, y⟩ := y
  have := y vs q
  rw [h1] at this
  cases this
  exact ⟨S', Same.refl _, R, h2⟩
theorem ref_iseq (he : RefE K G te we) : RefI K G (iSeq K te) (iSeqD we) := by
  intro S C F H γ σ R0 R Re en x h k
  refine he S C F H γ σ _ _ Re en x h fun d C1 S1 H1 v e1 R1 r1 h1 => ?_
  split at h1
  · cases r1 with | d r1 => cases r1 with | lst q s =>
      exact .inl ⟨_, rfl, ⟨_, SqL.of (R1.s _ _ q)⟩, k _ _ _ _ _ _ e1 R1 (iter_list fun C' F' S' H' e2 R2 _ => ⟨_, SqL.of (R2.s _ _ (e2 _ _ q)), Rws.mono e2 s.ws⟩) h1⟩
  · cases r1 with | d r1 => cases r1 with | tup q s =>
      exact .inr (.inl ⟨_, rfl, ⟨_, Ext.sqt R1.s q⟩, k _ _ _ _ _ _ e1 R1 (iter_tup fun C' F' S' H' e2 R2 _ => ⟨_, Ext.sqt R2.s (Ext.sqt e2 q), Rws.mono e2 s.ws⟩) h1⟩)
  · rename_i z
    cases r1 with | d r1 =>
      cases r1
      refine .inr (.inr ⟨z, rfl, k _ _ _ _ _ _ e1 R1 (fun i C' F' S' H' e2 R2 _ => ⟨fun hi => ?_, fun d hd => ?_⟩) h1⟩)
      · show z.cps.size ≤ i
        simpa using hi
      · rw [List.getElem?_map] at hd
        cases q : z.cps.toList[i]? with
        | none => rw [q] at hd; cases hd
        | some c =>
          rw [q] at hd
          cases hd
          have hc : z.cps[i]? = some c := by rw [← Array.getElem?_toList]; exact q
          refine ⟨by
            show i < z.cps.size
            have := (List.getElem?_eq_some_iff.mp q).1
            simpa using this, fun y H'' hy => ?_⟩
          obtain ⟨rfl, c', h2, rfl⟩ := hy
          rw [hc] at h2
          cases h2
          exact ⟨S', Same.refl _, R2, .d (.str _)⟩
  · cases r1
    split at h1
    · rename_i ws e3
      obtain ⟨_, _, o, e4, vs, rfl, q⟩ := R1.cell e3 trivial
      exact .inl ⟨_, rfl, ⟨_, SqL.of e4⟩, k _ _ _ _ _ _ e1 R1 (iter_list fun C' F' S' H' e2 R2 g => by
        obtain ⟨_, _, o, e5, vs', rfl, q'⟩ := R2.cell g trivial
        exact ⟨vs', SqL.of e5, q'⟩) h1⟩
    · rename_i ws e3
      obtain ⟨_, _, o, e4, vs, rfl, q⟩ := R1.cell e3 trivial
      exact .inr (.inl ⟨_, rfl, ⟨_, SqT.of e4⟩, k _ _ _ _ _ _ e1 R1 (iter_tup fun C' F' S' H' e2 R2 g => by
        obtain ⟨_, _, o, e5, vs', rfl, q'⟩ := R2.cell g trivial
        exact ⟨vs', SqT.of e5, q'⟩) h1⟩)
    · exact h1.elim
  · exact h1.elim
end
end Dl

set_option Elab.async false
set_option linter.all false
set_option maxRecDepth 100000
set_option maxHeartbeats 1000000
/-! The data layer, part 8: loops, calls, defs. -/
namespace Dl
open PySem L2

/-- what a derivation needs of its context -/
structure XO (G : Sit) (X : Cx) (k : Nat) : Prop where
  calm : X.calm = true
  nd : X.N.Nodup
  room : Room k X.A
  pass : PassesOwn (model X.prog X.w) X.A X.env X.xe
  takes : Takes X G.W

/-! ### for, while -/
def sFor (wi : TId) (g : TGd) (tb : TSd) : TSd := fun D γ C => wi γ C fun ds Gd C1 => ∃ I : Nat → En → Cm → Prop, I 0 γ C1 ∧ (∀ i γ' C', i ≤ ds.length → I i γ' C' → Gd C') ∧
  (∀ i d γ' C', ds[i]? = some d → I i γ' C' → g d γ' C' fun γ2 C2 => tb { D with nx := fun γ3 C3 => ∃ C4, Sub C4 C3 ∧ I (i + 1) γ3 C4, ct := fun γ3 C3 => ∃ C4, Sub C4 C3 ∧ I (i + 1) γ3 C4, bk := D.nx } γ2 C2) ∧
  ∀ γ' C', I ds.length γ' C' → D.nx γ' C'
def sWhile (c : TTd) (tb : TSd) : TSd := fun D γ C => ∃ I : Nat → En → Cm → Prop, (∃ m, I m γ C) ∧ ∀ m γ' C', I m γ' C' → c γ' C' fun b C1 => if b = true then
  tb { D with nx := fun γ3 C3 => ∃ m' C4, m' < m ∧ Sub C4 C3 ∧ I m' γ3 C4, ct := fun γ3 C3 => ∃ m' C4, m' < m ∧ Sub C4 C3 ∧ I m' γ3 C4, bk := D.nx } γ' C1 else D.nx γ' C1
section
variable {K : PySem.W.Frag} {G : Sit} {X : Cx} {tg iter c : Expr} {body : List Stmt} {wi : TI} {g : TG} {tb : TS} {wwi : TId} {wg : TGd} {wb : TSd} {tc : TT} {wc : TTd} {pos : Pos} {k : Nat}
theorem ref_for (hi : RefI K G wi wwi) (hg : RefG K G g wg) (hb : RefS K G tb wb) : RefS K G (tFor wi g tb) (sFor wwi wg wb) := by
  intro S C F H γ σ D0 D R en x h kk
  refine hi S C F H γ σ _ _ R en x h fun ds Gd J C1 S1 H1 e1 R1 it h1 => ?_
  obtain ⟨I, h0, hgd, hs, hd⟩ := h1
  refine ⟨fun i m σ' H' => ∃ γ' C' S', Ext S1 S' ∧ Rel K G.T S' C' F H' ∧ EnR K S' γ' σ' ∧ I i γ' C' ∧ i ≤ ds.length ∧ m = ds.length - i, ⟨_, γ, C1, S1, Same.refl _, R1, en.mono e1, h0, Nat.zero_le _, rfl⟩, ?_⟩
  rintro i m σ' H' ⟨γ', C', S', e2, R2, en2, hI, hle, rfl⟩
  obtain ⟨st, go⟩ := it i C' F S' H' e2 R2 (hgd i γ' C' hle hI)
  have e12 := e1.trans e2
  by_cases hlt : i < ds.length
  · obtain ⟨g1, g2⟩ := go ds[i] (List.getElem?_eq_getElem hlt)
    refine .inr ⟨g1, fun σ3 H3 => ∃ γ3 C3 S3, Ext S1 S3 ∧ Rel K G.T S3 C3 F H3 ∧ EnR K S3 γ3 σ3 ∧ I (i + 1) γ3 C3, fun σ3 H3 ⟨γ3, C3, S3, e3, R3, en3, h3⟩ => ⟨_, by omega, γ3, C3, S3, e3, R3, en3, h3, hlt, rfl⟩, fun y H2 hy => ?_⟩
    obtain ⟨S2, e3, R3, r3⟩ := g2 y H2 hy
    have e13 := e12.trans e3
    refine hg S2 C' F H2 γ' σ' _ _ _ _ R3 (en2.mono e3) (x.mono e13) r3 (hs i ds[i] γ' C' (List.getElem?_eq_getElem hlt) hI) fun γ4 σ4 C4 S4 H4 e4 R4 en4 q4 => ?_
    refine hb S4 C4 F H4 γ4 σ4 _ _ R4 en4 (x.mono (e13.trans e4)) q4 ⟨?_, fun d v C5 H5 S5 e5 R5 r5 q5 => kk.rt d v C5 H5 S5 ((e13.trans e4).trans e5) R5 r5 q5, fun γ5 σ5 C5 H5 S5 e5 R5 en5 q5 => kk.nx γ5 σ5 C5 H5 S5 ((e13.trans e4).trans e5) R5 en5 q5, ?_⟩
    · rintro γ5 σ5 C5 H5 S5 e5 R5 en5 ⟨C6, sb, q5⟩
      exact ⟨γ5, C6, S5, ((e2.trans e3).trans e4).trans e5, R5.sub sb, en5, q5⟩
    · rintro γ5 σ5 C5 H5 S5 e5 R5 en5 ⟨C6, sb, q5⟩
      exact ⟨γ5, C6, S5, ((e2.trans e3).trans e4).trans e5, R5.sub sb, en5, q5⟩
  · have hi' : i = ds.length := by omega
    subst hi'
    exact .inl ⟨st (Nat.le_refl _), kk.nx γ' σ' C' H' S' e12 R2 en2 (hd γ' C' hI)⟩
theorem s_for (xo : XO G X k) (hi : DI G X tg iter wi wwi) (hg : DG G X tg g wg) (hb : DSs G X body tb wb) (hs : ∀ x, foldedSetIterable iter X.env x = pure x := by intro _; rfl) : DS G X (.For tg iter body [] pos) (tFor wi g tb) (sFor wwi wg wb) :=
  ⟨ps_for xo.pass xo.calm hi.1 hg.1 hb.1 hs, ref_for hi.2 hg.2 hb.2⟩
theorem s_while (xo : XO G X k) (hc : DT G X c tc wc) (hb : DSs G X body tb wb) : DS G X (.While c body [] pos) (tWhile tc tb) (sWhile wc wb) := ⟨ps_while xo.pass hc.1 hb.1, fun S C F H γ σ D0 D R en x h kk => by
  obtain ⟨I, ⟨m0, h0⟩, hs⟩ := h
  refine ⟨fun m σ' H' => ∃ γ' C' S', Ext S S' ∧ Rel X.K G.T S' C' F H' ∧ EnR X.K S' γ' σ' ∧ I m γ' C', ⟨m0, γ, C, S, Same.refl _, R, en, h0⟩, ?_⟩
  rintro m σ' H' ⟨γ', C', S', e1, R1, en1, hI⟩
  refine hc.2 S' C' F H' γ' σ' _ _ R1 en1 (x.mono e1) (hs m γ' C' hI) fun b C2 S2 H2 e2 R2 q2 => ?_
  have e12 := e1.trans e2
  by_cases hb' : b = true
  · rw [if_pos hb'] at q2 ⊢
    refine ⟨fun σ3 H3 => ∃ m', m' < m ∧ ∃ γ3 C3 S3, Ext S S3 ∧ Rel X.K G.T S3 C3 F H3 ∧ EnR X.K S3 γ3 σ3 ∧ I m' γ3 C3, fun σ3 H3 h => h, ?_⟩
    refine hb.2 S2 C2 F H2 γ' σ' _ _ R2 (en1.mono e2) (x.mono e12) q2 ⟨?_, fun d v C5 H5 S5 e5 R5 r5 q5 => kk.rt d v C5 H5 S5 (e12.trans e5) R5 r5 q5, fun γ5 σ5 C5 H5 S5 e5 R5 en5 q5 => kk.nx γ5 σ5 C5 H5 S5 (e12.trans e5) R5 en5 q5, ?_⟩
    · rintro γ5 σ5 C5 H5 S5 e5 R5 en5 ⟨m', C6, hm, sb, q5⟩
      exact ⟨m', hm, γ5, C6, S5, e12.trans e5, R5.sub sb, en5, q5⟩
    · rintro γ5 σ5 C5 H5 S5 e5 R5 en5 ⟨m', C6, hm, sb, q5⟩
      exact ⟨m', hm, γ5, C6, S5, e12.trans e5, R5.sub sb, en5, q5⟩
  · rw [if_neg hb'] at q2 ⊢
    exact kk.nx γ' σ' C2 H2 S2 e12 R2 (en1.mono e2) q2⟩
end
/-- ranges -/
def iRngD1 (a : TAd) : TId := fun γ C R => a γ C fun ds C1 => match ds with
  | [.d (.int n)] => -(2 ^ 62) ≤ n ∧ n < 2 ^ 62 ∧ R ((List.range n.toNat).map fun i => W.d (.int (i : Nat))) (fun _ => True) C1
  | _ => False
def iRngD2 (a : TAd) : TId := fun γ C R => a γ C fun ds C1 => match ds with
  | [.d (.int m), .d (.int n)] => (-(2 ^ 62) ≤ m ∧ m < 2 ^ 62 ∧ -(2 ^ 62) ≤ n ∧ n < 2 ^ 62) ∧ R ((List.range (n - m).toNat).map fun i => W.d (.int (m + (i : Nat)))) (fun _ => True) C1
  | _ => False
def iEnumD (a : TAd) : TId := fun γ C R => a γ C fun ds C1 => match ds with
  | [.d (.list xs)] => R (xs.zipIdx.map fun p => W.d (.tuple [.int (p.2 : Nat), p.1])) (fun _ => True) C1
  | [.own l] => match C1 l with
    | some (.lst ws) => match dAll ws with
      | some xs => R (xs.zipIdx.map fun p => W.d (.tuple [.int (p.2 : Nat), p.1])) (fun C' => C' l = some (.lst ws)) C1
      | none => False
    | _ => False
  | _ => False
def iZipD (a : TAd) : TId := fun γ C R => a γ C fun ds C1 => match ds with
  | [.d (.list xs), .d (.list ys)] => R ((xs.zip ys).map fun p => W.d (.tuple [p.1, p.2])) (fun _ => True) C1
  | [.d (.tuple xs), .d (.tuple ys)] => R ((xs.zip ys).map fun p => W.d (.tuple [p.1, p.2])) (fun _ => True) C1
  | _ => False
section
variable {K : PySem.W.Frag} {G : Sit} {X : Cx} {tg e e2 a b c : Expr} {te : TE} {we : TEd} {ta : TA} {wa : TAd} {pos p tpos : Pos} {elts : List Expr} {kk : Nat}
theorem i_seq (he : DE G X e te we) : DI G X tg e (iSeq X.K te) (iSeqD we) := ⟨pi_seq he.1, ref_iseq he.2⟩
theorem iter_range {T : Addr → Prop} {S : Hp} {lo : Int} {n : Nat} : IterOk K T S (Itr lo n) ((List.range n).map fun i => W.d (.int (lo + (i : Nat)))) (fun _ => True) := by
  intro i C' F S' H' e R _
  rw [List.length_map, List.length_range]
  refine ⟨fun hi => hi, fun d hd => ?_⟩
  rw [List.getElem?_map] at hd
  by_cases hi : i < n
  · rw [List.getElem?_range hi] at hd
    cases hd
    refine ⟨hi, fun x H'' y => ?_⟩
    obtain ⟨rfl, rfl⟩ := y
    exact ⟨S', Same.refl _, R, .d (.int _)⟩
  · rw [List.getElem?_eq_none (by simpa using hi)] at hd; cases hd
theorem i_rng1 (hm : X.mg "range" = none) (ha : DA G X [a] ta wa) (hg : Gl X "range" := by rfl) (hs : starEach [a] X.env = [(false, eval a X.env)] := by rfl) : DI G X tg (.Call (.Name "range" p) [a] [] pos) (iRng1 ta) (iRngD1 wa) := ⟨pi_range1 hg hm ha.1 hs, fun S C F H γ σ R0 R Re en x h k => by
  refine ha.2 S C F H γ σ _ _ Re en x h fun ds C1 S1 H1 vs e1 R1 r1 h1 => ?_
  split at h1
  · cases r1 with | cons r1 r2 =>
      cases r2
      cases r1 with | d r1 =>
        cases r1
        refine ⟨_, rfl, h1.1, h1.2.1, k _ _ _ _ _ _ e1 R1 ?_ h1.2.2⟩
        have := iter_range (K := X.K) (T := G.T) (S := S1) (lo := 0) (n := Int.toNat (by assumption))
        simpa only [Int.zero_add] using iter_range (K := X.K) (T := G.T) (S := S1) (lo := 0)
  · exact h1.elim⟩
theorem i_rng2 (hm : X.mg "range" = none) (ha : DA G X [a, b] ta wa) (hg : Gl X "range" := by rfl) (hs : starEach [a, b] X.env = [(false, eval a X.env), (false, eval b X.env)] := by rfl) (hs2 : starEach [b] X.env = [(false, eval b X.env)] := by rfl) :
    DI G X tg (.Call (.Name "range" p) [a, b] [] pos) (iRng2 ta) (iRngD2 wa) := ⟨pi_range2 hg hm ha.1 hs hs2, fun S C F H γ σ R0 R Re en x h k => by
  refine ha.2 S C F H γ σ _ _ Re en x h fun ds C1 S1 H1 vs e1 R1 r1 h1 => ?_
  split at h1
  · cases r1 with | cons r1 r2 => cases r2 with | cons r2 r3 =>
      cases r3
      cases r1 with | d r1 => cases r2 with | d r2 =>
        cases r1
        cases r2
        exact ⟨_, _, rfl, h1.1, k _ _ _ _ _ _ e1 R1 iter_range h1.2⟩
  · exact h1.elim⟩
theorem iter_enum {T : Addr → Prop} {S : Hp} {l : Addr} {xs : List PyData} {Gd : Cm → Prop} (h : ∀ C' F S' H', Ext S S' → Rel K T S' C' F H' → Gd C' → ∃ vs, SqL K H' l vs ∧ Rps K S' xs vs) : IterOk K T S (Ite K l) (xs.zipIdx.map fun p => W.d (.tuple [.int (p.2 : Nat), p.1])) Gd := by
  intro i C' F S' H' e R g
  obtain ⟨vs, q, s⟩ := h C' F S' H' e R g
  rw [List.length_map, List.length_zipIdx]
  refine ⟨fun hi => ⟨vs, q, by rw [← s.length]; exact hi⟩, fun d hd => ?_⟩
  rw [List.getElem?_map, List.getElem?_zipIdx] at hd
  cases hx : xs[i]? with
  | none => rw [hx] at hd; cases hd
  | some x =>
    rw [hx] at hd
    cases hd
    obtain ⟨v, h1, h2⟩ := Rws.get (i := i) s.ws (w := .d x) (by rw [List.getElem?_map, hx]; rfl)
    refine ⟨⟨vs, v, q, h1⟩, fun y H'' hy => ?_⟩
    obtain ⟨t, z, rfl, ht, rfl, hz⟩ := hy
    have e3 := hz vs q
    rw [h1] at e3
    cases e3
    cases h2 with | d h2 =>
      have xx := ext_new (o := .tup [.int (i : Nat), v]) (R.freeS ht)
      refine ⟨_, xx, R.newS ht, .d (.tup (SqT.of upd_same) (.cons ?_ (.cons (h2.mono xx) .nil)))⟩
      simp only [Nat.zero_add]
      exact .int _
theorem i_enum (hm : X.mg "enumerate" = none) (ha : DA G X [e] ta wa) (hg : Gl X "enumerate" := by rfl) (hs : starEach [e] X.env = [(false, eval e X.env)] := by rfl) : DI G X (.Tuple elts kk tpos) (.Call (.Name "enumerate" p) [e] [] pos) (iEnum X.K ta) (iEnumD wa) := ⟨pi_enum hg hm ha.1 hs, fun S C F H γ σ R0 R Re en x h k => by
  refine ha.2 S C F H γ σ _ _ Re en x h fun ds C1 S1 H1 vs e1 R1 r1 h1 => ?_
  split at h1
  · cases r1 with | cons r1 r2 =>
      cases r2
      cases r1 with | d r1 => cases r1 with | lst q s =>
        exact ⟨_, _, rfl, SqL.of (R1.s _ _ q), k _ _ _ _ _ _ e1 R1 (iter_enum fun C' F' S' H' e2 R2 _ => ⟨_, SqL.of (R2.s _ _ (e2 _ _ q)), Rps.mono e2 s⟩) h1⟩
  · cases r1 with | cons r1 r2 =>
      cases r2
      cases r1
      split at h1
      · rename_i ws e3
        split at h1
        · rename_i xs e4
          cases dAll_eq e4
          obtain ⟨_, _, o, e5, vs, rfl, q⟩ := R1.cell e3 trivial
          exact ⟨_, _, rfl, SqL.of e5, k _ _ _ _ _ _ e1 R1 (iter_enum fun C' F' S' H' e2 R2 g => by
            obtain ⟨_, _, o, e6, vs', rfl, q'⟩ := R2.cell g trivial
            exact ⟨vs', SqL.of e6, Rps.of_ws q'⟩) h1⟩
        · exact h1.elim
      · exact h1.elim
  · exact h1.elim⟩
end

/-! ### calls -/
/-- a def's promise over data -/
abbrev DSp := List W → Cm → WK → (Value → List (Str × W) → Cm → Prop) → Prop
def spD (K : PySem.W.Frag) (T : Addr → Prop) (sp : DSp) : Sp := fun vs H Q E => ∃ (S : Hp) (C : Cm) (F : Hp) (ds : List W) (Q0 : WK) (E0 : Value → List (Str × W) → Cm → Prop), Rel K T S C F H ∧ Rws K S ds vs ∧ sp ds C Q0 E0 ∧
  (∀ d C' S' H' v, Ext S S' → Rel K T S' C' F H' → Rw K S' d v → Q0 d C' → Q v H') ∧
  ∀ c fs a gs C' S' H', Ext S S' → Rel K T S' C' F H' → S' a = some (.xd gs) → Rkv K S' fs gs → E0 c fs C' → E c (some a) H'
def eCall (EE : EXd) (sp : DSp) (as : TAd) : TEd := fun γ C Q => as γ C fun ds C1 => sp ds C1 Q fun c fs C2 => EE c fs γ C2
/-- a def as it is called -/
structure DFn (P : Program) (w : World) (K : PySem.W.Frag) (mg : Str → Option Value) (base : Heap) (T : Addr → Prop) (x : Str) (k : Nat) (sp : DSp) : Prop where
  ex : ∃ (f : Addr) (fd : FuncData) (ps : List Str), FnOk P w K mg base (L2.CX P w) k f fd ps (spD K T sp) ∧ mg x = some (.ref f) ∧ PySem.W.keepIn K (.ref f) = true ∧ Binds K fd ps []
theorem spD_mono {K : PySem.W.Frag} {T : Addr → Prop} {sp sp' : DSp} (h : ∀ ds C Q E, sp' ds C Q E → sp ds C Q E) {vs : List V} {H : Hp} {Q : VK} {E : XK} (q : spD K T sp' vs H Q E) : spD K T sp vs H Q E := by
  obtain ⟨S, C, F, ds, Q0, E0, a, b, c, d⟩ := q
  exact ⟨S, C, F, ds, Q0, E0, a, b, h _ _ _ _ c, d⟩
theorem DFn.imp {P : Program} {w : World} {K : PySem.W.Frag} {mg : Str → Option Value} {base : Heap} {T : Addr → Prop} {x : Str} {k : Nat} {sp sp' : DSp} (F : DFn P w K mg base T x k sp) (h : ∀ ds C Q E, sp' ds C Q E → sp ds C Q E) : DFn P w K mg base T x k sp' := by
  obtain ⟨f, fd, ps, a, b⟩ := F.ex
  exact ⟨f, fd, ps, a.imp fun vs H Q E q => spD_mono h q, b⟩
theorem DFn.mono {P : Program} {w : World} {K : PySem.W.Frag} {mg : Str → Option Value} {base : Heap} {T : Addr → Prop} {x : Str} {j k : Nat} {sp : DSp} (F : DFn P w K mg base T x j sp) (h : j ≤ k) : DFn P w K mg base T x k sp := by
  obtain ⟨f, fd, ps, a, b⟩ := F.ex
  exact ⟨f, fd, ps, a.mono h, b⟩
section
variable {K : PySem.W.Frag} {G : Sit} {X : Cx} {e : Expr} {es : List Expr} {x : Str} {p pos : Pos} {k j : Nat} {sp : DSp} {t : TA} {w : TAd}
/-- what a promise over data asks, at a call -/
theorem spD_at {S : Hp} {C : Cm} {F H : Hp} {γ : En} {σ : L2.St} {ds : List W} {vs : List V} {Q0 : WK} {Q : VK} (R : Rel K G.T S C F H) (en : EnR K S γ σ) (xk : ExOk K G S F) (rv : Rws K S ds vs) (h : sp ds C Q0 fun c fs C2 => G.EE c fs γ C2)
    (kk : ∀ d C' S' H' v, Ext S S' → Rel K G.T S' C' F H' → Rw K S' d v → Q0 d C' → Q v H') : spD K G.T sp vs H Q (WE G.W σ) :=
  ⟨S, C, F, ds, Q0, _, R, rv, h, kk, fun c fs a gs C' S' H' e R' ea rk q => xk c fs a gs γ σ C' H' S' e R' (en.mono e) ea rk q⟩
/-- f(..) -/
theorem d_call (F : DFn X.prog X.w X.K X.mg X.base G.T x k sp) (xo : XO G X j) (hk : k ≤ j) (ha : DA G X (e :: es) t w) (hg : Gl X x := by rfl) (hd : (x == ("__debug__" : Str)) = false := by decide)
    (hs : starEach (e :: es) X.env = (false, eval e X.env) :: starEach es X.env := by rfl) (hpl : (backTo pos (starEach es X.env)).any (·.1) = false := by rfl) : DE G X (.Call (.Name x p) (e :: es) [] pos) (tCallS (spD X.K G.T sp) (WE G.W) t) (eCall G.EE sp w) := by
  obtain ⟨f, fd, ps, F, hm, hkp, hb⟩ := F.ex
  refine ⟨pe_callS F (xo.room.mono hk) hg hm hkp hb (fun σ => passAt xo.takes σ) ha.1 hd hs hpl, fun S C F' H γ σ Q0 Q R en xk h kk => ?_⟩
  refine ha.2 S C F' H γ σ _ _ R en xk h fun ds C1 S1 H1 vs e1 R1 r1 h1 => ?_
  exact spD_at R1 (en.mono e1) (xk.mono e1) r1 h1 fun d C' S' H' v e2 => kk d C' S' H' v (e1.trans e2)
end

/-! ### defs -/
def startD (N : List Str) (ds : List W) : En := ds.map some ++ List.replicate (N.length - ds.length) none
theorem start_en {K : PySem.W.Frag} {S : Hp} {N : List Str} {ds : List W} {vs : List V} (r : Rws K S ds vs) : EnR K S (startD N ds) (L2.start N vs) := by
  have hl := Paired.length r
  refine ⟨by simp [startD, L2.start, hl], fun i w h => ?_⟩
  unfold startD at h
  by_cases hi : i < ds.length
  · rw [List.getElem?_append_left (by simpa using hi), List.getElem?_map] at h
    cases e : ds[i]? with
    | none => rw [e] at h; cases h
    | some d =>
      rw [e] at h
      cases h
      obtain ⟨v, h1, h2⟩ := Rws.get r e
      refine ⟨v, ?_, h2⟩
      unfold L2.start
      rw [List.getElem?_append_left (by rw [List.length_map, ← hl]; exact hi), List.getElem?_map, h1]
      rfl
  · rw [List.getElem?_append_right (by simpa using hi), List.getElem?_replicate] at h
    split at h <;> cases h
/-- what is wanted behind a def's body: some cells may be forgotten -/
def endsOf (Q : WK) : EndsD := { nx := fun _ C => ∃ C2, Sub C2 C ∧ Q (.d .none) C2, rt := fun d C => ∃ C2, Sub C2 C ∧ Q d C2 }
def exOf (E : Value → List (Str × W) → Cm → Prop) : EXd := fun c fs _ C => ∃ C2, Sub C2 C ∧ E c fs C2
abbrev cxD (P : Program) (w : World) (K : PySem.W.Frag) (mg : Str → Option Value) (base : Heap) (N : List Str) (qual : Str) (st : Stmt) (f : Addr) (cdv : Value) (A : Around) (outer : List Env) (s : Shared) (H : Hp) (E : XK) : Cx := cxOf (L2.CX P w) P w K mg base N qual (defScope st) f cdv A outer s H E
theorem fn_data {P : Program} {w : World} {K : PySem.W.Frag} {mg : Str → Option Value} {base : Heap} {T : Addr → Prop} {x qual : Str} {st : Stmt} {f : Addr} {fd : FuncData} {N ps : List Str} {k : Nat} {sp : DSp} {wb : EXd → TSd}
    (F : Fun K x qual st f fd) (Sc : FnScope N ps (defScope st)) (len : ∀ ds C Q E, sp ds C Q E → ds.length = ps.length)
    (der : ∀ (cdv : Value) (A : Around) (outer : List Env) (s : Shared) (H : Hp) (E : XK) (EE : EXd), XO ⟨T, fun c d _ H => E c d H, EE⟩ (cxD P w K mg base N qual st f cdv A outer s H E) k →
      ∃ t, DSs ⟨T, fun c d _ H => E c d H, EE⟩ (cxD P w K mg base N qual st f cdv A outer s H E) (defBody st) t (wb EE))
    (hw : ∀ ds C Q E, sp ds C Q E → wb (exOf E) (endsOf Q) (startD N ds) C) : FnOk P w K mg base (L2.CX P w) (k + 1) f fd ps (spD K T sp) := by
  refine F.okX Sc (fun vs H Q E h => ?_) (fun cdv A outer s H vs Q E hr h => ?_)
  · obtain ⟨S, C, F', ds, Q0, E0, _, r, h, _⟩ := h
    rw [← Paired.length r]
    exact len _ _ _ _ h
  · obtain ⟨S, C, F', ds, Q0, E0, R, r, h, kq, ke⟩ := h
    obtain ⟨t, d⟩ := der cdv A outer s H E (exOf E0) ⟨rfl, Sc.nd, hr, passes_of rfl, takes_of rfl rfl rfl rfl⟩
    refine ⟨t, d.1, d.2 S C F' H (startD N ds) (L2.start N vs) _ _ R (start_en r) ?_ (hw _ _ _ _ h) ⟨?_, ?_, ?_, ?_⟩⟩
    · rintro c fs a gs γ σ C' H' S' e R' en ea rk ⟨C2, sb, q⟩
      exact ke c fs a gs C2 S' H' e (R'.sub sb) ea rk q
    · rintro γ σ C' H' S' e R' en ⟨C2, sb, q⟩
      exact kq _ C2 S' H' .non e (R'.sub sb) (.d .non) q
    · rintro d v C' H' S' e R' rv ⟨C2, sb, q⟩
      exact kq d C2 S' H' v e (R'.sub sb) rv q
    · rintro γ σ C' H' S' e R' en q
      exact q.elim
    · rintro γ σ C' H' S' e R' en q
      exact q.elim
end Dl

set_option Elab.async false
set_option linter.all false
set_option maxRecDepth 100000
set_option maxHeartbeats 1000000
/-! The data layer, part 9: list comprehensions. -/
namespace Dl
open PySem L2

section
variable {K : PySem.W.Frag} {T : Addr → Prop} {S F H : Hp} {C : Cm} {p : Addr}
theorem view_upd {o : HO} {a : Addr} {c : Cell} (h : a ≠ p) : ViewR K S (upd F p o) a c ↔ ViewR K S F a c := by
  cases c <;> simp only [ViewR, upd_ne h]
/-- a thing of the frame changes -/
theorem Rel.putF (r : Rel K T S C (upd F p o0) H) (hn : F p = none) (hc : C p = none) {o : HO} : Rel K T S C (upd F p o) (upd H p o) := by
  have h0 := r.f p o0 upd_same
  refine ⟨fun b x e => ?_, fun a x e => ?_, fun a c e => ?_, fun P t => ?_⟩
  · rw [upd_ne (ne_of_none e h0.2)]; exact r.s _ _ e
  · by_cases hb : a = p
    · subst hb; rw [upd_same] at e ⊢; exact ⟨e, h0.2⟩
    · have q := r.f a x (by rw [upd_ne hb] at e ⊢; exact e)
      rw [upd_ne hb]; exact q
  · have hb : a ≠ p := fun z => by rw [z, hc] at e; cases e
    obtain ⟨h1, h2⟩ := r.c a c e
    refine ⟨h1, ?_⟩
    rw [view_upd hb] at h2 ⊢
    rw [upd_ne hb] at h2 ⊢
    rw [upd_ne hb]
    exact h2
  · obtain ⟨⟨ps, h', ok⟩, h2, h3, h4⟩ := r.t P t
    have hb : P ≠ p := fun z => by rw [z, upd_same] at h4; cases h4
    rw [upd_ne hb] at h4
    exact ⟨⟨ps, by rw [upd_ne hb]; exact h', ok⟩, h2, h3, by rw [upd_ne hb]; exact h4⟩
theorem Rel.outF (r : Rel K T S C (upd F p o) H) (hn : F p = none) (hc : C p = none) : Rel K T S C F H := by
  refine ⟨r.s, fun a x e => ?_, fun a c e => ?_, fun P t => ?_⟩
  · have hb : a ≠ p := ne_of_none e hn
    exact r.f a x (by rw [upd_ne hb]; exact e)
  · have hb : a ≠ p := fun z => by rw [z, hc] at e; cases e
    obtain ⟨h1, h2⟩ := r.c a c e
    rw [view_upd hb, upd_ne hb] at h2
    exact ⟨h1, h2⟩
  · obtain ⟨h', h2, h3, h4⟩ := r.t P t
    have hb : P ≠ p := fun z => by rw [z, upd_same] at h4; cases h4
    rw [upd_ne hb] at h4
    exact ⟨h', h2, h3, h4⟩
/-- .. out of the frame: frozen, or a cell -/
theorem Rel.addS (r : Rel K T S C F H) (hs : S p = none) (hf : F p = none) (hc : C p = none) (hT : ∀ P, T P → P ≠ p) {o : HO} (e0 : H p = some o) : Rel K T (upd S p o) C F H := by
  refine ⟨fun b x e => ?_, fun a x e => ?_, fun a c e => ?_, fun P t => ?_⟩
  · by_cases hb : b = p
    · subst hb; rw [upd_same] at e; cases e; exact e0
    · rw [upd_ne hb] at e; exact r.s _ _ e
  · have hb : a ≠ p := ne_of_none e hf
    rw [upd_ne hb]; exact r.f a x e
  · have hb : a ≠ p := fun z => by rw [z, hc] at e; cases e
    obtain ⟨h1, h2⟩ := r.c a c e
    refine ⟨by rw [upd_ne hb]; exact h1, ?_⟩
    rcases h2 with ⟨hf, o'', h2, h3⟩ | h2
    · exact .inl ⟨hf, o'', h2, h3.mono (ext_new hs)⟩
    · exact .inr (h2.mono (ext_new hs))
  · obtain ⟨h', h2, h3, h4⟩ := r.t P t
    exact ⟨h', by rw [upd_ne (hT P t)]; exact h2, h3, h4⟩
theorem Rel.addC (r : Rel K T S C F H) (hs : S p = none) (hf : F p = none) (hT : ∀ P, T P → P ≠ p) {o : HO} {c : Cell} (e0 : H p = some o) (hc : CellR K S p c o) : Rel K T S (cup C p c) F H := by
  refine ⟨r.s, r.f, fun a c' e => ?_, fun P t => ?_⟩
  · by_cases hb : a = p
    · subst hb; rw [cup_same] at e; cases e; exact ⟨hs, .inl ⟨hf, o, e0, hc⟩⟩
    · rw [cup_ne hb] at e; exact r.c a c' e
  · obtain ⟨h', h2, h3, h4⟩ := r.t P t
    exact ⟨h', h2, by rw [cup_ne (hT P t)]; exact h3, h4⟩
end
def wipeD (γ : En) : List Nat → En
  | [] => γ
  | v :: vs => (wipeD γ vs).set v none
theorem wipeD_en {K : PySem.W.Frag} {S : Hp} {γ : En} {σ : L2.St} (h : EnR K S γ σ) : ∀ vs, EnR K S (wipeD γ vs) (wipe σ vs)
  | [] => h
  | v :: vs => by
    have q := wipeD_en h vs
    refine ⟨by simp only [wipeD, wipe, List.length_set]; exact q.1, fun i w e => ?_⟩
    unfold wipeD at e
    unfold wipe
    by_cases hi : v = i
    · subst hi
      by_cases hl : v < (wipeD γ vs).length
      · rw [List.getElem?_set_self hl] at e; cases e
      · rw [List.getElem?_eq_none (by simpa using hl)] at e; cases e
    · rw [List.getElem?_set_ne hi] at e ⊢
      exact q.2 i w e
/-- a target keeps all slots but vs -/
def GK (g : TG) (vs : List Nat) : Prop := ∀ v σ H Q, g v σ H Q → g v σ H fun σ2 H2 => Q σ2 H2 ∧ wipe σ2 vs = wipe σ vs
def GsK (g : TGs) (vs : List Nat) : Prop := ∀ us σ H Q, g us σ H Q → g us σ H fun σ2 H2 => Q σ2 H2 ∧ wipe σ2 vs = wipe σ vs
theorem wipe_set {σ : L2.St} {i : Nat} {x : Option V} : ∀ {vs : List Nat}, i ∈ vs → wipe (σ.set i x) vs = wipe σ vs
  | v :: vs, h => by
    unfold wipe
    by_cases hi : i ∈ vs
    · rw [wipe_set hi]
    · have e : i = v := by
        rcases List.mem_cons.mp h with z | z
        · exact z
        · exact absurd z hi
      subst e
      have out : ∀ {us : List Nat} {τ : L2.St}, i ∉ us → wipe (τ.set i x) us = (wipe τ us).set i x := by
        intro us
        induction us with
        | nil => intro τ _; rfl
        | cons u us ih =>
          intro τ hn
          unfold wipe
          rw [ih (fun z => hn (List.mem_cons_of_mem _ z)), List.set_comm _ _ (fun z => hn (by rw [z]; exact List.mem_cons_self ..))]
      rw [out hi, List.set_set]
theorem wipe_idem {vs : List Nat} : ∀ (us : List Nat) (τ : L2.St), (∀ v ∈ us, v ∈ vs) → wipe (wipe τ us) vs = wipe τ vs
  | [], τ, _ => rfl
  | u :: us, τ, hm => by
    show wipe ((wipe τ us).set u none) vs = _
    rw [wipe_set (hm u (List.mem_cons_self ..))]
    exact wipe_idem us τ fun v hv => hm v (List.mem_cons_of_mem _ hv)
theorem gk_name {i : Nat} {vs : List Nat} (h : i ∈ vs) : GK (gName i) vs := fun v σ H Q q => ⟨q, wipe_set h⟩
theorem gk_nil {vs : List Nat} : GsK gNil vs := fun us σ H Q q => ⟨q.1, q.2, rfl⟩
theorem gk_cons {g : TG} {gs : TGs} {vs : List Nat} (h : GK g vs) (k : GsK gs vs) (mg : ∀ v σ H Q Q', g v σ H Q → (∀ σ2 H2, Q σ2 H2 → Q' σ2 H2) → g v σ H Q') (mgs : ∀ v σ H Q Q', gs v σ H Q → (∀ σ2 H2, Q σ2 H2 → Q' σ2 H2) → gs v σ H Q') : GsK (gCons g gs) vs := fun us σ H Q q => by
  obtain ⟨v, r, e, q⟩ := q
  refine ⟨v, r, e, mg _ _ _ _ _ (h v σ H _ q) fun σ2 H2 ⟨q1, q2⟩ => mgs _ _ _ _ _ (k r σ2 H2 _ q1) fun σ3 H3 ⟨q3, q4⟩ => ⟨q3, q4.trans q2⟩⟩
def GM (g : TG) : Prop := ∀ v σ H Q Q', g v σ H Q → (∀ σ2 H2, Q σ2 H2 → Q' σ2 H2) → g v σ H Q'
def GsM (g : TGs) : Prop := ∀ v σ H Q Q', g v σ H Q → (∀ σ2 H2, Q σ2 H2 → Q' σ2 H2) → g v σ H Q'
theorem gm_name {i : Nat} : GM (gName i) := fun v σ H Q Q' q k => k _ _ q
theorem gm_nil : GsM gNil := fun v σ H Q Q' q k => ⟨q.1, k _ _ q.2⟩
theorem gm_cons {g : TG} {gs : TGs} (h : GM g) (k : GsM gs) : GsM (gCons g gs) := fun us σ H Q Q' ⟨v, r, e, q⟩ z => ⟨v, r, e, h _ _ _ _ _ q fun σ2 H2 q2 => k _ _ _ _ _ q2 z⟩
theorem gm_tup {K : PySem.W.Frag} {n : Nat} {gs : TGs} (k : GsM gs) : GM (gTup K n gs) := fun v σ H Q Q' ⟨a, xs, e, h1, h2, q⟩ z => ⟨a, xs, e, h1, h2, k _ _ _ _ _ q z⟩
theorem gk_tup {K : PySem.W.Frag} {n : Nat} {gs : TGs} {vs : List Nat} (k : GsK gs vs) : GK (gTup K n gs) vs := fun v σ H Q ⟨a, xs, e, h1, h2, q⟩ => ⟨a, xs, e, h1, h2, k _ _ _ _ q⟩
/-- .. both -/
structure GO (g : TG) (vs : List Nat) : Prop where
  k : GK g vs
  m : GM g
structure GsO (g : TGs) (vs : List Nat) : Prop where
  k : GsK g vs
  m : GsM g
theorem go_name {i : Nat} {vs : List Nat} (h : i ∈ vs := by decide) : GO (gName i) vs := ⟨gk_name h, gm_name⟩
theorem go_nil {vs : List Nat} : GsO gNil vs := ⟨gk_nil, gm_nil⟩
theorem go_cons {g : TG} {gs : TGs} {vs : List Nat} (h : GO g vs) (k : GsO gs vs) : GsO (gCons g gs) vs := ⟨gk_cons h.k k.k h.m k.m, gm_cons h.m k.m⟩
theorem go_tup {K : PySem.W.Frag} {n : Nat} {gs : TGs} {vs : List Nat} (k : GsO gs vs) : GO (gTup K n gs) vs := ⟨gk_tup k.k, gm_tup k.m⟩

/-- the situation within a comprehension: nothing may be raised -/
def Sit.quiet (G : Sit) : Sit := ⟨G.T, fun _ _ _ _ => False, fun _ _ _ _ => False⟩
theorem ex_quiet {K : PySem.W.Frag} {G : Sit} {S F : Hp} : ExOk K G.quiet S F := fun _ _ _ _ _ _ _ _ _ _ _ _ _ _ h => h.elim
abbrev EE0 : EXd := fun _ _ _ _ => False
theorem XO.blk {G : Sit} {X : Cx} {k : Nat} (xo : XO G X k) {s : Shared} {H : Hp} {sc : Scope} {cenv : Env} {fp : List Addr} : XO G.quiet (X.blk s H sc cenv fp) k := ⟨xo.calm, xo.nd, xo.room, PassesOwn.never, takes0⟩
def eLc (m : Bool) (wi : TId) (g : TGd) (tt : TTd) (te : TEd) (vs : List Nat) : TEd := fun γ C Q => wi γ C fun ds Gd C1 => ∃ I : Nat → List W → Cm → Prop, I 0 [] C1 ∧ (∀ i acc C', i ≤ ds.length → I i acc C' → Gd C') ∧
  (∀ i d acc C', ds[i]? = some d → I i acc C' → g d (wipeD γ vs) C' fun γ2 C2 => tt γ2 C2 fun b C3 => if b = true then te γ2 C3 fun y C4 => acc.length < sizeLine ∧ ∃ C5, Sub C5 C4 ∧ I (i + 1) (acc ++ [y]) C5 else ∃ C5, Sub C5 C3 ∧ I (i + 1) acc C5) ∧
  ∀ acc C', I ds.length acc C' → newL m acc C' Q
def tYesD : TTd := fun _ C Q => Q true C
section
variable {K : PySem.W.Frag} {G : Sit}
theorem ref_lc {m : Bool} {wi : TI} {g : TG} {tt : TT} {te : TE} {vs : List Nat} {wwi : TId} {wg : TGd} {wtt : TTd} {wte : TEd} (hi : RefI K G wi wwi) (hg : RefG K G.quiet g wg) (gk : GO g vs) (ht : RefT K G.quiet tt wtt) (he : RefE K G.quiet te wte) : RefE K G (tLc wi g tt te vs) (eLc m wwi wg wtt wte vs) := by
  intro S C F H γ σ Q0 Q R en x h kk
  refine hi S C F H γ σ _ _ R en x h fun ds Gd J C1 S1 H1 e1 R1 it h1 => ?_
  obtain ⟨I, h0, hgd, hs, hd⟩ := h1
  intro D hD
  have fD := R1.freeF hD
  have cD := R1.freeC hD
  have sD := R1.freeS hD
  have tD : ∀ P, G.T P → P ≠ D := fun P t z => by
    obtain ⟨⟨ps, h', _⟩, _⟩ := R1.t P t
    rw [z, hD] at h'; cases h'
  -- what stands between the turns
  refine ⟨fun i m' H' => ∃ acc us C' S', Ext S1 S' ∧ Rel K G.T S' C' (upd F D (.lst us)) H' ∧ Rws K S' acc us ∧ I i acc C' ∧ C' D = none ∧ i ≤ ds.length ∧ m' = ds.length - i, ⟨_, [], [], C1, S1, Same.refl _, R1.newF hD, .nil, h0, cD, Nat.zero_le _, rfl⟩, ?_⟩
  rintro i m' H' ⟨acc, us, C', S', e2, R2, ra, hI, cD', hle, rfl⟩
  have R2' : Rel K G.T S' C' F H' := R2.outF fD cD'
  obtain ⟨st, go⟩ := it i C' _ S' H' e2 R2 (hgd i acc C' hle hI)
  have sD' := (R2.f D _ upd_same).2
  have hD' := (R2.f D _ upd_same).1
  by_cases hlt : i < ds.length
  · obtain ⟨g1, g2⟩ := go ds[i] (List.getElem?_eq_getElem hlt)
    refine .inr ⟨g1, fun H3 => ∃ acc us C' S', Ext S1 S' ∧ Rel K G.T S' C' (upd F D (.lst us)) H3 ∧ Rws K S' acc us ∧ I (i + 1) acc C' ∧ C' D = none, fun H3 ⟨acc, us, C3, S3, e3, R3, ra3, h3, c3⟩ => ⟨_, by omega, acc, us, C3, S3, e3, R3, ra3, h3, c3, hlt, rfl⟩, fun y H2 hy => ?_⟩
    obtain ⟨S2, e3, R3, r3⟩ := g2 y H2 hy
    have en2 : EnR K S2 (wipeD γ vs) (wipe σ vs) := wipeD_en (en.mono ((e1.trans e2).trans e3)) vs
    refine gk.m _ _ _ _ _ (gk.k _ _ _ _ (hg S2 C' _ H2 (wipeD γ vs) (wipe σ vs) ds[i] y _ (fun σ2 H3 => ∃ γ2 C2 S3, Ext S2 S3 ∧ Rel K G.T S3 C2 (upd F D (.lst us)) H3 ∧ EnR K S3 γ2 σ2 ∧ _) R3 en2 ex_quiet r3 (hs i ds[i] acc C' (List.getElem?_eq_getElem hlt) hI) fun γ2 σ2 C2 S3 H3 e4 R4 en4 q4 => ⟨γ2, C2, S3, e4, R4, en4, q4⟩)) ?_
    rintro σ2 H3 ⟨⟨γ2, C2, S3, e4, R4, en4, q4⟩, hw⟩
    refine ⟨by
      rw [hw]
      exact wipe_idem vs σ fun v hv => hv, ?_⟩
    refine ht S3 C2 _ H3 γ2 σ2 _ _ R4 en4 ex_quiet q4 fun b C3 S4 H4 e5 R5 q5 => ?_
    have ra3 := Rws.mono ((e3.trans e4).trans e5) ra
    by_cases hb : b = true
    · rw [if_pos hb] at q5 ⊢
      refine he S4 C3 _ H4 γ2 σ2 _ _ R5 (en4.mono e5) ex_quiet q5 fun d C4 S5 H5 v e6 R6 r6 q6 => ?_
      obtain ⟨hz, C5, sb, q6⟩ := q6
      have R7 := R6.sub sb
      have cD5 : C5 D = none := by
        cases z : C5 D with
        | none => rfl
        | some c =>
          have z2 := (R7.c D c z).2
          rcases z2 with ⟨z3, _⟩ | z2
          · rw [upd_same] at z3; cases z3
          · cases c <;> first | exact z2.elim | (obtain ⟨o, ps, z3, _⟩ := z2; rw [upd_same] at z3; cases z3)
      refine ⟨us, (R7.f D _ upd_same).1, by rw [← Paired.length ra]; exact hz, acc ++ [d], us ++ [v], C5, S5, ((((e2.trans e3).trans e4).trans e5).trans e6), ?_, rws_append (Rws.mono e6 ra3) (.cons r6 .nil), q6, cD5⟩
      have := R7.putF fD cD5 (o := .lst (us ++ [v]))
      exact this
    · rw [if_neg hb] at q5 ⊢
      obtain ⟨C5, sb, q5⟩ := q5
      have R7 := R5.sub sb
      have cD5 : C5 D = none := by
        cases z : C5 D with
        | none => rfl
        | some c =>
          have z2 := (R7.c D c z).2
          rcases z2 with ⟨z3, _⟩ | z2
          · rw [upd_same] at z3; cases z3
          · cases c <;> first | exact z2.elim | (obtain ⟨o, ps, z3, _⟩ := z2; rw [upd_same] at z3; cases z3)
      exact ⟨acc, us, C5, S4, (((e2.trans e3).trans e4).trans e5), R7, ra3, q5, cD5⟩
  · have hi' : i = ds.length := by omega
    subst hi'
    refine .inl ⟨st (Nat.le_refl _), ?_⟩
    have h4 := hd acc C' hI
    unfold newL at h4
    cases m with
    | true => exact kk (.own D) _ S' _ _ (e1.trans e2) (R2'.addC sD' fD tD hD' (c := .lst acc) ⟨us, rfl, ra⟩) (.own D) (h4 D cD')
    | false =>
      cases e : dAll acc with
      | none => rw [e] at h4; exact h4.elim
      | some xs =>
        rw [e] at h4
        cases dAll_eq e
        have xx := ext_new (o := .lst us) sD'
        exact kk (.d (.list xs)) C' _ _ _ ((e1.trans e2).trans xx) (R2'.addS sD' fD cD' tD hD') (.d (.lst upd_same ((Rps.of_ws ra).mono xx))) h4
end
section
variable {G : Sit} {X : Cx} {elt tg iter : Expr} {ifs : List Expr} {scope : Scope} {own : List (Str × Nat)} {pos : Pos} {wi : TI} {g : TG} {tt : TT} {te : TE} {wwi : TId} {wg : TGd} {wtt : TTd} {wte : TEd} {k : Nat}
def DTs (G : Sit) (X : Cx) (ifs : List Expr) (t : TT) (w : TTd) : Prop := PTs X ifs t ∧ RefT X.K G t w
theorem ts_nil : DTs G X [] tYes tYesD := ⟨pts_nil, fun S C F H γ σ Q0 Q R en x h k => k true C S H (Same.refl S) R h⟩
theorem ts_one {c : Expr} (h : DT G X c tt wtt) : DTs G X [c] tt wtt := ⟨pts_one h.1, h.2⟩
/-- [elt for tg in iter if ..] -/
theorem d_lc (m : Bool) (xo : XO G X k) (hi : DI G X tg iter wi wwi) (ok : BlkOk X.N X.env.scope scope own)
    (hg : ∀ (s : Shared) (H : Hp) (C : Addr) (cl : List (Str × Addr)) (fp : List Addr), DG G.quiet (X.blk s H scope (compEnvC scope cl C X.env) fp) tg g wg) (gk : GO g (own.map (·.2)))
    (ht : ∀ (s : Shared) (H : Hp) (C : Addr) (cl : List (Str × Addr)) (fp : List Addr), DTs G.quiet (X.blk s H scope (compEnvC scope cl C X.env) fp) ifs tt wtt)
    (he : ∀ (s : Shared) (H : Hp) (C : Addr) (cl : List (Str × Addr)) (fp : List Addr), DE G.quiet (X.blk s H scope (compEnvC scope cl C X.env) fp) elt te wte) (hs : ∀ x, foldedSetIterable iter X.env x = pure x := by intro _; rfl) :
    DE G X (.ListComp elt [⟨tg, iter, ifs, 0⟩] scope pos) (tLc wi g tt te (own.map (·.2))) (eLc m wwi wg wtt wte (own.map (·.2))) :=
  ⟨pe_lc xo.calm xo.nd hi.1 ok (fun s H C cl fp => (hg s H C cl fp).1) (fun s H C cl fp => (ht s H C cl fp).1) (fun s H C cl fp => (he s H C cl fp).1) hs, ref_lc hi.2 (hg ({} : Shared) (fun _ => none) 0 [] []).2 gk (ht ({} : Shared) (fun _ => none) 0 [] []).2 (he ({} : Shared) (fun _ => none) 0 [] []).2⟩
end
end Dl

set_option Elab.async false
set_option linter.all false
set_option maxRecDepth 100000
set_option maxHeartbeats 1000000
/-! The data layer, part 10: operators by name, lists' methods, stores at subscripts, sorted, min, max of data. -/
namespace Dl
open PySem L2

abbrev opSub : O2 := opI0 fun i j => .int (i - j)
abbrev opMod : O2 := opI (fun _ j => 0 < j) fun i j => .int (i % j)
abbrev opFdiv : O2 := opI CDiv fun i j => .int (i / j)
abbrev opPow : O2 := opI CPow fun i j => .int (i ^ j.toNat)
abbrev opLt : O2 := opI0 fun i j => .bool (decide (i < j))
abbrev opLe : O2 := opI0 fun i j => .bool (decide (i ≤ j))
abbrev opGt : O2 := opI0 fun i j => .bool (decide (j < i))
abbrev opGe : O2 := opI0 fun i j => .bool (decide (j ≤ i))
abbrev opAddI : O2 := opI0 fun i j => .int (i + j)

section
variable {K : PySem.W.Frag} {G : Sit} {X : Cx} {e o i : Expr} {es : List Expr} {te to ti : TE} {we wo wi : TEd} {t : TA} {wa : TAd} {pos p apos cpos : Pos} {k : Nat}
theorem ref_ip {f : Int → Int → Int} : RefR2 K G (ipI f) (opI0 fun i j => .int (f i j)) := by
  intro S C F H d e x y Q0 Q R r1 r2 h k
  unfold opI0 at h
  split at h
  · cases r1 with | d r1 => cases r2 with | d r2 =>
      cases r1; cases r2
      exact ⟨_, _, rfl, rfl, k _ C S H _ (Same.refl S) R (.d (.int _)) h⟩
  · exact h.elim
theorem s_aug_add (i : Nat) {x : Str} {pos' : Pos} (hN : X.N.Nodup) (he : DE G X e te we) (hi : X.N[i]? = some x := by rfl) (hx : Loc X.env.scope x := by first | exact Or.inl rfl | exact Or.inr rfl)
    (hf : X.fn x = true ∨ X.env.scope.names.lookup x = some .local := by first | exact .inl rfl | exact .inr rfl) : DS G X (.AugAssign (.Name x pos') .Add e pos) (tAug i te (ipI fun i j => i + j)) (sAug i we opAddI) := s_aug i hN he ip_add ref_ip hi hx hf
theorem s_aug_sub (i : Nat) {x : Str} {pos' : Pos} (hN : X.N.Nodup) (he : DE G X e te we) (hi : X.N[i]? = some x := by rfl) (hx : Loc X.env.scope x := by first | exact Or.inl rfl | exact Or.inr rfl)
    (hf : X.fn x = true ∨ X.env.scope.names.lookup x = some .local := by first | exact .inl rfl | exact .inr rfl) : DS G X (.AugAssign (.Name x pos') .Sub e pos) (tAug i te (ipI fun i j => i - j)) (sAug i we opSub) := s_aug i hN he ip_sub ref_ip hi hx hf

/-! ### methods of lists -/
abbrev OM := Addr → List W → List W → Cm → WK → Prop
def eM (w : OM) (o : TEd) (as : TAd) : TEd := fun γ C Q => o γ C fun x C1 => match x with
  | .own a => match C1 a with
    | some (.lst _) => as γ C1 fun ds C2 => match C2 a with
      | some (.lst ws) => w a ws ds C2 Q
      | _ => False
    | _ => False
  | _ => False
def RefM (K : PySem.W.Frag) (G : Sit) (r : V → List V → Hp → VK → Prop) (w : OM) : Prop := ∀ (S : Hp) (C : Cm) (F H : Hp) (a : Addr) (ws ds : List W) (us vs : List V) (Q0 : WK) (Q : VK), Rel K G.T S C F H → C a = some (.lst ws) → F a = none → H a = some (.lst us) → Rws K S ws us → Rws K S ds vs → w a ws ds C Q0 →
  (∀ d C' S' H' v, Ext S S' → Rel K G.T S' C' F H' → Rw K S' d v → Q0 d C' → Q v H') → r (.ref a) vs H Q
theorem ref_m {r : V → List V → Hp → VK → Prop} {w : OM} (hr : RefM K G r w) (ho : RefE K G to wo) (ha : RefA K G t wa) : RefE K G (tBM K "list" r to t) (eM w wo wa) := by
  intro S C F H γ σ Q0 Q R en x h kk
  refine ho S C F H γ σ _ _ R en x h fun d C1 S1 H1 v e1 R1 r1 h1 => ?_
  split at h1
  · rename_i a
    split at h1
    · rename_i ws0 e0
      cases r1
      obtain ⟨_, _, o', e4, us0, rfl, q0⟩ := R1.cell e0 trivial
      refine ⟨.inl ⟨rfl, us0, SqL.of e4⟩, ?_⟩
      refine ha S1 C1 F H1 γ σ _ _ R1 (en.mono e1) (x.mono e1) h1 fun ds C2 S2 H2 vs e2 R2 r2 h2 => ?_
      split at h2
      · rename_i ws e3
        obtain ⟨_, hf, o', e5, us, rfl, q⟩ := R2.cell e3 trivial
        exact hr S2 C2 F H2 a ws ds us vs _ _ R2 e3 hf e5 q r2 h2 fun d' C' S' H' v' e6 => kk d' C' S' H' v' ((e1.trans e2).trans e6)
      · exact h2.elim
    · exact h1.elim
  · exact h1.elim
def opAppend : OM := fun a ws ds C Q => match ds with
  | [d] => ws.length < sizeLine ∧ Q (.d .none) (cup C a (.lst (ws ++ [d])))
  | _ => False
theorem ref_append : RefM K G rAppend opAppend := by
  intro S C F H a ws ds us vs Q0 Q R hC hF hH rw rv h kk
  unfold opAppend at h
  split at h
  · obtain ⟨v, rfl, r⟩ := one_ws rv
    exact ⟨a, us, v, rfl, rfl, hH, by rw [← Paired.length rw]; exact h.1, kk _ _ S _ _ (Same.refl S) (R.put (c := .lst _) hC hF ⟨_, rfl, rws_append rw (.cons r .nil)⟩) (.d .non) h.2⟩
  · exact h.elim
theorem d_append (ho : DE G X o to wo) (ha : DA G X (e :: es) t wa) (hbase : attributeBase o "append" X.env (eval o X.env) = eval o X.env := by rfl)
    (hfew : ((backTo cpos (starEach (e :: es) X.env)).all (fun x => !x.1) && (backToKw cpos (keywordEach [] X.env)).all (fun x => x.1.isSome)
      && decide ((e :: es).length + ([] : List Keyword).length + (if ([] : List Keyword).isEmpty then 0 else 1) < 30)) = true := by rfl)
    (hline : (apos.endLine == cpos.line) = true := by rfl) (hs : starEach (e :: es) X.env = (false, eval e X.env) :: starEach es X.env := by rfl) (hplain : (backTo cpos (starEach es X.env)).any (·.1) = false := by rfl) :
    DE G X (.Call (.Attribute o "append" apos) (e :: es) [] cpos) (tBM X.K "list" rAppend to t) (eM opAppend wo wa) :=
  ⟨pe_bm PySem.F.plainAttrs_list PySem.F.slot_list_append PySem.F.type_list_append mt_append ho.1 ha.1 hbase hfew hline hs hplain, ref_m ref_append ho.2 ha.2⟩
def opExtend : OM := fun a ws ds C Q => match ds with
  | [.scr _] => False
  | [d] => match asL C d with
    | some us => ws.length + us.length ≤ sizeLine ∧ Q (.d .none) (cup C a (.lst (ws ++ us)))
    | none => False
  | _ => False
theorem ref_extend : RefM K G rExtend opExtend := by
  intro S C F H a ws ds us vs Q0 Q R hC hF hH rw rv h kk
  unfold opExtend at h
  split at h
  · exact h.elim
  · rename_i d hn
    obtain ⟨v, rfl, r⟩ := one_ws rv
    split at h
    · rename_i zs e
      obtain ⟨b, ys, rfl, q, s⟩ := asL_ok' R r e fun ns z => hn ns (by rw [z])
      exact ⟨a, b, us, ys, rfl, rfl, hH, q, by rw [← Paired.length rw, ← Paired.length s]; exact h.1, kk _ _ S _ _ (Same.refl S) (R.put (c := .lst _) hC hF ⟨_, rfl, rws_append rw s⟩) (.d .non) h.2⟩
    · exact h.elim
  · exact h.elim
theorem d_extend (ho : DE G X o to wo) (ha : DA G X (e :: es) t wa) (hbase : attributeBase o "extend" X.env (eval o X.env) = eval o X.env := by rfl)
    (hfew : ((backTo cpos (starEach (e :: es) X.env)).all (fun x => !x.1) && (backToKw cpos (keywordEach [] X.env)).all (fun x => x.1.isSome)
      && decide ((e :: es).length + ([] : List Keyword).length + (if ([] : List Keyword).isEmpty then 0 else 1) < 30)) = true := by rfl)
    (hline : (apos.endLine == cpos.line) = true := by rfl) (hs : starEach (e :: es) X.env = (false, eval e X.env) :: starEach es X.env := by rfl) (hplain : (backTo cpos (starEach es X.env)).any (·.1) = false := by rfl) :
    DE G X (.Call (.Attribute o "extend" apos) (e :: es) [] cpos) (tBM X.K "list" rExtend to t) (eM opExtend wo wa) :=
  ⟨pe_bm PySem.F.plainAttrs_list PySem.F.slot_list_extend PySem.F.type_list_extend mt_extend ho.1 ha.1 hbase hfew hline hs hplain, ref_m ref_extend ho.2 ha.2⟩
theorem rws_erase {S : Hp} : ∀ {ws : List W} {vs : List V} (j : Nat), Rws K S ws vs → Rws K S (ws.eraseIdx j) (vs.eraseIdx j)
  | _, _, _, .nil => .nil
  | _, _, 0, .cons _ t => t
  | _, _, j + 1, .cons r t => .cons r (rws_erase j t)
def opPopAt : OM := fun a ws ds C Q => match ds with
  | [.d (.int i)] => (-(2 ^ 63) ≤ i ∧ i < 2 ^ 63) ∧ match ixN ws.length i with
    | some j => match ws[j]? with
      | some w => Q w (cup C a (.lst (ws.eraseIdx j)))
      | none => False
    | none => False
  | _ => False
theorem ref_popAt : RefM K G rPopAt opPopAt := by
  intro S C F H a ws ds us vs Q0 Q R hC hF hH rw rv h kk
  unfold opPopAt at h
  split at h
  · obtain ⟨v, rfl, r⟩ := one_ws rv
    cases r with | d r =>
      cases r
      obtain ⟨hb, h⟩ := h
      split at h
      · rename_i j ej
        split at h
        · rename_i w ew
          obtain ⟨v, ev, rvv⟩ := Rws.get rw ew
          exact ⟨a, us, _, j, v, rfl, rfl, hH, hb.1, hb.2, by rw [← Paired.length rw]; exact (ixN_seq ej).1, ev, kk _ _ S _ _ (Same.refl S) (R.put (c := .lst _) hC hF ⟨_, rfl, rws_erase j rw⟩) rvv h⟩
        · exact h.elim
      · exact h.elim
  · exact h.elim
theorem d_popAt (ho : DE G X o to wo) (ha : DA G X (e :: es) t wa) (hbase : attributeBase o "pop" X.env (eval o X.env) = eval o X.env := by rfl)
    (hfew : ((backTo cpos (starEach (e :: es) X.env)).all (fun x => !x.1) && (backToKw cpos (keywordEach [] X.env)).all (fun x => x.1.isSome)
      && decide ((e :: es).length + ([] : List Keyword).length + (if ([] : List Keyword).isEmpty then 0 else 1) < 30)) = true := by rfl)
    (hline : (apos.endLine == cpos.line) = true := by rfl) (hs : starEach (e :: es) X.env = (false, eval e X.env) :: starEach es X.env := by rfl) (hplain : (backTo cpos (starEach es X.env)).any (·.1) = false := by rfl) :
    DE G X (.Call (.Attribute o "pop" apos) (e :: es) [] cpos) (tBM X.K "list" rPopAt to t) (eM opPopAt wo wa) :=
  ⟨pe_bm PySem.F.plainAttrs_list PySem.F.slot_list_pop PySem.F.type_list_pop mt_popAt ho.1 ha.1 hbase hfew hline hs hplain, ref_m ref_popAt ho.2 ha.2⟩
theorem rws_take {S : Hp} : ∀ {ws : List W} {vs : List V} (j : Nat), Rws K S ws vs → Rws K S (ws.take j) (vs.take j)
  | _, _, j, .nil => by rw [List.take_nil, List.take_nil]; exact .nil
  | _, _, 0, .cons _ _ => .nil
  | _, _, j + 1, .cons r t => .cons r (rws_take j t)
theorem rws_drop {S : Hp} : ∀ {ws : List W} {vs : List V} (j : Nat), Rws K S ws vs → Rws K S (ws.drop j) (vs.drop j)
  | _, _, j, .nil => by rw [List.drop_nil, List.drop_nil]; exact .nil
  | _, _, 0, .cons r t => .cons r t
  | _, _, j + 1, .cons r t => rws_drop j t
def rInsert : V → List V → Hp → VK → Prop := fun x vs H Q => ∃ (l : Addr) (xs : List V) (i : Int) (y : V), x = .ref l ∧ vs = [.int i, y] ∧ H l = some (.lst xs) ∧ xs.length < sizeLine ∧ 0 ≤ i ∧ i < 2 ^ 63 ∧
    Q .non (upd H l (.lst (xs.take i.toNat ++ [y] ++ xs.drop i.toNat)))
def opInsert : OM := fun a ws ds C Q => match ds with
  | [.d (.int i), d] => ws.length < sizeLine ∧ (0 ≤ i ∧ i < 2 ^ 63) ∧ Q (.d .none) (cup C a (.lst (ws.take i.toNat ++ [d] ++ ws.drop i.toNat)))
  | _ => False
theorem ref_insert : RefM K G rInsert opInsert := by
  intro S C F H a ws ds us vs Q0 Q R hC hF hH rw rv h kk
  unfold opInsert at h
  split at h
  · cases rv with | cons r1 rv => cases rv with | cons r2 rv =>
      cases rv
      cases r1 with | d r1 =>
        cases r1
        exact ⟨a, us, _, _, rfl, rfl, hH, by rw [← Paired.length rw]; exact h.1, h.2.1.1, h.2.1.2, kk _ _ S _ _ (Same.refl S) (R.put (c := .lst _) hC hF ⟨_, rfl, rws_append (rws_append (rws_take _ rw) (.cons r2 .nil)) (rws_drop _ rw)⟩) (.d .non) h.2.2⟩
  · exact h.elim
theorem d_insert (ho : DE G X o to wo) (ha : DA G X (e :: es) t wa) (hbase : attributeBase o "insert" X.env (eval o X.env) = eval o X.env := by rfl)
    (hfew : ((backTo cpos (starEach (e :: es) X.env)).all (fun x => !x.1) && (backToKw cpos (keywordEach [] X.env)).all (fun x => x.1.isSome)
      && decide ((e :: es).length + ([] : List Keyword).length + (if ([] : List Keyword).isEmpty then 0 else 1) < 30)) = true := by rfl)
    (hline : (apos.endLine == cpos.line) = true := by rfl) (hs : starEach (e :: es) X.env = (false, eval e X.env) :: starEach es X.env := by rfl) (hplain : (backTo cpos (starEach es X.env)).any (·.1) = false := by rfl) :
    DE G X (.Call (.Attribute o "insert" apos) (e :: es) [] cpos) (tBM X.K "list" rInsert to t) (eM opInsert wo wa) :=
  ⟨pe_bm PySem.F.plainAttrs_list PySem.F.slot_list_insert PySem.F.type_list_insert mt_insert ho.1 ha.1 hbase hfew hline hs hplain, ref_m ref_insert ho.2 ha.2⟩

/-! ### o[i] op= e, o an own list -/
def rGetL : V → V → Hp → VK → Prop := fun o i H Q => ∃ p xs k v, o = .ref p ∧ i = .int k ∧ H p = some (.lst xs) ∧ atI xs k = some v ∧ Q v H
theorem get_list : PGet X rGetL := by
  intro pins s σ H x y v u Q I rx ry h
  obtain ⟨p, xs, i, z, rfl, rfl, hq, he, q⟩ := h
  cases rx
  obtain ⟨t, rfl⟩ := ry
  obtain ⟨its, r, pl, hz⟩ := I.list (SqL.of hq)
  obtain ⟨j, h1, h2, h3, h4, h5⟩ := atI_get he
  obtain ⟨w, ew, rw'⟩ := r.get h2
  have hl := r.length
  have hn := line63
  have fin : EP X pins σ Q w s := ⟨z, H, I, rw', q⟩
  by_cases h0 : 0 ≤ i
  · have hj : i.toNat = j := by
      rw [seqIndex_of h0 h5] at h1
      exact Option.some.inj h1
    exact wpAny_getItem_list pl.isList h0 (by omega) (by rw [hj]; simpa using ew) fin
  · have hj : (i + (its.toArray.size : Int)).toNat = j := by
      rw [seqIndex_neg (by omega) h4] at h1
      rw [List.size_toArray, ← hl]
      exact Option.some.inj h1
    exact wpAny_getItem_list_neg (Q := fun r s' => EP X pins σ Q r s') pl.isList (by omega) (by rw [List.size_toArray] <;> omega) (by omega) (by rw [hj]; simpa using ew) fin
def sAugS (o i a : TEd) (w : O2) : TSd := fun D γ C => o γ C fun x C1 => i γ C1 fun y C2 => match x, y with
  | .own p, .d (.int n) => match C2 p with
    | some (.lst ws) => match ixN ws.length n with
      | some j => match ws[j]? with
        | some u => a γ C2 fun z C3 => w u z C3 fun u2 C4 => match C4 p with
          | some (.lst ws2) => ws2.length = ws.length ∧ D.nx γ (cup C4 p (.lst (ws2.set j u2)))
          | _ => False
        | none => False
      | none => False
    | _ => False
  | _, _ => False
theorem rws_set {S : Hp} {d : W} {v : V} (r : Rw K S d v) : ∀ {ws : List W} {vs : List V} (j : Nat), Rws K S ws vs → Rws K S (ws.set j d) (vs.set j v)
  | _, _, _, .nil => .nil
  | _, _, 0, .cons _ t => .cons r t
  | _, _, j + 1, .cons r' t => .cons r' (rws_set r j t)
theorem s_augS {op : Operator} {tip : TIp} {w : O2} {tpos : Pos} (ho : DE G X o to wo) (hi : DE G X i ti wi) (he : DE G X e te we) (hp : PIp X op tip) (hw : RefR2 X.K G tip w)
    (ha : ∀ ov iv new, augStore i ov iv new = (do holding [new, ov, iv] (setItem ov iv new); release [new, ov, iv] []; pure .next) := by intros; rfl) :
    DS G X (.AugAssign (.Subscript o i tpos) op e pos) (tAugS to ti te rGetL tip rSetL) (sAugS wo wi we w) := ⟨ps_augS ho.1 hi.1 get_list he.1 hp set_list ha, by
  intro S C F H γ σ D0 D R en x h kk
  refine ho.2 S C F H γ σ _ _ R en x h fun d1 C1 S1 H1 v1 e1 R1 r1 h1 => ?_
  refine hi.2 S1 C1 F H1 γ σ _ _ R1 (en.mono e1) (x.mono e1) h1 fun d2 C2 S2 H2 v2 e2 R2 r2 h2 => ?_
  split at h2
  · rename_i p n
    cases r1
    cases r2 with | d r2 =>
      cases r2
      split at h2
      · rename_i ws e3
        obtain ⟨_, _, o', e4, vs, rfl, q⟩ := R2.cell e3 trivial
        split at h2
        · rename_i j ej
          split at h2
          · rename_i u eu
            obtain ⟨v, ev, rv⟩ := Rws.get q eu
            have hat : atI vs n = some v := by
              unfold atI
              rw [← Paired.length q, ej]
              exact ev
            refine ⟨p, vs, n, v, rfl, rfl, e4, hat, ?_⟩
            refine he.2 S2 C2 F H2 γ σ _ _ R2 (en.mono (e1.trans e2)) (x.mono (e1.trans e2)) h2 fun d3 C3 S3 H3 v3 e5 R3 r3 h3 => ?_
            refine hw S3 C3 F H3 u d3 v v3 _ _ R3 (rv.mono e5) r3 h3 fun d4 C4 S4 H4 v4 e6 R4 r4 h4 => ?_
            split at h4
            · rename_i ws2 e7
              obtain ⟨_, hf, o', e8, vs2, rfl, q2⟩ := R4.cell e7 trivial
              have ee := ((e1.trans e2).trans e5).trans e6
              exact ⟨p, vs2, n, j, rfl, rfl, e8, by rw [← Paired.length q2, h4.1]; exact ej, kk.nx _ _ _ _ S4 ee (R4.put (c := .lst _) e7 hf ⟨_, rfl, rws_set r4 j q2⟩) (en.mono ee) h4.2⟩
            · exact h4.elim
          · exact h2.elim
        · exact h2.elim
      · exact h2.elim
  · exact h2.elim⟩
theorem s_augS_add {tpos : Pos} (ho : DE G X o to wo) (hi : DE G X i ti wi) (he : DE G X e te we)
    (ha : ∀ ov iv new, augStore i ov iv new = (do holding [new, ov, iv] (setItem ov iv new); release [new, ov, iv] []; pure .next) := by intros; rfl) :
    DS G X (.AugAssign (.Subscript o i tpos) .Add e pos) (tAugS to ti te rGetL (ipI fun i j => i + j) rSetL) (sAugS wo wi we opAddI) := s_augS ho hi he ip_add ref_ip ha
theorem s_augS_sub {tpos : Pos} (ho : DE G X o to wo) (hi : DE G X i ti wi) (he : DE G X e te we)
    (ha : ∀ ov iv new, augStore i ov iv new = (do holding [new, ov, iv] (setItem ov iv new); release [new, ov, iv] []; pure .next) := by intros; rfl) :
    DS G X (.AugAssign (.Subscript o i tpos) .Sub e pos) (tAugS to ti te rGetL (ipI fun i j => i - j) rSetL) (sAugS wo wi we opSub) := s_augS ho hi he ip_sub ref_ip ha

/-! ### name = [.. for ..] -/
theorem s_setLc (i : Nat) {y : Str} {py spos : Pos} {elt tg iter : Expr} {ifs : List Expr} {scope : Scope} {own : List (Str × Nat)} {wi : TI} {g : TG} {tt : TT} {wwi : TId} {wg : TGd} {wtt : TTd} (m : Bool) (xo : XO G X k) (hi : DI G X tg iter wi wwi) (ok : BlkOk X.N X.env.scope scope own)
    (hg : ∀ (s : Shared) (H : Hp) (C : Addr) (cl : List (Str × Addr)) (fp : List Addr), DG G.quiet (X.blk s H scope (compEnvC scope cl C X.env) fp) tg g wg) (gk : GO g (own.map (·.2)))
    (ht : ∀ (s : Shared) (H : Hp) (C : Addr) (cl : List (Str × Addr)) (fp : List Addr), DTs G.quiet (X.blk s H scope (compEnvC scope cl C X.env) fp) ifs tt wtt)
    (he : ∀ (s : Shared) (H : Hp) (C : Addr) (cl : List (Str × Addr)) (fp : List Addr), DE G.quiet (X.blk s H scope (compEnvC scope cl C X.env) fp) elt te we) (hs : ∀ x, foldedSetIterable iter X.env x = pure x := by intro _; rfl)
    (hy : X.N[i]? = some y := by rfl) (hyl : X.env.scope.names.lookup y = some .local := by rfl) (hsw : swapsWith (.ListComp elt [⟨tg, iter, ifs, 0⟩] scope pos) (some (.Name y py)) spos.line X.env = pure true := by rfl) :
    DS G X (.Assign [.Name y py] (.ListComp elt [⟨tg, iter, ifs, 0⟩] scope pos) spos) (tAsg (tLc wi g tt te (own.map (·.2))) (gName i)) (sAsg (eLc m wwi wg wtt we (own.map (·.2))) (uName i)) :=
  ⟨ps_setLc xo.calm xo.nd hy hyl hsw hi.1 ok (fun s H C cl fp => (hg s H C cl fp).1) (fun s H C cl fp => (ht s H C cl fp).1) (fun s H C cl fp => (he s H C cl fp).1) hs,
   ref_asg (ref_lc hi.2 (hg ({} : Shared) (fun _ => none) 0 [] []).2 gk (ht ({} : Shared) (fun _ => none) 0 [] []).2 (he ({} : Shared) (fun _ => none) 0 [] []).2) fun S C F H γ σ d v Q0 Q R en _ r h k => k _ _ _ S _ (Same.refl S) R (en.set r i) h⟩
end
end Dl

set_option Elab.async false
set_option linter.all false
set_option maxRecDepth 100000
set_option maxHeartbeats 1000000
/-! The data layer, part 11: sorted, min, max over lists of data. -/
namespace Dl
open PySem L2 PyProof.Rows PySem.W

def asLd (C : Cm) (w : W) : Option (List PyData) := (asL C w).bind dAll
section
variable {K : PySem.W.Frag} {G : Sit} {X : Cx} {e : Expr} {es : List Expr} {t tk : TA} {w wk : TAd} {pos p : Pos} {k : Nat} {kws : List Keyword}
theorem asLd_ok {T : Addr → Prop} {S F H : Hp} {C : Cm} {d : W} {v : V} {xs : List PyData} (R : Rel K T S C F H) (rv : Rw K S d v) (h : asLd C d = some xs) : ∃ a vs, v = .ref a ∧ SqL K H a vs ∧ Rps K S xs vs := by
  unfold asLd at h
  cases e : asL C d with
  | none => rw [e] at h; cases h
  | some ws =>
    rw [e] at h
    obtain ⟨a, vs, rfl, q, s⟩ := asL_ok R rv e
    have h2 : dAll ws = some xs := h
    cases dAll_eq h2
    exact ⟨a, vs, rfl, q, Rps.of_ws s⟩
theorem dpAll_mono {S H : Hp} (e : Ext S H) : ∀ {xs : List PyData} {vs : List V}, Rps K S xs vs → DpAll K H vs xs := fun r => Rps.dp (Rps.mono e r)
/-- the items, each with its datum -/
theorem each_zip {h : Heap} : ∀ {vs : List V} {us : List Value} {xs : List PyData} {as : List Addr}, Vals vs us → ReadsAll h us xs as → xs.length = vs.length →
    EachIs (fun u (b : PyData × V) => RelV b.2 u) us (xs.zip vs) ∧ EachIs (fun u (b : PyData × V) => ∃ as, Reads h u b.1 as) us (xs.zip vs)
  | [], _, xs, _, .nil, r, hl => by
    cases r
    exact ⟨.nil, .nil⟩
  | v :: vs, _, xs, _, .cons rv rt, r, hl => by
    cases r with
    | cons r1 r2 =>
      obtain ⟨h1, h2⟩ := each_zip rt r2 (by simpa using hl)
      exact ⟨.cons rv h1, .cons ⟨_, r1⟩ h2⟩
theorem vals_each : ∀ {us : List Value} {bs : List (PyData × V)}, EachIs (fun u (b : PyData × V) => RelV b.2 u) us bs → Vals (bs.map (·.2)) us
  | _, _, .nil => .nil
  | _, _, .cons h t => .cons h (vals_each t)
theorem rps_zip {S : Hp} : ∀ {xs : List PyData} {vs : List V}, Rps K S xs vs → ∀ b ∈ xs.zip vs, Rp K S b.1 b.2
  | _, _, .nil, b, h => by simp at h
  | _, _, .cons h r, b, hb => by
    rw [List.zip_cons_cons] at hb
    rcases List.mem_cons.mp hb with rfl | z
    · exact h
    · exact rps_zip r b z
theorem rps_unzip {S : Hp} : ∀ {bs : List (PyData × V)}, (∀ b ∈ bs, Rp K S b.1 b.2) → Rps K S (bs.map (·.1)) (bs.map (·.2))
  | [], _ => .nil
  | b :: bs, h => .cons (h b (List.mem_cons_self ..)) (rps_unzip fun c hc => h c (List.mem_cons_of_mem _ hc))
theorem zip_fst {α β : Type} : ∀ {xs : List α} {ys : List β}, xs.length = ys.length → (xs.zip ys).map (·.1) = xs
  | [], [], _ => rfl
  | x :: xs, y :: ys, h => by
    rw [List.zip_cons_cons, List.map_cons, zip_fst (by simpa using h)]
/-- sorted, of data -/
def srt (xs : List PyData) : List PyData := xs.mergeSort (dataLe false id)
theorem srt_zip {xs : List PyData} {vs : List V} (h : xs.length = vs.length) : ((xs.zip vs).mergeSort (dataLe false (·.1))).map (·.1) = srt xs := by
  have e := List.map_mergeSort (r := dataLe false (fun b : PyData × V => b.1)) (s := dataLe false id) (f := fun b : PyData × V => b.1) (l := xs.zip vs) (fun a _ b _ => rfl)
  rw [zip_fst h] at e
  exact e
def rSortD (K : PySem.W.Frag) : List V → Hp → VK → Prop := fun vs H Q => ∃ (a : Addr) (S : Hp) (xs : List PyData) (us : List V), vs = [.ref a] ∧ SqL K H a us ∧ Rps K S xs us ∧ Ext S H ∧ AllAlike xs ∧ Sortable xs ∧ PyData.depthAll xs ≤ 60 ∧
  ∀ (ys : List V) (p : Addr), Rps K S (srt xs) ys → H p = none → Q (.ref p) (upd H p (.lst ys))
theorem depth_mem {d : PyData} : ∀ {xs : List PyData}, d ∈ xs → d.depth ≤ PyData.depthAll xs
  | x :: xs, h => by
    unfold PyData.depthAll
    rcases List.mem_cons.mp h with rfl | z
    · exact Nat.le_max_left _ _
    · exact Nat.le_trans (depth_mem z) (Nat.le_max_right _ _)
theorem cr_sortD {k : Nat} (hr : Room k X.A) : CallR X (.builtin "sorted") (rSortD X.K) := by
  intro pins s σ H vs us Q I r h
  obtain ⟨a, S, xs, ys, rfl, hs, rp, ex, hal, hk, hz, q⟩ := h
  obtain ⟨its, rv, hl, hlen⟩ := I.list hs
  rw [Vals.ref1 r]
  obtain ⟨as, ra⟩ := Dp.readsAll I xs _ its (dpAll_mono ex rp) rv
  obtain ⟨h1, h2⟩ := each_zip rv ra rp.length
  have ez : (xs.zip ys).map (·.1) = xs := zip_fst rp.length
  have hlz : (xs.zip ys).length = its.length := h1.length.symm
  have hu := hr.units
  refine sorted_data (enc := fun b : PyData × V => b.1) hl.isList h1 h2 (by rw [ez]; exact hal) (by rw [ez]; exact hk) (by rw [hlz, ← rv.length]; exact hlen) (fun b hb => ?_) fun out ho he => ?_
  · have hm : b.1 ∈ xs := by rw [← ez]; exact List.mem_map_of_mem hb
    have := depth_mem hm
    omega
  · obtain ⟨ep, he'⟩ := PyProof.Rows.sortedAll_at s.heap its (List.toArray out)
    have hv := vals_each he
    have e1 := srt_zip rp.length
    have hperm := List.mergeSort_perm (xs.zip ys) (dataLe false (·.1))
    have rs : Rps X.K S (srt xs) (((xs.zip ys).mergeSort (dataLe false (·.1))).map (·.2)) := by
      rw [← e1]
      exact rps_unzip fun b hb => rps_zip rp b (hperm.mem_iff.mp hb)
    have hlen2 : (((xs.zip ys).mergeSort (dataLe false (·.1))).map (·.2)).length ≤ sizeLine := by
      rw [List.length_map, hperm.length_eq, hlz, ← rv.length]
      exact hlen
    exact ⟨.ref _, upd H (s.heap.objs.size + 1) (.lst (((xs.zip ys).mergeSort (dataLe false (·.1))).map (·.2))), I.laid (t' := s.toks) (fun _ _ => PyProof.Rows.sortedAll_old) (Nat.le_succ _) ⟨hlen2, out, ep, hv, he'⟩, rfl, q _ _ rs (I.hok.fresh (Nat.le_succ _))⟩
def opSorted (m : Bool) : OC := fun ds C Q => match ds with
  | [w] => match asLd C w with
    | some xs => AllAlike xs ∧ Sortable xs ∧ PyData.depthAll xs ≤ 60 ∧ newL m ((srt xs).map W.d) C Q
    | none => False
  | _ => False
theorem ref_sorted {m : Bool} : RefC K G (rSortD K) (opSorted m) := by
  intro S C F H ds vs Q0 Q R rv h kk
  unfold opSorted at h
  split at h
  · obtain ⟨v, rfl, r⟩ := one_ws rv
    split at h
    · rename_i xs e
      obtain ⟨a, us, rfl, q, s⟩ := asLd_ok R r e
      refine ⟨a, S, xs, us, rfl, q, s, R.s, h.1, h.2.1, h.2.2.1, fun ys p rp hp => ?_⟩
      exact newL_ok R rp.ws h.2.2.2 kk p hp
    · exact h.elim
  · exact h.elim
theorem d_sorted (m : Bool) (hr : Room k X.A) (hm : X.mg "sorted" = none) (ha : DA G X (e :: es) t w) (hg : Gl X "sorted" := by rfl) (he : starEach (e :: es) X.env = (false, eval e X.env) :: starEach es X.env := by rfl) (hpl : (backTo pos (starEach es X.env)).any (·.1) = false := by rfl) :
    DE G X (.Call (.Name "sorted" p) (e :: es) [] pos) (tCB (rSortD X.K) t) (eCB (opSorted m) w) := d_callB (cr_sortD hr) ref_sorted hm ha (hg := hg) (he := he) (hpl := hpl)

/-! ### min, max of data -/
theorem maxD_mem (x : PyData) (xs : List PyData) : maxD x xs ∈ x :: xs := by
  unfold maxD
  induction xs generalizing x with
  | nil => exact List.mem_cons_self ..
  | cons y ys ih =>
    rw [List.foldl_cons]
    have := ih (if dataLt x y = true then y else x)
    rcases List.mem_cons.mp this with z | z
    · rw [z]
      split
      · exact List.mem_cons_of_mem _ (List.mem_cons_self ..)
      · exact List.mem_cons_self ..
    · exact List.mem_cons_of_mem _ (List.mem_cons_of_mem _ z)
theorem minD_mem (x : PyData) (xs : List PyData) : minD x xs ∈ x :: xs := by
  unfold minD
  induction xs generalizing x with
  | nil => exact List.mem_cons_self ..
  | cons y ys ih =>
    rw [List.foldl_cons]
    have := ih (if dataLt y x = true then y else x)
    rcases List.mem_cons.mp this with z | z
    · rw [z]
      split
      · exact List.mem_cons_of_mem _ (List.mem_cons_self ..)
      · exact List.mem_cons_self ..
    · exact List.mem_cons_of_mem _ (List.mem_cons_of_mem _ z)
/-- the item at i that reads as z, as an abstract value -/
theorem best_at {S : Hp} {h h' : Heap} {xs : List PyData} {ys : List V} {its : List Value} {as bs : List Addr} {z : PyData} {i : Nat} {v : Value} (rp : Rps K S xs ys) (rv : Vals ys its) (ra : ReadsAll h its xs as) (hal : AlikeAll xs) (hz : z ∈ xs) (hi : its.toArray[i]? = some v) (r : Reads h' v z bs) (hk : ∀ b o, h.get? b = some o → h'.get? b = some o) : ∃ y, RelV y v ∧ Rp K S z y := by
  have hi' : its[i]? = some v := by simpa using hi
  obtain ⟨bs2, r2, hlt, hm, _⟩ := readsAll_at ra i v hi'
  have ez : xs.getD i .none = z := alike_unique _ _ _ _ _ (hal.1 _ hm _ hz) (reads_keeps hk r2) r
  have hiy : i < ys.length := by rw [← rp.length]; exact hlt
  obtain ⟨u, eu, ru⟩ := rv.get (List.getElem?_eq_getElem hiy)
  rw [hi'] at eu
  cases eu
  obtain ⟨v2, e2, rw2⟩ := Rws.get (i := i) rp.ws (w := .d xs[i]) (by rw [List.getElem?_map, List.getElem?_eq_getElem hlt]; rfl)
  rw [List.getElem?_eq_getElem hiy] at e2
  cases e2
  refine ⟨_, ru, ?_⟩
  cases rw2 with
  | d q =>
    have : xs[i] = z := by rw [← ez, List.getD_eq_getElem?_getD, List.getElem?_eq_getElem hlt]; rfl
    rw [this] at q
    exact q
def rBest (K : PySem.W.Frag) (f : PyData → List PyData → PyData) : List V → Hp → VK → Prop := fun vs H Q => ∃ (a : Addr) (S : Hp) (x : PyData) (xs : List PyData) (us : List V), vs = [.ref a] ∧ SqL K H a us ∧ Rps K S (x :: xs) us ∧ Ext S H ∧ AlikeAll (x :: xs) ∧ PyData.depthAll (x :: xs) ≤ 60 ∧
  ∀ v, Rp K S (f x xs) v → Q v H
theorem cr_maxD {k : Nat} (hr : Room k X.A) : CallR X (.builtin "max") (rBest X.K maxD) := by
  intro pins s σ H vs us Q I r h
  obtain ⟨a, S, x, xs, ys, rfl, hs, rp, ex, hal, hz, q⟩ := h
  obtain ⟨its, rv, hl, hlen⟩ := I.list hs
  rw [Vals.ref1 r]
  obtain ⟨as, ra⟩ := Dp.readsAll I _ _ its (dpAll_mono ex rp) rv
  have hu := hr.units
  refine max_list_data hr.hd hl.isList (as := as) (by simpa using ra) hal (by omega) fun i v h' tk bs hi rd hk => ?_
  obtain ⟨y, ry, rpy⟩ := best_at rp rv ra hal (maxD_mem x xs) hi rd hk
  exact ⟨y, H, I.kept hk, ry, q y rpy⟩
theorem cr_minD {k : Nat} (hr : Room k X.A) : CallR X (.builtin "min") (rBest X.K minD) := by
  intro pins s σ H vs us Q I r h
  obtain ⟨a, S, x, xs, ys, rfl, hs, rp, ex, hal, hz, q⟩ := h
  obtain ⟨its, rv, hl, hlen⟩ := I.list hs
  rw [Vals.ref1 r]
  obtain ⟨as, ra⟩ := Dp.readsAll I _ _ its (dpAll_mono ex rp) rv
  have hu := hr.units
  refine min_list_data hr.hd hl.isList (as := as) (by simpa using ra) hal (by omega) fun i v h' tk bs hi rd hk => ?_
  obtain ⟨y, ry, rpy⟩ := best_at rp rv ra hal (minD_mem x xs) hi rd hk
  exact ⟨y, H, I.kept hk, ry, q y rpy⟩
def opBest (f : PyData → List PyData → PyData) : OC := fun ds C Q => match ds with
  | [w] => match asLd C w with
    | some (x :: xs) => AlikeAll (x :: xs) ∧ PyData.depthAll (x :: xs) ≤ 60 ∧ Q (.d (f x xs)) C
    | _ => False
  | _ => False
theorem ref_best {f : PyData → List PyData → PyData} : RefC K G (rBest K f) (opBest f) := by
  intro S C F H ds vs Q0 Q R rv h kk
  unfold opBest at h
  split at h
  · obtain ⟨v, rfl, r⟩ := one_ws rv
    split at h
    · rename_i x xs e
      obtain ⟨a, us, rfl, q, s⟩ := asLd_ok R r e
      exact ⟨a, S, x, xs, us, rfl, q, s, R.s, h.1, h.2.1, fun v rp => kk _ C S H v (Same.refl S) R (.d rp) h.2.2⟩
    · exact h.elim
  · exact h.elim
theorem d_maxD (hr : Room k X.A) (hm : X.mg "max" = none) (ha : DA G X (e :: es) t w) (hg : Gl X "max" := by rfl) (he : starEach (e :: es) X.env = (false, eval e X.env) :: starEach es X.env := by rfl) (hpl : (backTo pos (starEach es X.env)).any (·.1) = false := by rfl) :
    DE G X (.Call (.Name "max" p) (e :: es) [] pos) (tCB (rBest X.K maxD) t) (eCB (opBest maxD) w) := d_callB (cr_maxD hr) ref_best hm ha (hg := hg) (he := he) (hpl := hpl)
theorem d_minD (hr : Room k X.A) (hm : X.mg "min" = none) (ha : DA G X (e :: es) t w) (hg : Gl X "min" := by rfl) (he : starEach (e :: es) X.env = (false, eval e X.env) :: starEach es X.env := by rfl) (hpl : (backTo pos (starEach es X.env)).any (·.1) = false := by rfl) :
    DE G X (.Call (.Name "min" p) (e :: es) [] pos) (tCB (rBest X.K minD) t) (eCB (opBest minD) w) := d_callB (cr_minD hr) ref_best hm ha (hg := hg) (he := he) (hpl := hpl)

/-! ### max(xs, default=d) -/
def DKw (G : Sit) (X : Cx) (ks : List Keyword) (t : TA) (w : TAd) : Prop := PK X ks t ∧ RefA X.K G t w
theorem k_nil : DKw G X [] tNil (fun _ C Q => Q [] C) := ⟨pk_nil, fun S C F H γ σ Q0 Q R en x h kk => kk [] C S H [] (Same.refl S) R .nil h⟩
theorem k_cons {e : Expr} {te : TE} {we : TEd} {nm : Str} {kpos : Pos} (ha : DE G X e te we) (hr : DKw G X kws t w) : DKw G X (⟨nm, e, kpos⟩ :: kws) (tCons te t) (fun γ C Q => we γ C fun d C1 => w γ C1 fun ds C2 => Q (d :: ds) C2) := ⟨pk_cons ha.1 hr.1, by
  intro S C F H γ σ Q0 Q R en x h kk
  refine ha.2 S C F H γ σ _ _ R en x h fun d C1 S1 H1 v e1 R1 r1 h1 => ?_
  refine hr.2 S1 C1 F H1 γ σ _ _ R1 (en.mono e1) (x.mono e1) h1 fun ds C2 S2 H2 vs e2 R2 r2 h2 => ?_
  exact kk _ C2 S2 H2 _ (e1.trans e2) R2 (.cons (r1.mono e2) r2) h2⟩
def rBestK (K : PySem.W.Frag) (f : PyData → List PyData → PyData) : List V → List V → Hp → VK → Prop := fun vs zs H Q => ∃ (a : Addr) (S : Hp) (xs : List PyData) (us : List V) (z : V), vs = [.ref a] ∧ zs = [z] ∧ SqL K H a us ∧ Rps K S xs us ∧ Ext S H ∧ AlikeAll xs ∧ PyData.depthAll xs ≤ 60 ∧
  (xs = [] → Q z H) ∧ ∀ y ys v, xs = y :: ys → Rp K S (f y ys) v → Q v H
theorem cr_maxK {k : Nat} (hr : Room k X.A) : CallRK X (.builtin "max") [Str.ofString "default"] (rBestK X.K maxD) := by
  intro pins s σ H vs zs us ws Q I r rz h
  obtain ⟨a, S, xs, ys, z, rfl, rfl, hs, rp, ex, hal, hz, q0, q⟩ := h
  obtain ⟨its, rv, hl, hlen⟩ := I.list hs
  rw [Vals.ref1 r]
  obtain ⟨u, rfl, ru⟩ := rz.one
  obtain ⟨as, ra⟩ := Dp.readsAll I _ _ its (dpAll_mono ex rp) rv
  have hu := hr.units
  refine max_list_default hr.hd hl.isList (as := as) (by simpa using ra) hal (by omega) (fun e h' tk hk => ⟨z, H, I.kept hk, ru, q0 e⟩) fun y ys' i v h' tk bs e hi rd hk => ?_
  obtain ⟨y', ry, rpy⟩ := best_at rp rv ra hal (by rw [e]; exact maxD_mem y ys') hi rd hk
  exact ⟨y', H, I.kept hk, ry, q y ys' y' e rpy⟩
def opBestK (f : PyData → List PyData → PyData) : List W → List W → Cm → WK → Prop := fun ds zs C Q => match ds, zs with
  | [w], [z] => match asLd C w with
    | some [] => Q z C
    | some (x :: xs) => AlikeAll (x :: xs) ∧ PyData.depthAll (x :: xs) ≤ 60 ∧ Q (.d (f x xs)) C
    | none => False
  | _, _ => False
def eCKw (w : List W → List W → Cm → WK → Prop) (as ks : TAd) : TEd := fun γ C Q => as γ C fun ds C1 => ks γ C1 fun zs C2 => w ds zs C2 Q
theorem d_maxK {x : Keyword} (hr : Room k X.A) (hm : X.mg "max" = none) (ha : DA G X (e :: es) t w) (hk : DKw G X kws tk wk) (hg : Gl X "max" := by rfl)
    (he : backTo pos (starEach (e :: es) X.env) = (false, eval e X.env) :: backTo pos (starEach es X.env) := by rfl) (hpl : (backTo pos (starEach (e :: es) X.env)).any (·.1) = false := by rfl)
    (hall : (backToKw pos (keywordEach kws X.env)).all (·.1.isSome) = true := by rfl) (hnone : (backToKw pos (keywordEach kws X.env)).any (·.1.isNone) = false := by rfl) (hks : (backToKw pos (keywordEach kws X.env)).filterMap (·.1) = [Str.ofString "default"] := by rfl) :
    DE G X (.Call (.Name "max" p) (e :: es) kws pos) (tCKw (rBestK X.K maxD) t tk) (eCKw (opBestK maxD) w wk) := ⟨pe_callBK (cr_maxK hr) hg hm (by decide +kernel) ha.1 hk.1 (he := he) (hpl := hpl) (hall := hall) (hnone := hnone) (hks := hks), by
  intro S C F H γ σ Q0 Q R en xx h kk
  refine ha.2 S C F H γ σ _ _ R en xx h fun ds C1 S1 H1 vs e1 R1 r1 h1 => ?_
  refine hk.2 S1 C1 F H1 γ σ _ _ R1 (en.mono e1) (xx.mono e1) h1 fun zs C2 S2 H2 us e2 R2 r2 h2 => ?_
  unfold opBestK at h2
  have r1 := Rws.mono e2 r1
  split at h2
  · obtain ⟨v, rfl, r⟩ := one_ws r1
    obtain ⟨z, rfl, rz⟩ := one_ws r2
    have kk' : ∀ d C' S' H' v, Ext S2 S' → Rel X.K G.T S' C' F H' → Rw X.K S' d v → Q0 d C' → Q v H' := fun d C' S' H' v e3 => kk d C' S' H' v ((e1.trans e2).trans e3)
    split at h2
    · rename_i e
      obtain ⟨a, us, rfl, q, s⟩ := asLd_ok R2 r e
      refine ⟨a, S2, [], us, z, rfl, rfl, q, s, R2.s, ⟨fun _ h => by simp at h, fun _ h => by simp at h⟩, by simp [PyData.depthAll], fun _ => kk' _ _ _ _ _ (Same.refl _) R2 rz h2, fun _ _ _ h => by cases h⟩
    · rename_i x xs e
      obtain ⟨a, us, rfl, q, s⟩ := asLd_ok R2 r e
      exact ⟨a, S2, _, us, z, rfl, rfl, q, s, R2.s, h2.1, h2.2.1, fun h => by (cases h), fun y ys v e rp => by
        cases e
        exact kk' _ C2 S2 H2 v (Same.refl _) R2 (.d rp) h2.2.2⟩
    · exact h2.elim
  · exact h2.elim⟩
end
end Dl

set_option Elab.async false
set_option linter.all false
set_option maxRecDepth 100000
set_option maxHeartbeats 2000000
/-! The data layer, part 12: a generator expression with any plain target: the coroutine. -/
namespace Gxp
open PySem

abbrev allYes : Nat → Bool := fun _ => true
/-- what is known of a generator expression's parts, in its own frame ce, each of them quiet: storing an item, the element -/
structure Parts (prog : Program) (w : World) (ce : Env) (I : Addr) (tg el : Expr) (fp wr : List Addr) (Pv : Nat → Value → Prop) (Fv : Nat → Value → Prop) (G : Nat → (Str → Option Value) → Prop) (St : Nat → Heap → Prop) (h0 : Heap) (dm um : Nat) : Prop where
  own : ∀ (B : Around) X i v (z : Shared) (Q : Unit → Shared → Prop), Pv i v → St (i + 1) z.heap → Q () z → wpAny (model prog w) B (letOwnedTupleGo tg (.ref I) v) Q X z
  put : ∀ (B : Around) X i v (z : Shared) nm (Q : Unit → Shared → Prop), B.handled = none → Pv i v → z.heap.Ns ce.locals nm → (∀ b ∈ fp, b ∉ wr → ∀ o, h0.get? b = some o → z.heap.get? b = some o) →
    (∀ h1 t1 nm1, h1.Ns ce.locals nm1 → G i nm1 → (∀ b o, b ≠ ce.locals → z.heap.get? b = some o → h1.get? b = some o) → Q () { z with heap := h1, toks := t1 }) → wpAny (model prog w) B (assign tg ce v) Q X z
  elem : ∀ (B : Around) X i (z : Shared) nm, B.handled = none → B.depth ≤ dm → B.units ≤ um → G i nm → z.heap.Ns ce.locals nm → (∀ b ∈ fp, b ∉ wr → ∀ o, h0.get? b = some o → z.heap.get? b = some o) →
    wpAny (model prog w) B (eval el ce) (fun y z1 => Fv i y ∧ Keeps z z1) X z

theorem left_len {n i : Nat} (h : i ≤ n) : (passing allYes n i).length = n - i := by
  unfold passing
  rw [List.filter_eq_self.mpr (fun _ _ => rfl), List.length_drop, List.length_range]

section
variable {prog : Program} {w : World} {A : Around} {ce : Env} {I : Addr} {tg el it : Expr} {sc : Scope} {gp : Pos} {fp wr : List Addr} {Pv Fv : Nat → Value → Prop} {G : Nat → (Str → Option Value) → Prop} {St : Nat → Heap → Prop} {N : Nat}

abbrev bodyOf (el tg it : Expr) (sc : Scope) (gp : Pos) : Expr := .GeneratorExp el [⟨tg, it, [], 0⟩] sc gp
abbrev doneAt (C : Addr) (wr : List Addr) : Nat → Shared → Result → Shared → Prop := fun n z r z1 => r = .ok .next ∧ (n = 0 ∧ GenSince C wr z z1)

theorem coLoop {h0 : Heap} (hA : A.handled = none) (Wk : ∀ B : Around, B.handled = none → Walks prog w B I fp wr N Pv St) (hco : ce.scope.isCoroutine = false) (hfp : ce.locals ∉ fp)
    (q : Parts prog w ce I tg el fp wr Pv Fv G St h0 (A.depth + 1) (A.units + 3)) : ∀ (left i : Nat) (za z : Shared) (nm : Str → Option Value), N - i = left → i ≤ N → St i z.heap → z.heap.Ns ce.locals nm → GenSince ce.locals wr za z →
      (∀ b ∈ fp, b ∉ wr → ∀ o, h0.get? b = some o → z.heap.get? b = some o) →
      Seg (model prog w) A (doneAt ce.locals wr) (genProto ce.locals fp wr allYes N Fv) (passing allYes N i).length za (.compLoop (bodyOf el tg it sc gp) 0 (.ref I) .none ce) ((model prog w).den (.compLoop (bodyOf el tg it sc gp) 0 (.ref I) .none ce)) [] z := by
  have bA : (A.over (.compLoop (bodyOf el tg it sc gp) 0 (.ref I) .none ce) []).handled = none := hA
  have bD : (A.over (.compLoop (bodyOf el tg it sc gp) 0 (.ref I) .none ce) []).depth ≤ A.depth + 1 := Nat.le_of_eq rfl
  have bU : (A.over (.compLoop (bodyOf el tg it sc gp) 0 (.ref I) .none ce) []).units ≤ A.units + 3 := Nat.le_of_eq rfl
  have wfree : ce.locals ∉ wr := fun m => hfp ((Wk A hA).sub _ m)
  intro left
  induction left with
  | zero =>
    intro i za z nm e1 e2 st ns since kept
    obtain rfl : i = N := by omega
    show Seg _ A _ _ _ za _ ((compTurn (bodyOf el tg it sc gp) 0 (.ref I) .none ce).onRaise (leaving ce)) [] z
    rw [compTurn_gen, Sem.onRaise_eq_wrap]
    apply seg_bind_wrap
    apply wpAny_standAt
    apply seg_bind_wrap
    refine (Wk _ bA).done z _ _ st fun h1 t1 up => ?_
    exact seg_end (.ok .next) ⟨rfl, by rw [left_len (Nat.le_refl _), Nat.sub_self], since.step fun b o _ nb e => up b o nb e⟩
  | succ left IH =>
    intro i za z nm e1 e2 st ns since kept
    have lt : i < N := by omega
    show Seg _ A _ _ _ za _ ((compTurn (bodyOf el tg it sc gp) 0 (.ref I) .none ce).onRaise (leaving ce)) [] z
    rw [compTurn_gen, Sem.onRaise_eq_wrap]
    apply seg_bind_wrap
    apply wpAny_standAt
    apply seg_bind_wrap
    refine (Wk _ bA).item i z _ _ lt st fun v h1 t1 pv st1 up1 => ?_
    apply seg_bind_wrap
    refine q.own _ _ i v _ _ pv st1 ?_
    have kept1 : ∀ b ∈ fp, b ∉ wr → ∀ o, h0.get? b = some o → h1.get? b = some o := fun b m nb o e => up1 b o nb (kept b m nb o e)
    apply seg_bind_wrap
    refine q.put _ _ i v _ nm _ bA pv (ns.at' fun o e => up1 _ o wfree e) kept1 fun h2 t2 nm2 ns2 g2 up2 => ?_
    have ne : ∀ b ∈ fp, b ≠ ce.locals := fun b m e => hfp (e ▸ m)
    have st2 : St (i + 1) h2 := (Wk A hA).frame _ _ _ st1 fun b m o e => up2 b o (ne b m) e
    have kept2 : ∀ b ∈ fp, b ∉ wr → ∀ o, h0.get? b = some o → h2.get? b = some o := fun b m nb o e => up2 b o (ne b m) (kept1 b m nb o e)
    have all2 : ∀ b o, b ≠ ce.locals → b ∉ wr → z.heap.get? b = some o → h2.get? b = some o := fun b o nl nb e => up2 b o nl (up1 b o nb e)
    apply seg_bind_wrap
    refine wpAny_of_eq (a := true) (by rw [List.forIn_nil]) ?_
    rw [PySem.passing_true lt rfl, List.length_cons]
    simp only [if_true]
    have yo : ∀ v, yieldOut ce v = yieldValue v := fun v => by unfold yieldOut; rw [hco]; rfl
    simp only [yo]
    rw [Sem.bind_eq_wrap', Sem.bind_eq_wrap', Sem.wrap_wrap, Sem.wrap_wrap]
    refine seg_wrap (wpAny_mono (q.elem _ _ i _ nm2 bA bD bU g2 ns2 kept2) (fun y z3 r3 => ?_) fun _ _ e => e)
    obtain ⟨fy, h3, t3, rfl, up3⟩ := r3
    refine seg_at (seg_yield rfl rfl rfl ⟨⟨i, passing_here lt rfl, fy⟩, since.step fun b o nl nb e => up3 b o (all2 b o nl nb e), fun zn al => ?_⟩)
    have st3 : St (i + 1) zn.heap := (Wk A hA).frame _ _ _ st2 fun b m o e => al b (List.mem_cons_of_mem _ m) o (up3 b o e)
    have ns3 := (ns2.keeps up3).at' fun o e => al _ (List.mem_cons_self ..) o e
    exact seg_again rfl (IH (i + 1) zn zn nm2 (by omega) lt st3 ns3 (GenSince.refl _ _ _) fun b m nb o e => al b (List.mem_cons_of_mem _ m) o (up3 b o (kept2 b m nb o e)))

theorem coStart {h0 : Heap} (hA : A.handled = none) (Wk : ∀ B : Around, B.handled = none → Walks prog w B I fp wr N Pv St) (hco : ce.scope.isCoroutine = false) (hfp : ce.locals ∉ fp)
    (q : Parts prog w ce I tg el fp wr Pv Fv G St h0 (A.depth + 1) (A.units + 3)) (z : Shared) (nm : Str → Option Value) (st : St 0 z.heap) (ns : z.heap.Ns ce.locals nm) (kept : ∀ b ∈ fp, b ∉ wr → ∀ o, h0.get? b = some o → z.heap.get? b = some o) :
    Seg (model prog w) A (doneAt ce.locals wr) (genProto ce.locals fp wr allYes N Fv) (passing allYes N 0).length z (.compStart (bodyOf el tg it sc gp) 0 (.ref I) .none ce) ((model prog w).den (.compStart (bodyOf el tg it sc gp) 0 (.ref I) .none ce)) [] z := by
  have bA : (A.over (.compStart (bodyOf el tg it sc gp) 0 (.ref I) .none ce) []).handled = none := hA
  have turn := coLoop (it := it) (sc := sc) (gp := gp) hA Wk hco hfp q N 0 z z nm (Nat.sub_zero _) (Nat.zero_le _) st ns (GenSince.refl _ _ _) kept
  show Seg _ A _ _ _ z _ ((compStart (bodyOf el tg it sc gp) 0 (.ref I) .none ce).onRaise (leaving ce)) [] z
  unfold compStart
  rw [Sem.onRaise_eq_wrap]
  show Seg _ A _ _ _ z _ ((ask >>= _).wrap _ _ _ _) [] z
  apply seg_bind_wrap
  apply wpAny_askSetting
  split
  · exact seg_again rfl turn
  · apply seg_bind_wrap
    apply wpAny_rule
    show Seg _ A _ _ _ z _ ((standAt it.pos >>= _).wrap _ _ _ _) [] z
    apply seg_bind_wrap
    apply wpAny_standAt
    apply seg_bind_wrap
    exact (Wk _ bA).self 0 z _ _ st (seg_again rfl turn)

theorem coFresh {a : Addr} {g : Nat} (hA : A.handled = none) (Wk : ∀ B : Around, B.handled = none → Walks prog w B I fp wr N Pv St) (hco : ce.scope.isCoroutine = false) (hfp : ce.locals ∉ fp) {z : Shared} {nm : Str → Option Value}
    (q : Parts prog w ce I tg el fp wr Pv Fv G St z.heap (A.depth + 1) (A.units + 4)) (hg : z.heap.IsGen a g) (hgs : z.gens[g]? = some (.fresh (.compStart (bodyOf el tg it sc gp) 0 (.ref I) .none ce)))
    (st : St 0 z.heap) (ns : z.heap.Ns ce.locals nm) (hl : z.heap.NoLimit) : GenAt prog w A a g ce.locals fp wr allYes N Fv 0 z :=
  ⟨hg, hl, _, hgs, fun zn al => ⟨rfl, coStart (A := A.in1) hA Wk hco hfp q zn nm ((Wk A hA).frame _ _ _ st fun b m o e => al b (List.mem_cons_of_mem _ m) o e) (ns.at' fun o e => al _ (List.mem_cons_self ..) o e) fun b m _ o e => al b (List.mem_cons_of_mem _ m) o e⟩⟩
end

section
variable {prog : Program} {w : World} {A : Around} {E : Value → Shared → Prop} {s : Shared}
/-- the generator is made -/
theorem make {env : Env} {el tg it : Expr} {sc : Scope} {cl : List (Str × Addr)} {gp : Pos} {Q : Value → Shared → Prop} (hA : A.handled = none) (hco : sc.isCoroutine = false) (hcl : closureFor sc env = pure cl) (hce : ∀ y ∈ sc.names, y.2 ≠ .cell)
    (hdot : sc.names.lookup (".0" : Str) = some NameKind.local) (hk : sc.kind = .function) (room : A.depth < recursionLimit)
    (h : wpAny (model prog w) A (eval it env) (fun xv s1 => wpAny (model prog w) A (pyIter xv) (fun iv s2 => s2.heap.NoLimit ∧
      wpAny (model prog w) A (genexprCode env gp (env.qual ++ "<genexpr>") sc) (fun code s3 => wpAny (model prog w) A (builtinsFor env.globals env.builtins) (fun bi s4 =>
        ∃ I fp wr N Pv St Fv G, iv = .ref I ∧ (∀ B : Around, B.handled = none → Walks prog w B I fp wr N Pv St) ∧ St 0 s4.heap ∧ (∀ b ∈ fp, b < s4.heap.objs.size) ∧ s4.heap.NoLimit ∧ cStatics ∉ wr ∧
          (∀ h0 : Heap, (∀ b o, s4.heap.get? b = some o → h0.get? b = some o) → Parts prog w (genEnv sc cl s4.heap.objs.size code bi env) I tg el (List.range s4.heap.objs.size) wr Pv Fv G St h0 (A.depth + 1) (A.units + 8)) ∧
          (∀ a h5 tk gs, gs.bare = true → s4.heap.objs.size < a → h5.objs.size = a + 1 → (∀ b o, s4.heap.get? b = some o → h5.get? b = some o) →
            WalksS prog w A.in4 a (a :: s4.heap.objs.size :: List.range s4.heap.objs.size) (s4.heap.objs.size :: wr) (GenOnlyQ s4.gens.size) N (fun j y => Fv j y) (GenAt prog w A.in4 a s4.gens.size s4.heap.objs.size (List.range s4.heap.objs.size) wr allYes N Fv) →
            GenAt prog w A.in4 a s4.gens.size s4.heap.objs.size (List.range s4.heap.objs.size) wr allYes N Fv 0 { s4 with gens := s4.gens.push gs, toks := tk, heap := h5 } →
            Q (.ref a) { s4 with gens := s4.gens.push gs, toks := tk, heap := h5 })) E s3) E s2) E s1) E s)
    (hs : ∀ x, genFold it env x = pure x) : wpAny (model prog w) A (eval (bodyOf el tg it sc gp) env) Q E s := by
  refine wpAny_GeneratorExp_make hco hcl hce hdot hk room ?_ hs
  refine wpAny_mono h (fun xv s1 h1 => ?_) fun _ _ e => e
  refine wpAny_mono h1 (fun iv s2 h2 => ⟨h2.1, ?_⟩) fun _ _ e => e
  refine wpAny_mono h2.2 (fun code s3 h3 => ?_) fun _ _ e => e
  refine wpAny_mono h3 (fun bi s4 h4 => ?_) fun _ _ e => e
  obtain ⟨I, fp, wr, N, Pv, St, Fv, G, rfl, Wk, st, below, lim, nst, parts, done⟩ := h4
  have cs : cStatics < s4.heap.objs.size := let ⟨_, hn, _⟩ := lim; hn.lt
  intro hf ns sb
  have fsz : hf.objs.size = s4.heap.objs.size + 1 := by rw [sb.1, Heap.size_push]
  have up : ∀ b o, s4.heap.get? b = some o → hf.get? b = some o := fun b o e => sb.extBut b o (Nat.ne_of_lt (Heap.lt_size e)) (Heap.get?_push_of_some _ e)
  have wsub : ∀ b ∈ wr, b ∈ List.range s4.heap.objs.size := fun b m => List.mem_range.mpr (below b ((Wk A hA).sub b m))
  have aC : hf.objs.size ≠ s4.heap.objs.size := by omega
  have aF : hf.objs.size ∉ List.range s4.heap.objs.size := fun m => by have := List.mem_range.mp m; omega
  generalize hgo : ({ cls := .type "generator", data := .fields #[.int s4.gens.size 0, .str "<genexpr>" (s4.toks + 1), .str (env.qual ++ "<genexpr>") (s4.toks + 1 + 1)] } : Obj) = go
  have up5 : ∀ b o, s4.heap.get? b = some o → (hf.push go).get? b = some o := fun b o e => Heap.get?_push_of_some _ (up b o e)
  have W5 := WalksS.genexpQ (prog := prog) (w := w) (A := A.in4) hA hf.objs.size s4.gens.size s4.heap.objs.size (List.range s4.heap.objs.size) wr allYes N Fv aC aF wsub room (List.mem_range.mpr cs) (Nat.ne_of_lt cs) nst
  have en : (passing allYes N 0).length = N := by rw [left_len (Nat.zero_le _), Nat.sub_zero]
  have ep : (fun (j : Nat) (y : Value) => ∃ i, (passing allYes N 0)[j]? = some i ∧ Fv i y) = fun j y => j < N ∧ Fv j y := by
    funext j y
    apply propext
    have e0 : passing allYes N 0 = List.range N := by unfold passing; rw [List.drop_zero, List.filter_eq_self.mpr (fun _ _ => rfl)]
    rw [e0]
    constructor
    · rintro ⟨i, e, f⟩
      obtain ⟨hj, e2⟩ := List.getElem?_eq_some_iff.mp e
      rw [List.getElem_range] at e2
      subst e2
      exact ⟨by simpa using hj, f⟩
    · rintro ⟨hj, f⟩
      exact ⟨j, List.getElem?_range hj, f⟩
  rw [en, ep] at W5
  have W6 : WalksS prog w A.in4 hf.objs.size (hf.objs.size :: s4.heap.objs.size :: List.range s4.heap.objs.size) (s4.heap.objs.size :: wr) (GenOnlyQ s4.gens.size) N (fun j y => Fv j y) (GenAt prog w A.in4 hf.objs.size s4.gens.size s4.heap.objs.size (List.range s4.heap.objs.size) wr allYes N Fv) :=
    { sub := W5.sub, grefl := W5.grefl, gtrans := W5.gtrans, frame := W5.frame, item := fun i z R X lt st' hR => W5.item i z R X lt st' fun v z1 p => hR v z1 p.2, done := W5.done, self := W5.self }
  refine done _ _ _ _ rfl (by omega) (by rw [Heap.size_push]) up5 W6 ?_
  subst hgo
  refine coFresh (A := A.in4) (ce := genEnv sc cl s4.heap.objs.size code bi env) (nm := fun y => if y = ".0" then some (.ref I) else none) hA (fun B hB => (Wk B hB).mono_fp fun b m => List.mem_range.mpr (below b m)) hco
    (fun m => Nat.lt_irrefl _ (List.mem_range.mp m)) (parts _ up5) ⟨_, _, _, Heap.get?_push_size _ rfl, rfl, rfl, rfl⟩ (Array.getElem?_push_size ..) ((Wk A hA).frame _ _ _ st fun b _ o e => up5 b o e) (ns.push _) (lim.keeps up5)
end
end Gxp

set_option Elab.async false
set_option linter.all false
set_option maxRecDepth 100000
set_option maxHeartbeats 2000000
/-! The data layer, part 13: a generator expression's parts over data. -/
namespace Gxp
open PySem PySem.W PyProof.Rows L2

/-! ### data that stands -/
def SeqKept (h h' : Heap) : Prop := ∀ b o vs n, h.get? b = some o → o.data = .seq vs n → h'.get? b = some o
theorem SeqKept.trans {a b c : Heap} (h : SeqKept a b) (k : SeqKept b c) : SeqKept a c := fun x o vs n e d => k x o vs n (h x o vs n e d) d
theorem SeqKept.of {h h' : Heap} (k : ∀ b o, h.get? b = some o → h'.get? b = some o) : SeqKept h h' := fun b o _ _ e _ => k b o e
mutual
theorem reads_seq {h h' : Heap} (k : SeqKept h h') : ∀ (d : PyData) {v : Value} {as : List Addr}, d.plain = true → Reads h v d as → Reads h' v d as
  | .none, _, _, _, .none => .none
  | .bool _, _, _, _, .bool b => .bool b
  | .int _, _, _, _, .int i t => .int i t
  | .str _, _, _, _, .str x t => .str x t
  | .list xs, _, _, p, .list e c d r => .list (k _ _ _ _ e d) c d (readsAll_seq k xs (by simpa [PyData.plain] using p) r)
  | .tuple xs, _, _, p, .tuple e c d r => .tuple (k _ _ _ _ e d) c d (readsAll_seq k xs (by simpa [PyData.plain] using p) r)
  | .dict _, _, _, p, _ => by simp [PyData.plain] at p
theorem readsAll_seq {h h' : Heap} (k : SeqKept h h') : ∀ (ds : List PyData) {vs : List Value} {as : List Addr}, PyData.plainAll ds = true → ReadsAll h vs ds as → ReadsAll h' vs ds as
  | [], _, _, _, .nil => .nil
  | d :: ds, _, _, p, .cons r rs => by
    have p2 : d.plain = true ∧ PyData.plainAll ds = true := by simpa [PyData.plainAll] using p
    exact .cons (reads_seq k d p2.1 r) (readsAll_seq k ds p2.2 rs)
end
/-- a value that needs no heap -/
inductive Sc : PyData → Value → Prop
  | non : Sc .none .none
  | bl (b : Bool) : Sc (.bool b) (.bool b)
  | int (i : Int) (t : Tok) : Sc (.int i) (.int i t)
  | str (x : Str) (t : Tok) : Sc (.str x) (.str x t)
def flatD : PyData → Bool
  | .none => true
  | .bool _ => true
  | .int _ => true
  | .str _ => true
  | _ => false
theorem sc_of {h : Heap} {v : Value} {d : PyData} {as : List Addr} (r : Reads h v d as) (f : flatD d = true) : Sc d v := by
  cases r with
  | none => exact .non
  | bool b => exact .bl b
  | int i t => exact .int i t
  | str x t => exact .str x t
  | _ => cases f

/-! ### names and elements, quiet -/
abbrev DE := Str → Option PyData
/-- the names that η tells of, as they are read in ce -/
def NamesOk (P : Program) (w : World) (ce : Env) (η : DE) (z : Shared) : Prop := ∀ x d, η x = some d → ∃ u as, d.plain = true ∧ Reads z.heap u d as ∧
  ∀ (B : Around) X (z1 : Shared) (Q : Value → Shared → Prop), (∀ b o, z.heap.get? b = some o → z1.heap.get? b = some o) → Q u z1 → wpAny (model P w) B (loadName ce x) Q X z1
theorem NamesOk.keep {P : Program} {w : World} {ce : Env} {η : DE} {z z1 : Shared} (h : NamesOk P w ce η z) (k : Keeps z z1) : NamesOk P w ce η z1 := by
  intro x d e
  obtain ⟨u, as, p, r, l⟩ := h x d e
  obtain ⟨h1, t1, rfl, k1⟩ := k
  exact ⟨u, as, p, Reads.keeps k1 r, fun B X z2 Q k2 q => l B X z2 Q (fun b o e => k2 b o (k1 b o e)) q⟩
theorem keeps_trans {a b c : Shared} (h : Keeps a b) (k : Keeps b c) : Keeps a c := by
  obtain ⟨h1, t1, rfl, k1⟩ := h
  obtain ⟨h2, t2, rfl, k2⟩ := k
  exact ⟨h2, t2, rfl, fun b o e => k2 b o (k1 b o e)⟩
/-- an element -/
def QE (P : Program) (w : World) (ce : Env) (e : Expr) (q : DE → Option PyData) : Prop := ∀ (B : Around) X (z : Shared) (η : DE) (d : PyData), B.handled = none → B.units + 56 < cLine → NamesOk P w ce η z → q η = some d →
  wpAny (model P w) B (eval e ce) (fun y z1 => (d.plain = true ∧ ∃ as, Reads z1.heap y d as) ∧ Keeps z z1) X z
section
variable {P : Program} {w : World} {ce : Env} {e e2 e3 : Expr} {q q2 q3 : DE → Option PyData} {pos : Pos}
theorem q_name {x : Str} (hd : (x == ("__debug__" : Str)) = false := by decide) : QE P w ce (.Name x pos) (fun η => η x) := by
  intro B X z η d _ _ hn h
  obtain ⟨u, as, p, r, l⟩ := hn x d h
  exact wpAny_Name (l B X z _ (fun _ _ e => e) ⟨⟨p, as, r⟩, GxR.keeps_refl _⟩) hd
theorem q_int {i : Int} {j : Nat} : QE P w ce (.Constant (.int i) j pos) (fun _ => some (.int i)) := by
  intro B X z η d _ _ hn h
  cases h
  exact wpAny_Constant_int ⟨⟨rfl, _, .int _ _⟩, GxR.keeps_tok _ _⟩
theorem q_str {x : Str} {j : Nat} : QE P w ce (.Constant (.str x) j pos) (fun _ => some (.str x)) := by
  intro B X z η d _ _ hn h
  cases h
  exact Calls.Constant_str ⟨⟨rfl, _, .str _ _⟩, GxR.keeps_tok _ _⟩
end

/-! ### targets -/
/-- storing an item at a target -/
def PutOk (P : Program) (w : World) (ce : Env) (tg : Expr) (bind : PyData → Option DE) : Prop := ∀ (B : Around) X (z : Shared) (nm : Str → Option Value) (v : Value) (d : PyData) (η : DE) (as : List Addr) (hr : Heap) (Q : Unit → Shared → Prop), B.handled = none → d.plain = true → Reads hr v d as → bind d = some η →
  SeqKept hr z.heap → z.heap.Ns ce.locals nm → (∀ h1 t1 nm1, h1.Ns ce.locals nm1 → (∀ x d', η x = some d' → ∃ u as, d'.plain = true ∧ nm1 x = some u ∧ Reads hr u d' as) → (∀ b o, b ≠ ce.locals → z.heap.get? b = some o → h1.get? b = some o) → Q () { z with heap := h1, toks := t1 }) →
  wpAny (model P w) B (assign tg ce v) Q X z
def nmD (x : Str) (d : PyData) : DE := fun y => if y = x then some d else none
section
variable {P : Program} {w : World} {ce : Env}
theorem put_name {x : Str} {pos : Pos} (hx : ce.kindOf x = some .local) (hp : (ce.scope.kind == .class || (ce.scope.kind == .module && ce.locals != ce.globals)) = false) : PutOk P w ce (.Name x pos) (fun d => some (nmD x d)) := by
  intro B X z nm v d η as hr Q _ pd r hb sk ns kk
  cases hb
  refine wpAny_assign_Name (wpAny_storeName_local hx ns (fun h1 ns1 sb => kk h1 _ _ ns1 (fun y d' e => ?_) fun b o nb e => sb.extBut b o nb e) hp)
  unfold nmD at e
  split at e
  · rename_i hy
    cases e
    exact ⟨v, as, pd, by simp [hy], r⟩
  · cases e
/-- several names, from a tuple -/
def manyD : List Str → List PyData → Option DE
  | [], [] => some fun _ => none
  | x :: xs, d :: ds => (manyD xs ds).map fun η y => (η y).or (if y = x then some d else none)
  | _, _ => none
def tupD (xs : List Str) : PyData → Option DE
  | .tuple ds => manyD xs ds
  | _ => none
theorem manyD_len : ∀ {xs : List Str} {ds : List PyData} {η : DE}, manyD xs ds = some η → xs.length = ds.length
  | [], [], _, _ => rfl
  | x :: xs, d :: ds, η, h => by
    unfold manyD at h
    cases e : manyD xs ds with
    | none => rw [e] at h; cases h
    | some η' => rw [List.length_cons, List.length_cons, manyD_len e]
  | [], _ :: _, _, h => by cases h
  | _ :: _, [], _, h => by cases h
/-- the elements are these names -/
inductive NamesAre : List Expr → List Str → Prop
  | nil : NamesAre [] []
  | cons {x : Str} {p : Pos} {es : List Expr} {xs : List Str} : NamesAre es xs → NamesAre (.Name x p :: es) (x :: xs)
theorem names_len {es : List Expr} {xs : List Str} (h : NamesAre es xs) : es.length = xs.length := by
  induction h with
  | nil => rfl
  | cons _ ih => rw [List.length_cons, List.length_cons, ih]
/-- the stores, one behind the other -/
theorem put_all (hp : (ce.scope.kind == .class || (ce.scope.kind == .module && ce.locals != ce.globals)) = false) {B : Around} {X : Value → Shared → Prop} {hr : Heap} : ∀ (xs : List Str) (es : List Expr) (vs : List Value) (ds : List PyData) (as : List Addr) (η η0 : DE) (z : Shared) (nm : Str → Option Value) (Q : Unit → Shared → Prop), (∀ x ∈ xs, ce.kindOf x = some .local) →
    NamesAre es xs → PyData.plainAll ds = true → ReadsAll hr vs ds as → manyD xs ds = some η → z.heap.Ns ce.locals nm → (∀ x d', η0 x = some d' → ∃ u as, d'.plain = true ∧ nm x = some u ∧ Reads hr u d' as) →
    (∀ h1 t1 nm1, h1.Ns ce.locals nm1 → (∀ x d', ((η x).or (η0 x)) = some d' → ∃ u as, d'.plain = true ∧ nm1 x = some u ∧ Reads hr u d' as) → (∀ b o, b ≠ ce.locals → z.heap.get? b = some o → h1.get? b = some o) → Q () { z with heap := h1, toks := t1 }) →
    wpAny (model P w) B (assignInOrder (es.map fun e => assign e ce) vs) Q X z
  | [], _, vs, [], _, η, η0, z, nm, Q, _, hf, _, r, hm, ns, g, kk => by
    cases hf
    cases r
    cases hm
    show wpAny _ _ (pure ()) _ _ _
    exact wpAny_pure (kk z.heap z.toks nm ns (fun x d' e => g x d' (by simpa using e)) fun _ _ _ e => e)
  | x :: xs, _, _, d :: ds, _, η, η0, z, nm, Q, hx, hf, hpl, .cons (v := v) (vs := vs) r rs, hm, ns, g, kk => by
    cases hf
    have p2 : d.plain = true ∧ PyData.plainAll ds = true := by simpa [PyData.plainAll] using hpl
    unfold manyD at hm
    cases e0 : manyD xs ds with
    | none => rw [e0] at hm; cases hm
    | some η' =>
      rw [e0] at hm
      cases hm
      rename_i p es hes
      show wpAny _ _ (do holding vs (assign (.Name x p) ce v); assignInOrder (es.map fun e => assign e ce) vs) _ _ _
      refine wpAny_bind (wpAny_holding (wpAny_assign_Name (wpAny_storeName_local (hx x (List.mem_cons_self ..)) ns (fun h1 ns1 sb => ?_) hp)))
      refine put_all hp xs es vs ds _ η' (fun y => if y = x then some d else η0 y) _ _ Q (fun y hy => hx y (List.mem_cons_of_mem _ hy)) hes p2.2 rs e0 ns1 (fun y d' e => ?_) fun h2 t2 nm2 ns2 g2 k2 => kk h2 t2 nm2 ns2 (fun y d' e => g2 y d' ?_) fun b o nb e => k2 b o nb (sb.extBut b o nb e)
      · by_cases hy : y = x
        · rw [if_pos hy] at e
          cases e
          exact ⟨v, _, p2.1, by simp [hy], r⟩
        · rw [if_neg hy] at e
          obtain ⟨u, as, p, e1, r1⟩ := g y d' e
          exact ⟨u, as, p, by simp [hy, e1], r1⟩
      · rw [← e]
        show (η' y).or (if y = x then some d else η0 y) = ((η' y).or (if y = x then some d else none)).or (η0 y)
        cases η' y with
        | some d2 => rfl
        | none =>
          by_cases hy : y = x
          · rw [if_pos hy, if_pos hy]; rfl
          · rw [if_neg hy, if_neg hy]; rfl
  | [], _, _, _ :: _, _, _, _, _, _, _, _, _, _, _, hm, _, _, _ => by cases hm
  | _ :: _, _, _, [], _, _, _, _, _, _, _, _, _, _, hm, _, _, _ => by cases hm
theorem put_tup {elts : List Expr} {k : Nat} {pos : Pos} {xs : List Str} (hx : ∀ x ∈ xs, ce.kindOf x = some .local) (hp : (ce.scope.kind == .class || (ce.scope.kind == .module && ce.locals != ce.globals)) = false)
    (hes : NamesAre elts xs) (he : (assignEach elts ce).map (·.2) = elts.map fun e => assign e ce) (hst : (assignEach elts ce).findIdx? (·.1) = none) : PutOk P w ce (.Tuple elts k pos) (tupD xs) := by
  intro B X z nm v d η as hr Q hB pd r hb sk ns kk
  unfold tupD at hb
  split at hb
  · rename_i ds
    cases r with
    | tuple e c dd rs =>
      rename_i a o vs n
      have hl : (assignEach elts ce).length = xs.length := by
        have h1 := congrArg List.length he
        have h2 : elts.length = xs.length := by
          exact names_len hes
        rw [← h2]
        simpa using h1
      have hz : IsTup z.heap a vs := ⟨o, sk _ _ _ _ e dd, c, n, dd⟩
      refine assign_Tuple_tuple hB hz (by
        have h1 := manyD_len hb
        have h2 := readsAll_len rs
        omega) hst fun h1 hx1 => ?_
      have up1 : ∀ b o, z.heap.get? b = some o → h1.get? b = some o := fun b o e => hx1 b o (Nat.ne_of_lt (Heap.lt_size e)) e
      rw [he]
      refine put_all hp xs elts vs.toList ds _ η (fun _ => none) _ nm Q hx hes (by simpa [PyData.plain] using pd) rs hb (ns.keeps up1) (fun x d' e => by cases e) fun h2 t2 nm2 ns2 g2 k2 => kk h2 t2 nm2 ns2 (fun x d' e => g2 x d' (by simp [e])) fun b o nb e => k2 b o nb (up1 b o e)
  · cases hb
end
end Gxp

set_option Elab.async false
set_option linter.all false
set_option maxRecDepth 100000
set_option maxHeartbeats 2000000
/-! The data layer, part 14: a generator expression is made, over a list, a tuple, a text, a range. -/
namespace Gxp
open PySem PySem.W PyProof.Rows L2

/-- what is walked: n items; behind the call of iter a new object o stands -/
def Src (X : Cx) (s1 : Shared) (P : Addr) (xv : Value) (n : Nat) (Pv : Nat → Value → Prop) : Prop := ∀ (A : Around) (E : Value → Shared → Prop) (Q : Value → Shared → Prop), A.handled = none →
  (∀ o fp St, (∀ B : Around, B.handled = none → Walks X.prog X.w B s1.heap.objs.size fp [s1.heap.objs.size] n Pv St) → (∀ b ∈ fp, b ≤ s1.heap.objs.size) →
    (∀ h3 : Heap, (∀ b u, b ≠ P → (s1.heap.push o).get? b = some u → h3.get? b = some u) → St 0 h3) →
    (∀ (B : Around) (tg : Expr) Z i v (z : Shared) (R : Unit → Shared → Prop), Pv i v → St (i + 1) z.heap → R () z → wpAny (model X.prog X.w) B (letOwnedTupleGo tg (.ref s1.heap.objs.size) v) R Z z) →
    Q (.ref s1.heap.objs.size) { s1 with heap := s1.heap.push o }) → wpAny (model X.prog X.w) A (pyIter xv) Q E s1
theorem own_skip {prog : Program} {w : World} {B : Around} {E : Value → Shared → Prop} {z : Shared} {I : Addr} {o : Obj} {n : String} {tg : Expr} {v : Value} {R : Unit → Shared → Prop} (e : z.heap.get? I = some o) (hc : o.cls = .type n)
    (hn : ["enumerate", "zip", "dict_itemiterator", "dict_reverseitemiterator", "odict_iterator", "itertools.zip_longest", "itertools.pairwise"].contains n = false) (h : R () z) : wpAny (model prog w) B (letOwnedTupleGo tg (.ref I) v) R E z := by
  have core : wpAny (model prog w) B (letOwnedTupleGo (.Tuple [] 0 ⟨0, 0, 0, 0⟩) (.ref I) v) R E z → wpAny (model prog w) B (letOwnedTupleGo tg (.ref I) v) R E z := fun k => by
    cases tg <;> first | exact k | exact wpAny_pure h
  apply core
  unfold letOwnedTupleGo
  cases v with
  | ref a =>
    refine wpAny_bind (wpAny_load e ?_)
    obtain ⟨cls, dict, data, sl⟩ := o
    cases (show cls = .type n from hc)
    cases data with
    | fields vs =>
      show wpAny _ B (if (_ && _) = true then _ else _) R E z
      rw [hn, Bool.false_and, if_neg Bool.false_ne_true]
      exact wpAny_pure h
    | _ => exact wpAny_pure h
  | _ => exact wpAny_pure h

section
variable {X : Cx} {pins : List (Addr × Obj)} {σ : L2.St} {H1 : Hp} {s1 : Shared} {P : Addr}
theorem src_list {l : Addr} {its : List Value} (hl : s1.heap.IsList l its.toArray) (hP : l ≠ P) (hPlt : P < s1.heap.objs.size) : Src X s1 P (.ref l) its.length (fun i v => its[i]? = some v) := by
  intro A E Q hA k
  have lt : l < s1.heap.objs.size := by
    obtain ⟨_, e, _⟩ := _root_.id hl
    exact Heap.lt_size e
  refine wpAny_pyIter_list hl ?_
  generalize ho : ({ cls := .type "list_iterator", data := .fields #[.ref l, .int 0 0] } : Obj) = o
  have W := fun (B : Around) (hB : B.handled = none) => Walks.list (prog := X.prog) (w := X.w) hB s1.heap.objs.size l (Nat.ne_of_lt lt) its.toArray
  have en : its.toArray.size = its.length := by simp
  have ep : (fun (i : Nat) (v : Value) => its.toArray[i]? = some v) = fun i v => its[i]? = some v := by funext i v; simp
  rw [en, ep] at W
  refine k o _ _ W (fun b hb => ?_) (fun h3 up => ⟨?_, ?_⟩) (fun B tg Z i v z R hv st r => ?_)
  · rcases List.mem_cons.mp hb with z | z
    · exact Nat.le_of_eq z
    · rcases List.mem_cons.mp z with z | z
      · rw [z]; exact Nat.le_of_lt lt
      · cases z
  · subst ho
    exact ⟨_, up _ _ (fun z => Nat.lt_irrefl P (by rw [z] at hPlt; exact hPlt)) (Heap.get?_push_size _ rfl), rfl, rfl⟩
  · obtain ⟨ob, e, r⟩ := _root_.id hl
    exact ⟨ob, up _ _ hP (Heap.get?_push_of_some _ e), r⟩
  · obtain ⟨ob, e, hc, _⟩ := st.1
    exact own_skip e hc (by decide) r
theorem src_tuple {l : Addr} {its : List Value} (hl : s1.heap.IsTuple l its.toArray) (hP : l ≠ P) (hPlt : P < s1.heap.objs.size) : Src X s1 P (.ref l) its.length (fun i v => its[i]? = some v) := by
  intro A E Q hA k
  have lt : l < s1.heap.objs.size := by
    obtain ⟨_, e, _⟩ := _root_.id hl
    exact Heap.lt_size e
  refine PySem.wpAny_pyIter_tuple hl ?_
  generalize ho : ({ cls := .type "tuple_iterator", data := .fields #[.ref l, .int 0 0] } : Obj) = o
  have W := fun (B : Around) (hB : B.handled = none) => Walks.tuple (prog := X.prog) (w := X.w) hB s1.heap.objs.size l (Nat.ne_of_lt lt) its.toArray
  have en : its.toArray.size = its.length := by simp
  have ep : (fun (i : Nat) (v : Value) => its.toArray[i]? = some v) = fun i v => its[i]? = some v := by funext i v; simp
  rw [en, ep] at W
  refine k o _ _ W (fun b hb => ?_) (fun h3 up => ⟨?_, ?_⟩) (fun B tg Z i v z R hv st r => ?_)
  · rcases List.mem_cons.mp hb with z | z
    · exact Nat.le_of_eq z
    · rcases List.mem_cons.mp z with z | z
      · rw [z]; exact Nat.le_of_lt lt
      · cases z
  · subst ho
    exact ⟨_, up _ _ (fun z => Nat.lt_irrefl P (by rw [z] at hPlt; exact hPlt)) (Heap.get?_push_size _ rfl), rfl, rfl⟩
  · obtain ⟨ob, e, r⟩ := _root_.id hl
    exact ⟨ob, up _ _ hP (Heap.get?_push_of_some _ e), r⟩
  · obtain ⟨ob, e, hc, _⟩ := st.1
    exact own_skip e hc (by decide) r

/-- a generator expression's scope: its own names, the walked thing at «.0», captured names that the def has -/
structure ScopeG (env : Env) (sc : Scope) : Prop where
  kind : sc.kind = .function
  co : sc.isCoroutine = false
  cell : ∀ y ∈ sc.names, y.2 ≠ .cell
  dot : sc.names.lookup (".0" : Str) = some NameKind.local
  free : ∀ y ∈ sc.names, y.2 = .free → ∃ c, env.cells.lookup y.1 = some c
/-- a name from outside, as it is known before the walk -/
def Capt (X : Cx) (sc : Scope) (s1 : Shared) (P : Addr) (x : Str) (d : PyData) : Prop := ∃ u as, d.plain = true ∧ Reads s1.heap u d as ∧
  ∀ (C : Addr) (code : Value) (bi : Addr) (B : Around) E (z1 : Shared) (Q : Value → Shared → Prop), (∀ b o, b ≠ P → s1.heap.get? b = some o → z1.heap.get? b = some o) → Q u z1 →
    wpAny (model X.prog X.w) B (loadName (genEnv sc (cloFrom X.env.cells sc.names []) C code bi X.env) x) Q E z1
/-- the generator g over n items, ready to be walked, in s5; H1: what was held before -/
def ReadyG (X : Cx) (pins : List (Addr × Obj)) (σ : L2.St) (H1 : Hp) (P : Addr) (n : Nat) (Fv : Nat → Value → Prop) (g : Addr) (s5 : Shared) : Prop :=
  ∃ (fp wr : List Addr) (G : Array GenState → Array GenState → Prop) (St : Nat → Shared → Prop), WalksS X.prog X.w X.A.in1 g fp wr G n Fv St ∧ St 0 s5 ∧ (∀ b ∈ fp, b < s5.heap.objs.size) ∧
    ∀ s', Moved wr G s5 s' → ∃ H2, GxR.Tabbed P H1 H2 ∧ Inv X pins σ H2 s'
theorem gen_core {c : Addr} {tg el it : Expr} {sc : Scope} {gp : Pos} {xv : Value} {n : Nat} {Pv : Nat → Value → Prop} {ds ys : Nat → PyData} {η : Nat → DE} {κ : DE} {bind : PyData → Option DE} {q : DE → Option PyData} {k : Nat} {ps : Array Value} {Q' : Value → Shared → Prop}
    (hr : Room k X.A) (TB : GxR.TabB X.base X.mg c P) (hcode : X.env.code = .ref c) (S : ScopeG X.env sc) (I1 : Inv X pins σ H1 s1) (hP : H1 P = some (.tbl ps)) (ht : TriplesOk ps.toList)
    (src : P < s1.heap.objs.size → Src X s1 P xv n Pv) (items : ∀ i v, Pv i v → i < n ∧ (ds i).plain = true ∧ ∃ as, Reads s1.heap v (ds i) as) (hbind : ∀ i, i < n → bind (ds i) = some (η i)) (hel : ∀ i, i < n → q (fun y => (η i y).or (κ y)) = some (ys i)) (hflat : ∀ i, i < n → flatD (ys i) = true)
    (hκ : ∀ x d, κ x = some d → Capt X sc s1 P x d) (hloc : ∀ i, i < n → ∀ x d, η i x = some d → sc.names.lookup x = some .local)
    (put : ∀ (C : Addr) (code : Value) (bi : Addr), PutOk X.prog X.w (genEnv sc (cloFrom X.env.cells sc.names []) C code bi X.env) tg bind) (elq : ∀ (C : Addr) (code : Value) (bi : Addr), QE X.prog X.w (genEnv sc (cloFrom X.env.cells sc.names []) C code bi X.env) el q)
    (hQ : ∀ g s5, ReadyG X pins σ H1 P n (fun i y => i < n ∧ Sc (ys i) y) g s5 → Q' (.ref g) s5) :
    wpAny (model X.prog X.w) X.A (pyIter xv) (fun iv s2 => s2.heap.NoLimit ∧ wpAny (model X.prog X.w) X.A (genexprCode X.env gp (X.env.qual ++ "<genexpr>") sc) (fun code s3 => wpAny (model X.prog X.w) X.A (builtinsFor X.env.globals X.env.builtins) (fun bi s4 =>
        ∃ I fp wr N Pv St Fv G, iv = .ref I ∧ (∀ B : Around, B.handled = none → Walks X.prog X.w B I fp wr N Pv St) ∧ St 0 s4.heap ∧ (∀ b ∈ fp, b < s4.heap.objs.size) ∧ s4.heap.NoLimit ∧ cStatics ∉ wr ∧
          (∀ h0 : Heap, (∀ b o, s4.heap.get? b = some o → h0.get? b = some o) → Parts X.prog X.w (genEnv sc (cloFrom X.env.cells sc.names []) s4.heap.objs.size code bi X.env) I tg el (List.range s4.heap.objs.size) wr Pv Fv G St h0 (X.A.depth + 1) (X.A.units + 8)) ∧
          (∀ a h5 tk gs, gs.bare = true → s4.heap.objs.size < a → h5.objs.size = a + 1 → (∀ b o, s4.heap.get? b = some o → h5.get? b = some o) →
            WalksS X.prog X.w X.A.in4 a (a :: s4.heap.objs.size :: List.range s4.heap.objs.size) (s4.heap.objs.size :: wr) (GenOnlyQ s4.gens.size) N (fun j y => Fv j y) (GenAt X.prog X.w X.A.in4 a s4.gens.size s4.heap.objs.size (List.range s4.heap.objs.size) wr allYes N Fv) →
            GenAt X.prog X.w X.A.in4 a s4.gens.size s4.heap.objs.size (List.range s4.heap.objs.size) wr allYes N Fv 0 { s4 with gens := s4.gens.push gs, toks := tk, heap := h5 } →
            Q' (.ref a) { s4 with gens := s4.gens.push gs, toks := tk, heap := h5 })) X.xe s3) X.xe s2) X.xe s1 := by
  have hun := hr.units
  have hPs : s1.heap.get? P = some { cls := .none, data := .fields ps } := I1.hok P _ hP
  have hPlt : P < s1.heap.objs.size := Heap.lt_size hPs
  refine src hPlt X.A X.xe _ hr.hd fun o fp St Wk below st0 own => ⟨I1.nolimit.push o, ?_⟩
  have hP2 : (s1.heap.push o).get? P = some { cls := .none, data := .fields ps } := Heap.get?_push_of_some _ hPs
  have cd : PySem.W.CodeHd (s1.heap.push o) c P := TB.code.keeps fun b v e => Heap.get?_push_of_some _ (I1.bk b v e)
  have sz2 : (s1.heap.push o).objs.size = s1.heap.objs.size + 1 := Heap.size_push ..
  have cont : ∀ (code : Value) (h3 : Heap) (tk : Nat) (ps' : Array Value), Heap.ExtBut P (s1.heap.push o) h3 → (s1.heap.push o).objs.size ≤ h3.objs.size → h3.get? P = some { cls := .none, data := .fields ps' } → (∃ more, ps' = ps ++ more) → TriplesOk ps'.toList →
      wpAny (model X.prog X.w) X.A (builtinsFor X.env.globals X.env.builtins) (fun bi s4 =>
        ∃ Ia fp wr N Pv St Fv G, Value.ref s1.heap.objs.size = .ref Ia ∧ (∀ B : Around, B.handled = none → Walks X.prog X.w B Ia fp wr N Pv St) ∧ St 0 s4.heap ∧ (∀ b ∈ fp, b < s4.heap.objs.size) ∧ s4.heap.NoLimit ∧ cStatics ∉ wr ∧
          (∀ h0 : Heap, (∀ b o, s4.heap.get? b = some o → h0.get? b = some o) → Parts X.prog X.w (genEnv sc (cloFrom X.env.cells sc.names []) s4.heap.objs.size code bi X.env) Ia tg el (List.range s4.heap.objs.size) wr Pv Fv G St h0 (X.A.depth + 1) (X.A.units + 8)) ∧
          (∀ a h5 tk gs, gs.bare = true → s4.heap.objs.size < a → h5.objs.size = a + 1 → (∀ b o, s4.heap.get? b = some o → h5.get? b = some o) →
            WalksS X.prog X.w X.A.in4 a (a :: s4.heap.objs.size :: List.range s4.heap.objs.size) (s4.heap.objs.size :: wr) (GenOnlyQ s4.gens.size) N (fun j y => Fv j y) (GenAt X.prog X.w X.A.in4 a s4.gens.size s4.heap.objs.size (List.range s4.heap.objs.size) wr allYes N Fv) →
            GenAt X.prog X.w X.A.in4 a s4.gens.size s4.heap.objs.size (List.range s4.heap.objs.size) wr allYes N Fv 0 { s4 with gens := s4.gens.push gs, toks := tk, heap := h5 } →
            Q' (.ref a) { s4 with gens := s4.gens.push gs, toks := tk, heap := h5 })) X.xe { s1 with heap := h3, toks := tk } := by
    intro code h3 tk ps' hx hsz hP3 hmore ht3
    obtain ⟨bm, ob, e1, e2, e3, e4, e5, e6, e7, e8⟩ := TB.bm
    have csP : cStatics ≠ P := fun e => by
      obtain ⟨_, hns, _⟩ := I1.nolimit
      obtain ⟨o', es, ep, ho, hd, _⟩ := hns
      rw [e, hPs] at ho
      cases ho
      cases hd
    have csl : cStatics < s1.heap.objs.size := let ⟨_, hns, _⟩ := I1.nolimit; hns.lt
    have keep3 : ∀ b v, b ≠ P → s1.heap.get? b = some v → h3.get? b = some v := fun b v hb e => hx b v hb (Heap.get?_push_of_some _ e)
    refine wpAny_builtinsFor (m := X.mg) (by rw [I1.ok.glob]; exact ((I1.mod.glob.keeps I1.bk).push o).extBut hx TB.gP) e1 e2 (keep3 _ _ e4 (I1.bk _ _ e5)) e6 e7 e8 ?_
    have big3 : s1.heap.objs.size + 1 ≤ h3.objs.size := by
      have e9 : (s1.heap.push o).objs.size ≤ h3.objs.size := hsz
      rw [sz2] at e9
      exact e9
    -- what stood before is not written by the walk
    have stood : ∀ {h0 z : Heap}, (∀ b o, h3.get? b = some o → h0.get? b = some o) → (∀ b ∈ List.range h3.objs.size, b ∉ [s1.heap.objs.size] → ∀ o, h0.get? b = some o → z.get? b = some o) → ∀ b o, b ≠ P → s1.heap.get? b = some o → z.get? b = some o := fun {h0 z} up0 kz b o' nb e => by
      have lt := Heap.lt_size e
      exact kz b (List.mem_range.mpr (Nat.lt_of_lt_of_le lt (Nat.le_trans (Nat.le_succ _) big3))) (fun m => by
        rcases List.mem_cons.mp m with m | m
        · exact Nat.lt_irrefl _ (m ▸ lt)
        · cases m) o' (up0 b o' (keep3 b o' nb e))
    have seqs : ∀ {z : Heap}, (∀ b o, b ≠ P → s1.heap.get? b = some o → z.get? b = some o) → SeqKept s1.heap z := fun {z} kz b o' vs n' e dd => kz b o' (fun eP => by
      rw [eP, hPs] at e
      cases e
      cases dd) e
    refine ⟨s1.heap.objs.size, fp, [s1.heap.objs.size], n, Pv, St, (fun i y => i < n ∧ Sc (ys i) y), (fun i nm => i < n ∧ ∀ x d, η i x = some d → ∃ u as, d.plain = true ∧ nm x = some u ∧ Reads s1.heap u d as), rfl, Wk, st0 h3 (fun b v hb e => hx b v hb e), fun b hb => ?_, (I1.nolimit.push o).extBut hx csP, ?_, ?_, ?_⟩
    · show b < h3.objs.size
      have := below b hb
      have e9 : (s1.heap.push o).objs.size ≤ h3.objs.size := hsz
      rw [sz2] at e9
      exact Nat.lt_of_le_of_lt this e9
    · intro m
      rcases List.mem_cons.mp m with m | m
      · exact Nat.ne_of_lt csl m
      · cases m
    · intro h0 up0
      refine ⟨fun B Z i v z R pv st r => own B tg Z i v z R pv st r, fun B Z i v z nm R hB pv ns kz kk => ?_, fun B Z i z nm hB hD hU g ns kz => ?_⟩
      · obtain ⟨lt, pl, as, rd⟩ := items i v pv
        exact put _ _ _ B Z z nm v (ds i) (η i) as s1.heap R hB pl rd (hbind i lt) (seqs (stood up0 kz)) ns fun h1 t1 nm1 ns1 g1 k1 => kk h1 t1 nm1 ns1 ⟨lt, g1⟩ k1
      · obtain ⟨lt, g⟩ := g
        have kz' := stood up0 kz
        have nok : NamesOk X.prog X.w (genEnv sc (cloFrom X.env.cells sc.names []) h3.objs.size code builtinsNs X.env) (fun y => (η i y).or (κ y)) z := by
          intro x d e0
          have e : (η i x).or (κ x) = some d := e0
          cases ee : η i x with
          | some d2 =>
            rw [ee] at e
            cases e
            obtain ⟨u, as, pl, en, rd⟩ := g x d ee
            exact ⟨u, as, pl, reads_seq (seqs kz') d pl rd, fun B2 Z2 z2 R2 k2 r2 => wpAny_loadName_local S.kind (hloc i lt x d ee) (ns.keeps k2) en r2⟩
          | none =>
            rw [ee] at e
            obtain ⟨u, as, pl, rd, ld⟩ := hκ x d e
            exact ⟨u, as, pl, reads_seq (seqs kz') d pl rd, fun B2 Z2 z2 R2 k2 r2 => ld _ _ _ B2 Z2 z2 R2 (fun b o' nb e => k2 b o' (kz' b o' nb e)) r2⟩
        refine wpAny_mono (elq _ _ _ B Z z _ (ys i) hB (by omega) nok (hel i lt)) (fun y z1 r => ?_) fun _ _ e => e
        obtain ⟨⟨_, as, rd⟩, kp⟩ := r
        exact ⟨⟨lt, sc_of rd (hflat i lt)⟩, kp⟩
    · intro g h5 tk5 gs hgb hag hsz5 hk5 W5 hat
      refine hQ g _ ⟨_, _, _, _, W5.in4_1, hat, fun b hb => ?_, fun s' hm => ?_⟩
      · show b < h5.objs.size
        rw [hsz5]
        have h8 : h3.objs.size < g := hag
        rcases List.mem_cons.mp hb with m | m
        · rw [m]; exact Nat.lt_succ_self g
        · rcases List.mem_cons.mp m with m | m
          · rw [m]; exact Nat.lt_succ_of_lt h8
          · exact Nat.lt_succ_of_lt (Nat.lt_trans (List.mem_range.mp m) h8)
      · obtain ⟨more, em⟩ := hmore
        have nwr : ∀ b v, s1.heap.get? b = some v → b ∉ h3.objs.size :: [s1.heap.objs.size] := fun b v e m => by
          have lt := Heap.lt_size e
          have e9 : (s1.heap.push o).objs.size ≤ h3.objs.size := hsz
          rw [sz2] at e9
          rcases List.mem_cons.mp m with m | m
          · rw [m] at lt
            exact absurd (Nat.lt_of_lt_of_le lt (Nat.le_trans (Nat.le_succ _) big3)) (Nat.lt_irrefl _)
          · rcases List.mem_cons.mp m with m | m
            · exact Nat.lt_irrefl _ (m ▸ lt)
            · cases m
        have J := GxR.inv_tab (more := more) (h' := s'.heap) (g' := s'.gens) (d' := s'.drawn) (t' := s'.toks) I1 hP (fun b v hb e => hm.heap b v (nwr b v e) (hk5 b v (keep3 b v hb e)))
          (by rw [← em]; exact hm.heap P _ (nwr P _ hPs) (hk5 P _ hP3)) (AllBare.movedS (I1.bare.push hgb) hm)
        rw [GxR.sh_eta s1 s' hm.os] at J
        exact ⟨_, ⟨⟨ps ++ more, upd_same, by rw [← em]; exact ht3⟩, fun b hb => upd_ne hb⟩, J⟩
  cases hf : codeAmong gp ps.toList with
  | none =>
    refine wpAny_genexprCodeX hcode (cd.code hP2 ht) (cd.tab hP2) hf fun c' h' tk hx hge hlt hco' _ htab' _ => ?_
    obtain ⟨o1, vs, f1, tf, fl, tg, inF, tx, tt, op, _, _, _, _, _, _, _, _, _, htr, _⟩ := hco'
    exact cont _ h' tk _ hx (Nat.le_trans hge (Nat.le_of_lt hlt)) htab'.2 ⟨_, rfl⟩ htr
  | some cv =>
    refine wpAny_genexprCode_hit hcode (cd.code hP2 ht) hf ?_
    exact cont cv (s1.heap.push o) s1.toks ps (Heap.ExtBut.refl _ _) (Nat.le_refl _) hP2 ⟨#[], by simp⟩ ht
end
end Gxp

set_option Elab.async false
set_option linter.all false
set_option maxRecDepth 100000
set_option maxHeartbeats 2000000
/-! The data layer, part 15: sum, all, any of a generator expression. -/
namespace Gxp
open PySem PySem.W PyProof.Rows L2

theorem lookup_mem {α : Type} : ∀ {l : List (Str × α)} {n : Str} {c : α}, l.lookup n = some c → (n, c) ∈ l
  | (k, v) :: r, n, c, h => by
    rw [List.lookup_cons] at h
    cases hb : n == k with
    | true =>
      rw [hb] at h
      cases h
      have : n = k := by simpa using hb
      rw [this]; exact List.mem_cons_self ..
    | false =>
      rw [hb] at h
      exact List.mem_cons_of_mem _ (lookup_mem h)
section
variable {X : Cx} {pins : List (Addr × Obj)} {σ : L2.St} {H H1 : Hp} {s s1 : Shared} {P : Addr} {sc : Scope}
/-- a captured name, or a module's constant -/
inductive CaptV (X : Cx) (sc : Scope) (σ : L2.St) (H : Hp) (x : Str) (d : PyData) : Prop
  | free {i : Nat} {v : V} : X.N[i]? = some x → σ[i]? = some (some v) → Vis X.env.scope x → X.env.scope.names.lookup x ≠ some .local → sc.names.lookup x = some .free → (x == ("__classdict__" : Str)) = false → Dp X.K H v d → CaptV X sc σ H x d
  | glob {u : Value} {v : V} : sc.names.lookup x = some .globalImplicit → X.mg x = some u → RelV v u → Dp X.K H v d → CaptV X sc σ H x d
theorem capt_of (I : Inv X pins σ H s) (S : ScopeG X.env sc) (gP : mainGlobals ≠ P) (hP : H P = some (.tbl ps)) {x : Str} {d : PyData} (c : CaptV X sc σ H x d) : Capt X sc s P x d := by
  have hPs : s.heap.get? P = some { cls := .none, data := .fields ps } := I.hok P _ hP
  cases c with
  | @free i v hN hs hv hl hf hc hd =>
    obtain ⟨m, hn, hloc⟩ := I.loc
    obtain ⟨u, r, l⟩ := hloc i x v hN hs hv
    obtain ⟨as, rd⟩ := Dp.reads I d v u hd r
    refine ⟨u, as, Dl.Dp.plain hd, rd, fun C code bi B E z1 Q up q => ?_⟩
    rcases l with ⟨hk, _⟩ | ⟨_, cc, hcc, hcell⟩
    · exact absurd hk hl
    · have e1 : (cloFrom X.env.cells sc.names []).lookup x = some cc := by
        obtain ⟨c', h1⟩ := mem_lookup (cloFrom_has (cells := X.env.cells) (acc := []) (lookup_mem hf))
        rw [h1]
        rcases cloFrom_mem (lookup_mem h1) with h2 | ⟨_, h2⟩
        · cases h2
        · rw [h2, hcc]; rfl
      obtain ⟨o, ho, hod⟩ := hcell
      have ne : cc ≠ P := fun z => by
        rw [z, hPs] at ho
        cases ho
        cases hod
      exact wpAny_loadName_free (env := genEnv sc (cloFrom X.env.cells sc.names []) C code bi X.env) S.kind hf e1 ⟨o, up cc o ne ho, hod⟩ q hc
  | @glob u v hk hm r hd =>
    obtain ⟨as, rd⟩ := Dp.reads I d v u hd r
    refine ⟨u, as, Dl.Dp.plain hd, rd, fun C code bi B E z1 Q up q => ?_⟩
    have hg : z1.heap.Ns mainGlobals X.mg := (I.mod.glob.keeps I.bk).at' fun o e => up _ o gP e
    unfold loadName
    have hk' : (genEnv sc (cloFrom X.env.cells sc.names []) C code bi X.env).kindOf x = some .globalImplicit := hk
    simp only [Env.blockKind, show (genEnv sc (cloFrom X.env.cells sc.names []) C code bi X.env).scope.kind = .function from S.kind, hk', ScopeKind.isAnnotationScope, Bool.false_and, Bool.false_eq_true, if_false]
    exact Calls.loadGlobal_global (by rw [show (genEnv sc (cloFrom X.env.cells sc.names []) C code bi X.env).globals = mainGlobals from I.ok.glob]; exact hg) hm q

/-- what is walked, as data -/
inductive ItemsV (K : PySem.W.Frag) (H : Hp) : V → List PyData → Prop
  | lst {l : Addr} {us : List V} {xs : List PyData} : SqL K H l us → DpAll K H us xs → ItemsV K H (.ref l) xs
  | tup {l : Addr} {us : List V} {xs : List PyData} : SqT K H l us → DpAll K H us xs → ItemsV K H (.ref l) xs
theorem plain_get : ∀ {xs : List PyData} {i : Nat} {x : PyData}, PyData.plainAll xs = true → xs[i]? = some x → x.plain = true
  | y :: ys, 0, x, p, e => by
    have p2 : y.plain = true ∧ PyData.plainAll ys = true := by simpa [PyData.plainAll] using p
    cases e; exact p2.1
  | y :: ys, i + 1, x, p, e => by
    have p2 : y.plain = true ∧ PyData.plainAll ys = true := by simpa [PyData.plainAll] using p
    exact plain_get p2.2 (by simpa using e)
theorem reads_get {h : Heap} : ∀ {vs : List Value} {xs : List PyData} {as : List Addr} {i : Nat} {v : Value}, ReadsAll h vs xs as → vs[i]? = some v → ∃ x bs, xs[i]? = some x ∧ Reads h v x bs
  | _, _, _, 0, _, .cons r _, e => by cases e; exact ⟨_, _, rfl, r⟩
  | _, _, _, i + 1, _, .cons _ rs, e => by
    obtain ⟨x, bs, h1, h2⟩ := reads_get (i := i) rs (by simpa using e)
    exact ⟨x, bs, by simpa using h1, h2⟩
/-- the elements of the data -/
def elemOf (bind : PyData → Option DE) (q : DE → Option PyData) (κ : DE) (x : PyData) : Option PyData := (bind x).bind fun η => q fun y => (η y).or (κ y)
def tGen (X : Cx) (P : Addr) (sc : Scope) (bind : PyData → Option DE) (q : DE → Option PyData) (fin : List PyData → (V → Prop) → Prop) (ti : TE) : TE := fun σ H Q => ti σ H fun v H1 => ∃ (ps : Array Value) (xs ys : List PyData) (κ : DE),
  H1 P = some (.tbl ps) ∧ TriplesOk ps.toList ∧ ItemsV X.K H1 v xs ∧ (∀ x d, κ x = some d → CaptV X sc σ H1 x d) ∧ xs.map (elemOf bind q κ) = ys.map some ∧ ys.all flatD = true ∧ ∀ H2, GxR.Tabbed P H1 H2 → fin ys fun r => Q r H2
/-- a consumer's rule: the generator g ready over ys -/
def Consumes (X : Cx) (id : String) (fin : List PyData → (V → Prop) → Prop) : Prop := ∀ (pins : List (Addr × Obj)) (σ : L2.St) (H1 : Hp) (P : Addr) (ys : List PyData) (g : Addr) (s5 : Shared) (Q : VK), ReadyG X pins σ H1 P ys.length (fun i y => i < ys.length ∧ Sc (ys.getD i .none) y) g s5 →
  (∀ H2, GxR.Tabbed P H1 H2 → fin ys fun r => Q r H2) → wpAny (model X.prog X.w) X.A (call (.builtin id) [.ref g]) (EP X pins σ Q) X.xe s5
theorem pe_gen {c P : Addr} {tg el it : Expr} {p pos gp : Pos} {id : String} {f : Str} {bind : PyData → Option DE} {q : DE → Option PyData} {fin : List PyData → (V → Prop) → Prop} {ti : TE} {k : Nat} {own : List Str} (hr : Room k X.A) (hm : X.mg f = none) (TB : GxR.TabB X.base X.mg c P) (hcode : X.env.code = .ref c)
    (S : ScopeG X.env sc) (hi : PE X it ti) (hown : ∀ d η x e, bind d = some η → η x = some e → sc.names.lookup x = some .local)
    (put : ∀ (C : Addr) (code : Value) (bi : Addr), PutOk X.prog X.w (genEnv sc (cloFrom X.env.cells sc.names []) C code bi X.env) tg bind) (elq : ∀ (C : Addr) (code : Value) (bi : Addr), QE X.prog X.w (genEnv sc (cloFrom X.env.cells sc.names []) C code bi X.env) el q)
    (cons : Consumes X id fin) (hv : bootBuiltins f = some (.builtin id)) (hg : Gl X f) (hs : ∀ v, genFold it X.env v = pure v) (hn : f ≠ "__name__") (hd : (f == ("__debug__" : Str)) = false)
    (he : starEach [bodyOf el tg it sc gp] X.env = [(false, eval (bodyOf el tg it sc gp) X.env)]) :
    PE X (.Call (.Name f p) [bodyOf el tg it sc gp] [] pos) (tGen X P sc bind q fin ti) := by
  refine ⟨fun pins s σ H Q I h => ?_⟩
  refine wpAny_Call_Name_kw (ld_blt I hg hm hv ?_ hn hd)
  refine PyProof.Rows.callWith_builtin1 ?_ he (by rfl)
  rw [he]
  refine Calls.spliced_cons (make hr.hd S.co (closure_ok S.free) S.cell S.dot S.kind (by have := hr.dp; omega) (thn (hi.run pins s σ H _ I h) fun xv s1 ⟨v, H1, I1, r1, q1⟩ => ?_) hs)
  obtain ⟨ps, xs, ys, κ, hP, ht, iv, hκ, hxy, hfl, hfin⟩ := q1
  have hPs : s1.heap.get? P = some { cls := .none, data := .fields ps } := I1.hok P _ hP
  have hlen : xs.length = ys.length := by simpa using congrArg List.length hxy
  have hel : ∀ i, i < xs.length → ∃ η, bind (xs.getD i .none) = some η ∧ q (fun y => (η y).or (κ y)) = some (ys.getD i .none) := by
    intro i hi
    have e := congrArg (fun l => l[i]?) hxy
    simp only [List.getElem?_map] at e
    rw [List.getElem?_eq_getElem hi, List.getElem?_eq_getElem (by omega)] at e
    have e : elemOf bind q κ xs[i] = some ys[i] := Option.some.inj e
    unfold elemOf at e
    have e1 : xs.getD i .none = xs[i] := by rw [List.getD_eq_getElem?_getD, List.getElem?_eq_getElem hi]; rfl
    have e2 : ys.getD i .none = ys[i]'(by omega) := by rw [List.getD_eq_getElem?_getD, List.getElem?_eq_getElem (by omega)]; rfl
    rw [e1, e2]
    cases hb : bind xs[i] with
    | none => rw [hb] at e; cases e
    | some η => rw [hb] at e; exact ⟨η, rfl, e⟩
  have hflat : ∀ i, i < xs.length → flatD (ys.getD i .none) = true := fun i hi => by
    have e2 : ys.getD i .none = ys[i]'(by omega) := by rw [List.getD_eq_getElem?_getD, List.getElem?_eq_getElem (by omega)]; rfl
    rw [e2]
    exact List.all_eq_true.mp hfl _ (List.getElem_mem _)
  have fin' : ∀ {its : List Value} {as : List Addr}, its.length = xs.length → ReadsAll s1.heap its xs as → PyData.plainAll xs = true → (P < s1.heap.objs.size → Src X s1 P xv its.length (fun i v => its[i]? = some v)) → _ := fun {its as} hle ra hpl src =>
    gen_core (n := xs.length) (ds := fun i => xs.getD i .none) (ys := fun i => ys.getD i .none) (η := fun i => if h : i < xs.length then (hel i h).choose else fun _ => none) (κ := κ) (bind := bind) (q := q) (tg := tg) (el := el) (it := it) (gp := gp)
      (Q' := fun g s5 => wpAny (model X.prog X.w) X.A (spliced (backTo pos [])) (fun vs s6 => wpAny (model X.prog X.w) X.A (call (.builtin id) (g :: vs)) (EP X pins σ Q) X.xe s6) X.xe s5) hr TB hcode S I1 hP ht (by rw [← hle]; exact src)
      (fun i v hv => by
        obtain ⟨x, bs, h1, h2⟩ := reads_get ra hv
        have hi : i < xs.length := (List.getElem?_eq_some_iff.mp h1).1
        have e1 : xs.getD i .none = x := by rw [List.getD_eq_getElem?_getD, h1]; rfl
        exact ⟨hi, by rw [e1]; exact plain_get hpl h1, bs, by rw [e1]; exact h2⟩)
      (fun i hi => by rw [dif_pos hi]; exact (hel i hi).choose_spec.1) (fun i hi => by rw [dif_pos hi]; exact (hel i hi).choose_spec.2) hflat (fun x d e => capt_of I1 S TB.gP hP (hκ x d e))
      (fun i hi x d e => by rw [dif_pos hi] at e; exact hown _ _ x d (hel i hi).choose_spec.1 e) put elq (fun g s5 R => by
        refine Calls.spliced_nil ?_
        rw [hlen] at R
        exact cons pins σ H1 P ys g s5 Q R hfin)
  cases iv with
  | @lst l us xs hq hda =>
    cases r1
    obtain ⟨its, rv, pl, hz⟩ := I1.list hq
    obtain ⟨as, ra⟩ := Dp.readsAll I1 xs _ its hda rv
    refine fin' (readsAll_len ra) ra (Dl.DpAll.plain hda) fun hlt => src_list pl.isList (fun z => ?_) hlt
    obtain ⟨o, e, hc, _⟩ := pl.isList
    rw [z, hPs] at e
    cases e
    cases hc
  | @tup l us xs hq hda =>
    cases r1
    obtain ⟨its, rv, pl, hz⟩ := I1.tuple hq
    obtain ⟨as, ra⟩ := Dp.readsAll I1 xs _ its hda rv
    refine fin' (readsAll_len ra) ra (Dl.DpAll.plain hda) fun hlt => src_tuple (show s1.heap.IsTuple l its.toArray from pl) (fun z => ?_) hlt
    obtain ⟨o, e, hc, _⟩ := (show s1.heap.IsTuple l its.toArray from pl)
    rw [z, hPs] at e
    cases e
    cases hc

/-! ### the consumers -/
def finSum : List PyData → (V → Prop) → Prop := fun ys Q => ∃ ns : List Int, ys = ns.map .int ∧ Q (.int ns.sum)
def finAll : List PyData → (V → Prop) → Prop := fun ys Q => ∃ bs : List Bool, ys = bs.map .bool ∧ Q (.bl (bs.all id))
def finAny : List PyData → (V → Prop) → Prop := fun ys Q => ∃ bs : List Bool, ys = bs.map .bool ∧ Q (.bl (bs.any id))
theorem preSum_sum : ∀ (ns : List Int) (m : Nat), preSum (fun i => ns.getD i 0) m = (ns.take m).sum
  | ns, 0 => by simp [preSum]
  | ns, m + 1 => by
    unfold preSum
    rw [preSum_sum ns m]
    by_cases h : m < ns.length
    · rw [List.take_succ_eq_append_getElem h, List.sum_append, List.getD_eq_getElem?_getD, List.getElem?_eq_getElem h]
      simp
    · rw [List.getD_eq_getElem?_getD, List.getElem?_eq_none (by omega), List.take_of_length_le (by omega), List.take_of_length_le (by omega)]
      simp
theorem sum_consumes : Consumes X "sum" finSum := by
  intro pins σ H1 P ys g s5 Q R hf
  obtain ⟨fp, wr, G, St, W, st, below, hI⟩ := R
  refine call_sum_walkAnyS (W.self 0 _ _ _ st ⟨g, fp, wr, G, _, _, St, (fun i => match ys.getD i .none with | .int n => n | _ => 0), rfl, W, st, below, fun i v hv => ?_, fun s' t' hm => ?_⟩)
  · obtain ⟨H2, hT, _⟩ := hI s5 ⟨fun _ _ _ e => e, W.grefl _, rfl, rfl, Nat.le_refl _⟩
    obtain ⟨ns, e, _⟩ := hf H2 hT
    obtain ⟨hi, sc⟩ := hv
    subst e
    have hi2 : i < ns.length := by simpa using hi
    have eg : (ns.map PyData.int).getD i .none = .int ns[i] := by rw [List.getD_eq_getElem?_getD, List.getElem?_map, List.getElem?_eq_getElem hi2]; rfl
    rw [eg] at sc
    show ∃ t, v = .int (match (ns.map PyData.int).getD i .none with | .int n => n | _ => 0) t
    rw [eg]
    cases sc
    exact ⟨_, rfl⟩
  · obtain ⟨H2, hT, J⟩ := hI s' hm
    obtain ⟨ns, e, q⟩ := hf H2 hT
    subst e
    refine ⟨.int ns.sum, H2, J, ⟨t', ?_⟩, q⟩
    have ef : (fun i => match (ns.map PyData.int).getD i .none with | .int n => n | _ => (0 : Int)) = fun i => ns.getD i 0 := by
      funext i
      rw [List.getD_eq_getElem?_getD, List.getD_eq_getElem?_getD, List.getElem?_map]
      cases ns[i]? <;> rfl
    rw [ef, preSum_sum, List.length_map, List.take_length]
theorem truth_of {ys : List PyData} {bs : List Bool} (e : ys = bs.map .bool) : TruthOf X.prog X.w X.A.in1 (fun i y => i < ys.length ∧ Sc (ys.getD i .none) y) (fun i => bs.getD i false) := by
  intro i v s Q E hv hQ
  obtain ⟨hi, sc⟩ := hv
  subst e
  have hi2 : i < bs.length := by simpa using hi
  have eg : (bs.map PyData.bool).getD i .none = .bool bs[i] := by rw [List.getD_eq_getElem?_getD, List.getElem?_map, List.getElem?_eq_getElem hi2]; rfl
  rw [eg] at sc
  cases sc
  have e2 : bs.getD i false = bs[i] := by rw [List.getD_eq_getElem?_getD, List.getElem?_eq_getElem hi2]; rfl
  have hQ2 : Q (bs.getD i false) s := hQ
  rw [e2] at hQ2
  exact wpAny_truthy_bool hQ2
theorem bools_inj : ∀ {a b : List Bool}, a.map PyData.bool = b.map PyData.bool → a = b
  | [], [], _ => rfl
  | x :: a, y :: b, h => by
    rw [List.map_cons, List.map_cons] at h
    injection h with h1 h2
    injection h1 with h1
    rw [h1, bools_inj h2]
  | [], _ :: _, h => by cases h
  | _ :: _, [], h => by cases h
theorem range_getD_all (bs : List Bool) : ((List.range bs.length).all fun i => bs.getD i false) = bs.all id := by
  rw [Bool.eq_iff_iff, List.all_eq_true, List.all_eq_true]
  constructor
  · intro h b hb
    obtain ⟨j, hj, rfl⟩ := List.getElem_of_mem hb
    have := h j (List.mem_range.mpr hj)
    rw [List.getD_eq_getElem?_getD, List.getElem?_eq_getElem hj] at this
    exact this
  · intro h j hj
    have hj' := List.mem_range.mp hj
    rw [List.getD_eq_getElem?_getD, List.getElem?_eq_getElem hj']
    exact h _ (List.getElem_mem hj')
theorem range_getD_any (bs : List Bool) : ((List.range bs.length).any fun i => bs.getD i false) = bs.any id := by
  rw [Bool.eq_iff_iff, List.any_eq_true, List.any_eq_true]
  constructor
  · rintro ⟨j, hj, h⟩
    have hj' := List.mem_range.mp hj
    rw [List.getD_eq_getElem?_getD, List.getElem?_eq_getElem hj'] at h
    exact ⟨_, List.getElem_mem hj', h⟩
  · rintro ⟨b, hb, h⟩
    obtain ⟨j, hj, rfl⟩ := List.getElem_of_mem hb
    exact ⟨j, List.mem_range.mpr hj, by rw [List.getD_eq_getElem?_getD, List.getElem?_eq_getElem hj]; exact h⟩
theorem all_consumes : Consumes X "all" finAll := by
  intro pins σ H1 P ys g s5 Q R hf
  obtain ⟨fp, wr, G, St, W, st, below, hI⟩ := R
  obtain ⟨H2, hT, _⟩ := hI s5 ⟨fun _ _ _ e => e, W.grefl _, rfl, rfl, Nat.le_refl _⟩
  obtain ⟨bs, e, _⟩ := hf H2 hT
  refine call_all_walkS (W.self 0 _ _ _ st ⟨g, fp, wr, G, _, _, St, _, rfl, W, st, truth_of e, fun s' hm => ?_⟩)
  obtain ⟨H3, hT, J⟩ := hI s' hm
  obtain ⟨bs2, e2, q⟩ := hf H3 hT
  have eb : bs2 = bs := by
    have := e2.symm.trans e
    exact bools_inj this
  subst eb
  refine ⟨.bl _, H3, J, ?_, q⟩
  subst e
  show Value.bool _ = Value.bool _
  rw [List.length_map, range_getD_all]
theorem any_consumes : Consumes X "any" finAny := by
  intro pins σ H1 P ys g s5 Q R hf
  obtain ⟨fp, wr, G, St, W, st, below, hI⟩ := R
  obtain ⟨H2, hT, _⟩ := hI s5 ⟨fun _ _ _ e => e, W.grefl _, rfl, rfl, Nat.le_refl _⟩
  obtain ⟨bs, e, _⟩ := hf H2 hT
  refine call_any_walkS (W.self 0 _ _ _ st ⟨g, fp, wr, G, _, _, St, _, rfl, W, st, truth_of e, fun s' hm => ?_⟩)
  obtain ⟨H3, hT, J⟩ := hI s' hm
  obtain ⟨bs2, e2, q⟩ := hf H3 hT
  have eb : bs2 = bs := by
    have := e2.symm.trans e
    exact bools_inj this
  subst eb
  refine ⟨.bl _, H3, J, ?_, q⟩
  subst e
  show Value.bool _ = Value.bool _
  rw [List.length_map, range_getD_any]
end
end Gxp

set_option Elab.async false
set_option linter.all false
set_option maxRecDepth 100000
set_option maxHeartbeats 2000000
/-! The data layer, part 16: generator expressions over data; defs by the head's facts; the end. -/
namespace Dl
open PySem L2

/-! ### generator expressions -/
section
variable {K : PySem.W.Frag} {T : Addr → Prop} {S F H H2 : Hp} {C : Cm} {P : Addr}
/-- a code table has grown -/
theorem Rel.tabbed (r : Rel K T S C F H) (hP : T P) (t : GxR.Tabbed P H H2) : Rel K T S C F H2 := by
  obtain ⟨⟨ps0, h0, _⟩, s0, c0, f0⟩ := r.t P hP
  refine ⟨fun b x e => ?_, fun a x e => ?_, fun a c e => ?_, fun Q q => ?_⟩
  · rw [t.2 b (fun z => by rw [z, s0] at e; cases e)]; exact r.s _ _ e
  · rw [t.2 a (fun z => by rw [z, f0] at e; cases e)]; exact r.f _ _ e
  · have hb : a ≠ P := fun z => by rw [z, c0] at e; cases e
    rw [t.2 a hb]; exact r.c a c e
  · by_cases hb : Q = P
    · rw [hb]; exact ⟨t.1, s0, c0, f0⟩
    · obtain ⟨⟨ps, h', ok⟩, h2⟩ := r.t Q q
      exact ⟨⟨ps, by rw [t.2 Q hb]; exact h', ok⟩, h2⟩
end
/-- captured names: slots; constants of the module -/
def capD (caps : List (Str × Nat)) (gl : List (Str × PyData)) (γ : En) (C : Cm) : Gxp.DE := fun x => match caps.lookup x with
  | some i => match γ[i]? with
    | some (some w) => wpy 3 C w
    | _ => none
  | none => gl.lookup x
def asSd (C : Cm) (w : W) : Option (List PyData) := (asS C w).bind dAll
def eGen (bind : PyData → Option Gxp.DE) (q : Gxp.DE → Option PyData) (κ : En → Cm → Gxp.DE) (fd : List PyData → (PyData → Prop) → Prop) (it : TEd) : TEd := fun γ C Q => it γ C fun w C1 => match asSd C1 w with
  | some xs => ∃ ys, xs.map (Gxp.elemOf bind q (κ γ C1)) = ys.map some ∧ ys.all Gxp.flatD = true ∧ fd ys fun r => Q (.d r) C1
  | none => False
def gSum : List PyData → (PyData → Prop) → Prop := fun ys Q => ∃ ns : List Int, ys = ns.map .int ∧ Q (.int ns.sum)
def gAll : List PyData → (PyData → Prop) → Prop := fun ys Q => ∃ bs : List Bool, ys = bs.map .bool ∧ Q (.bool (bs.all id))
def gAny : List PyData → (PyData → Prop) → Prop := fun ys Q => ∃ bs : List Bool, ys = bs.map .bool ∧ Q (.bool (bs.any id))
/-- the same, as values -/
def FinR (K : PySem.W.Frag) (fin : List PyData → (V → Prop) → Prop) (fd : List PyData → (PyData → Prop) → Prop) : Prop := ∀ ys (Q0 : PyData → Prop) (Q : V → Prop), fd ys Q0 → (∀ r v, (∀ S : Hp, Rp K S r v) → Q0 r → Q v) → fin ys Q
theorem finR_sum {K : PySem.W.Frag} : FinR K Gxp.finSum gSum := fun ys Q0 Q ⟨ns, e, q⟩ k => ⟨ns, e, k _ _ (fun _ => .int _) q⟩
theorem finR_all {K : PySem.W.Frag} : FinR K Gxp.finAll gAll := fun ys Q0 Q ⟨ns, e, q⟩ k => ⟨ns, e, k _ _ (fun _ => .bl _) q⟩
theorem finR_any {K : PySem.W.Frag} : FinR K Gxp.finAny gAny := fun ys Q0 Q ⟨ns, e, q⟩ k => ⟨ns, e, k _ _ (fun _ => .bl _) q⟩
/-- .. of the names -/
structure CapsOk (X : Cx) (sc : Scope) (caps : List (Str × Nat)) (gl : List (Str × PyData)) : Prop where
  free : ∀ x i, caps.lookup x = some i → X.N[i]? = some x ∧ Vis X.env.scope x ∧ X.env.scope.names.lookup x ≠ some .local ∧ sc.names.lookup x = some .free ∧ (x == ("__classdict__" : Str)) = false
  glob : ∀ x d, gl.lookup x = some d → sc.names.lookup x = some .globalImplicit ∧ ∃ u v, X.mg x = some u ∧ RelV v u ∧ ∀ S, Rp X.K S d v
section
variable {G : Sit} {X : Cx}
theorem caps_nil {sc : Scope} : CapsOk X sc [] [] := ⟨fun _ _ h => (by simp at h), fun _ _ h => (by simp at h)⟩
theorem d_gen {c P : Addr} {tg el it : Expr} {sc : Scope} {p pos gp : Pos} {id : String} {f : Str} {bind : PyData → Option Gxp.DE} {q : Gxp.DE → Option PyData} {fin : List PyData → (V → Prop) → Prop} {fd : List PyData → (PyData → Prop) → Prop} {ti : TE} {wi : TEd} {k : Nat} {caps : List (Str × Nat)} {gl : List (Str × PyData)}
    (hr : Room k X.A) (hm : X.mg f = none) (TB : GxR.TabB X.base X.mg c P) (hcode : X.env.code = .ref c) (hT : G.T P)
    (S : Gxp.ScopeG X.env sc) (hi : DE G X it ti wi) (cap : CapsOk X sc caps gl) (hown : ∀ d η x e, bind d = some η → η x = some e → sc.names.lookup x = some .local)
    (put : ∀ (C : Addr) (code : Value) (bi : Addr), Gxp.PutOk X.prog X.w (genEnv sc (cloFrom X.env.cells sc.names []) C code bi X.env) tg bind) (elq : ∀ (C : Addr) (code : Value) (bi : Addr), Gxp.QE X.prog X.w (genEnv sc (cloFrom X.env.cells sc.names []) C code bi X.env) el q)
    (cons : Gxp.Consumes X id fin) (fr : FinR X.K fin fd) (hv : bootBuiltins f = some (.builtin id) := by decide +kernel) (hg : Gl X f := by rfl) (hs : ∀ v, genFold it X.env v = pure v := by intro _; rfl) (hn : f ≠ "__name__" := by decide) (hd : (f == ("__debug__" : Str)) = false := by decide)
    (he : starEach [Gxp.bodyOf el tg it sc gp] X.env = [(false, eval (Gxp.bodyOf el tg it sc gp) X.env)] := by rfl) :
    DE G X (.Call (.Name f p) [.GeneratorExp el [⟨tg, it, [], 0⟩] sc gp] [] pos) (Gxp.tGen X P sc bind q fin ti) (eGen bind q (capD caps gl) fd wi) := ⟨Gxp.pe_gen (own := []) hr hm TB hcode S hi.1 hown put elq cons hv hg hs hn hd he, by
  intro S0 C F H γ σ Q0 Q R en x h kk
  refine hi.2 S0 C F H γ σ _ _ R en x h fun d C1 S1 H1 v e1 R1 r1 h1 => ?_
  split at h1
  · rename_i xs ex
    obtain ⟨ys, hy, hf, hq⟩ := h1
    obtain ⟨⟨ps, hP, ok⟩, _, _, _⟩ := R1.t P hT
    have iv : Gxp.ItemsV X.K H1 v xs := by
      unfold asSd at ex
      cases ea : asS C1 d with
      | none => rw [ea] at ex; cases ex
      | some ws =>
        rw [ea] at ex
        have e2 : dAll ws = some xs := ex
        cases dAll_eq e2
        obtain ⟨a, us, rfl, hs, rs⟩ := asS_ok R1 r1 ea
        have da : DpAll X.K H1 us xs := Rps.dp (Rps.mono R1.s (Rps.of_ws rs))
        rcases hs with hs | hs
        · exact .lst hs da
        · exact .tup hs da
    refine ⟨ps, xs, ys, capD caps gl γ C1, hP, ok, iv, fun y z ey => ?_, hy, hf, fun H2 t => ?_⟩
    · unfold capD at ey
      cases ec : caps.lookup y with
      | some i =>
        rw [ec] at ey
        have ey : (match γ[i]? with | some (some w) => wpy 3 C1 w | _ => none) = some z := ey
        obtain ⟨c1, c2, c3, c4, c5⟩ := cap.free y i ec
        split at ey
        · rename_i w ew
          obtain ⟨v2, ev, rw2⟩ := (en.mono e1).2 i w ew
          exact .free c1 ev c2 c3 c4 c5 (wpy_ok R1 3 rw2 ey)
        · cases ey
      | none =>
        rw [ec] at ey
        obtain ⟨c1, u, v2, c2, c3, c4⟩ := cap.glob y z ey
        exact .glob c1 c2 c3 ((c4 H1).dp)
    · have R2 := R1.tabbed hT t
      exact fr ys _ _ hq fun r v3 rp q0 => kk _ C1 S1 H2 _ e1 R2 (.d (rp S1)) q0
  · exact h1.elim⟩
end
/-- a genexp's scope, by what is looked up -/
theorem scopeG {X : Cx} {sc : Scope} (hk : sc.kind = .function := by rfl) (hc : sc.isCoroutine = false := by rfl) (h1 : (sc.names.all fun y => y.2 != .cell) = true := by decide +kernel) (h2 : sc.names.lookup (".0" : Str) = some NameKind.local := by decide +kernel)
    (h3 : ∀ y ∈ sc.names, y.2 = .free → ∃ c, X.env.cells.lookup y.1 = some c) : Gxp.ScopeG X.env sc := ⟨hk, hc, fun y hy e => by
  have := List.all_eq_true.mp h1 y hy
  rw [e] at this
  exact absurd this (by decide), h2, h3⟩
theorem no_free {sc : Scope} {cells : List (Str × Addr)} (h : (sc.names.all fun y => y.2 != .free) = true) : ∀ y ∈ sc.names, y.2 = .free → ∃ c, cells.lookup y.1 = some c := fun y hy e => by
  have := List.all_eq_true.mp h y hy
  rw [e] at this
  exact absurd this (by decide)

/-! ### what a def's end may do: forget cells, freeze the value's -/
inductive Frz : Cm → W → Cm → W → Prop
  | same {C : Cm} {d : W} : Frz C d C d
  | lst {C : Cm} {a : Addr} {xs : List PyData} : C a = some (.lst (xs.map W.d)) → Frz C (.own a) (cdel C a) (.d (.list xs))
def endsF (Q : WK) : EndsD := { nx := fun _ C => ∃ C2, Sub C2 C ∧ Q (.d .none) C2, rt := fun d C => ∃ C2 d2 C3, Frz C d C2 d2 ∧ Sub C3 C2 ∧ Q d2 C3 }
theorem frz_ok {K : PySem.W.Frag} {T : Addr → Prop} {S F H : Hp} {C C2 : Cm} {d d2 : W} {v : V} (R : Rel K T S C F H) (r : Rw K S d v) (f : Frz C d C2 d2) : ∃ S2, Ext S S2 ∧ Rel K T S2 C2 F H ∧ Rw K S2 d2 v := by
  cases f with
  | same => exact ⟨S, Same.refl S, R, r⟩
  | @lst a xs e =>
    cases r
    obtain ⟨hs, hf, o, ho, vs, rfl, q⟩ := R.cell e trivial
    have x := ext_new (o := .lst vs) hs
    exact ⟨_, x, R.freeze e hf ho, .d (.lst upd_same ((Rps.of_ws q).mono x))⟩

/-! ### a def by the head's facts -/
def dfOf (at_ : Str × Option Str) (name qual : Str) (st : Stmt) : He.DefD := ⟨at_, name, qual, defArgs st, defBody st, defScope st, [], []⟩
theorem fn_dataH {P : Program} {w : World} {K : PySem.W.Frag} {mg : Str → Option Value} {base : Heap} {T : Addr → Prop} {at_ : Str × Option Str} {name qual : Str} {st : Stmt} {fd : FuncData} {N ps : List Str} {k : Nat} {sp : DSp} {wb : EXd → TSd}
    (F : FunD K name qual (defArgs st) (defBody st) (defScope st) [] [] (He.fAd K at_) fd) (Sc : FnScope N ps (defScope st)) (len : ∀ ds C Q E, sp ds C Q E → ds.length = ps.length)
    (der : ∀ (cdv : Value), cdv = .ref (He.cT K at_).1 → ∀ (A : Around) (outer : List Env) (s : Shared) (H : Hp) (E : XK) (EE : EXd), XO ⟨T, fun c d _ H => E c d H, EE⟩ (cxD P w K mg base N qual st (He.fAd K at_) cdv A outer s H E) k →
      ∃ t, DSs ⟨T, fun c d _ H => E c d H, EE⟩ (cxD P w K mg base N qual st (He.fAd K at_) cdv A outer s H E) (defBody st) t (wb EE))
    (hw : ∀ ds C Q E, sp ds C Q E → wb (exOf E) (endsF Q) (startD N ds) C) : FnOk P w K mg base (L2.CX P w) (k + 1) (He.fAd K at_) fd ps (spD K T sp) := by
  obtain ⟨oc, od, dV, kV, doc, pm, an, cdv, ct, osl, rfl, lk, hcd, _, _⟩ := F.ex
  obtain ⟨c0, rfl⟩ := He.codeIn_ref hcd
  have ec : He.codeOf K at_ = c0 := He.codeOf_eq lk rfl
  refine fn_of lk hcd Sc (fun vs H Q E h => ?_) (fun A outer s H vs Q E hr h => ?_)
  · obtain ⟨S, C, F', ds, Q0, E0, _, r, h, _⟩ := h
    rw [← Paired.length r]
    exact len _ _ _ _ h
  · obtain ⟨S, C, F', ds, Q0, E0, R, r, h, kq, ke⟩ := h
    obtain ⟨t, d⟩ := der _ (by rw [← ec]; rfl) A outer s H E (exOf E0) ⟨rfl, Sc.nd, hr, passes_of rfl, takes_of rfl rfl rfl rfl⟩
    refine ⟨t, d.1, d.2 S C F' H (startD N ds) (L2.start N vs) _ _ R (start_en r) ?_ (hw _ _ _ _ h) ⟨?_, ?_, ?_, ?_⟩⟩
    · rintro c fs a gs γ σ C' H' S' e R' en ea rk ⟨C2, sb, q⟩
      exact ke c fs a gs C2 S' H' e (R'.sub sb) ea rk q
    · rintro γ σ C' H' S' e R' en ⟨C2, sb, q⟩
      exact kq _ C2 S' H' .non e (R'.sub sb) (.d .non) q
    · rintro d v C' H' S' e R' rv ⟨C2, d2, C3, fz, sb, q⟩
      obtain ⟨S2, e2, R2, r2⟩ := frz_ok R' rv fz
      exact kq d2 C3 S2 H' v (e.trans e2) (R2.sub sb) r2 q
    · rintro γ σ C' H' S' e R' en q
      exact q.elim
    · rintro γ σ C' H' S' e R' en q
      exact q.elim
/-- a def of the module, as it is called -/
theorem dfn_of {P : Program} {w : World} {K : PySem.W.Frag} {mg : Str → Option Value} {base : Heap} {T : Addr → Prop} {x : Str} {st : Stmt} {fd : FuncData} {ps : List Str} {k : Nat} {sp : DSp} (F : FunD K x x (defArgs st) (defBody st) (defScope st) [] [] (He.fAd K (x, none)) fd)
    (ok : FnOk P w K mg base (L2.CX P w) k (He.fAd K (x, none)) fd ps (spD K T sp)) (hm : mg x = some (.ref (He.ga K x))) (b : Binds K fd ps []) : DFn P w K mg base T x k sp :=
  ⟨⟨_, fd, ps, ok, hm, F.kp, b⟩⟩

/-! ### the law's end -/
/-- the law's promise -/
def spLawD : DSp := fun ds C Q _ => ∃ ns : List Int, ds = [.scr ns] ∧ ns.length ≤ 63 ∧ ∀ C', Q (.d (.bool true)) C'
theorem law_end {l : PySem.W.OpenLaw} {w : World} {K : PySem.W.Frag} {h : Heap} {mg : Str → Option Value} {fd : FuncData} {k : Nat} {tf : List He.Defn} (X : K.In h) (hd : ∀ p ∈ tf, PySem.W.codeHdIn K (He.cT K p).1 (He.cT K p).2 = true) (out : ∀ p ∈ tf, K.lookup (He.cT K p).2 = none)
    (empty : ∀ p ∈ tf, h.get? (He.cT K p).2 = some { cls := .none, data := .fields #[] }) (hb : ∀ (s : Shared) (u : Value), BindsTo s fd ⟨[u], []⟩ [("script", u)])
    (ok : ∀ base : Heap, K.In base → base.Ns mainGlobals mg → (∀ p ∈ tf, GxR.TabB base mg (He.cT K p).1 (He.cT K p).2) → FnOk l.prog w K mg base (L2.CX l.prog w) k (He.ga K "law") fd ["script"] (spD K (fun a => ∃ p ∈ tf, a = (He.cT K p).2) spLawD)) :
    LamX.LawAtS l w K (L2.CX l.prog w) k 63 "script" mg (He.ga K "law") h := by
  refine ⟨fd, tf.map (He.cT K), _, fun p hp => ?_, fun p hp => ?_, fun p hp => ?_, hb, fun H a ns hl _ hH hS => ?_, fun base KB NB TB => ok base KB NB fun p hp => have t := TB _ (List.mem_map_of_mem hp); ⟨t.code, t.bm, t.gP⟩⟩
  · obtain ⟨q, hq, rfl⟩ := List.mem_map.mp hp
    exact empty q hq
  · obtain ⟨q, hq, rfl⟩ := List.mem_map.mp hp
    exact out q hq
  · obtain ⟨q, hq, rfl⟩ := List.mem_map.mp hp
    exact PySem.W.codeHd_of_K X (hd q hq)
  · classical
    have tb : ∀ b, (∃ p ∈ tf, b = (He.cT K p).2) → H b = some (.tbl #[]) := fun b ⟨p, hp, e⟩ => by rw [e]; exact hH _ (List.mem_map_of_mem hp)
    refine ⟨fun b => if ∃ p ∈ tf, b = (He.cT K p).2 then none else H b, fun _ => none, fun _ => none, [.scr ns], fun d _ => d = .d (.bool true), fun _ _ _ => False, ⟨fun b o e => ?_, fun _ _ e => (by cases e), fun _ _ e => (by cases e), fun b hb => ⟨⟨#[], tb b hb, trivial⟩, if_pos hb, rfl, rfl⟩⟩, .cons (.scr ?_) .nil, ⟨ns, rfl, hl, fun _ => rfl⟩, fun d C' S' H' v _ _ r e => ?_, fun _ _ _ _ _ _ _ _ _ _ _ z => z⟩
    · have e : (if ∃ p ∈ tf, b = (He.cT K p).2 then none else H b) = some o := e
      by_cases hb : ∃ p ∈ tf, b = (He.cT K p).2
      · rw [if_pos hb] at e; cases e
      · rw [if_neg hb] at e; exact e
    · rcases hS with (hS | ⟨o, hS⟩) | hS
      · refine .inl (.inl ?_)
        show (if ∃ p ∈ tf, a = (He.cT K p).2 then none else H a) = _
        rw [if_neg (fun z => by rw [tb a z] at hS; cases hS)]; exact hS
      · refine .inl (.inr ⟨o, ?_⟩)
        show (if ∃ p ∈ tf, a = (He.cT K p).2 then none else H a) = _
        rw [if_neg (fun z => by rw [tb a z] at hS; cases hS)]; exact hS
      · exact .inr hS
    · subst e
      cases r with | d r => cases r; rfl
/-- the names of built-in things that no module text binds -/
structure Bt (mg : Str → Option Value) : Prop where
  all : ∀ x ∈ (["len", "isinstance", "sum", "any", "all", "min", "max", "sorted", "int", "list", "tuple", "range", "enumerate", "zip", "str", "bool", "set", "reversed", "dict"] : List Str), mg x = none
section
variable {mg : Str → Option Value} (B : Bt mg)
include B
theorem Bt.n_len : mg "len" = none := B.all _ (by decide)
theorem Bt.n_isinstance : mg "isinstance" = none := B.all _ (by decide)
theorem Bt.n_sum : mg "sum" = none := B.all _ (by decide)
theorem Bt.n_any : mg "any" = none := B.all _ (by decide)
theorem Bt.n_all : mg "all" = none := B.all _ (by decide)
theorem Bt.n_min : mg "min" = none := B.all _ (by decide)
theorem Bt.n_max : mg "max" = none := B.all _ (by decide)
theorem Bt.n_sorted : mg "sorted" = none := B.all _ (by decide)
theorem Bt.n_int : mg "int" = none := B.all _ (by decide)
theorem Bt.n_list : mg "list" = none := B.all _ (by decide)
theorem Bt.n_tuple : mg "tuple" = none := B.all _ (by decide)
theorem Bt.n_range : mg "range" = none := B.all _ (by decide)
theorem Bt.n_enumerate : mg "enumerate" = none := B.all _ (by decide)
theorem Bt.n_zip : mg "zip" = none := B.all _ (by decide)
theorem Bt.n_str : mg "str" = none := B.all _ (by decide)
theorem Bt.n_bool : mg "bool" = none := B.all _ (by decide)
theorem Bt.n_set : mg "set" = none := B.all _ (by decide)
theorem Bt.n_reversed : mg "reversed" = none := B.all _ (by decide)
theorem Bt.n_dict : mg "dict" = none := B.all _ (by decide)
end
def btNames : List Str := ["len", "isinstance", "sum", "any", "all", "min", "max", "sorted", "int", "list", "tuple", "range", "enumerate", "zip", "str", "bool", "set", "reversed", "dict"]
theorem bt_of {K : PySem.W.Frag} {h : Heap} {mg : Str → Option Value} (X : K.In h) (G : h.Ns mainGlobals mg) (c : ∀ x ∈ btNames, (He.Fa.free x).ok K = true) : Bt mg := ⟨fun x hx => He.free_ok X G (c x hx)⟩
end Dl

set_option Elab.async false
set_option linter.all false
set_option maxRecDepth 100000
set_option maxHeartbeats 2000000
/-! The data layer, part 17: generator expressions' targets and names, by looking. -/
namespace Gxp
open PySem PySem.W PyProof.Rows L2
section
variable {P : Program} {w : World} {sc : Scope} {cl : List (Str × Addr)} {C : Addr} {code : Value} {bi : Addr} {env : Env}
theorem put_nameG {x : Str} {pos : Pos} (hx : sc.names.lookup x = some .local := by decide +kernel) (hk : sc.kind = .function := by rfl) : PutOk P w (genEnv sc cl C code bi env) (.Name x pos) (fun d => some (nmD x d)) :=
  put_name (show sc.names.lookup x = some .local from hx) (by show (sc.kind == .class || (sc.kind == .module && _)) = false; rw [hk]; rfl)
theorem put_tupG {elts : List Expr} {k : Nat} {pos : Pos} (xs : List Str) (hx : (xs.all fun x => sc.names.lookup x == some .local) = true := by decide +kernel) (hk : sc.kind = .function := by rfl)
    (hes : NamesAre elts xs := by repeat constructor) (he : (assignEach elts (genEnv sc cl C code bi env)).map (·.2) = elts.map (fun e => assign e (genEnv sc cl C code bi env)) := by rfl) (hst : (assignEach elts (genEnv sc cl C code bi env)).findIdx? (·.1) = none := by rfl) :
    PutOk P w (genEnv sc cl C code bi env) (.Tuple elts k pos) (tupD xs) :=
  put_tup (fun x m => by
    have := List.all_eq_true.mp hx x m
    exact eq_of_beq this) (by show (sc.kind == .class || (sc.kind == .module && _)) = false; rw [hk]; rfl) hes he hst
theorem own_name {x : Str} (hx : sc.names.lookup x = some .local := by decide +kernel) : ∀ d η y e, (fun d => some (nmD x d)) d = some η → η y = some e → sc.names.lookup y = some .local := by
  intro d η y e h1 h2
  cases h1
  unfold nmD at h2
  split at h2
  · rename_i h; rw [h]; exact hx
  · cases h2
theorem many_own : ∀ {xs : List Str} {ds : List PyData} {η : DE} {y : Str} {e : PyData}, manyD xs ds = some η → η y = some e → y ∈ xs
  | [], [], η, y, e, h, h2 => by cases h; cases h2
  | x :: xs, d :: ds, η, y, e, h, h2 => by
    unfold manyD at h
    cases e0 : manyD xs ds with
    | none => rw [e0] at h; cases h
    | some η' =>
      rw [e0] at h
      cases h
      have h2 : (η' y).or (if y = x then some d else none) = some e := h2
      cases e1 : η' y with
      | some z => exact List.mem_cons_of_mem _ (many_own e0 e1)
      | none =>
        rw [e1] at h2
        by_cases hy : y = x
        · rw [hy]; exact List.mem_cons_self ..
        · rw [if_neg hy] at h2; cases h2
  | [], _ :: _, _, _, _, h, _ => by cases h
  | _ :: _, [], _, _, _, h, _ => by cases h
theorem own_tup (xs : List Str) (hx : (xs.all fun x => sc.names.lookup x == some .local) = true := by decide +kernel) : ∀ d η y e, tupD xs d = some η → η y = some e → sc.names.lookup y = some .local := by
  intro d η y e h1 h2
  unfold tupD at h1
  split at h1
  · have := List.all_eq_true.mp hx y (many_own h1 h2)
    exact eq_of_beq this
  · cases h1
end
end Gxp
namespace Dl
open PySem L2
/-! ### comparisons as tests -/
def tBl (a : TEd) : TTd := fun γ C Q => a γ C fun x C1 => match x with
  | .d (.bool b) => Q b C1
  | _ => False
section
variable {K : PySem.W.Frag} {G : Sit} {X : Cx} {a b c : Expr} {ta tb tc : TE} {wa wb wc : TEd} {pos : Pos}
theorem ref_bl (h : RefE K G ta wa) : RefT K G (tTest ta) (tBl wa) := by
  intro S C F H γ σ Q0 Q R e x h0 k
  refine h S C F H γ σ _ _ R e x h0 fun d C1 S1 H1 v e1 R1 r1 h1 => ?_
  split at h1
  · cases r1 with | d r1 => cases r1; exact ⟨_, rfl, k _ _ _ _ e1 R1 h1⟩
  · exact h1.elim
theorem ref_blB (h : RefE K G ta wa) : RefT K G (tB ta) (tBl wa) := ref_bl h
theorem t_lt (ha : DE G X a ta wa) (hb : DE G X b tb wb) : DT G X (.Compare a [.Lt] [b] pos) (tTest (tOp (rI0 fun i j => .bl (decide (i < j))) ta tb)) (tBl (eOp opLt wa wb)) := ⟨pt_cmpR op_lt ha.1 hb.1 (nomark _), ref_bl (ref_op ref_B0 ha.2 hb.2)⟩
theorem t_le (ha : DE G X a ta wa) (hb : DE G X b tb wb) : DT G X (.Compare a [.LtE] [b] pos) (tTest (tOp (rI0 fun i j => .bl (decide (i ≤ j))) ta tb)) (tBl (eOp opLe wa wb)) := ⟨pt_cmpR op_le ha.1 hb.1 (nomark _), ref_bl (ref_op ref_B0 ha.2 hb.2)⟩
theorem t_gt (ha : DE G X a ta wa) (hb : DE G X b tb wb) : DT G X (.Compare a [.Gt] [b] pos) (tTest (tOp (rI0 fun i j => .bl (decide (j < i))) ta tb)) (tBl (eOp opGt wa wb)) := ⟨pt_cmpR op_gt ha.1 hb.1 (nomark _), ref_bl (ref_op ref_B0 ha.2 hb.2)⟩
theorem t_ge (ha : DE G X a ta wa) (hb : DE G X b tb wb) : DT G X (.Compare a [.GtE] [b] pos) (tTest (tOp (rI0 fun i j => .bl (decide (j ≤ i))) ta tb)) (tBl (eOp opGe wa wb)) := ⟨pt_cmpR op_ge ha.1 hb.1 (nomark _), ref_bl (ref_op ref_B0 ha.2 hb.2)⟩
theorem t_eq {k : Nat} (hr : Room k X.A) (ha : DE G X a ta wa) (hb : DE G X b tb wb) : DT G X (.Compare a [.Eq] [b] pos) (tTest (tOp (rEqP X.K false) ta tb)) (tBl (eOp (opEq false) wa wb)) := ⟨pt_cmpR (op_eqP hr) ha.1 hb.1 (nomark _), ref_bl (ref_op ref_eq ha.2 hb.2)⟩
theorem t_ne {k : Nat} (hr : Room k X.A) (ha : DE G X a ta wa) (hb : DE G X b tb wb) : DT G X (.Compare a [.NotEq] [b] pos) (tTest (tOp (rEqP X.K true) ta tb)) (tBl (eOp (opEq true) wa wb)) := ⟨pt_cmpR (op_neP hr) ha.1 hb.1 (nomark _), ref_bl (ref_op ref_eq ha.2 hb.2)⟩
theorem t_in {k : Nat} (hr : Room k X.A) (ha : DE G X a ta wa) (hb : DE G X b tb wb) (hm : behindInMarks .In b = false := by rfl) : DT G X (.Compare a [.In] [b] pos) (tTest (tOp (fun x y H Q => rInP X.K false x y H Q ∨ rStrIn false x y H Q) ta tb)) (tBl (eOp (opIn false) wa wb)) :=
  ⟨pt_cmpR ((op_inP hr).or op_strIn) ha.1 hb.1 hm, ref_bl (ref_op ref_in ha.2 hb.2)⟩
theorem t_notin {k : Nat} (hr : Room k X.A) (ha : DE G X a ta wa) (hb : DE G X b tb wb) (hm : behindInMarks .NotIn b = false := by rfl) : DT G X (.Compare a [.NotIn] [b] pos) (tTest (tOp (fun x y H Q => rInP X.K true x y H Q ∨ rStrIn true x y H Q) ta tb)) (tBl (eOp (opIn true) wa wb)) :=
  ⟨pt_cmpR ((op_notInP hr).or op_strNotIn) ha.1 hb.1 hm, ref_bl (ref_op ref_in ha.2 hb.2)⟩
theorem t_isN {j : Nat} {p2 : Pos} (ha : DE G X a ta wa) : DT G X (.Compare a [.Is] [.Constant .none j p2] pos) (tB (tIsN ta)) (tBl (eUn (opIsN false) wa)) := ⟨pt_cmp (pc_isN ha.1) rfl, ref_blB (d_isN (pos := pos) (j := j) (p2 := p2) ha).2⟩
theorem t_notN {j : Nat} {p2 : Pos} (ha : DE G X a ta wa) : DT G X (.Compare a [.IsNot] [.Constant .none j p2] pos) (tB (tNotN ta)) (tBl (eUn (opIsN true) wa)) := ⟨pt_cmp (pc_notN ha.1) rfl, ref_blB (d_notN (pos := pos) (j := j) (p2 := p2) ha).2⟩
theorem t_chain {op op' : CmpOp} {r r' : R2} {w w' : O2} (o : OpR X (compareOp op) r) (o' : OpR X (compareOp op') r') (hr : RefR2 X.K G r w) (hr' : RefR2 X.K G r' w') (ha : DE G X a ta wa) (hb : DE G X b tb wb) (hc : DE G X c tc wc)
    (hm : lastMarks [op, op'] [b, c] = false := by rfl) : DT G X (.Compare a [op, op'] [b, c] pos) (tTest (tChain r r' ta tb tc)) (tBl (eChain w w' wa wb wc)) := ⟨pt_chain o o' ha.1 hb.1 hc.1 hm, ref_bl (ref_chain hr hr' ha.2 hb.2 hc.2)⟩
end
theorem XO.in_ {G : Sit} {X : Cx} {k : Nat} (xo : XO G X k) {sc : Scope} (s : Shared) (H : Hp) (C : Addr) (cl : List (Str × Addr)) (fp : List Addr) : XO G.quiet (X.blk s H sc (compEnvC sc cl C X.env) fp) k := xo.blk
def kOne (b : TEd) : TAd := fun γ C Q => b γ C fun d C1 => Q [d] C1
end Dl
namespace Dl
open PySem L2
/-! ### readings of the data's readings: for parts under a binder -/
def cE (K : PySem.W.Frag) (G : Sit) (w : TEd) : TE := fun σ H Q => ∃ (S : Hp) (C : Cm) (F : Hp) (γ : En) (Q0 : WK), Rel K G.T S C F H ∧ EnR K S γ σ ∧ ExOk K G S F ∧ w γ C Q0 ∧ ∀ d C' S' H' v, Ext S S' → Rel K G.T S' C' F H' → Rw K S' d v → Q0 d C' → Q v H'
def cTt (K : PySem.W.Frag) (G : Sit) (w : TTd) : TT := fun σ H Q => ∃ (S : Hp) (C : Cm) (F : Hp) (γ : En) (Q0 : Bool → Cm → Prop), Rel K G.T S C F H ∧ EnR K S γ σ ∧ ExOk K G S F ∧ w γ C Q0 ∧ ∀ b C' S' H', Ext S S' → Rel K G.T S' C' F H' → Q0 b C' → Q b H'
def cGt (K : PySem.W.Frag) (G : Sit) (vs : List Nat) (w : TGd) : TG := fun v σ H Q => ∃ (S : Hp) (C : Cm) (F : Hp) (γ : En) (d : W) (Q0 : En → Cm → Prop), Rel K G.T S C F H ∧ EnR K S γ σ ∧ ExOk K G S F ∧ Rw K S d v ∧ w d γ C Q0 ∧
  ∀ γ' σ' C' S' H', Ext S S' → Rel K G.T S' C' F H' → EnR K S' γ' σ' → Q0 γ' C' → wipe σ' vs = wipe σ vs → Q σ' H'
section
variable {K : PySem.W.Frag} {G : Sit} {X : Cx} {e : Expr} {es : List Expr} {t : TE} {tt : TT} {g : TG} {w : TEd} {wt : TTd} {wg : TGd} {vs : List Nat}
theorem pe_c (h : DE G X e t w) : PE X e (cE X.K G w) := ⟨fun pins s σ H Q I ⟨S, C, F, γ, Q0, R, en, x, q, k⟩ => h.1.run pins s σ H Q I (h.2 S C F H γ σ Q0 Q R en x q k)⟩
theorem ref_c' : RefE K G (cE K G w) w := fun S C F H γ σ Q0 Q R en x q k => ⟨S, C, F, γ, Q0, R, en, x, q, k⟩
theorem pts_c (h : DTs G X es tt wt) : PTs X es (cTt X.K G wt) := ⟨fun pins s σ H Q I ⟨S, C, F, γ, Q0, R, en, x, q, k⟩ => h.1.run pins s σ H Q I (h.2 S C F H γ σ Q0 Q R en x q k)⟩
theorem ref_ct : RefT K G (cTt K G wt) wt := fun S C F H γ σ Q0 Q R en x q k => ⟨S, C, F, γ, Q0, R, en, x, q, k⟩
theorem pg_c (h : DG G X e g wg) (go : GO g vs) : PG X e (cGt X.K G vs wg) := ⟨fun pins s σ H v u Q I r ⟨S, C, F, γ, d, Q0, R, en, x, rv, q, k⟩ => h.1.run pins s σ H v u Q I r
  (go.m _ _ _ _ _ (go.k _ _ _ _ (h.2 S C F H γ σ d v Q0 (fun σ' H' => ∃ γ' C' S', Ext S S' ∧ Rel X.K G.T S' C' F H' ∧ EnR X.K S' γ' σ' ∧ Q0 γ' C') R en x rv q fun γ' σ' C' S' H' e1 R1 en1 q1 => ⟨γ', C', S', e1, R1, en1, q1⟩))
    fun σ' H' ⟨⟨γ', C', S', e1, R1, en1, q1⟩, hw⟩ => k γ' σ' C' S' H' e1 R1 en1 q1 hw)⟩
theorem ref_cg : RefG K G (cGt K G vs wg) wg := fun S C F H γ σ d v Q0 Q R en x rv q k => ⟨S, C, F, γ, d, Q0, R, en, x, rv, q, fun γ' σ' C' S' H' e1 R1 en1 q1 _ => k γ' σ' C' S' H' e1 R1 en1 q1⟩
theorem go_c : GO (cGt K G vs wg) vs := ⟨fun v σ H Q ⟨S, C, F, γ, d, Q0, R, en, x, rv, q, k⟩ => ⟨S, C, F, γ, d, Q0, R, en, x, rv, q, fun γ' σ' C' S' H' e1 R1 en1 q1 hw => ⟨k γ' σ' C' S' H' e1 R1 en1 q1 hw, hw⟩⟩,
  fun v σ H Q Q' ⟨S, C, F, γ, d, Q0, R, en, x, rv, q, k⟩ m => ⟨S, C, F, γ, d, Q0, R, en, x, rv, q, fun γ' σ' C' S' H' e1 R1 en1 q1 hw => m _ _ (k γ' σ' C' S' H' e1 R1 en1 q1 hw)⟩⟩
end
section
variable {G : Sit} {X : Cx} {elt tg iter : Expr} {ifs : List Expr} {scope : Scope} {own : List (Str × Nat)} {pos : Pos} {wi : TI} {wwi : TId} {wg : TGd} {wtt : TTd} {wte : TEd} {k : Nat}
/-- [elt for tg in iter if ..] -/
theorem d_lcE (m : Bool) (xo : XO G X k) (hi : DI G X tg iter wi wwi) (ok : BlkOk X.N X.env.scope scope own)
    (hg : ∀ (s : Shared) (H : Hp) (C : Addr) (cl : List (Str × Addr)) (fp : List Addr), ∃ g, DG G.quiet (X.blk s H scope (compEnvC scope cl C X.env) fp) tg g wg ∧ GO g (own.map (·.2)))
    (ht : ∀ (s : Shared) (H : Hp) (C : Addr) (cl : List (Str × Addr)) (fp : List Addr), ∃ t, DTs G.quiet (X.blk s H scope (compEnvC scope cl C X.env) fp) ifs t wtt)
    (he : ∀ (s : Shared) (H : Hp) (C : Addr) (cl : List (Str × Addr)) (fp : List Addr), ∃ t, DE G.quiet (X.blk s H scope (compEnvC scope cl C X.env) fp) elt t wte) (hs : ∀ x, foldedSetIterable iter X.env x = pure x := by intro _; rfl) :
    DE G X (.ListComp elt [⟨tg, iter, ifs, 0⟩] scope pos) (tLc wi (cGt X.K G.quiet (own.map (·.2)) wg) (cTt X.K G.quiet wtt) (cE X.K G.quiet wte) (own.map (·.2))) (eLc m wwi wg wtt wte (own.map (·.2))) :=
  ⟨pe_lc xo.calm xo.nd hi.1 ok (fun s H C cl fp => let ⟨g, h, go⟩ := hg s H C cl fp; pg_c h go) (fun s H C cl fp => let ⟨t, h⟩ := ht s H C cl fp; pts_c h) (fun s H C cl fp => let ⟨t, h⟩ := he s H C cl fp; pe_c h) hs, ref_lc hi.2 ref_cg go_c ref_ct ref_c'⟩
theorem s_setLcE (i : Nat) {y : Str} {py spos : Pos} (m : Bool) (xo : XO G X k) (hi : DI G X tg iter wi wwi) (ok : BlkOk X.N X.env.scope scope own)
    (hg : ∀ (s : Shared) (H : Hp) (C : Addr) (cl : List (Str × Addr)) (fp : List Addr), ∃ g, DG G.quiet (X.blk s H scope (compEnvC scope cl C X.env) fp) tg g wg ∧ GO g (own.map (·.2)))
    (ht : ∀ (s : Shared) (H : Hp) (C : Addr) (cl : List (Str × Addr)) (fp : List Addr), ∃ t, DTs G.quiet (X.blk s H scope (compEnvC scope cl C X.env) fp) ifs t wtt)
    (he : ∀ (s : Shared) (H : Hp) (C : Addr) (cl : List (Str × Addr)) (fp : List Addr), ∃ t, DE G.quiet (X.blk s H scope (compEnvC scope cl C X.env) fp) elt t wte) (hs : ∀ x, foldedSetIterable iter X.env x = pure x := by intro _; rfl)
    (hy : X.N[i]? = some y := by rfl) (hyl : X.env.scope.names.lookup y = some .local := by rfl) (hsw : swapsWith (.ListComp elt [⟨tg, iter, ifs, 0⟩] scope pos) (some (.Name y py)) spos.line X.env = pure true := by rfl) :
    DS G X (.Assign [.Name y py] (.ListComp elt [⟨tg, iter, ifs, 0⟩] scope pos) spos) (tAsg (tLc wi (cGt X.K G.quiet (own.map (·.2)) wg) (cTt X.K G.quiet wtt) (cE X.K G.quiet wte) (own.map (·.2))) (gName i)) (sAsg (eLc m wwi wg wtt wte (own.map (·.2))) (uName i)) :=
  ⟨ps_setLc xo.calm xo.nd hy hyl hsw hi.1 ok (fun s H C cl fp => let ⟨g, h, go⟩ := hg s H C cl fp; pg_c h go) (fun s H C cl fp => let ⟨t, h⟩ := ht s H C cl fp; pts_c h) (fun s H C cl fp => let ⟨t, h⟩ := he s H C cl fp; pe_c h) hs,
   ref_asg (ref_lc hi.2 ref_cg go_c ref_ct ref_c') fun S C F H γ σ d v Q0 Q R en _ r h k => k _ _ _ S _ (Same.refl S) R (en.set r i) h⟩
end
end Dl

set_option Elab.async false
set_option linter.all false
set_option maxRecDepth 100000
set_option maxHeartbeats 2000000
/-! The data layer, part 18: joins; how readings are reckoned. -/
namespace Dl
open PySem L2

/-- a statement with one thing known behind it -/
def sJoin (t : TSd) : TSd := fun D γ C => ∃ P : En → Cm → Prop, t { D with nx := P } γ C ∧ ∀ γ' C', P γ' C' → D.nx γ' C'
theorem ref_join {K : PySem.W.Frag} {G : Sit} {t : TS} {w : TSd} (h : RefS K G t w) : RefS K G t (sJoin w) := by
  intro S C F H γ σ D0 D R en x ⟨P, h1, h2⟩ k
  exact h S C F H γ σ { D0 with nx := P } D R en x h1 ⟨fun γ' σ' C' H' S' e R' en' q => k.nx γ' σ' C' H' S' e R' en' (h2 γ' C' q), k.rt, k.bk, k.ct⟩
theorem s_join {G : Sit} {X : Cx} {st : Stmt} {t : TS} {w : TSd} (h : DS G X st t w) : DS G X st t (sJoin w) := ⟨h.1, ref_join h.2⟩
theorem r_seq {t u : TSd} {D : EndsD} {γ : En} {C : Cm} (h : t { D with nx := u D } γ C) : sSeq t u D γ C := h
theorem r_join {t : TSd} {D : EndsD} {γ : En} {C : Cm} (P : En → Cm → Prop) (h : t { D with nx := P } γ C) (k : ∀ γ' C', P γ' C' → D.nx γ' C') : sJoin t D γ C := ⟨P, h, k⟩
/-- a joined statement, the rest behind it -/
theorem r_sj {t u : TSd} {D : EndsD} {γ : En} {C : Cm} (P : En → Cm → Prop) (h : t { D with nx := P } γ C) (k : ∀ γ' C', P γ' C' → u D γ' C') : sSeq (sJoin t) u D γ C := ⟨P, h, k⟩
/-- nothing is joined -/
theorem r_nojoin {t : TSd} {D : EndsD} {γ : En} {C : Cm} (h : t D γ C) : sJoin t D γ C := ⟨D.nx, h, fun _ _ q => q⟩
theorem r_ret {Q : WK} {d : W} {C : Cm} (h : Q d C) : (endsF Q).rt d C := ⟨C, d, C, .same, Sub.refl C, h⟩
theorem r_retF {Q : WK} {a : Addr} {xs : List PyData} {C C2 : Cm} (e : C a = some (.lst (xs.map W.d))) (hs : Sub C2 (cdel C a)) (h : Q (.d (.list xs)) C2) : (endsF Q).rt (.own a) C := ⟨_, _, C2, .lst e, hs, h⟩
theorem r_retS {Q : WK} {d : W} {C C2 : Cm} (hs : Sub C2 C) (h : Q d C2) : (endsF Q).rt d C := ⟨C, d, C2, .same, hs, h⟩
theorem sub_cup_del {C : Cm} {a : Addr} {c : Cell} (h : C a = none) : Sub C (cdel (cup C a c) a) := fun b x e => by
  have ne : b ≠ a := fun z => by rw [z, h] at e; cases e
  rw [cdel_ne ne, cup_ne ne]; exact e

section
variable {C : Cm} {Q : WK} {i j k : Int} {x y : PyData} {xs ys : List PyData} {ws us : List W} {s t : Str} {b c : Bool} {a : Addr} {ns : List Int} {γ : En} {m neg : Bool}
theorem wpy_d {n : Nat} : wpy n C (.d x) = some x := by cases n <;> simp only [wpy]
theorem wpy_all {n : Nat} : wpy.go n C (xs.map W.d) = some xs := by
  induction xs with
  | nil => simp only [List.map_nil, wpy.go]
  | cons x xs ih => simp only [List.map_cons, wpy.go, wpy_d, ih]
theorem wpy_own {n : Nat} (h : C a = some (.lst (xs.map W.d))) : wpy (n + 1) C (.own a) = some (.list xs) := by
  simp only [wpy, h, wpy_all, Option.map_some]
/-! equations for values -/
theorem opEq_v (x y : W) : opEq neg x y C Q = (match wpy 3 C x, wpy 3 C y with
  | some a, some b => (a.depth ≤ 60 ∨ b.depth ≤ 60) ∧ Q (.d (.bool (if neg then !PyData.eqv a b else PyData.eqv a b))) C
  | _, _ => False) := rfl
theorem opEq_ii : opEq neg (.d (.int i)) (.d (.int j)) C Q = Q (.d (.bool (if neg then !(i == j) else (i == j)))) C := by
  rw [opEq_v, wpy_d, wpy_d]
  simp [PyData.depth, PyData.eqv]
theorem opEq_bb : opEq neg (.d (.bool b)) (.d (.bool c)) C Q = Q (.d (.bool (if neg then !(b == c) else (b == c)))) C := by
  rw [opEq_v, wpy_d, wpy_d]
  cases b <;> cases c <;> simp [PyData.depth, PyData.eqv]
theorem opEq_ss : opEq neg (.d (.str s)) (.d (.str t)) C Q = Q (.d (.bool (if neg then !(s == t) else (s == t)))) C := by
  rw [opEq_v, wpy_d, wpy_d]
  simp [PyData.depth, PyData.eqv]
theorem opI_ii {p : Int → Int → Prop} {f : Int → Int → PyData} : Dl.opI p f (.d (.int i)) (.d (.int j)) C Q = (p i j ∧ Q (.d (f i j)) C) := rfl
theorem opI0_ii {f : Int → Int → PyData} : Dl.opI0 f (.d (.int i)) (.d (.int j)) C Q = Q (.d (f i j)) C := rfl
theorem opMul_ii : opMul m (.d (.int i)) (.d (.int j)) C Q = (CMul i j ∧ Q (.d (.int (i * j))) C) := rfl
theorem opMul_li : opMul m (.d (.list xs)) (.d (.int k)) C Q = ((-(2 ^ 63) ≤ k ∧ k < 2 ^ 63 ∧ xs.length * k.toNat ≤ sizeLine) ∧ newL m ((List.replicate k.toNat xs).flatten.map W.d) C Q) := by
  unfold opMul
  have e : (List.replicate k.toNat (xs.map W.d)).flatten = (List.replicate k.toNat xs).flatten.map W.d := by rw [List.map_flatten, List.map_replicate]
  simp only [asL, List.length_map, e]
theorem opAdd_ii : opAdd m (.d (.int i)) (.d (.int j)) C Q = Q (.d (.int (i + j))) C := rfl
theorem opAdd_ss : opAdd m (.d (.str s)) (.d (.str t)) C Q = (s.length + t.length ≤ sizeLine ∧ Q (.d (.str (s ++ t))) C) := rfl
theorem opAdd_tt : opAdd m (.d (.tuple xs)) (.d (.tuple ys)) C Q = (xs.length + ys.length ≤ sizeLine ∧ Q (.d (.tuple (xs ++ ys))) C) := rfl
theorem opAdd_ll : opAdd m (.d (.list xs)) (.d (.list ys)) C Q = (xs.length + ys.length ≤ sizeLine ∧ newL m ((xs ++ ys).map W.d) C Q) := by
  unfold opAdd
  simp only [asL, List.length_map, List.map_append]
theorem opAdd_ol (h : C a = some (.lst (xs.map W.d))) : opAdd m (.own a) (.d (.list ys)) C Q = (xs.length + ys.length ≤ sizeLine ∧ newL m ((xs ++ ys).map W.d) C Q) := by
  unfold opAdd
  simp only [asL, h, List.length_map, List.map_append]
theorem newL_true : newL true ws C Q = ∀ p, C p = none → Q (.own p) (cup C p (.lst ws)) := rfl
theorem newL_false : newL false ws C Q = (match dAll ws with | some xs => Q (.d (.list xs)) C | none => False) := rfl
theorem newT_true : newT true ws C Q = ∀ p, C p = none → Q (.own p) (cup C p (.tup ws)) := rfl
theorem newT_false : newT false ws C Q = (match dAll ws with | some xs => Q (.d (.tuple xs)) C | none => False) := rfl
theorem dAll_nil : dAll [] = some [] := rfl
theorem dAll_cons : dAll (.d x :: ws) = (dAll ws).map (x :: ·) := rfl
theorem opIx_l : opIx (.d (.list xs)) (.d (.int i)) C Q = (match atI xs i with | some v => Q (.d v) C | none => False) := rfl
theorem opIx_t : opIx (.d (.tuple xs)) (.d (.int i)) C Q = (match atI xs i with | some v => Q (.d v) C | none => False) := rfl
theorem opIx_s : opIx (.d (.str s)) (.d (.int i)) C Q = (match atI s.cps.toList i with | some c => s.length ≤ sizeLine ∧ Q (.d (.str ⟨#[c]⟩)) C | none => False) := rfl
theorem opIx_scr : opIx (.scr ns) (.d (.int i)) C Q = (match atI ns i with | some v => Q (.d (.int v)) C | none => False) := rfl
theorem opIx_own (h : C a = some (.lst ws)) : opIx (.own a) (.d (.int i)) C Q = (match atI ws i with | some w => Q w C | none => False) := by
  unfold opIx; simp only [h] <;> cases atI ws i <;> rfl
theorem opLen_l : opLen [.d (.list xs)] C Q = Q (.d (.int xs.length)) C := rfl
theorem opLen_t : opLen [.d (.tuple xs)] C Q = Q (.d (.int xs.length)) C := rfl
theorem opLen_s : opLen [.d (.str s)] C Q = (s.length ≤ sizeLine ∧ Q (.d (.int s.length)) C) := rfl
theorem opLen_scr : opLen [.scr ns] C Q = Q (.d (.int ns.length)) C := rfl
theorem opLen_own (h : C a = some (.lst ws)) : opLen [.own a] C Q = Q (.d (.int ws.length)) C := by unfold opLen; simp only [h]
theorem opInt_i : opInt [.d (.int i)] C Q = Q (.d (.int i)) C := rfl
theorem opInt_b : opInt [.d (.bool b)] C Q = Q (.d (.int (if b then 1 else 0))) C := rfl
theorem opList_l : opList m [.d (.list xs)] C Q = newL m (xs.map W.d) C Q := rfl
theorem opList_t : opList m [.d (.tuple xs)] C Q = newL m (xs.map W.d) C Q := rfl
theorem opList_own (h : C a = some (.lst ws)) : opList m [.own a] C Q = newL m ws C Q := by unfold opList asS; simp only [asL, h]
theorem opTuple_l : opTuple m [.d (.list xs)] C Q = newT m (xs.map W.d) C Q := rfl
theorem opTuple_own (h : C a = some (.lst ws)) : opTuple m [.own a] C Q = newT m ws C Q := by unfold opTuple; simp only [asL, h]
theorem opTru_i {R : Bool → Cm → Prop} : opTru (.d (.int i)) C R = R (i != 0) C := rfl
theorem opTru_b {R : Bool → Cm → Prop} : opTru (.d (.bool b)) C R = R b C := rfl
theorem opTru_n {R : Bool → Cm → Prop} : opTru (.d .none) C R = R false C := rfl
theorem opTru_l {R : Bool → Cm → Prop} : opTru (.d (.list xs)) C R = R (!xs.isEmpty) C := rfl
theorem opTru_t {R : Bool → Cm → Prop} : opTru (.d (.tuple xs)) C R = R (!xs.isEmpty) C := rfl
theorem opTru_scr {R : Bool → Cm → Prop} : opTru (.scr ns) C R = R (!ns.isEmpty) C := rfl
theorem opTru_own {R : Bool → Cm → Prop} (h : C a = some (.lst ws)) : opTru (.own a) C R = R (!ws.isEmpty) C := by unfold opTru; simp only [h]
theorem opNeg_i : opNeg (.d (.int i)) C Q = Q (.d (.int (-i))) C := rfl
theorem opNot_b : opNot (.d (.bool b)) C Q = Q (.d (.bool (!b))) C := rfl
theorem opIsN_e (x : W) : opIsN neg x C Q = Q (.d (.bool (if neg then !isNone x else isNone x))) C := rfl
theorem isNone_d : isNone (.d x) = (match x with | .none => true | _ => false) := by cases x <;> rfl
theorem isNone_own : isNone (.own a) = false := rfl
theorem opSum_l (e : (xs.map W.d) = ws) (h : asIs ws = some ns) : opSum [.d (.list xs)] C Q = Q (.d (.int ns.sum)) C := by
  subst e
  unfold opSum
  simp only [asL, Option.bind_some, h]
theorem asIs_ints (ns : List Int) : asIs ((ns.map PyData.int).map W.d) = some ns := by
  rw [List.map_map]
  have := asIs_map (fun n : Int => n) ns
  simpa [Function.comp_def] using this
theorem asBs_bools (bs : List Bool) : asBs ((bs.map PyData.bool).map W.d) = some bs := by
  rw [List.map_map]
  have := asBs_map (fun n : Bool => n) bs
  simpa [Function.comp_def] using this
theorem opSum_i : opSum [.d (.list (ns.map .int))] C Q = Q (.d (.int ns.sum)) C := by
  unfold opSum
  simp only [asL, Option.bind_some, asIs_ints]
theorem opSum_own (h : C a = some (.lst ((ns.map PyData.int).map W.d))) : opSum [.own a] C Q = Q (.d (.int ns.sum)) C := by
  unfold opSum
  simp only [asL, h, Option.bind_some, asIs_ints]
theorem opAll_b {bs : List Bool} : opAll [.d (.list (bs.map .bool))] C Q = Q (.d (.bool (bs.all fun b => b))) C := by
  unfold opAll
  simp only [asL, Option.bind_some, asBs_bools]
theorem opAny_b {bs : List Bool} : opAny [.d (.list (bs.map .bool))] C Q = Q (.d (.bool (bs.any fun b => b))) C := by
  unfold opAny
  simp only [asL, Option.bind_some, asBs_bools]
theorem opMin_ii : opMin [.d (.int i), .d (.int j)] C Q = Q (.d (.int (if j < i then j else i))) C := rfl
theorem opMax_ii : opMax [.d (.int i), .d (.int j)] C Q = Q (.d (.int (if j > i then j else i))) C := rfl
/-- an index within -/
theorem atI_pick {α : Type} {xs : List α} {i : Int} (h0 : 0 ≤ i) (h1 : i < xs.length) : atI xs i = some (xs[i.toNat]'(by omega)) := by
  unfold atI
  have e : ixN xs.length i = some i.toNat := by
    unfold ixN
    rw [if_pos h0, if_pos h1]
  rw [e]
  exact List.getElem?_eq_getElem (by omega)
theorem opIx_pick (h0 : 0 ≤ i) (h1 : i < xs.length) (h : ∀ x ∈ xs, Q (.d x) C) : opIx (.d (.list xs)) (.d (.int i)) C Q := by
  rw [opIx_l, atI_pick h0 h1]
  exact h _ (List.getElem_mem _)
end
end Dl
namespace Dl
open PySem L2
theorem opEq_own {C : Cm} {Q : WK} {neg : Bool} {a : Addr} {xs : List PyData} {y : PyData} (h : C a = some (.lst (xs.map W.d))) : opEq neg (.own a) (.d y) C Q = (((PyData.list xs).depth ≤ 60 ∨ y.depth ≤ 60) ∧ Q (.d (.bool (if neg then !PyData.eqv (.list xs) y else PyData.eqv (.list xs) y))) C) := by
  rw [opEq_v, wpy_own h, wpy_d]
theorem opEq_ll {C : Cm} {Q : WK} {neg : Bool} {xs ys : List PyData} : opEq neg (.d (.list xs)) (.d (.list ys)) C Q = (((PyData.list xs).depth ≤ 60 ∨ (PyData.list ys).depth ≤ 60) ∧ Q (.d (.bool (if neg then !PyData.eqv (.list xs) (.list ys) else PyData.eqv (.list xs) (.list ys)))) C) := by
  rw [opEq_v, wpy_d, wpy_d]
/-- the readings' own steps -/
theorem RUN :
    (∀ i γ C Q, eVar i γ C Q = (match γ[i]? with | some (some w) => Q w C | _ => False)) ∧
    (∀ w γ C Q, eC w γ C Q = Q w C) ∧
    (∀ w a b γ C Q, eOp w a b γ C Q = a γ C fun x C1 => b γ C1 fun y C2 => w x y C2 Q) ∧
    (∀ w a γ C Q, eUn w a γ C Q = a γ C fun x C1 => w x C1 Q) ∧
    (∀ w as γ C Q, eCB w as γ C Q = as γ C fun ds C1 => w ds C1 Q) ∧
    (∀ EE sp as γ C Q, eCall EE sp as γ C Q = as γ C fun ds C1 => sp ds C1 Q fun c fs C2 => EE c fs γ C2) ∧
    (∀ γ C Q, aNil γ C Q = Q [] C) ∧
    (∀ a r γ C Q, aCons a r γ C Q = a γ C fun x C1 => r γ C1 fun xs C2 => Q (x :: xs) C2) ∧
    (∀ m as γ C Q, eTup m as γ C Q = as γ C fun ds C1 => ds.length ≤ sizeLine ∧ newT m ds C1 Q) ∧
    (∀ m as γ C Q, eLst m as γ C Q = as γ C fun ds C1 => ds.length ≤ sizeLine ∧ newL m ds C1 Q) ∧
    (∀ t a b γ C Q, eIf t a b γ C Q = t γ C fun c C1 => if c = true then a γ C1 Q else b γ C1 Q) ∧
    (∀ a b γ C Q, eAnd a b γ C Q = a γ C fun x C1 => match x with | .d (.bool true) => b γ C1 Q | .d (.bool false) => Q (.d (.bool false)) C1 | _ => False) ∧
    (∀ a b γ C Q, eOr a b γ C Q = a γ C fun x C1 => match x with | .d (.bool true) => Q (.d (.bool true)) C1 | .d (.bool false) => b γ C1 Q | _ => False) ∧
    (∀ w w' a b c γ C Q, eChain w w' a b c γ C Q = a γ C fun x C1 => b γ C1 fun y C2 => w x y C2 fun z C3 => match z with | .d (.bool true) => c γ C3 fun u C4 => w' y u C4 Q | .d (.bool false) => Q (.d (.bool false)) C3 | _ => False) ∧
    (∀ γ C Q, oNone γ C Q = Q none C) ∧
    (∀ m a lo hi γ C Q, eSl m a lo hi γ C Q = a γ C fun x C1 => lo γ C1 fun l C2 => hi γ C2 fun u C3 => opSl m x l u C3 Q) ∧
    (∀ a γ C Q, oSome a γ C Q = a γ C fun x C1 => match x with | .d (.int i) => Q (some i) C1 | _ => False) ∧
    (∀ w as ks γ C Q, eCKw w as ks γ C Q = as γ C fun ds C1 => ks γ C1 fun zs C2 => w ds zs C2 Q) ∧
    (∀ b γ C Q, kOne b γ C Q = b γ C fun d C1 => Q [d] C1) ∧
    (∀ a γ C Q, tTru a γ C Q = a γ C fun x C1 => opTru x C1 Q) ∧
    (∀ a γ C Q, tBl a γ C Q = a γ C fun x C1 => match x with | .d (.bool b) => Q b C1 | _ => False) ∧
    (∀ a b γ C Q, tAndD a b γ C Q = a γ C fun c C1 => if c = true then b γ C1 Q else Q false C1) ∧
    (∀ a b γ C Q, tOrD a b γ C Q = a γ C fun c C1 => if c = true then Q true C1 else b γ C1 Q) ∧
    (∀ a γ C Q, tNotD a γ C Q = a γ C fun c C1 => Q (!c) C1) ∧
    (∀ γ C Q, tYesD γ C Q = Q true C) ∧
    (∀ i d γ C Q, uName i d γ C Q = Q (γ.set i (some d)) C) ∧
    (∀ n r d γ C Q, uTup n r d γ C Q = (match asT C d with | some ws => ws.length = n ∧ r ws γ C Q | none => False)) ∧
    (∀ γ C Q, uNil [] γ C Q = Q γ C) ∧
    (∀ a r d ds γ C Q, uCons a r (d :: ds) γ C Q = a d γ C fun γ' C' => r ds γ' C' Q) ∧
    (∀ o i d γ C Q, uSubL o i d γ C Q = o γ C fun x C1 => i γ C1 fun y C2 => match x, y with
      | .own a, .d (.int k) => (match C2 a with | some (.lst ws) => (match ixN ws.length k with | some j => Q γ (cup C2 a (.lst (ws.set j d))) | none => False) | _ => False)
      | _, _ => False) ∧
    (∀ D γ C, sNext D γ C = D.nx γ C) ∧
    (∀ a D γ C, sDrop a D γ C = a γ C fun _ C1 => D.nx γ C1) ∧
    (∀ a D γ C, sRet a D γ C = a γ C fun d C1 => D.rt d C1) ∧
    (∀ D γ C, sRetN D γ C = D.rt (.d .none) C) ∧
    (∀ c t u D γ C, sIf c t u D γ C = c γ C fun b C1 => if b = true then t D γ C1 else u D γ C1) ∧
    (∀ a g D γ C, sAsg a g D γ C = a γ C fun d C1 => g d γ C1 D.nx) ∧
    (∀ D γ C, sBrk D γ C = D.bk γ C) ∧ (∀ D γ C, sCnt D γ C = D.ct γ C) ∧
    (∀ i j as D γ C, sPar i j as D γ C = as γ C fun ds C1 => match ds with | [d, e] => D.nx ((γ.set i (some d)).set j (some e)) C1 | _ => False) ∧
    (∀ i a w D γ C, sAug i a w D γ C = (match γ[i]? with | some (some x) => a γ C fun y C1 => w x y C1 fun z C2 => D.nx (γ.set i (some z)) C2 | _ => False)) ∧
    (∀ w o as γ C Q, eM w o as γ C Q = o γ C fun x C1 => match x with
      | .own a => (match C1 a with | some (.lst _) => as γ C1 fun ds C2 => (match C2 a with | some (.lst ws) => w a ws ds C2 Q | _ => False) | _ => False)
      | _ => False) ∧
    (∀ o i a w D γ C, sAugS o i a w D γ C = o γ C fun x C1 => i γ C1 fun y C2 => match x, y with
      | .own p, .d (.int n) => (match C2 p with | some (.lst ws) => (match ixN ws.length n with | some j => (match ws[j]? with | some u => a γ C2 fun z C3 => w u z C3 fun u2 C4 => (match C4 p with | some (.lst ws2) => ws2.length = ws.length ∧ D.nx γ (cup C4 p (.lst (ws2.set j u2))) | _ => False) | none => False) | none => False) | _ => False)
      | _, _ => False) := by
  refine ⟨fun _ _ _ _ => rfl, fun _ _ _ _ => rfl, fun _ _ _ _ _ _ => rfl, fun _ _ _ _ _ => rfl, fun _ _ _ _ _ => rfl, fun _ _ _ _ _ _ => rfl, fun _ _ _ => rfl, fun _ _ _ _ _ => rfl, fun _ _ _ _ _ => rfl, fun _ _ _ _ _ => rfl, fun _ _ _ _ _ _ => rfl, fun _ _ _ _ _ => rfl, fun _ _ _ _ _ => rfl, fun _ _ _ _ _ _ _ _ => rfl, fun _ _ _ => rfl, fun _ _ _ _ _ _ _ => rfl, fun _ _ _ _ => rfl, fun _ _ _ _ _ _ => rfl, fun _ _ _ _ => rfl, fun _ _ _ _ => rfl, fun _ _ _ _ => rfl, fun _ _ _ _ _ => rfl, fun _ _ _ _ _ => rfl, fun _ _ _ _ => rfl, fun _ _ _ => rfl, fun _ _ _ _ _ => rfl, fun _ _ _ _ _ _ => rfl, fun _ _ _ => rfl, fun _ _ _ _ _ _ _ => rfl, ?_, fun _ _ _ => rfl, fun _ _ _ _ => rfl, fun _ _ _ _ => rfl, fun _ _ _ => rfl, fun _ _ _ _ _ _ => rfl, fun _ _ _ _ _ => rfl, fun _ _ _ => rfl, fun _ _ _ => rfl, fun _ _ _ _ _ _ => rfl, fun _ _ _ _ _ _ => rfl, ?_, ?_⟩
  · intro o i d γ C Q; rfl
  · intro w o as γ C Q; rfl
  · intro o i a w D γ C; rfl
/-- .. of values -/
theorem RUV :
    (∀ (p : Int → Int → Prop) (f : Int → Int → PyData) i j C Q, Dl.opI p f (.d (.int i)) (.d (.int j)) C Q = (p i j ∧ Q (.d (f i j)) C)) ∧
    (∀ (f : Int → Int → PyData) i j C Q, Dl.opI0 f (.d (.int i)) (.d (.int j)) C Q = Q (.d (f i j)) C) ∧
    (∀ C xs, asT C (.d (.tuple xs)) = some (xs.map W.d)) ∧ (∀ C xs, asL C (.d (.list xs)) = some (xs.map W.d)) ∧ (∀ C xs, asL C (.d (.tuple xs)) = none) ∧ (∀ C a, asL C (.own a) = (match C a with | some (.lst ws) => some ws | _ => none)) ∧ (∀ C a, asT C (.own a) = (match C a with | some (.tup ws) => some ws | _ => none)) ∧
    (∀ xs, dAll (xs.map W.d) = some xs) ∧ (∀ x ws, dAll (.d x :: ws) = (dAll ws).map (x :: ·)) ∧ (dAll [] = some []) ∧
    (∀ a r ws C Q, opAppend a ws [r] C Q = (ws.length < sizeLine ∧ Q (.d .none) (cup C a (.lst (ws ++ [r]))))) ∧
    (∀ m i j C Q, opMul m (.d (.int i)) (.d (.int j)) C Q = (CMul i j ∧ Q (.d (.int (i * j))) C)) ∧
    (∀ m i j C Q, opAdd m (.d (.int i)) (.d (.int j)) C Q = Q (.d (.int (i + j))) C) ∧
    (∀ m i j C Q, opAdd m (.d (.str i)) (.d (.str j)) C Q = (i.length + j.length ≤ sizeLine ∧ Q (.d (.str (i ++ j))) C)) ∧
    (∀ m i j C Q, opAdd m (.d (.tuple i)) (.d (.tuple j)) C Q = (i.length + j.length ≤ sizeLine ∧ Q (.d (.tuple (i ++ j))) C)) ∧
    (∀ m i j C Q, opAdd m (.d (.list i)) (.d (.list j)) C Q = (i.length + j.length ≤ sizeLine ∧ newL m ((i ++ j).map W.d) C Q)) ∧
    (∀ xs i C Q, opIx (.d (.list xs)) (.d (.int i)) C Q = (match atI xs i with | some v => Q (.d v) C | none => False)) ∧
    (∀ xs i C Q, opIx (.d (.tuple xs)) (.d (.int i)) C Q = (match atI xs i with | some v => Q (.d v) C | none => False)) ∧
    (∀ ns i C Q, opIx (.scr ns) (.d (.int i)) C Q = (match atI ns i with | some v => Q (.d (.int v)) C | none => False)) ∧
    (∀ a i C Q, opIx (.own a) (.d (.int i)) C Q = (match C a with | some (.lst ws) => (match atI ws i with | some w => Q w C | none => False) | some (.tup ws) => (match atI ws i with | some w => Q w C | none => False) | _ => False)) ∧
    (∀ xs C Q, opLen [.d (.list xs)] C Q = Q (.d (.int xs.length)) C) ∧ (∀ xs C Q, opLen [.d (.tuple xs)] C Q = Q (.d (.int xs.length)) C) ∧ (∀ xs C Q, opLen [.scr xs] C Q = Q (.d (.int xs.length)) C) ∧ (∀ xs C Q, opLen [.d (.str xs)] C Q = (xs.length ≤ sizeLine ∧ Q (.d (.int xs.length)) C)) ∧
    (∀ a C Q, opLen [.own a] C Q = (match C a with | some (.lst ws) => Q (.d (.int ws.length)) C | some (.tup ws) => Q (.d (.int ws.length)) C | _ => False)) ∧
    (∀ i C Q, opInt [.d (.int i)] C Q = Q (.d (.int i)) C) ∧ (∀ b C Q, opInt [.d (.bool b)] C Q = Q (.d (.int (if b then 1 else 0))) C) ∧
    (∀ m xs C Q, opList m [.d (.list xs)] C Q = newL m (xs.map W.d) C Q) ∧ (∀ m xs C Q, opList m [.d (.tuple xs)] C Q = newL m (xs.map W.d) C Q) ∧ (∀ m xs C Q, opTuple m [.d (.list xs)] C Q = newT m (xs.map W.d) C Q) ∧
    (∀ i C R, opTru (.d (.int i)) C R = R (i != 0) C) ∧ (∀ i C R, opTru (.d (.bool i)) C R = R i C) ∧ (∀ C R, opTru (.d .none) C R = R false C) ∧ (∀ xs C R, opTru (.d (.list xs)) C R = R (!xs.isEmpty) C) ∧ (∀ xs C R, opTru (.d (.tuple xs)) C R = R (!xs.isEmpty) C) ∧ (∀ xs C R, opTru (.scr xs) C R = R (!xs.isEmpty) C) ∧
    (∀ a C R, opTru (.own a) C R = (match C a with | some (.lst ws) => R (!ws.isEmpty) C | some (.tup ws) => R (!ws.isEmpty) C | some (.dk kvs) => R (!kvs.isEmpty) C | _ => False)) ∧
    (∀ i C Q, opNeg (.d (.int i)) C Q = Q (.d (.int (-i))) C) ∧ (∀ i C Q, opNot (.d (.bool i)) C Q = Q (.d (.bool (!i))) C) ∧
    (∀ neg x C Q, opIsN neg x C Q = Q (.d (.bool (if neg then !isNone x else isNone x))) C) ∧ (∀ a, isNone (.own a) = false) ∧ (∀ a, isNone (.scr a) = false) ∧ (isNone (.d .none) = true) ∧ (∀ a, isNone (.d (.int a)) = false) ∧ (∀ a, isNone (.d (.bool a)) = false) ∧ (∀ a, isNone (.d (.str a)) = false) ∧ (∀ a, isNone (.d (.list a)) = false) ∧ (∀ a, isNone (.d (.tuple a)) = false) ∧
    (∀ neg i j C Q, opEq neg (.d (.int i)) (.d (.int j)) C Q = Q (.d (.bool (if neg then !(i == j) else (i == j)))) C) ∧ (∀ neg i j C Q, opEq neg (.d (.bool i)) (.d (.bool j)) C Q = Q (.d (.bool (if neg then !(i == j) else (i == j)))) C) ∧ (∀ neg i j C Q, opEq neg (.d (.str i)) (.d (.str j)) C Q = Q (.d (.bool (if neg then !(i == j) else (i == j)))) C) ∧
    (∀ i j C Q, opMin [.d (.int i), .d (.int j)] C Q = Q (.d (.int (if j < i then j else i))) C) ∧ (∀ i j C Q, opMax [.d (.int i), .d (.int j)] C Q = Q (.d (.int (if j > i then j else i))) C) ∧
    (∀ ws C Q, newL true ws C Q = ∀ p, C p = none → Q (.own p) (cup C p (.lst ws))) ∧ (∀ ws C Q, newL false ws C Q = (match dAll ws with | some xs => Q (.d (.list xs)) C | none => False)) ∧ (∀ ws C Q, newT false ws C Q = (match dAll ws with | some xs => Q (.d (.tuple xs)) C | none => False)) ∧
    (∀ (ns : List Int) C Q, opSum [.d (.list (ns.map .int))] C Q = Q (.d (.int ns.sum)) C) ∧ (∀ (bs : List Bool) C Q, opAll [.d (.list (bs.map .bool))] C Q = Q (.d (.bool (bs.all fun b => b))) C) ∧ (∀ (bs : List Bool) C Q, opAny [.d (.list (bs.map .bool))] C Q = Q (.d (.bool (bs.any fun b => b))) C) := by
  refine ⟨fun _ _ _ _ _ _ => rfl, fun _ _ _ _ _ => rfl, fun _ _ => rfl, fun _ _ => rfl, fun _ _ => rfl, fun _ _ => rfl, fun _ _ => rfl, fun _ => dAll_map _, fun _ _ => rfl, rfl, fun _ _ _ _ _ => rfl, fun _ _ _ _ _ => rfl, fun _ _ _ _ _ => rfl, fun _ _ _ _ _ => rfl, fun _ _ _ _ _ => rfl, fun _ _ _ _ _ => opAdd_ll, fun _ _ _ _ => rfl, fun _ _ _ _ => rfl, fun _ _ _ _ => rfl, fun _ _ _ _ => rfl, fun _ _ _ => rfl, fun _ _ _ => rfl, fun _ _ _ => rfl, fun _ _ _ => rfl, fun _ _ _ => rfl,
    fun _ _ _ => rfl, fun _ _ _ => rfl, fun _ _ _ _ => rfl, fun _ _ _ _ => rfl, fun _ _ _ _ => rfl, fun _ _ _ => rfl, fun _ _ _ => rfl, fun _ _ => rfl, fun _ _ _ => rfl, fun _ _ _ => rfl, fun _ _ _ => rfl, fun _ _ _ => rfl, fun _ _ _ => rfl, fun _ _ _ => rfl, fun _ _ _ _ => rfl, fun _ => rfl, fun _ => rfl, rfl, fun _ => rfl, fun _ => rfl, fun _ => rfl, fun _ => rfl, fun _ => rfl, fun _ _ _ _ _ => opEq_ii, fun _ _ _ _ _ => opEq_bb, fun _ _ _ _ _ => opEq_ss, fun _ _ _ _ => rfl, fun _ _ _ _ => rfl, fun _ _ _ => rfl, fun _ _ _ => rfl, fun _ _ _ => rfl, fun _ _ _ => opSum_i, fun _ _ _ => opAll_b, fun _ _ _ => opAny_b⟩
/-- places in written lists -/
theorem atI_0 {α : Type} (x : α) (l : List α) : atI (x :: l) 0 = some x := by rw [atI_pick (by decide) (by simp only [List.length_cons]; omega)]; rfl
theorem atI_1 {α : Type} (x y : α) (l : List α) : atI (x :: y :: l) 1 = some y := by rw [atI_pick (by decide) (by simp only [List.length_cons]; omega)]; rfl
theorem atI_2 {α : Type} (x y z : α) (l : List α) : atI (x :: y :: z :: l) 2 = some z := by rw [atI_pick (by decide) (by simp only [List.length_cons]; omega)]; rfl
theorem atI_3 {α : Type} (x y z u : α) (l : List α) : atI (x :: y :: z :: u :: l) 3 = some u := by rw [atI_pick (by decide) (by simp only [List.length_cons]; omega)]; rfl
theorem atI_4 {α : Type} (x y z u v : α) (l : List α) : atI (x :: y :: z :: u :: v :: l) 4 = some v := by rw [atI_pick (by decide) (by simp only [List.length_cons]; omega)]; rfl
theorem ATI : ((∀ (x : W) l, atI (x :: l) 0 = some x) ∧ (∀ (x y : W) l, atI (x :: y :: l) 1 = some y) ∧ (∀ (x y z : W) l, atI (x :: y :: z :: l) 2 = some z) ∧ (∀ (x y z u : W) l, atI (x :: y :: z :: u :: l) 3 = some u) ∧ (∀ (x y z u v : W) l, atI (x :: y :: z :: u :: v :: l) 4 = some v)) ∧
    ((∀ (x : PyData) l, atI (x :: l) 0 = some x) ∧ (∀ (x y : PyData) l, atI (x :: y :: l) 1 = some y) ∧ (∀ (x y z : PyData) l, atI (x :: y :: z :: l) 2 = some z) ∧ (∀ (x y z u : PyData) l, atI (x :: y :: z :: u :: l) 3 = some u) ∧ (∀ (x y z u v : PyData) l, atI (x :: y :: z :: u :: v :: l) 4 = some v)) :=
  ⟨⟨atI_0, atI_1, atI_2, atI_3, atI_4⟩, ⟨atI_0, atI_1, atI_2, atI_3, atI_4⟩⟩
theorem ixN_in {n : Nat} {k : Int} (h0 : 0 ≤ k) (h1 : k < n) : ixN n k = some k.toNat := by unfold ixN; rw [if_pos h0, if_pos h1]
end Dl
namespace Dl
open PySem L2
/-- the environment, the lists of items -/
theorem ENV : (∀ (x : Option W) (l : En), (x :: l)[0]? = some x) ∧ (∀ (x : Option W) (l : En) (n : Nat), (x :: l)[n + 1]? = l[n]?) ∧ (∀ (x y : Option W) (l : En), (x :: l).set 0 y = y :: l) ∧ (∀ (x y : Option W) (l : En) (n : Nat), (x :: l).set (n + 1) y = x :: l.set n y) ∧
    (∀ N ds, startD N ds = ds.map some ++ List.replicate (N.length - ds.length) none) ∧ (∀ (d : W) ds, (d :: ds).map some = some d :: ds.map some) ∧ (([] : List W).map some = []) ∧ (∀ (x : Str) xs, (x :: xs).length = xs.length + 1) ∧ (([] : List Str).length = 0) ∧ (∀ (d : W) ds, (d :: ds).length = ds.length + 1) ∧ (([] : List W).length = 0) ∧
    (∀ (x : Option W) (l m : En), (x :: l) ++ m = x :: (l ++ m)) ∧ (∀ m : En, ([] : En) ++ m = m) ∧ (∀ (n : Nat) (x : Option W), List.replicate (n + 1) x = x :: List.replicate n x) ∧ (∀ x : Option W, List.replicate 0 x = []) ∧
    (∀ (x : PyData) xs, (x :: xs).map W.d = .d x :: xs.map W.d) ∧ (([] : List PyData).map W.d = []) ∧ (∀ C : Cm, ∀ p c, cup C p c p = some c) ∧ (∀ C p c c', cup (cup C p c) p c' = cup C p c') :=
  ⟨fun _ _ => rfl, fun _ _ _ => rfl, fun _ _ _ => rfl, fun _ _ _ _ => rfl, fun _ _ => rfl, fun _ _ => rfl, rfl, fun _ _ => rfl, rfl, fun _ _ => rfl, rfl, fun _ _ _ => rfl, fun _ => rfl, fun _ _ => rfl, fun _ => rfl, fun _ _ => rfl, rfl, fun _ _ _ => cup_same, fun _ _ _ _ => cup_cup⟩
theorem cmulR {i j : Int} (h : -(2 ^ 64) < j ∧ j < 2 ^ 64) : CMul i j := .inr h
theorem cmulL {i j : Int} (h : -(2 ^ 64) < i ∧ i < 2 ^ 64) : CMul i j := .inl h
theorem cpow {i j : Int} (h : 0 ≤ j ∧ j ≤ 1000000 ∧ i.natAbs < 2 ^ 64) : CPow i j := h
theorem cdiv {i j : Int} (h : 0 < j ∧ j < 1073741824) : CDiv i j := h
end Dl

set_option Elab.async false
set_option linter.all false
set_option maxRecDepth 100000
set_option maxHeartbeats 2000000
/-! The data layer, part 19: comprehensions and loops reckoned; isinstance; exact likeness. -/
namespace Dl
open PySem L2

section
variable {C : Cm} {Q : WK} {γ : En} {ds : List W} {Gd : Cm → Prop} {m : Bool} {wi : TId} {g : TGd} {tt : TTd} {te : TEd} {vs : List Nat}
/-- what a comprehension asks of its items -/
abbrev lcAsks (m : Bool) (g : TGd) (tt : TTd) (te : TEd) (vs : List Nat) (γ : En) (Q : WK) : List W → (Cm → Prop) → Cm → Prop := fun ds Gd C1 => ∃ I : Nat → List W → Cm → Prop, I 0 [] C1 ∧ (∀ i acc C', i ≤ ds.length → I i acc C' → Gd C') ∧
  (∀ i d acc C', ds[i]? = some d → I i acc C' → g d (wipeD γ vs) C' fun γ2 C2 => tt γ2 C2 fun b C3 => if b = true then te γ2 C3 fun y C4 => acc.length < sizeLine ∧ ∃ C5, Sub C5 C4 ∧ I (i + 1) (acc ++ [y]) C5 else ∃ C5, Sub C5 C3 ∧ I (i + 1) acc C5) ∧
  ∀ acc C', I ds.length acc C' → newL m acc C' Q
theorem eLc_eq : eLc m wi g tt te vs γ C Q = wi γ C (lcAsks m g tt te vs γ Q) := rfl
theorem take_succ' {α : Type} {xs : List α} {i : Nat} {d : α} (h : xs[i]? = some d) : xs.take (i + 1) = xs.take i ++ [d] := by
  obtain ⟨hi, e⟩ := List.getElem?_eq_some_iff.mp h
  rw [List.take_succ_eq_append_getElem hi, e]
/-- no cell changes, no test: the items' images -/
theorem lc_map (f : W → W) (hG : Gd C) (hl : ds.length ≤ sizeLine) (he : ∀ d ∈ ds, ∀ K : WK, K (f d) C → g d (wipeD γ vs) C fun γ2 C2 => te γ2 C2 K) (h : newL m (ds.map f) C Q) : lcAsks m g tYesD te vs γ Q ds Gd C := by
  refine ⟨fun i acc C' => i ≤ ds.length ∧ acc = (ds.take i).map f ∧ C = C', ⟨Nat.zero_le _, by rw [List.take_zero]; rfl, rfl⟩, ?_, ?_, ?_⟩
  · rintro i acc C' _ ⟨_, _, rfl⟩; exact hG
  · rintro i d acc C' hd ⟨hi, rfl, rfl⟩
    have hlt := (List.getElem?_eq_some_iff.mp hd).1
    refine he d (List.mem_of_getElem? hd) _ ⟨by rw [List.length_map, List.length_take]; omega, C, Sub.refl _, hlt, ?_, rfl⟩
    rw [take_succ' hd, List.map_append]; rfl
  · rintro acc C' ⟨_, rfl, rfl⟩
    rw [List.take_length]; exact h
/-- .. of those that pass the test -/
theorem lc_filter (f : W → W) (p : W → Bool) (hG : Gd C) (hl : ds.length ≤ sizeLine) (he : ∀ d ∈ ds, ∀ (K : WK) (Ks : Cm → Prop), (p d = true → K (f d) C) → (p d = false → Ks C) → g d (wipeD γ vs) C fun γ2 C2 => tt γ2 C2 fun b C3 => if b = true then te γ2 C3 K else Ks C3)
    (h : newL m ((ds.filter p).map f) C Q) : lcAsks m g tt te vs γ Q ds Gd C := by
  refine ⟨fun i acc C' => i ≤ ds.length ∧ acc = ((ds.take i).filter p).map f ∧ C = C', ⟨Nat.zero_le _, by rw [List.take_zero]; rfl, rfl⟩, ?_, ?_, ?_⟩
  · rintro i acc C' _ ⟨_, _, rfl⟩; exact hG
  · rintro i d acc C' hd ⟨hi, rfl, rfl⟩
    have hlt := (List.getElem?_eq_some_iff.mp hd).1
    refine he d (List.mem_of_getElem? hd) _ _ (fun hp => ⟨?_, C, Sub.refl _, hlt, ?_, rfl⟩) (fun hp => ⟨C, Sub.refl _, hlt, ?_, rfl⟩)
    · rw [List.length_map]
      have := List.length_filter_le p (ds.take i)
      rw [List.length_take] at this
      omega
    · rw [take_succ' hd, List.filter_append, List.map_append, List.filter_cons_of_pos hp]; rfl
    · rw [take_succ' hd, List.filter_append, List.filter_cons_of_neg (by rw [hp]; decide)]; simp
  · rintro acc C' ⟨_, rfl, rfl⟩
    rw [List.take_length]; exact h
/-- each element has a property; J of the cells -/
theorem lc_pr (J : Cm → Prop) (pr : Nat → W → Prop) (h0 : J C) (hG : ∀ C', J C' → Gd C') (hl : ds.length ≤ sizeLine)
    (he : ∀ i d C' (K : WK) (Ks : Cm → Prop), ds[i]? = some d → J C' → (∀ y C4 C5, pr i y → Sub C5 C4 → J C5 → K y C4) → g d (wipeD γ vs) C' fun γ2 C2 => tt γ2 C2 fun b C3 => if b = true then te γ2 C3 K else Ks C3)
    (h : ∀ ys C', ys.length = ds.length → (∀ i y, ys[i]? = some y → pr i y) → J C' → newL m ys C' Q) : lcAsks m g tt te vs γ Q ds Gd C := by
  refine ⟨fun i acc C' => i ≤ ds.length ∧ acc.length = i ∧ (∀ j y, acc[j]? = some y → pr j y) ∧ J C', ⟨Nat.zero_le _, rfl, fun j y e => by simp at e, h0⟩, ?_, ?_, ?_⟩
  · rintro i acc C' _ ⟨_, _, _, q⟩; exact hG _ q
  · rintro i d acc C' hd ⟨hi, rfl, hp, hJ⟩
    have hlt := (List.getElem?_eq_some_iff.mp hd).1
    refine he acc.length d C' _ _ hd hJ fun y C4 C5 hy sb hJ' => ⟨by omega, C5, sb, by omega, by simp, fun j z e => ?_, hJ'⟩
    by_cases hj : j < acc.length
    · rw [List.getElem?_append_left hj] at e; exact hp j z e
    · rw [List.getElem?_append_right (by omega)] at e
      by_cases h2 : j - acc.length = 0
      · rw [h2] at e
        have h3 : j = acc.length := by omega
        subst h3
        have e2 : y = z := by simpa using e
        rw [← e2]; exact hy
      · rw [List.getElem?_eq_none (by simp; omega)] at e; cases e
  · rintro acc C' ⟨_, e, hp, hJ⟩
    exact h acc C' e hp hJ
/-- what a loop asks of its items -/
abbrev forAsks (g : TGd) (tb : TSd) (D : EndsD) (γ : En) : List W → (Cm → Prop) → Cm → Prop := fun ds Gd C1 => ∃ I : Nat → En → Cm → Prop, I 0 γ C1 ∧ (∀ i γ' C', i ≤ ds.length → I i γ' C' → Gd C') ∧
  (∀ i d γ' C', ds[i]? = some d → I i γ' C' → g d γ' C' fun γ2 C2 => tb { D with nx := fun γ3 C3 => ∃ C4, Sub C4 C3 ∧ I (i + 1) γ3 C4, ct := fun γ3 C3 => ∃ C4, Sub C4 C3 ∧ I (i + 1) γ3 C4, bk := D.nx } γ2 C2) ∧
  ∀ γ' C', I ds.length γ' C' → D.nx γ' C'
theorem sFor_eq {tb : TSd} {D : EndsD} : sFor wi g tb D γ C = wi γ C (forAsks g tb D γ) := rfl
end
theorem RUI :
    (∀ a γ C R, iSeqD a γ C R = a γ C fun x C1 => match x with
      | .d (.list xs) => R (xs.map W.d) (fun _ => True) C1
      | .d (.tuple xs) => R (xs.map W.d) (fun _ => True) C1
      | .d (.str s) => R (s.cps.toList.map fun c => W.d (.str ⟨#[c]⟩)) (fun _ => True) C1
      | .own a => (match C1 a with
        | some (.lst ws) => R ws (fun C' => C' a = some (.lst ws)) C1
        | some (.tup ws) => R ws (fun C' => C' a = some (.tup ws)) C1
        | _ => False)
      | _ => False) ∧
    (∀ a γ C R, iRngD1 a γ C R = a γ C fun ds C1 => match ds with
      | [.d (.int n)] => -(2 ^ 62) ≤ n ∧ n < 2 ^ 62 ∧ R ((List.range n.toNat).map fun i => W.d (.int (i : Nat))) (fun _ => True) C1
      | _ => False) ∧
    (∀ a γ C R, iRngD2 a γ C R = a γ C fun ds C1 => match ds with
      | [.d (.int m), .d (.int n)] => (-(2 ^ 62) ≤ m ∧ m < 2 ^ 62 ∧ -(2 ^ 62) ≤ n ∧ n < 2 ^ 62) ∧ R ((List.range (n - m).toNat).map fun i => W.d (.int (m + (i : Nat)))) (fun _ => True) C1
      | _ => False) ∧
    (∀ a γ C R, iEnumD a γ C R = a γ C fun ds C1 => match ds with
      | [.d (.list xs)] => R (xs.zipIdx.map fun p => W.d (.tuple [.int (p.2 : Nat), p.1])) (fun _ => True) C1
      | [.own l] => (match C1 l with
        | some (.lst ws) => (match dAll ws with
          | some xs => R (xs.zipIdx.map fun p => W.d (.tuple [.int (p.2 : Nat), p.1])) (fun C' => C' l = some (.lst ws)) C1
          | none => False)
        | _ => False)
      | _ => False) ∧
    (∀ wi g tb D γ C, sFor wi g tb D γ C = wi γ C (forAsks g tb D γ)) ∧
    (∀ m wi g tt te vs γ C Q, eLc m wi g tt te vs γ C Q = wi γ C (lcAsks m g tt te vs γ Q)) := by
  refine ⟨fun _ _ _ _ => rfl, fun _ _ _ _ => rfl, fun _ _ _ _ => rfl, fun _ _ _ _ => rfl, fun _ _ _ _ _ _ => rfl, fun _ _ _ _ _ _ _ _ _ => rfl⟩

/-! ### isinstance -/
theorem ISI :
    (∀ w T C Q, opIsi [w, .ty T] C Q = (match (tyW C w).bind fun n => kitB n T with | some b => Q (.d (.bool b)) C | none => False)) ∧
    (∀ w p C Q, opIsi [w, .own p] C Q = (match C p with | some (.tup ts) => (match (tyW C w).bind fun n => isiAny n ts with | some b => Q (.d (.bool b)) C | none => False) | _ => False)) ∧
    (∀ C, tyW C (.d .none) = some "NoneType") ∧ (∀ C b, tyW C (.d (.bool b)) = some "bool") ∧ (∀ C b, tyW C (.d (.int b)) = some "int") ∧ (∀ C b, tyW C (.d (.str b)) = some "str") ∧ (∀ C b, tyW C (.d (.list b)) = some "list") ∧ (∀ C b, tyW C (.d (.tuple b)) = some "tuple") := by
  refine ⟨fun _ _ _ _ => rfl, fun _ _ _ _ => rfl, fun _ => rfl, fun _ _ => rfl, fun _ _ => rfl, fun _ _ => rfl, fun _ _ => rfl, fun _ _ => rfl⟩
theorem KTB : (kitB "NoneType" "list" = some false ∧ kitB "NoneType" "tuple" = some false ∧ kitB "NoneType" "str" = some false ∧ kitB "NoneType" "bool" = some false ∧ kitB "NoneType" "int" = some false) ∧
    (kitB "bool" "list" = some false ∧ kitB "bool" "tuple" = some false ∧ kitB "bool" "str" = some false ∧ kitB "bool" "bool" = some true ∧ kitB "bool" "int" = some true) ∧
    (kitB "int" "list" = some false ∧ kitB "int" "tuple" = some false ∧ kitB "int" "str" = some false ∧ kitB "int" "bool" = some false ∧ kitB "int" "int" = some true) ∧
    (kitB "str" "list" = some false ∧ kitB "str" "tuple" = some false ∧ kitB "str" "str" = some true ∧ kitB "str" "bool" = some false ∧ kitB "str" "int" = some false) ∧
    (kitB "list" "list" = some true ∧ kitB "list" "tuple" = some false ∧ kitB "list" "str" = some false ∧ kitB "list" "bool" = some false ∧ kitB "list" "int" = some false) ∧
    (kitB "tuple" "list" = some false ∧ kitB "tuple" "tuple" = some true ∧ kitB "tuple" "str" = some false ∧ kitB "tuple" "bool" = some false ∧ kitB "tuple" "int" = some false) := by
  refine ⟨⟨?_, ?_, ?_, ?_, ?_⟩, ⟨?_, ?_, ?_, ?_, ?_⟩, ⟨?_, ?_, ?_, ?_, ?_⟩, ⟨?_, ?_, ?_, ?_, ?_⟩, ⟨?_, ?_, ?_, ?_, ?_⟩, ?_, ?_, ?_, ?_, ?_⟩ <;> decide +kernel
end Dl

set_option Elab.async false
set_option linter.all false
set_option maxRecDepth 100000
set_option maxHeartbeats 2000000
/-! The data layer, part 20: enumerate of a tuple; freezing as a part of an expression. -/
namespace EnT
open PySem PySem.W PyProof.Rows L2
theorem newOne {v : Value} {o : Obj} {G : Heap → Prop} (B : Begins v o G) :
    Meets (Builtin.«enumerate.__new__» ⟨[.type "enumerate", v], []⟩) (fun _ R z => G z.heap ∧ R (.ok (.ret (.ref (z.heap.push o).objs.size))) { z with heap := (z.heap.push o).push { cls := .type "enumerate", data := .fields #[.none, .bool false, .ref z.heap.objs.size, rawInt 0, .none, .none] } }) :=
  .of_wp fun pr wo A R z h => by
    obtain ⟨hp, g, d, tk, os⟩ := z
    obtain ⟨hG, h⟩ := h
    have subE := sub_enumerate
    have gets : ∀ {B' : Around} {X : Value → Shared → Prop} {R : Value → Shared → Prop}, R (.ref hp.objs.size) ⟨hp.push o, g, d, tk, os⟩ → wpAny (model pr wo) B' (pyIter v) R X ⟨hp, g, d, tk, os⟩ := fun r => B.iter pr wo _ _ ⟨hp, g, d, tk, os⟩ _ hG r
    wp_walk
    refine wpAny_stack_any fun st => wpAny_pure ?_
    split
    · rename_i c _ _ _ _ _
      cases (c == Value.type "enumerate")
      · wp_walk using gets
        exact ⟨_, rfl, h⟩
      · wp_walk using gets
        exact ⟨_, rfl, h⟩
    · wp_walk using gets
      exact ⟨_, rfl, h⟩
section
variable {prog : Program} {w : World} {A : Around} {E : Value → Shared → Prop} {z : Shared}
theorem made {v : Value} {o : Obj} {G : Heap → Prop} {R : Value → Shared → Prop} (B : Begins v o G) (hG : G z.heap)
    (h : ∀ h1, IsEnum h1 (z.heap.objs.size + 1) z.heap.objs.size 0 .none → h1.get? z.heap.objs.size = some o → (∀ b u, z.heap.get? b = some u → h1.get? b = some u) → R (.ref (z.heap.objs.size + 1)) { z with heap := h1 }) :
    wpAny (model prog w) A (call (.type "enumerate") [v]) R E z := by
  refine callType_new F.called_enumerate (by decide) (F.typeCall_enumerate_1 _) (F.newCall_enumerate_1 _) (fun x => F.args_object_init_2 x _) F.entry_enumerate_new (newOne B) ⟨hG, ?_⟩
  have e1 : (z.heap.push o).objs.size = z.heap.objs.size + 1 := Heap.size_push ..
  generalize ho : ({ cls := .type "enumerate", data := .fields #[.none, .bool false, .ref z.heap.objs.size, rawInt 0, .none, .none] } : Obj) = eo
  have e2 : ((z.heap.push o).push eo).get? (z.heap.objs.size + 1) = some eo := by
    have := Heap.get?_push_size (z.heap.push o) (o := eo) (by rw [← ho]; rfl)
    rw [e1] at this; exact this
  show _ ∧ _
  rw [e1]
  have e3 : IsEnum ((z.heap.push o).push eo) (z.heap.objs.size + 1) z.heap.objs.size 0 .none := by rw [← ho] at e2 ⊢; exact e2
  exact ⟨⟨_, e2, by rw [← ho]⟩, h _ e3 (Heap.get?_push_of_some _ (Heap.get?_push_size _ B.free)) fun b u x => Heap.get?_push_of_some _ (Heap.get?_push_of_some _ x)⟩
end
/-- the tuple at a, each item in a new pair -/
def Itet (K : PySem.W.Frag) (a : Addr) : It :=
  ⟨fun i H => ∃ (xs : List V) (x : V), SqT K H a xs ∧ xs[i]? = some x, fun i H v H' => ∃ T x, v = .ref T ∧ H T = none ∧ H' = upd H T (.tup [.int (i : Nat), x]) ∧ ∀ xs, SqT K H a xs → xs[i]? = some x, fun i H => ∃ xs : List V, SqT K H a xs ∧ xs.length ≤ i⟩
theorem turnT {P : Program} {w : World} {K : PySem.W.Frag} {elts : List Expr} {kk : Nat} {tpos : Pos} (a e it : Addr) (apart : e ≠ it) (ae : a ≠ e) (ai : a ≠ it) :
    Turn P w K (.Tuple elts kk tpos) (Itet K a) [e, it] e (fun i h => (∃ was, IsEnum h e it ((i : Nat) : Int) was) ∧ h.IsTupleIter it a i) where
  mem := List.mem_cons_self ..
  obj := fun i h st b hb => by
    obtain ⟨⟨was, he⟩, o, ho, _, hd⟩ := st
    rcases List.mem_cons.mp hb with q | q
    · subst q; exact ⟨_, he, fun v r => nomatch r⟩
    · rcases List.mem_cons.mp q with q | q
      · exact ⟨o, by rw [q]; exact ho, fun v r => by rw [hd] at r; cases r⟩
      · cases q
  keep := fun i h h1 st k => ⟨st.1.imp fun was he => k e (List.mem_cons_self ..) _ he, st.2.at fun o q => k it (List.mem_cons_of_mem _ (List.mem_cons_self ..)) o q⟩
  item := by
    intro X hP hw hK hc i pins z σ H E I hf ⟨⟨was, he⟩, hit⟩ ⟨xs, x, hq, hx⟩
    subst hP hw hK
    obtain ⟨its, rv, p, hz⟩ := I.tuple hq
    have hT0 : z.heap.IsTuple a its.toArray := p
    obtain ⟨u, hu, ru⟩ := rv.get hx
    have le : e < z.heap.objs.size := Heap.lt_size he
    have li : it < z.heap.objs.size := by obtain ⟨_, q, _⟩ := hit; exact Heap.lt_size q
    have lt : i < its.toArray.size := by
      have := (List.getElem?_eq_some_iff.mp hu).1
      simpa using this
    have D := Draws.tuple (prog := X.prog) (w := X.w) (A := X.A.in1) (I.ok.hd hc) it a ai its.toArray
    refine wpAny_pyNext_enum_itemD D he ⟨hit, hT0⟩ lt apart (by
      intro m
      rcases List.mem_cons.mp m with q | q
      · exact apart q
      · rcases List.mem_cons.mp q with q | q
        · exact ae q.symm
        · cases q) fun y h1 tk hy ho st1 hT hsz hk => ?_
    have ey : y = u := by
      have h2 : its[i]? = some y := by simpa using hy
      rw [hu] at h2
      exact (Option.some.inj h2).symm
    subst ey
    refine ⟨_, rfl, wpAny_letOwnedTupleGo_enum (s := { z with heap := h1, toks := tk + 1 }) ho fun h2 he2 sb => ?_⟩
    have hT2 : h2.get? z.heap.objs.size = some { cls := .type "tuple", data := .seq #[.int i tk, y] } := (sb.2 _ (Nat.ne_of_gt le)).trans hT
    have pair : ObjOk X.prog X.w (upd H z.heap.objs.size (.tup [.int (i : Nat), x])) h2 z.heap.objs.size (.tup [.int (i : Nat), x]) :=
      ⟨by show 2 ≤ sizeLine; decide, [.int i tk, y], .cons ⟨_, rfl⟩ (.cons ru .nil), ⟨_, hT2, rfl, _, rfl⟩⟩
    have J : Inv X pins σ (upd H z.heap.objs.size (.tup [.int (i : Nat), x])) { z with heap := h2, toks := tk + 1 } :=
      I.turnedNew (ch := [e, it]) (fun b ob hb q => (sb.2 b fun r => hb (by rw [r]; exact List.mem_cons_self ..)).trans (hk b ob (fun r => hb (by rw [r]; exact List.mem_cons_self ..)) (fun r => hb (by rw [r]; exact List.mem_cons_of_mem _ (List.mem_cons_self ..))) q)) hf (Nat.le_refl _) pair
    have inj : ∀ ys, SqT X.K H a ys → ys[i]? = some x := fun ys hy => by rw [I.tuple_inj hy hq]; exact hx
    refine ⟨.ref z.heap.objs.size, _, J, rfl, ⟨_, x, rfl, I.hok.fresh (Nat.le_refl _), rfl, inj⟩, ⟨⟨y, ?_⟩, st1.1.at fun o q => (sb.2 it (Ne.symm apart)).trans q⟩, fun b hb => ?_⟩
    · have e1 : ((i + 1 : Nat) : Int) = (i : Int) + 1 := by omega
      rw [e1]; exact he2
    · have lb : b < z.heap.objs.size := by
        rcases List.mem_cons.mp hb with q | q
        · rw [q]; exact le
        · rcases List.mem_cons.mp q with q | q
          · rw [q]; exact li
          · cases q
      rw [upd_ne (Nat.ne_of_lt lb)]
      exact (hf b hb).1
  done := by
    intro X hP hw hK hc i pins z σ H E I hf ⟨⟨was, he⟩, hit⟩ ⟨xs, hq, hx⟩
    subst hP hw hK
    obtain ⟨its, rv, p, hz⟩ := I.tuple hq
    have hT0 : z.heap.IsTuple a its.toArray := p
    obtain ⟨f0, f1, f2, f3, f4, f5⟩ := hf it (List.mem_cons_of_mem _ (List.mem_cons_self ..))
    have hl := rv.length
    have D : Draws X.prog X.w X.A.in1 it [it, a] i (fun _ _ => False) (fun j h => j = i ∧ h.IsTupleIter it a i ∧ h.IsTuple a its.toArray) :=
      { live := fun _ _ st => let ⟨o, ho, _⟩ := st.2.1; ⟨o, ho⟩
        frame := fun _ _ _ st hk => ⟨st.1, st.2.1.at fun o q => hk it (List.mem_cons_self ..) o q, st.2.2.at fun o q => hk a (List.mem_cons_of_mem _ (List.mem_cons_self ..)) o q⟩
        item := fun j _ _ _ lt st _ => absurd lt (by rw [st.1]; exact Nat.lt_irrefl _)
        done := fun z1 Q X1 st k => wpAny_nextOf_tuple_end (I.ok.hd hc) st.2.1 st.2.2 (by rw [List.getElem?_toArray]; exact List.getElem?_eq_none (by rw [← hl]; exact hx)) k }
    exact wpAny_pyNext_enum_endD D he ⟨rfl, hit, hT0⟩ fun h1 eb => ⟨rfl, I.turned (t' := z.toks) (fun b o hb q => eb b o hb q) f0 f1 f3 f4 f5⟩
  self := fun A i s Q E st h => let ⟨⟨_, he⟩, _⟩ := st; wpAny_pyIter_enum he h
def iEnT (K : PySem.W.Frag) (ta : TA) : TI := fun σ H R => ta σ H fun vs H1 => (∃ a xs, vs = [.ref a] ∧ SqL K H1 a xs ∧ R (Ite K a) H1) ∨ ∃ a xs, vs = [.ref a] ∧ SqT K H1 a xs ∧ R (Itet K a) H1
theorem pi_enT {X : Cx} {e : Expr} {ta : TA} {p pos tpos : Pos} {elts : List Expr} {kk : Nat} (hg : Gl X "enumerate") (hm : X.mg "enumerate" = none) (ha : PA X [e] ta) (hs : starEach [e] X.env = [(false, eval e X.env)] := by rfl) :
    PI X (.Tuple elts kk tpos) (.Call (.Name "enumerate" p) [e] [] pos) (iEnT X.K ta) := by
  refine ⟨fun pins z σ H R I h => ?_⟩
  refine Call_ (ld_blt I hg hm boot_enumerate (PyProof.Rows.callWith_type1 (thn (ha.run pos pins z σ H _ I h) fun us s1 ⟨vs, H1, I1, r1, q1⟩ => ?_) hs rfl))
  rcases q1 with ⟨a, xs, rfl, hq, q⟩ | ⟨a, xs, rfl, hq, q⟩
  · obtain ⟨u, rfl, ru⟩ := r1.one
    cases ru
    obtain ⟨its, rv, p', hz⟩ := I1.list hq
    refine call_enumerate_list p'.isList fun h1 he hit hsz hk => wpAny_pyIter_enum he ?_
    have J : Inv X pins σ H1 { s1 with heap := h1 } := I1.kept (t' := s1.toks) hk
    refine ⟨s1.heap.objs.size + 1, [s1.heap.objs.size + 1, s1.heap.objs.size], _, _, H1, rfl, J, turn_enum a (s1.heap.objs.size + 1) s1.heap.objs.size, ⟨⟨.none, he⟩, hit, Nat.succ_ne_self _⟩, fun b hb => ?_, q⟩
    have le : s1.heap.objs.size ≤ b := by
      rcases List.mem_cons.mp hb with m | m
      · rw [m]; exact Nat.le_succ _
      · rcases List.mem_cons.mp m with m | m
        · rw [m]; exact Nat.le_refl _
        · cases m
    exact I1.fpOk le (I1.hok.fresh le)
  · obtain ⟨u, rfl, ru⟩ := r1.one
    cases ru
    obtain ⟨its, rv, p', hz⟩ := I1.tuple hq
    have hT : s1.heap.IsTuple a its.toArray := p'
    have la : a < s1.heap.objs.size := by obtain ⟨_, q, _⟩ := hT; exact Heap.lt_size q
    refine made (begins_tuple a its.toArray) hT fun h1 he ho hk => wpAny_pyIter_enum he ?_
    have J : Inv X pins σ H1 { s1 with heap := h1 } := I1.kept (t' := s1.toks) hk
    refine ⟨s1.heap.objs.size + 1, [s1.heap.objs.size + 1, s1.heap.objs.size], _, _, H1, rfl, J, turnT a (s1.heap.objs.size + 1) s1.heap.objs.size (Nat.succ_ne_self _) (Nat.ne_of_lt (Nat.lt_succ_of_lt la)) (Nat.ne_of_lt la), ⟨⟨.none, he⟩, ⟨_, ho, rfl, rfl⟩⟩, fun b hb => ?_, q⟩
    have le : s1.heap.objs.size ≤ b := by
      rcases List.mem_cons.mp hb with m | m
      · rw [m]; exact Nat.le_succ _
      · rcases List.mem_cons.mp m with m | m
        · rw [m]; exact Nat.le_refl _
        · cases m
    exact I1.fpOk le (I1.hok.fresh le)
end EnT
namespace Dl
open PySem L2
theorem iter_enumT {K : PySem.W.Frag} {T : Addr → Prop} {S : Hp} {l : Addr} {xs : List PyData} {Gd : Cm → Prop} (h : ∀ C' F S' H', Ext S S' → Rel K T S' C' F H' → Gd C' → ∃ vs, SqT K H' l vs ∧ Rps K S' xs vs) : IterOk K T S (EnT.Itet K l) (xs.zipIdx.map fun p => W.d (.tuple [.int (p.2 : Nat), p.1])) Gd := by
  intro i C' F S' H' e R g
  obtain ⟨vs, q, s⟩ := h C' F S' H' e R g
  rw [List.length_map, List.length_zipIdx]
  refine ⟨fun hi => ⟨vs, q, by rw [← s.length]; exact hi⟩, fun d hd => ?_⟩
  rw [List.getElem?_map, List.getElem?_zipIdx] at hd
  cases hx : xs[i]? with
  | none => rw [hx] at hd; cases hd
  | some x =>
    rw [hx] at hd
    cases hd
    obtain ⟨v, h1, h2⟩ := Rws.get (i := i) s.ws (w := .d x) (by rw [List.getElem?_map, hx]; rfl)
    refine ⟨⟨vs, v, q, h1⟩, fun y H'' hy => ?_⟩
    obtain ⟨t, z, rfl, ht, rfl, hz⟩ := hy
    have e3 := hz vs q
    rw [h1] at e3
    cases e3
    cases h2 with | d h2 =>
      have xx := ext_new (o := .tup [.int (i : Nat), v]) (R.freeS ht)
      refine ⟨_, xx, R.newS ht, .d (.tup (SqT.of upd_same) (.cons ?_ (.cons (h2.mono xx) .nil)))⟩
      simp only [Nat.zero_add]
      exact .int _
/-- enumerate of a list or a tuple -/
def iEnumE (a : TAd) : TId := fun γ C R => a γ C fun ds C1 => match ds with
  | [.d (.list xs)] => R (xs.zipIdx.map fun p => W.d (.tuple [.int (p.2 : Nat), p.1])) (fun _ => True) C1
  | [.d (.tuple xs)] => R (xs.zipIdx.map fun p => W.d (.tuple [.int (p.2 : Nat), p.1])) (fun _ => True) C1
  | [.own l] => match C1 l with
    | some (.lst ws) => match dAll ws with
      | some xs => R (xs.zipIdx.map fun p => W.d (.tuple [.int (p.2 : Nat), p.1])) (fun C' => C' l = some (.lst ws)) C1
      | none => False
    | _ => False
  | _ => False
section
variable {G : Sit} {X : Cx} {e : Expr} {es : List Expr} {te : TE} {we : TEd} {ta : TA} {wa : TAd} {pos p tpos : Pos} {elts : List Expr} {kk : Nat}
theorem i_enumE (hm : X.mg "enumerate" = none) (ha : DA G X [e] ta wa) (hg : Gl X "enumerate" := by rfl) (hs : starEach [e] X.env = [(false, eval e X.env)] := by rfl) : DI G X (.Tuple elts kk tpos) (.Call (.Name "enumerate" p) [e] [] pos) (EnT.iEnT X.K ta) (iEnumE wa) := ⟨EnT.pi_enT hg hm ha.1 hs, fun S C F H γ σ R0 R Re en x h k => by
  refine ha.2 S C F H γ σ _ _ Re en x h fun ds C1 S1 H1 vs e1 R1 r1 h1 => ?_
  split at h1
  · obtain ⟨v, rfl, r⟩ := one_ws r1
    cases r with | d r => cases r with | lst q s =>
      exact .inl ⟨_, _, rfl, SqL.of (R1.s _ _ q), k _ _ _ _ _ _ e1 R1 (iter_enum fun C' F' S' H' e2 R2 _ => ⟨_, SqL.of (R2.s _ _ (e2 _ _ q)), Rps.mono e2 s⟩) h1⟩
  · obtain ⟨v, rfl, r⟩ := one_ws r1
    cases r with | d r => cases r with | tup q s =>
      exact .inr ⟨_, _, rfl, Ext.sqt R1.s q, k _ _ _ _ _ _ e1 R1 (iter_enumT fun C' F' S' H' e2 R2 _ => ⟨_, Ext.sqt R2.s (Ext.sqt e2 q), Rps.mono e2 s⟩) h1⟩
  · obtain ⟨v, rfl, r⟩ := one_ws r1
    cases r
    split at h1
    · rename_i ws e3
      split at h1
      · rename_i xs e4
        cases dAll_eq e4
        obtain ⟨_, _, o, e5, vs, rfl, q⟩ := R1.cell e3 trivial
        exact .inl ⟨_, _, rfl, SqL.of e5, k _ _ _ _ _ _ e1 R1 (iter_enum fun C' F' S' H' e2 R2 g => by
          obtain ⟨_, _, o, e6, vs', rfl, q'⟩ := R2.cell g trivial
          exact ⟨vs', SqL.of e6, Rps.of_ws q'⟩) h1⟩
      · exact h1.elim
    · exact h1.elim
  · exact h1.elim⟩
/-- an own list is frozen here -/
def eFz (a : TEd) : TEd := fun γ C Q => a γ C fun x C1 => ∃ C2 d2, Frz C1 x C2 d2 ∧ Q d2 C2
theorem d_fz (h : DE G X e te we) : DE G X e te (eFz we) := ⟨h.1, by
  intro S C F H γ σ Q0 Q R en x h0 k
  refine h.2 S C F H γ σ _ _ R en x h0 fun d C1 S1 H1 v e1 R1 r1 ⟨C2, d2, fz, q⟩ => ?_
  obtain ⟨S2, e2, R2, r2⟩ := frz_ok R1 r1 fz
  exact k d2 C2 S2 H1 v (e1.trans e2) R2 r2 q⟩
end
theorem RUE :
    (∀ a γ C R, iEnumE a γ C R = a γ C fun ds C1 => match ds with
      | [.d (.list xs)] => R (xs.zipIdx.map fun p => W.d (.tuple [.int (p.2 : Nat), p.1])) (fun _ => True) C1
      | [.d (.tuple xs)] => R (xs.zipIdx.map fun p => W.d (.tuple [.int (p.2 : Nat), p.1])) (fun _ => True) C1
      | [.own l] => (match C1 l with
        | some (.lst ws) => (match dAll ws with
          | some xs => R (xs.zipIdx.map fun p => W.d (.tuple [.int (p.2 : Nat), p.1])) (fun C' => C' l = some (.lst ws)) C1
          | none => False)
        | _ => False)
      | _ => False) ∧
    (∀ a γ C Q, eFz a γ C Q = a γ C fun x C1 => ∃ C2 d2, Frz C1 x C2 d2 ∧ Q d2 C2) := ⟨fun _ _ _ _ => rfl, fun _ _ _ _ => rfl⟩
end Dl

set_option Elab.async false
set_option linter.all false
set_option maxRecDepth 100000
set_option maxHeartbeats 4000000
/-! K84: the defs' readings over data, printed by gen.py. -/
namespace K84
open PySem L2 Dl
def topS (i : Nat) : Stmt := PySem.Challenge.rw_pledgedwatts_k84_shares_and_credits.prog.main.body.getD i (.Pass ⟨0, 0, 0, 0⟩)
structure Kn (K : PySem.W.Frag) (mg : Str → Option Value) : Prop where
  b : Bt mg
  DAY : ∃ t, mg "DAY" = some (.int 24 t)
abbrev c_DAY : W := .d (.int 24)
theorem d_glob_DAY {G : Sit} {X : Cx} {pos : Pos} (B : Kn X.K X.mg) (hg : Gl X "DAY" := by rfl) : DE G X (.Name "DAY" pos) (tC (.int 24)) (eC c_DAY) := by
  obtain ⟨t, h⟩ := B.DAY
  exact d_glob h ⟨t, rfl⟩ (fun _ => .d (.int _)) hg
abbrev s_law_refill : Stmt := (topS 11)
abbrev n_law_refill : List Str := ["script", "k", "cell"]
abbrev p_law_refill : List Str := ["script", "k"]
abbrev a_law_refill : Str × Option Str := ("_law_refill", none)
theorem sc_law_refill : FnScope n_law_refill p_law_refill (defScope s_law_refill) := ⟨rfl, rfl, rfl, by decide +kernel, rfl, by decide +kernel, by decide +kernel⟩
def w_law_refill  (EE : EXd) : TSd :=
  (sSeq (sAsg (eC (.d (.int 0))) (uName 2))
  (sSeq (sJoin (sIf (tTru (eVar 0)) (sAsg (eOp opIx (eVar 0) (eOp opMod (eVar 1) (eCB opLen (aCons (eVar 0) aNil)))) (uName 2)) sNext))
  (sSeq (sJoin (sIf (tBl (eOp opLt (eVar 2) (eC (.d (.int 0))))) (sAsg (eOp opSub (eC (.d (.int 1))) (eOp (opMul false) (eC (.d (.int 2))) (eVar 2))) (uName 2)) sNext))
  (sSeq (sJoin (sIf (tAndD (tBl (eOp opGe (eVar 2) (eOp opPow (eC (.d (.int 10))) (eC (.d (.int 18)))))) (tBl (eOp opLt (eVar 1) (eCB opLen (aCons (eVar 0) aNil))))) (sRet (eVar 2)) sNext))
  (sRet (eOp opMod (eCB opInt (aCons (eOp (opAdd false) (eOp (opMul false) (eCB opInt (aCons (eOp (opAdd false) (eOp (opAdd false) (eOp (opMul false) (eVar 2) (eC (.d (.int 48271)))) (eOp (opMul false) (eVar 1) (eC (.d (.int 69621))))) (eC (.d (.int 12345)))) aNil)) (eC (.d (.int 40692)))) (eC (.d (.int 7)))) aNil)) (eC (.d (.int 2147483399)))))))))
theorem der_law_refill {P : Program} {w : World} {K : PySem.W.Frag} {mg : Str → Option Value} {base : Heap} {T : Addr → Prop} {k  : Nat} {f : Addr} (M : Kn K mg)    : ∀ (cdv : Value), cdv = .ref (He.cT K a_law_refill).1 → ∀ (A : Around) (outer : List Env) (s : Shared) (H : Hp) (E : XK) (EE : EXd), XO ⟨T, fun c d _ H => E c d H, EE⟩ (cxD P w K mg base n_law_refill "_law_refill" s_law_refill f cdv A outer s H E) k →
    ∃ t, DSs ⟨T, fun c d _ H => E c d H, EE⟩ (cxD P w K mg base n_law_refill "_law_refill" s_law_refill f cdv A outer s H E) (defBody s_law_refill) t (w_law_refill  EE) := fun cdv hc A outer s H E EE xo =>
  have B := M.b
  ⟨_, (ss_cons (s_set 2 xo.nd d_int)
  (ss_cons (s_join (s_if (t_e (d_var 0)) (ss_one (s_set 2 xo.nd (d_ix (d_var 0) (d_mod (d_var 1) (d_len B.n_len (a_cons (d_var 0) a_nil)))))) ss_nil))
  (ss_cons (s_join (s_if (t_lt (d_var 2) d_int) (ss_one (s_set 2 xo.nd (d_sub d_int (d_mul false d_int (d_var 2))))) ss_nil))
  (ss_cons (s_join (s_if (t_w (w_and (t_ge (d_var 2) (d_pow d_int d_int)) (w_and1 (t_lt (d_var 1) (d_len B.n_len (a_cons (d_var 0) a_nil)))))) (ss_one (s_ret (d_var 2))) ss_nil))
  (ss_one (s_ret (d_mod (d_intc B.n_int (a_cons (d_add false (d_mul false (d_intc B.n_int (a_cons (d_add false (d_add false (d_mul false (d_var 2) d_int) (d_mul false (d_var 1) d_int)) d_int) a_nil)) d_int) d_int) a_nil)) d_int)))))))⟩
abbrev s_law_draw : Stmt := (topS 12)
abbrev n_law_draw : List Str := ["state", "script", "size", "digit"]
abbrev p_law_draw : List Str := ["state", "script", "size"]
abbrev a_law_draw : Str × Option Str := ("_law_draw", none)
theorem sc_law_draw : FnScope n_law_draw p_law_draw (defScope s_law_draw) := ⟨rfl, rfl, rfl, by decide +kernel, rfl, by decide +kernel, by decide +kernel⟩
def w_law_draw (sp_law_refill : DSp) (EE : EXd) : TSd :=
  (sSeq (sJoin (sIf (tBl (eOp (opEq false) (eOp opIx (eVar 0) (eC (.d (.int 1)))) (eC (.d (.int 0))))) (sSeq (sAsg (eCall EE sp_law_refill (aCons (eVar 1) (aCons (eOp opIx (eVar 0) (eC (.d (.int 0)))) aNil))) (uSubL (eVar 0) (eC (.d (.int 1)))))
  (sAsg (eOp (opAdd false) (eOp opIx (eVar 0) (eC (.d (.int 0)))) (eC (.d (.int 1)))) (uSubL (eVar 0) (eC (.d (.int 0)))))) sNext))
  (sSeq (sAsg (eOp opMod (eCB opInt (aCons (eOp opIx (eVar 0) (eC (.d (.int 1)))) aNil)) (eVar 2)) (uName 3))
  (sSeq (sAsg (eOp opFdiv (eOp opIx (eVar 0) (eC (.d (.int 1)))) (eVar 2)) (uSubL (eVar 0) (eC (.d (.int 1)))))
  (sRet (eVar 3)))))
theorem der_law_draw {P : Program} {w : World} {K : PySem.W.Frag} {mg : Str → Option Value} {base : Heap} {T : Addr → Prop} {k l0 : Nat} {f : Addr} (M : Kn K mg) {sp_law_refill : DSp} (D_law_refill : DFn P w K mg base T "_law_refill" l0 sp_law_refill) (h0 : l0 ≤ k) : ∀ (cdv : Value), cdv = .ref (He.cT K a_law_draw).1 → ∀ (A : Around) (outer : List Env) (s : Shared) (H : Hp) (E : XK) (EE : EXd), XO ⟨T, fun c d _ H => E c d H, EE⟩ (cxD P w K mg base n_law_draw "_law_draw" s_law_draw f cdv A outer s H E) k →
    ∃ t, DSs ⟨T, fun c d _ H => E c d H, EE⟩ (cxD P w K mg base n_law_draw "_law_draw" s_law_draw f cdv A outer s H E) (defBody s_law_draw) t (w_law_draw sp_law_refill EE) := fun cdv hc A outer s H E EE xo =>
  have B := M.b
  ⟨_, (ss_cons (s_join (s_if (t_eq xo.room (d_ix (d_var 0) d_int) d_int) (ss_cons (s_asg (d_call D_law_refill xo h0 (a_cons (d_var 1) (a_cons (d_ix (d_var 0) d_int) a_nil))) (g_sub (d_var 0) d_int))
  (ss_one (s_asg (d_add false (d_ix (d_var 0) d_int) d_int) (g_sub (d_var 0) d_int)))) ss_nil))
  (ss_cons (s_set 3 xo.nd (d_mod (d_intc B.n_int (a_cons (d_ix (d_var 0) d_int) a_nil)) (d_var 2)))
  (ss_cons (s_asg (d_fdiv (d_ix (d_var 0) d_int) (d_var 2)) (g_sub (d_var 0) d_int))
  (ss_one (s_ret (d_var 3))))))⟩
abbrev s_law_exact : Stmt := (topS 13)
abbrev n_law_exact : List Str := ["first", "second", "alike", "k"]
abbrev p_law_exact : List Str := ["first", "second"]
abbrev a_law_exact : Str × Option Str := ("_law_exact", none)
theorem sc_law_exact : FnScope n_law_exact p_law_exact (defScope s_law_exact) := ⟨rfl, rfl, rfl, by decide +kernel, rfl, by decide +kernel, by decide +kernel⟩
def w_law_exact (sp_law_exact : DSp) (EE : EXd) : TSd :=
  (sSeq (sJoin (sIf (tTru (eCB opIsi (aCons (eVar 0) (aCons (eTup true (aCons (eC (.ty "list")) (aCons (eC (.ty "tuple")) aNil))) aNil)))) (sSeq (sJoin (sIf (tOrD (tBl (eOp (opEq true) (eCB opIsi (aCons (eVar 0) (aCons (eC (.ty "list")) aNil))) (eCB opIsi (aCons (eVar 1) (aCons (eC (.ty "list")) aNil))))) (tBl (eOp (opEq true) (eCB opIsi (aCons (eVar 0) (aCons (eC (.ty "tuple")) aNil))) (eCB opIsi (aCons (eVar 1) (aCons (eC (.ty "tuple")) aNil)))))) (sRet (eC (.d (.bool false)))) sNext))
  (sRet (eAnd (eOp (opEq false) (eCB opLen (aCons (eVar 0) aNil)) (eCB opLen (aCons (eVar 1) aNil))) (eCB opAll (aCons (eLc false (iRngD1 (aCons (eCB opLen (aCons (eVar 0) aNil)) aNil)) (uName 3) tYesD (eCall EE0 sp_law_exact (aCons (eOp opIx (eVar 0) (eVar 3)) (aCons (eOp opIx (eVar 1) (eVar 3)) aNil))) [3]) aNil))))) sNext))
  (sSeq (sJoin (sIf (tOrD (tBl (eUn (opIsN false) (eVar 0))) (tBl (eUn (opIsN false) (eVar 1)))) (sRet (eAnd (eUn (opIsN false) (eVar 0)) (eUn (opIsN false) (eVar 1)))) sNext))
  (sSeq (sAsg (eAnd (eOp (opEq false) (eCB opIsi (aCons (eVar 0) (aCons (eC (.ty "str")) aNil))) (eCB opIsi (aCons (eVar 1) (aCons (eC (.ty "str")) aNil)))) (eOp (opEq false) (eCB opIsi (aCons (eVar 0) (aCons (eC (.ty "bool")) aNil))) (eCB opIsi (aCons (eVar 1) (aCons (eC (.ty "bool")) aNil))))) (uName 2))
  (sRet (eAnd (eVar 2) (eAnd (eOp (opEq false) (eCB opIsi (aCons (eVar 0) (aCons (eC (.ty "int")) aNil))) (eCB opIsi (aCons (eVar 1) (aCons (eC (.ty "int")) aNil)))) (eOp (opEq false) (eVar 0) (eVar 1))))))))
theorem der_law_exact {P : Program} {w : World} {K : PySem.W.Frag} {mg : Str → Option Value} {base : Heap} {T : Addr → Prop} {k l0 : Nat} {f : Addr} (M : Kn K mg) {sp_law_exact : DSp} (D_law_exact : DFn P w K mg base T "_law_exact" l0 sp_law_exact) (h0 : l0 ≤ k) : ∀ (cdv : Value), cdv = .ref (He.cT K a_law_exact).1 → ∀ (A : Around) (outer : List Env) (s : Shared) (H : Hp) (E : XK) (EE : EXd), XO ⟨T, fun c d _ H => E c d H, EE⟩ (cxD P w K mg base n_law_exact "_law_exact" s_law_exact f cdv A outer s H E) k →
    ∃ t, DSs ⟨T, fun c d _ H => E c d H, EE⟩ (cxD P w K mg base n_law_exact "_law_exact" s_law_exact f cdv A outer s H E) (defBody s_law_exact) t (w_law_exact sp_law_exact EE) := fun cdv hc A outer s H E EE xo =>
  have B := M.b
  ⟨_, (ss_cons (s_join (s_if (t_e (d_isi B.n_isinstance (a_cons (d_var 0) (a_cons (d_tup true (a_cons (d_ty "list" B.n_list) (a_cons (d_ty "tuple" B.n_tuple) a_nil))) a_nil)))) (ss_cons (s_join (s_if (t_w (w_or (t_ne xo.room (d_isi B.n_isinstance (a_cons (d_var 0) (a_cons (d_ty "list" B.n_list) a_nil))) (d_isi B.n_isinstance (a_cons (d_var 1) (a_cons (d_ty "list" B.n_list) a_nil)))) (w_or1 (t_ne xo.room (d_isi B.n_isinstance (a_cons (d_var 0) (a_cons (d_ty "tuple" B.n_tuple) a_nil))) (d_isi B.n_isinstance (a_cons (d_var 1) (a_cons (d_ty "tuple" B.n_tuple) a_nil))))))) (ss_one (s_ret d_bl)) ss_nil))
  (ss_one (s_ret (d_and (d_eq xo.room (d_len B.n_len (a_cons (d_var 0) a_nil)) (d_len B.n_len (a_cons (d_var 1) a_nil))) (d_one (d_all xo.calm B.n_all (a_cons (d_lcE (own := [("k", 3)]) false xo (i_rng1 B.n_range (a_cons (d_len B.n_len (a_cons (d_var 0) a_nil)) a_nil)) (blkOk_by (N := n_law_exact) (sc := defScope s_law_exact) (by decide +kernel)) (fun s1 H1 C1 c1 f1 => by exact ⟨_, (g_name 3 (xo.in_ s1 H1 C1 c1 f1).nd), (go_name)⟩) (fun s1 H1 C1 c1 f1 => by exact ⟨_, ts_nil⟩) (fun s1 H1 C1 c1 f1 => by exact ⟨_, (d_call D_law_exact (xo.in_ s1 H1 C1 c1 f1) h0 (a_cons (d_ix (d_var 0) (d_var 3)) (a_cons (d_ix (d_var 1) (d_var 3)) a_nil)))⟩)) a_nil))))))) ss_nil))
  (ss_cons (s_join (s_if (t_w (w_or (t_isN (d_var 0)) (w_or1 (t_isN (d_var 1))))) (ss_one (s_ret (d_and (d_isN (d_var 0)) (d_one (d_isN (d_var 1)))))) ss_nil))
  (ss_cons (s_set 2 xo.nd (d_and (d_eq xo.room (d_isi B.n_isinstance (a_cons (d_var 0) (a_cons (d_ty "str" B.n_str) a_nil))) (d_isi B.n_isinstance (a_cons (d_var 1) (a_cons (d_ty "str" B.n_str) a_nil)))) (d_one (d_eq xo.room (d_isi B.n_isinstance (a_cons (d_var 0) (a_cons (d_ty "bool" B.n_bool) a_nil))) (d_isi B.n_isinstance (a_cons (d_var 1) (a_cons (d_ty "bool" B.n_bool) a_nil)))))))
  (ss_one (s_ret (d_and (d_var 2) (d_and (d_eq xo.room (d_isi B.n_isinstance (a_cons (d_var 0) (a_cons (d_ty "int" B.n_int) a_nil))) (d_isi B.n_isinstance (a_cons (d_var 1) (a_cons (d_ty "int" B.n_int) a_nil)))) (d_one (d_eq xo.room (d_var 0) (d_var 1))))))))))⟩
abbrev s_applies : Stmt := (topS 2)
abbrev n_applies : List Str := ["entry", "tick", "_", "first", "last", "hour"]
abbrev p_applies : List Str := ["entry", "tick"]
abbrev a_applies : Str × Option Str := ("applies", none)
theorem sc_applies : FnScope n_applies p_applies (defScope s_applies) := ⟨rfl, rfl, rfl, by decide +kernel, rfl, by decide +kernel, by decide +kernel⟩
def w_applies  (EE : EXd) : TSd :=
  (sSeq (sAsg (eVar 0) (uTup 5 (uCons (uName 2) (uCons (uName 3) (uCons (uName 4) (uCons (uName 2) (uCons (uName 2) uNil)))))))
  (sSeq (sAsg (eOp opMod (eVar 1) (eC c_DAY)) (uName 5))
  (sRet (eIf (tBl (eOp opLt (eVar 3) (eVar 4))) (eChain opLe opLt (eVar 3) (eVar 5) (eVar 4)) (eOr (eOp opGe (eVar 5) (eVar 3)) (eOp opLt (eVar 5) (eVar 4)))))))
theorem der_applies {P : Program} {w : World} {K : PySem.W.Frag} {mg : Str → Option Value} {base : Heap} {T : Addr → Prop} {k  : Nat} {f : Addr} (M : Kn K mg)    : ∀ (cdv : Value), cdv = .ref (He.cT K a_applies).1 → ∀ (A : Around) (outer : List Env) (s : Shared) (H : Hp) (E : XK) (EE : EXd), XO ⟨T, fun c d _ H => E c d H, EE⟩ (cxD P w K mg base n_applies "applies" s_applies f cdv A outer s H E) k →
    ∃ t, DSs ⟨T, fun c d _ H => E c d H, EE⟩ (cxD P w K mg base n_applies "applies" s_applies f cdv A outer s H E) (defBody s_applies) t (w_applies  EE) := fun cdv hc A outer s H E EE xo =>
  have B := M.b
  ⟨_, (ss_cons (s_asg (d_var 0) (g_tup xo.calm (gs_cons (g_name 2 xo.nd) (gs_cons (g_name 3 xo.nd) (gs_cons (g_name 4 xo.nd) (gs_cons (g_name 2 xo.nd) (gs_cons (g_name 2 xo.nd) gs_nil)))))))
  (ss_cons (s_set 5 xo.nd (d_mod (d_var 1) (d_glob_DAY M)))
  (ss_one (s_ret (d_if (t_lt (d_var 3) (d_var 4)) (d_chain op_le op_lt ref_B0 ref_B0 (d_var 3) (d_var 5) (d_var 4)) (d_or (d_ge (d_var 5) (d_var 3)) (d_one (d_lt (d_var 5) (d_var 4)))))))))⟩
abbrev s_counted : Stmt := (topS 3)
abbrev n_counted : List Str := ["entries", "kind", "tick", "index", "entry"]
abbrev p_counted : List Str := ["entries", "kind", "tick"]
abbrev a_counted : Str × Option Str := ("counted", none)
theorem sc_counted : FnScope n_counted p_counted (defScope s_counted) := ⟨rfl, rfl, rfl, by decide +kernel, rfl, by decide +kernel, by decide +kernel⟩
def w_counted (sp_applies : DSp) (EE : EXd) : TSd :=
  (sSeq (sFor (iEnumE (aCons (eVar 0) aNil)) (uTup 2 (uCons (uName 3) (uCons (uName 4) uNil)))
  (sIf (tAndD (tBl (eOp (opEq false) (eOp opIx (eVar 4) (eC (.d (.int 0)))) (eVar 1))) (tTru (eCall EE sp_applies (aCons (eVar 4) (aCons (eVar 2) aNil))))) (sRet (eVar 3)) sNext))
  (sRet (eC (.d .none))))
theorem der_counted {P : Program} {w : World} {K : PySem.W.Frag} {mg : Str → Option Value} {base : Heap} {T : Addr → Prop} {k l0 : Nat} {f : Addr} (M : Kn K mg) {sp_applies : DSp} (D_applies : DFn P w K mg base T "applies" l0 sp_applies) (h0 : l0 ≤ k) : ∀ (cdv : Value), cdv = .ref (He.cT K a_counted).1 → ∀ (A : Around) (outer : List Env) (s : Shared) (H : Hp) (E : XK) (EE : EXd), XO ⟨T, fun c d _ H => E c d H, EE⟩ (cxD P w K mg base n_counted "counted" s_counted f cdv A outer s H E) k →
    ∃ t, DSs ⟨T, fun c d _ H => E c d H, EE⟩ (cxD P w K mg base n_counted "counted" s_counted f cdv A outer s H E) (defBody s_counted) t (w_counted sp_applies EE) := fun cdv hc A outer s H E EE xo =>
  have B := M.b
  ⟨_, (ss_cons (s_for xo (i_enumE B.n_enumerate (a_cons (d_var 0) a_nil)) (g_tup xo.calm (gs_cons (g_name 3 xo.nd) (gs_cons (g_name 4 xo.nd) gs_nil)))
  (ss_one (s_if (t_w (w_and (t_eq xo.room (d_ix (d_var 4) d_int) (d_var 1)) (w_and1 (t_e (d_call D_applies xo h0 (a_cons (d_var 4) (a_cons (d_var 2) a_nil))))))) (ss_one (s_ret (d_var 3))) ss_nil)))
  (ss_one (s_ret d_non)))⟩
abbrev s_events : Stmt := (topS 4)
abbrev n_events : List Str := ["course", "begin", "draws", "grace", "busy", "told", "at", "units", "tick"]
abbrev p_events : List Str := ["course"]
abbrev a_events : Str × Option Str := ("events", none)
theorem sc_events : FnScope n_events p_events (defScope s_events) := ⟨rfl, rfl, rfl, by decide +kernel, rfl, by decide +kernel, by decide +kernel⟩
def w_events  (EE : EXd) : TSd :=
  (sSeq (sAsg (eVar 0) (uTup 3 (uCons (uName 1) (uCons (uName 2) (uCons (uName 3) uNil)))))
  (sSeq (sAsg (eCKw (opBestK PySem.W.maxD) (aCons (eLc false (iEnumE (aCons (eVar 2) aNil)) (uTup 2 (uCons (uName 6) (uCons (uName 7) uNil))) (tBl (eOp opGt (eVar 7) (eC (.d (.int 0))))) (eOp (opAdd false) (eVar 6) (eC (.d (.int 1)))) [6, 7]) aNil) (kOne (eC (.d (.int 0))))) (uName 4))
  (sSeq (sAsg (eLst true (aCons (eTup false (aCons (eC (.d (.str "start"))) (aCons (eVar 1) (aCons (eC (.d (.int 1))) aNil)))) aNil)) (uName 5))
  (sSeq (sFor (iEnumE (aCons (eVar 2) aNil)) (uTup 2 (uCons (uName 6) (uCons (uName 7) uNil)))
  (sSeq (sAsg (eOp (opAdd false) (eVar 1) (eVar 6)) (uName 8))
  (sSeq (sDrop (eM opAppend (eVar 5) (aCons (eTup false (aCons (eC (.d (.str "unit"))) (aCons (eVar 8) (aCons (eVar 7) aNil)))) aNil)))
  (sIf (tBl (eOp opLt (eVar 6) (eVar 4))) (sDrop (eM opAppend (eVar 5) (aCons (eTup false (aCons (eC (.d (.str "tick"))) (aCons (eVar 8) (aCons (eC (.d (.int 1))) aNil)))) aNil))) (sIf (tBl (eOp opGe (eVar 6) (eOp (opAdd false) (eVar 4) (eVar 3)))) (sDrop (eM opAppend (eVar 5) (aCons (eTup false (aCons (eC (.d (.str "blocked"))) (aCons (eVar 8) (aCons (eC (.d (.int 1))) aNil)))) aNil))) sNext)))))
  (sRet (eVar 5))))))
theorem der_events {P : Program} {w : World} {K : PySem.W.Frag} {mg : Str → Option Value} {base : Heap} {T : Addr → Prop} {k  : Nat} {f : Addr} (M : Kn K mg)    : ∀ (cdv : Value), cdv = .ref (He.cT K a_events).1 → ∀ (A : Around) (outer : List Env) (s : Shared) (H : Hp) (E : XK) (EE : EXd), XO ⟨T, fun c d _ H => E c d H, EE⟩ (cxD P w K mg base n_events "events" s_events f cdv A outer s H E) k →
    ∃ t, DSs ⟨T, fun c d _ H => E c d H, EE⟩ (cxD P w K mg base n_events "events" s_events f cdv A outer s H E) (defBody s_events) t (w_events  EE) := fun cdv hc A outer s H E EE xo =>
  have B := M.b
  ⟨_, (ss_cons (s_asg (d_var 0) (g_tup xo.calm (gs_cons (g_name 1 xo.nd) (gs_cons (g_name 2 xo.nd) (gs_cons (g_name 3 xo.nd) gs_nil)))))
  (ss_cons (s_set 4 xo.nd (d_maxK (x := ⟨none, .Constant .none 0 ⟨0, 0, 0, 0⟩, ⟨0, 0, 0, 0⟩⟩) xo.room B.n_max (a_cons (d_lcE (own := [("at", 6), ("units", 7)]) false xo (i_enumE B.n_enumerate (a_cons (d_var 2) a_nil)) (blkOk_by (N := n_events) (sc := defScope s_events) (by decide +kernel)) (fun s1 H1 C1 c1 f1 => by exact ⟨_, (g_tup (xo.in_ s1 H1 C1 c1 f1).calm (gs_cons (g_name 6 (xo.in_ s1 H1 C1 c1 f1).nd) (gs_cons (g_name 7 (xo.in_ s1 H1 C1 c1 f1).nd) gs_nil))), (go_tup (go_cons (go_name) (go_cons (go_name) go_nil)))⟩) (fun s1 H1 C1 c1 f1 => by exact ⟨_, (ts_one (t_gt (d_var 7) d_int))⟩) (fun s1 H1 C1 c1 f1 => by exact ⟨_, (d_add false (d_var 6) d_int)⟩)) a_nil) (k_cons d_int k_nil)))
  (ss_cons (s_set 5 xo.nd (d_lst true (a_cons (d_tup false (a_cons d_str (a_cons (d_var 1) (a_cons d_int a_nil)))) a_nil)))
  (ss_cons (s_for xo (i_enumE B.n_enumerate (a_cons (d_var 2) a_nil)) (g_tup xo.calm (gs_cons (g_name 6 xo.nd) (gs_cons (g_name 7 xo.nd) gs_nil)))
  (ss_cons (s_set 8 xo.nd (d_add false (d_var 1) (d_var 6)))
  (ss_cons (s_expr (d_append (d_var 5) (a_cons (d_tup false (a_cons d_str (a_cons (d_var 8) (a_cons (d_var 7) a_nil)))) a_nil)))
  (ss_one (s_if (t_lt (d_var 6) (d_var 4)) (ss_one (s_expr (d_append (d_var 5) (a_cons (d_tup false (a_cons d_str (a_cons (d_var 8) (a_cons d_int a_nil)))) a_nil)))) (ss_one (s_if (t_ge (d_var 6) (d_add false (d_var 4) (d_var 3))) (ss_one (s_expr (d_append (d_var 5) (a_cons (d_tup false (a_cons d_str (a_cons (d_var 8) (a_cons d_int a_nil)))) a_nil)))) ss_nil)))))))
  (ss_one (s_ret (d_var 5)))))))⟩
abbrev s_quantities : Stmt := (topS 5)
abbrev n_quantities : List Str := ["entries", "course", "told", "kind", "tick", "quantity", "index"]
abbrev p_quantities : List Str := ["entries", "course"]
abbrev a_quantities : Str × Option Str := ("quantities", none)
theorem sc_quantities : FnScope n_quantities p_quantities (defScope s_quantities) := ⟨rfl, rfl, rfl, by decide +kernel, rfl, by decide +kernel, by decide +kernel⟩
def w_quantities (sp_events : DSp) (sp_counted : DSp) (EE : EXd) : TSd :=
  (sSeq (sAsg (eOp (opMul true) (eLst false (aCons (eC (.d (.int 0))) aNil)) (eCB opLen (aCons (eVar 0) aNil))) (uName 2))
  (sSeq (sFor (iSeqD (eCall EE sp_events (aCons (eVar 1) aNil))) (uTup 3 (uCons (uName 3) (uCons (uName 4) (uCons (uName 5) uNil))))
  (sSeq (sAsg (eCall EE sp_counted (aCons (eVar 0) (aCons (eVar 3) (aCons (eVar 4) aNil)))) (uName 6))
  (sIf (tBl (eUn (opIsN true) (eVar 6))) (sAugS (eVar 2) (eVar 6) (eVar 5) opAddI) sNext)))
  (sRet (eVar 2))))
theorem der_quantities {P : Program} {w : World} {K : PySem.W.Frag} {mg : Str → Option Value} {base : Heap} {T : Addr → Prop} {k l0 l1 : Nat} {f : Addr} (M : Kn K mg) {sp_events : DSp} {sp_counted : DSp} (D_events : DFn P w K mg base T "events" l0 sp_events) (D_counted : DFn P w K mg base T "counted" l1 sp_counted) (h0 : l0 ≤ k) (h1 : l1 ≤ k) : ∀ (cdv : Value), cdv = .ref (He.cT K a_quantities).1 → ∀ (A : Around) (outer : List Env) (s : Shared) (H : Hp) (E : XK) (EE : EXd), XO ⟨T, fun c d _ H => E c d H, EE⟩ (cxD P w K mg base n_quantities "quantities" s_quantities f cdv A outer s H E) k →
    ∃ t, DSs ⟨T, fun c d _ H => E c d H, EE⟩ (cxD P w K mg base n_quantities "quantities" s_quantities f cdv A outer s H E) (defBody s_quantities) t (w_quantities sp_events sp_counted EE) := fun cdv hc A outer s H E EE xo =>
  have B := M.b
  ⟨_, (ss_cons (s_set 2 xo.nd (d_mul true (d_lst false (a_cons d_int a_nil)) (d_len B.n_len (a_cons (d_var 0) a_nil))))
  (ss_cons (s_for xo (i_seq (d_call D_events xo h0 (a_cons (d_var 1) a_nil))) (g_tup xo.calm (gs_cons (g_name 3 xo.nd) (gs_cons (g_name 4 xo.nd) (gs_cons (g_name 5 xo.nd) gs_nil))))
  (ss_cons (s_set 6 xo.nd (d_call D_counted xo h1 (a_cons (d_var 0) (a_cons (d_var 3) (a_cons (d_var 4) a_nil)))))
  (ss_one (s_if (t_notN (d_var 6)) (ss_one (s_augS_add (d_var 2) (d_var 6) (d_var 5))) ss_nil))))
  (ss_one (s_ret (d_var 2)))))⟩
abbrev s_total : Stmt := (topS 6)
abbrev n_total : List Str := ["lines"]
abbrev p_total : List Str := ["lines"]
abbrev a_total : Str × Option Str := ("total", none)
theorem sc_total : FnScope n_total p_total (defScope s_total) := ⟨rfl, rfl, rfl, by decide +kernel, rfl, by decide +kernel, by decide +kernel⟩
def w_total  (EE : EXd) : TSd :=
  (sRet (eGen (Gxp.tupD ["_", "_", "_", "coins"]) (fun η => η "coins") (capD [] []) gSum (eVar 0)))
theorem der_total {P : Program} {w : World} {K : PySem.W.Frag} {mg : Str → Option Value} {base : Heap} {T : Addr → Prop} {k  : Nat} {f : Addr} (M : Kn K mg) (TB : GxR.TabB base mg (He.cT K a_total).1 (He.cT K a_total).2) (hT : T (He.cT K a_total).2)    : ∀ (cdv : Value), cdv = .ref (He.cT K a_total).1 → ∀ (A : Around) (outer : List Env) (s : Shared) (H : Hp) (E : XK) (EE : EXd), XO ⟨T, fun c d _ H => E c d H, EE⟩ (cxD P w K mg base n_total "total" s_total f cdv A outer s H E) k →
    ∃ t, DSs ⟨T, fun c d _ H => E c d H, EE⟩ (cxD P w K mg base n_total "total" s_total f cdv A outer s H E) (defBody s_total) t (w_total  EE) := fun cdv hc A outer s H E EE xo =>
  have B := M.b
  ⟨_, (ss_one (s_ret (d_gen (caps := []) (gl := []) xo.room B.n_sum TB hc hT (scopeG (h3 := no_free (by decide +kernel))) (d_var 0) caps_nil (Gxp.own_tup ["_", "_", "_", "coins"]) (fun C code bi => Gxp.put_tupG ["_", "_", "_", "coins"]) (fun C code bi => Gxp.q_name) Gxp.sum_consumes finR_sum)))⟩
abbrev s_bill : Stmt := (topS 7)
abbrev n_bill : List Str := ["tariff", "course", "entries", "least", "most", "taxes", "lines", "index", "quantity", "_", "price", "step", "base", "tax"]
abbrev p_bill : List Str := ["tariff", "course"]
abbrev a_bill : Str × Option Str := ("bill", none)
theorem sc_bill : FnScope n_bill p_bill (defScope s_bill) := ⟨rfl, rfl, rfl, by decide +kernel, rfl, by decide +kernel, by decide +kernel⟩
def w_bill (sp_quantities : DSp) (sp_total : DSp) (EE : EXd) : TSd :=
  (sSeq (sAsg (eVar 0) (uTup 4 (uCons (uName 2) (uCons (uName 3) (uCons (uName 4) (uCons (uName 5) uNil))))))
  (sSeq (sAsg (eLst true aNil) (uName 6))
  (sSeq (sFor (iEnumE (aCons (eCall EE sp_quantities (aCons (eVar 2) (aCons (eVar 1) aNil))) aNil)) (uTup 2 (uCons (uName 7) (uCons (uName 8) uNil)))
  (sSeq (sAsg (eOp opIx (eVar 2) (eVar 7)) (uTup 5 (uCons (uName 9) (uCons (uName 9) (uCons (uName 9) (uCons (uName 10) (uCons (uName 11) uNil)))))))
  (sIf (tBl (eOp opGt (eVar 8) (eC (.d (.int 0))))) (sDrop (eM opAppend (eVar 6) (aCons (eTup false (aCons (eC (.d (.str "entry"))) (aCons (eVar 7) (aCons (eVar 8) (aCons (eOp (opMul false) (eVar 10) (eUn opNeg (eOp opFdiv (eUn opNeg (eVar 8)) (eVar 11)))) aNil))))) aNil))) sNext)))
  (sSeq (sJoin (sIf (tBl (eOp opLt (eCall EE sp_total (aCons (eVar 6) aNil)) (eVar 3))) (sDrop (eM opAppend (eVar 6) (aCons (eTup false (aCons (eC (.d (.str "least"))) (aCons (eC (.d (.int 0))) (aCons (eC (.d (.int 0))) (aCons (eOp opSub (eVar 3) (eCall EE sp_total (aCons (eVar 6) aNil))) aNil))))) aNil))) (sIf (tBl (eOp opGt (eCall EE sp_total (aCons (eVar 6) aNil)) (eVar 4))) (sDrop (eM opAppend (eVar 6) (aCons (eTup false (aCons (eC (.d (.str "most"))) (aCons (eC (.d (.int 0))) (aCons (eC (.d (.int 0))) (aCons (eOp opSub (eVar 4) (eCall EE sp_total (aCons (eVar 6) aNil))) aNil))))) aNil))) sNext)))
  (sSeq (sAsg (eCall EE sp_total (aCons (eVar 6) aNil)) (uName 12))
  (sRet (eOp (opAdd false) (eVar 6) (eLc false (iEnumE (aCons (eVar 5) aNil)) (uTup 2 (uCons (uName 7) (uCons (uName 13) uNil))) tYesD (eTup false (aCons (eC (.d (.str "tax"))) (aCons (eVar 7) (aCons (eVar 12) (aCons (eOp opFdiv (eOp (opMul false) (eVar 12) (eVar 13)) (eC (.d (.int 1000)))) aNil))))) [7, 13]))))))))
theorem der_bill {P : Program} {w : World} {K : PySem.W.Frag} {mg : Str → Option Value} {base : Heap} {T : Addr → Prop} {k l0 l1 : Nat} {f : Addr} (M : Kn K mg) {sp_quantities : DSp} {sp_total : DSp} (D_quantities : DFn P w K mg base T "quantities" l0 sp_quantities) (D_total : DFn P w K mg base T "total" l1 sp_total) (h0 : l0 ≤ k) (h1 : l1 ≤ k) : ∀ (cdv : Value), cdv = .ref (He.cT K a_bill).1 → ∀ (A : Around) (outer : List Env) (s : Shared) (H : Hp) (E : XK) (EE : EXd), XO ⟨T, fun c d _ H => E c d H, EE⟩ (cxD P w K mg base n_bill "bill" s_bill f cdv A outer s H E) k →
    ∃ t, DSs ⟨T, fun c d _ H => E c d H, EE⟩ (cxD P w K mg base n_bill "bill" s_bill f cdv A outer s H E) (defBody s_bill) t (w_bill sp_quantities sp_total EE) := fun cdv hc A outer s H E EE xo =>
  have B := M.b
  ⟨_, (ss_cons (s_asg (d_var 0) (g_tup xo.calm (gs_cons (g_name 2 xo.nd) (gs_cons (g_name 3 xo.nd) (gs_cons (g_name 4 xo.nd) (gs_cons (g_name 5 xo.nd) gs_nil))))))
  (ss_cons (s_set 6 xo.nd (d_lst true a_nil))
  (ss_cons (s_for xo (i_enumE B.n_enumerate (a_cons (d_call D_quantities xo h0 (a_cons (d_var 2) (a_cons (d_var 1) a_nil))) a_nil)) (g_tup xo.calm (gs_cons (g_name 7 xo.nd) (gs_cons (g_name 8 xo.nd) gs_nil)))
  (ss_cons (s_asg (d_ix (d_var 2) (d_var 7)) (g_tup xo.calm (gs_cons (g_name 9 xo.nd) (gs_cons (g_name 9 xo.nd) (gs_cons (g_name 9 xo.nd) (gs_cons (g_name 10 xo.nd) (gs_cons (g_name 11 xo.nd) gs_nil)))))))
  (ss_one (s_if (t_gt (d_var 8) d_int) (ss_one (s_expr (d_append (d_var 6) (a_cons (d_tup false (a_cons d_str (a_cons (d_var 7) (a_cons (d_var 8) (a_cons (d_mul false (d_var 10) (d_neg (d_fdiv (d_neg (d_var 8)) (d_var 11)))) a_nil))))) a_nil)))) ss_nil))))
  (ss_cons (s_join (s_if (t_lt (d_call D_total xo h1 (a_cons (d_var 6) a_nil)) (d_var 3)) (ss_one (s_expr (d_append (d_var 6) (a_cons (d_tup false (a_cons d_str (a_cons d_int (a_cons d_int (a_cons (d_sub (d_var 3) (d_call D_total xo h1 (a_cons (d_var 6) a_nil))) a_nil))))) a_nil)))) (ss_one (s_if (t_gt (d_call D_total xo h1 (a_cons (d_var 6) a_nil)) (d_var 4)) (ss_one (s_expr (d_append (d_var 6) (a_cons (d_tup false (a_cons d_str (a_cons d_int (a_cons d_int (a_cons (d_sub (d_var 4) (d_call D_total xo h1 (a_cons (d_var 6) a_nil))) a_nil))))) a_nil)))) ss_nil))))
  (ss_cons (s_set 12 xo.nd (d_call D_total xo h1 (a_cons (d_var 6) a_nil)))
  (ss_one (s_ret (d_add false (d_var 6) (d_lcE (own := [("index", 7), ("tax", 13)]) false xo (i_enumE B.n_enumerate (a_cons (d_var 5) a_nil)) (blkOk_by (N := n_bill) (sc := defScope s_bill) (by decide +kernel)) (fun s1 H1 C1 c1 f1 => by exact ⟨_, (g_tup (xo.in_ s1 H1 C1 c1 f1).calm (gs_cons (g_name 7 (xo.in_ s1 H1 C1 c1 f1).nd) (gs_cons (g_name 13 (xo.in_ s1 H1 C1 c1 f1).nd) gs_nil))), (go_tup (go_cons (go_name) (go_cons (go_name) go_nil)))⟩) (fun s1 H1 C1 c1 f1 => by exact ⟨_, ts_nil⟩) (fun s1 H1 C1 c1 f1 => by exact ⟨_, (d_tup false (a_cons d_str (a_cons (d_var 7) (a_cons (d_var 12) (a_cons (d_fdiv (d_mul false (d_var 12) (d_var 13)) d_int) a_nil)))))⟩))))))))))⟩
abbrev s_share : Stmt := (topS 8)
abbrev n_share : List Str := ["coins", "weights", "whole", "shares", "rests", "_", "index", "weight"]
abbrev p_share : List Str := ["coins", "weights"]
abbrev a_share : Str × Option Str := ("share", none)
theorem sc_share : FnScope n_share p_share (defScope s_share) := ⟨rfl, rfl, rfl, by decide +kernel, rfl, by decide +kernel, by decide +kernel⟩
def w_share  (EE : EXd) : TSd :=
  (sSeq (sAsg (eCB opSum (aCons (eVar 1) aNil)) (uName 2))
  (sSeq (sAsg (eLc true (iSeqD (eVar 1)) (uName 7) tYesD (eOp opFdiv (eOp (opMul false) (eVar 0) (eVar 7)) (eVar 2)) [7]) (uName 3))
  (sSeq (sAsg (eLc false (iEnumE (aCons (eVar 1) aNil)) (uTup 2 (uCons (uName 6) (uCons (uName 7) uNil))) tYesD (eTup false (aCons (eUn opNeg (eOp opMod (eOp (opMul false) (eVar 0) (eVar 7)) (eVar 2))) (aCons (eVar 6) aNil))) [6, 7]) (uName 4))
  (sSeq (sFor (iSeqD (eSl false (eCB (opSorted false) (aCons (eVar 4) aNil)) oNone (oSome (eOp opSub (eVar 0) (eCB opSum (aCons (eVar 3) aNil)))))) (uTup 2 (uCons (uName 5) (uCons (uName 6) uNil)))
  (sAugS (eVar 3) (eVar 6) (eC (.d (.int 1))) opAddI))
  (sRet (eVar 3))))))
theorem der_share {P : Program} {w : World} {K : PySem.W.Frag} {mg : Str → Option Value} {base : Heap} {T : Addr → Prop} {k  : Nat} {f : Addr} (M : Kn K mg)    : ∀ (cdv : Value), cdv = .ref (He.cT K a_share).1 → ∀ (A : Around) (outer : List Env) (s : Shared) (H : Hp) (E : XK) (EE : EXd), XO ⟨T, fun c d _ H => E c d H, EE⟩ (cxD P w K mg base n_share "share" s_share f cdv A outer s H E) k →
    ∃ t, DSs ⟨T, fun c d _ H => E c d H, EE⟩ (cxD P w K mg base n_share "share" s_share f cdv A outer s H E) (defBody s_share) t (w_share  EE) := fun cdv hc A outer s H E EE xo =>
  have B := M.b
  ⟨_, (ss_cons (s_set 2 xo.nd (d_sum xo.calm B.n_sum (a_cons (d_var 1) a_nil)))
  (ss_cons (s_setLcE 3 (own := [("weight", 7)]) true xo (i_seq (d_var 1)) (blkOk_by (N := n_share) (sc := defScope s_share) (by decide +kernel)) (fun s1 H1 C1 c1 f1 => by exact ⟨_, (g_name 7 (xo.in_ s1 H1 C1 c1 f1).nd), (go_name)⟩) (fun s1 H1 C1 c1 f1 => by exact ⟨_, ts_nil⟩) (fun s1 H1 C1 c1 f1 => by exact ⟨_, (d_fdiv (d_mul false (d_var 0) (d_var 7)) (d_var 2))⟩))
  (ss_cons (s_setLcE 4 (own := [("index", 6), ("weight", 7)]) false xo (i_enumE B.n_enumerate (a_cons (d_var 1) a_nil)) (blkOk_by (N := n_share) (sc := defScope s_share) (by decide +kernel)) (fun s1 H1 C1 c1 f1 => by exact ⟨_, (g_tup (xo.in_ s1 H1 C1 c1 f1).calm (gs_cons (g_name 6 (xo.in_ s1 H1 C1 c1 f1).nd) (gs_cons (g_name 7 (xo.in_ s1 H1 C1 c1 f1).nd) gs_nil))), (go_tup (go_cons (go_name) (go_cons (go_name) go_nil)))⟩) (fun s1 H1 C1 c1 f1 => by exact ⟨_, ts_nil⟩) (fun s1 H1 C1 c1 f1 => by exact ⟨_, (d_tup false (a_cons (d_neg (d_mod (d_mul false (d_var 0) (d_var 7)) (d_var 2))) (a_cons (d_var 6) a_nil)))⟩))
  (ss_cons (s_for xo (i_seq (d_sl false (d_sorted false xo.room B.n_sorted (a_cons (d_var 4) a_nil)) o_none (o_some (d_sub (d_var 0) (d_sum xo.calm B.n_sum (a_cons (d_var 3) a_nil)))))) (g_tup xo.calm (gs_cons (g_name 5 xo.nd) (gs_cons (g_name 6 xo.nd) gs_nil)))
  (ss_one (s_augS_add (d_var 3) (d_var 6) d_int)))
  (ss_one (s_ret (d_var 3)))))))⟩
abbrev s_credit : Stmt := (topS 9)
abbrev n_credit : List Str := ["lines", "short", "need"]
abbrev p_credit : List Str := ["lines", "short", "need"]
abbrev a_credit : Str × Option Str := ("credit", none)
theorem sc_credit : FnScope n_credit p_credit (defScope s_credit) := ⟨rfl, rfl, rfl, by decide +kernel, rfl, by decide +kernel, by decide +kernel⟩
def w_credit (sp_total : DSp) (EE : EXd) : TSd :=
  (sSeq (sJoin (sIf (tBl (eOp (opEq false) (eVar 1) (eC (.d (.int 0))))) (sRet (eCB (opList true) (aCons (eVar 0) aNil))) sNext))
  (sRet (eOp (opAdd true) (eCB (opList false) (aCons (eVar 0) aNil)) (eLst false (aCons (eTup false (aCons (eC (.d (.str "credit"))) (aCons (eC (.d (.int 0))) (aCons (eVar 1) (aCons (eOp opFdiv (eUn opNeg (eOp (opMul false) (eCall EE sp_total (aCons (eVar 0) aNil)) (eVar 1))) (eVar 2)) aNil))))) aNil)))))
theorem der_credit {P : Program} {w : World} {K : PySem.W.Frag} {mg : Str → Option Value} {base : Heap} {T : Addr → Prop} {k l0 : Nat} {f : Addr} (M : Kn K mg) {sp_total : DSp} (D_total : DFn P w K mg base T "total" l0 sp_total) (h0 : l0 ≤ k) : ∀ (cdv : Value), cdv = .ref (He.cT K a_credit).1 → ∀ (A : Around) (outer : List Env) (s : Shared) (H : Hp) (E : XK) (EE : EXd), XO ⟨T, fun c d _ H => E c d H, EE⟩ (cxD P w K mg base n_credit "credit" s_credit f cdv A outer s H E) k →
    ∃ t, DSs ⟨T, fun c d _ H => E c d H, EE⟩ (cxD P w K mg base n_credit "credit" s_credit f cdv A outer s H E) (defBody s_credit) t (w_credit sp_total EE) := fun cdv hc A outer s H E EE xo =>
  have B := M.b
  ⟨_, (ss_cons (s_join (s_if (t_eq xo.room (d_var 1) d_int) (ss_one (s_ret (d_list true B.n_list (a_cons (d_var 0) a_nil)))) ss_nil))
  (ss_one (s_ret (d_add true (d_list false B.n_list (a_cons (d_var 0) a_nil)) (d_lst false (a_cons (d_tup false (a_cons d_str (a_cons d_int (a_cons (d_var 1) (a_cons (d_fdiv (d_neg (d_mul false (d_call D_total xo h0 (a_cons (d_var 0) a_nil)) (d_var 1))) (d_var 2)) a_nil))))) a_nil))))))⟩
abbrev s_law_tariff : Stmt := (topS 14)
abbrev n_law_tariff : List Str := ["state", "script", "entries", "k", "kind", "first", "last", "price", "step", "least", "most", "taxes"]
abbrev p_law_tariff : List Str := ["state", "script"]
abbrev a_law_tariff : Str × Option Str := ("_law_tariff", none)
theorem sc_law_tariff : FnScope n_law_tariff p_law_tariff (defScope s_law_tariff) := ⟨rfl, rfl, rfl, by decide +kernel, rfl, by decide +kernel, by decide +kernel⟩
def w_law_tariff (sp_law_draw : DSp) (EE : EXd) : TSd :=
  (sSeq (sAsg (eLst true aNil) (uName 2))
  (sSeq (sFor (iRngD1 (aCons (eOp opIx (eLst false (aCons (eC (.d (.int 1))) (aCons (eC (.d (.int 3))) (aCons (eC (.d (.int 6))) (aCons (eC (.d (.int 12))) (aCons (eOp (opAdd false) (eC (.d (.int 1))) (eCall EE sp_law_draw (aCons (eVar 0) (aCons (eVar 1) (aCons (eC (.d (.int 12))) aNil))))) aNil)))))) (eCall EE sp_law_draw (aCons (eVar 0) (aCons (eVar 1) (aCons (eC (.d (.int 5))) aNil))))) aNil)) (uName 3)
  (sSeq (sAsg (eOp opIx (eLst false (aCons (eC (.d (.str "start"))) (aCons (eC (.d (.str "unit"))) (aCons (eC (.d (.str "tick"))) (aCons (eC (.d (.str "blocked"))) (aCons (eC (.d (.str "unit"))) (aCons (eC (.d (.str "tick"))) aNil))))))) (eCall EE sp_law_draw (aCons (eVar 0) (aCons (eVar 1) (aCons (eC (.d (.int 6))) aNil))))) (uName 4))
  (sSeq (sAsg (eOp opIx (eLst false (aCons (eC (.d (.int 0))) (aCons (eC (.d (.int 0))) (aCons (eCall EE sp_law_draw (aCons (eVar 0) (aCons (eVar 1) (aCons (eC (.d (.int 24))) aNil)))) (aCons (eC (.d (.int 23))) aNil))))) (eCall EE sp_law_draw (aCons (eVar 0) (aCons (eVar 1) (aCons (eC (.d (.int 4))) aNil))))) (uName 5))
  (sSeq (sAsg (eOp opIx (eLst false (aCons (eC (.d (.int 24))) (aCons (eVar 5) (aCons (eCall EE sp_law_draw (aCons (eVar 0) (aCons (eVar 1) (aCons (eC (.d (.int 25))) aNil)))) (aCons (eC (.d (.int 0))) aNil))))) (eCall EE sp_law_draw (aCons (eVar 0) (aCons (eVar 1) (aCons (eC (.d (.int 4))) aNil))))) (uName 6))
  (sSeq (sAsg (eOp opIx (eLst false (aCons (eCall EE sp_law_draw (aCons (eVar 0) (aCons (eVar 1) (aCons (eC (.d (.int 100))) aNil)))) (aCons (eCall EE sp_law_draw (aCons (eVar 0) (aCons (eVar 1) (aCons (eC (.d (.int 10000))) aNil)))) (aCons (eC (.d (.int 0))) (aCons (eC (.d (.int 9999))) aNil))))) (eCall EE sp_law_draw (aCons (eVar 0) (aCons (eVar 1) (aCons (eC (.d (.int 4))) aNil))))) (uName 7))
  (sSeq (sAsg (eIf (tBl (eOp (opEq false) (eVar 4) (eC (.d (.str "start"))))) (eC (.d (.int 1))) (eOp opIx (eLst false (aCons (eC (.d (.int 1))) (aCons (eC (.d (.int 20))) (aCons (eOp (opAdd false) (eC (.d (.int 1))) (eCall EE sp_law_draw (aCons (eVar 0) (aCons (eVar 1) (aCons (eC (.d (.int 20))) aNil))))) (aCons (eOp (opAdd false) (eC (.d (.int 1))) (eCall EE sp_law_draw (aCons (eVar 0) (aCons (eVar 1) (aCons (eC (.d (.int 5))) aNil))))) aNil))))) (eCall EE sp_law_draw (aCons (eVar 0) (aCons (eVar 1) (aCons (eC (.d (.int 4))) aNil)))))) (uName 8))
  (sDrop (eM opAppend (eVar 2) (aCons (eTup false (aCons (eVar 4) (aCons (eVar 5) (aCons (eVar 6) (aCons (eVar 7) (aCons (eVar 8) aNil)))))) aNil)))))))))
  (sSeq (sAsg (eOp opIx (eLst false (aCons (eC (.d (.int 0))) (aCons (eC (.d (.int 0))) (aCons (eCall EE sp_law_draw (aCons (eVar 0) (aCons (eVar 1) (aCons (eC (.d (.int 500))) aNil)))) (aCons (eCall EE sp_law_draw (aCons (eVar 0) (aCons (eVar 1) (aCons (eC (.d (.int 20000))) aNil)))) aNil))))) (eCall EE sp_law_draw (aCons (eVar 0) (aCons (eVar 1) (aCons (eC (.d (.int 4))) aNil))))) (uName 9))
  (sSeq (sAsg (eOp (opAdd false) (eVar 9) (eOp opIx (eLst false (aCons (eOp opSub (eC (.d (.int 999999))) (eVar 9)) (aCons (eCall EE sp_law_draw (aCons (eVar 0) (aCons (eVar 1) (aCons (eC (.d (.int 5000))) aNil)))) (aCons (eC (.d (.int 0))) (aCons (eCall EE sp_law_draw (aCons (eVar 0) (aCons (eVar 1) (aCons (eC (.d (.int 900000))) aNil)))) aNil))))) (eCall EE sp_law_draw (aCons (eVar 0) (aCons (eVar 1) (aCons (eC (.d (.int 4))) aNil)))))) (uName 10))
  (sSeq (sAsg (eCB (opTuple false) (aCons (eLc false (iRngD1 (aCons (eCall EE sp_law_draw (aCons (eVar 0) (aCons (eVar 1) (aCons (eC (.d (.int 4))) aNil)))) aNil)) (uName 3) tYesD (eOp opIx (eLst false (aCons (eC (.d (.int 200))) (aCons (eCall EE0 sp_law_draw (aCons (eVar 0) (aCons (eVar 1) (aCons (eC (.d (.int 1000))) aNil)))) (aCons (eC (.d (.int 0))) (aCons (eC (.d (.int 999))) aNil))))) (eCall EE0 sp_law_draw (aCons (eVar 0) (aCons (eVar 1) (aCons (eC (.d (.int 4))) aNil))))) [3]) aNil)) (uName 11))
  (sRet (eTup false (aCons (eCB (opTuple false) (aCons (eVar 2) aNil)) (aCons (eVar 9) (aCons (eCB opMin (aCons (eC (.d (.int 999999))) (aCons (eVar 10) aNil))) (aCons (eVar 11) aNil)))))))))))
theorem der_law_tariff {P : Program} {w : World} {K : PySem.W.Frag} {mg : Str → Option Value} {base : Heap} {T : Addr → Prop} {k l0 : Nat} {f : Addr} (M : Kn K mg) {sp_law_draw : DSp} (D_law_draw : DFn P w K mg base T "_law_draw" l0 sp_law_draw) (h0 : l0 ≤ k) : ∀ (cdv : Value), cdv = .ref (He.cT K a_law_tariff).1 → ∀ (A : Around) (outer : List Env) (s : Shared) (H : Hp) (E : XK) (EE : EXd), XO ⟨T, fun c d _ H => E c d H, EE⟩ (cxD P w K mg base n_law_tariff "_law_tariff" s_law_tariff f cdv A outer s H E) k →
    ∃ t, DSs ⟨T, fun c d _ H => E c d H, EE⟩ (cxD P w K mg base n_law_tariff "_law_tariff" s_law_tariff f cdv A outer s H E) (defBody s_law_tariff) t (w_law_tariff sp_law_draw EE) := fun cdv hc A outer s H E EE xo =>
  have B := M.b
  ⟨_, (ss_cons (s_set 2 xo.nd (d_lst true a_nil))
  (ss_cons (s_for xo (i_rng1 B.n_range (a_cons (d_ix (d_lst false (a_cons d_int (a_cons d_int (a_cons d_int (a_cons d_int (a_cons (d_add false d_int (d_call D_law_draw xo h0 (a_cons (d_var 0) (a_cons (d_var 1) (a_cons d_int a_nil))))) a_nil)))))) (d_call D_law_draw xo h0 (a_cons (d_var 0) (a_cons (d_var 1) (a_cons d_int a_nil))))) a_nil)) (g_name 3 xo.nd)
  (ss_cons (s_set 4 xo.nd (d_ix (d_lst false (a_cons d_str (a_cons d_str (a_cons d_str (a_cons d_str (a_cons d_str (a_cons d_str a_nil))))))) (d_call D_law_draw xo h0 (a_cons (d_var 0) (a_cons (d_var 1) (a_cons d_int a_nil))))))
  (ss_cons (s_set 5 xo.nd (d_ix (d_lst false (a_cons d_int (a_cons d_int (a_cons (d_call D_law_draw xo h0 (a_cons (d_var 0) (a_cons (d_var 1) (a_cons d_int a_nil)))) (a_cons d_int a_nil))))) (d_call D_law_draw xo h0 (a_cons (d_var 0) (a_cons (d_var 1) (a_cons d_int a_nil))))))
  (ss_cons (s_set 6 xo.nd (d_ix (d_lst false (a_cons d_int (a_cons (d_var 5) (a_cons (d_call D_law_draw xo h0 (a_cons (d_var 0) (a_cons (d_var 1) (a_cons d_int a_nil)))) (a_cons d_int a_nil))))) (d_call D_law_draw xo h0 (a_cons (d_var 0) (a_cons (d_var 1) (a_cons d_int a_nil))))))
  (ss_cons (s_set 7 xo.nd (d_ix (d_lst false (a_cons (d_call D_law_draw xo h0 (a_cons (d_var 0) (a_cons (d_var 1) (a_cons d_int a_nil)))) (a_cons (d_call D_law_draw xo h0 (a_cons (d_var 0) (a_cons (d_var 1) (a_cons d_int a_nil)))) (a_cons d_int (a_cons d_int a_nil))))) (d_call D_law_draw xo h0 (a_cons (d_var 0) (a_cons (d_var 1) (a_cons d_int a_nil))))))
  (ss_cons (s_set 8 xo.nd (d_if (t_eq xo.room (d_var 4) d_str) d_int (d_ix (d_lst false (a_cons d_int (a_cons d_int (a_cons (d_add false d_int (d_call D_law_draw xo h0 (a_cons (d_var 0) (a_cons (d_var 1) (a_cons d_int a_nil))))) (a_cons (d_add false d_int (d_call D_law_draw xo h0 (a_cons (d_var 0) (a_cons (d_var 1) (a_cons d_int a_nil))))) a_nil))))) (d_call D_law_draw xo h0 (a_cons (d_var 0) (a_cons (d_var 1) (a_cons d_int a_nil)))))))
  (ss_one (s_expr (d_append (d_var 2) (a_cons (d_tup false (a_cons (d_var 4) (a_cons (d_var 5) (a_cons (d_var 6) (a_cons (d_var 7) (a_cons (d_var 8) a_nil)))))) a_nil))))))))))
  (ss_cons (s_set 9 xo.nd (d_ix (d_lst false (a_cons d_int (a_cons d_int (a_cons (d_call D_law_draw xo h0 (a_cons (d_var 0) (a_cons (d_var 1) (a_cons d_int a_nil)))) (a_cons (d_call D_law_draw xo h0 (a_cons (d_var 0) (a_cons (d_var 1) (a_cons d_int a_nil)))) a_nil))))) (d_call D_law_draw xo h0 (a_cons (d_var 0) (a_cons (d_var 1) (a_cons d_int a_nil))))))
  (ss_cons (s_set 10 xo.nd (d_add false (d_var 9) (d_ix (d_lst false (a_cons (d_sub d_int (d_var 9)) (a_cons (d_call D_law_draw xo h0 (a_cons (d_var 0) (a_cons (d_var 1) (a_cons d_int a_nil)))) (a_cons d_int (a_cons (d_call D_law_draw xo h0 (a_cons (d_var 0) (a_cons (d_var 1) (a_cons d_int a_nil)))) a_nil))))) (d_call D_law_draw xo h0 (a_cons (d_var 0) (a_cons (d_var 1) (a_cons d_int a_nil)))))))
  (ss_cons (s_set 11 xo.nd (d_tuple false B.n_tuple (a_cons (d_lcE (own := [("k", 3)]) false xo (i_rng1 B.n_range (a_cons (d_call D_law_draw xo h0 (a_cons (d_var 0) (a_cons (d_var 1) (a_cons d_int a_nil)))) a_nil)) (blkOk_by (N := n_law_tariff) (sc := defScope s_law_tariff) (by decide +kernel)) (fun s1 H1 C1 c1 f1 => by exact ⟨_, (g_name 3 (xo.in_ s1 H1 C1 c1 f1).nd), (go_name)⟩) (fun s1 H1 C1 c1 f1 => by exact ⟨_, ts_nil⟩) (fun s1 H1 C1 c1 f1 => by exact ⟨_, (d_ix (d_lst false (a_cons d_int (a_cons (d_call D_law_draw (xo.in_ s1 H1 C1 c1 f1) h0 (a_cons (d_var 0) (a_cons (d_var 1) (a_cons d_int a_nil)))) (a_cons d_int (a_cons d_int a_nil))))) (d_call D_law_draw (xo.in_ s1 H1 C1 c1 f1) h0 (a_cons (d_var 0) (a_cons (d_var 1) (a_cons d_int a_nil)))))⟩)) a_nil)))
  (ss_one (s_ret (d_tup false (a_cons (d_tuple false B.n_tuple (a_cons (d_var 2) a_nil)) (a_cons (d_var 9) (a_cons (d_min xo.calm B.n_min (a_cons d_int (a_cons (d_var 10) a_nil))) (a_cons (d_var 11) a_nil))))))))))))⟩
abbrev s_law_course : Stmt := (topS 15)
abbrev n_law_course : List Str := ["state", "script", "begin", "draws", "k"]
abbrev p_law_course : List Str := ["state", "script", "begin"]
abbrev a_law_course : Str × Option Str := ("_law_course", none)
theorem sc_law_course : FnScope n_law_course p_law_course (defScope s_law_course) := ⟨rfl, rfl, rfl, by decide +kernel, rfl, by decide +kernel, by decide +kernel⟩
def w_law_course (sp_law_draw : DSp) (EE : EXd) : TSd :=
  (sSeq (sAsg (eLst true aNil) (uName 3))
  (sSeq (sFor (iRngD1 (aCons (eOp opIx (eLst false (aCons (eC (.d (.int 0))) (aCons (eC (.d (.int 1))) (aCons (eC (.d (.int 30))) (aCons (eC (.d (.int 96))) (aCons (eCall EE sp_law_draw (aCons (eVar 0) (aCons (eVar 1) (aCons (eC (.d (.int 97))) aNil)))) aNil)))))) (eCall EE sp_law_draw (aCons (eVar 0) (aCons (eVar 1) (aCons (eC (.d (.int 5))) aNil))))) aNil)) (uName 4)
  (sDrop (eM opAppend (eVar 3) (aCons (eOp opIx (eLst false (aCons (eC (.d (.int 0))) (aCons (eC (.d (.int 0))) (aCons (eCall EE sp_law_draw (aCons (eVar 0) (aCons (eVar 1) (aCons (eC (.d (.int 100))) aNil)))) (aCons (eOp (opAdd false) (eC (.d (.int 1))) (eCall EE sp_law_draw (aCons (eVar 0) (aCons (eVar 1) (aCons (eC (.d (.int 6))) aNil))))) aNil))))) (eCall EE sp_law_draw (aCons (eVar 0) (aCons (eVar 1) (aCons (eC (.d (.int 4))) aNil))))) aNil))))
  (sSeq (sFor (iRngD1 (aCons (eCB opMin (aCons (eCB opLen (aCons (eVar 3) aNil)) (aCons (eOp opIx (eLst false (aCons (eC (.d (.int 0))) (aCons (eC (.d (.int 3))) (aCons (eC (.d (.int 10))) (aCons (eC (.d (.int 96))) (aCons (eCall EE sp_law_draw (aCons (eVar 0) (aCons (eVar 1) (aCons (eC (.d (.int 40))) aNil)))) aNil)))))) (eCall EE sp_law_draw (aCons (eVar 0) (aCons (eVar 1) (aCons (eC (.d (.int 5))) aNil))))) aNil))) aNil)) (uName 4)
  (sAsg (eC (.d (.int 0))) (uSubL (eVar 3) (eOp opSub (eOp opSub (eCB opLen (aCons (eVar 3) aNil)) (eC (.d (.int 1)))) (eVar 4)))))
  (sRet (eTup false (aCons (eVar 2) (aCons (eFz (eVar 3)) (aCons (eOp opIx (eLst false (aCons (eC (.d (.int 0))) (aCons (eC (.d (.int 1))) (aCons (eCall EE sp_law_draw (aCons (eVar 0) (aCons (eVar 1) (aCons (eC (.d (.int 12))) aNil)))) (aCons (eC (.d (.int 96))) aNil))))) (eCall EE sp_law_draw (aCons (eVar 0) (aCons (eVar 1) (aCons (eC (.d (.int 4))) aNil))))) aNil))))))))
theorem der_law_course {P : Program} {w : World} {K : PySem.W.Frag} {mg : Str → Option Value} {base : Heap} {T : Addr → Prop} {k l0 : Nat} {f : Addr} (M : Kn K mg) {sp_law_draw : DSp} (D_law_draw : DFn P w K mg base T "_law_draw" l0 sp_law_draw) (h0 : l0 ≤ k) : ∀ (cdv : Value), cdv = .ref (He.cT K a_law_course).1 → ∀ (A : Around) (outer : List Env) (s : Shared) (H : Hp) (E : XK) (EE : EXd), XO ⟨T, fun c d _ H => E c d H, EE⟩ (cxD P w K mg base n_law_course "_law_course" s_law_course f cdv A outer s H E) k →
    ∃ t, DSs ⟨T, fun c d _ H => E c d H, EE⟩ (cxD P w K mg base n_law_course "_law_course" s_law_course f cdv A outer s H E) (defBody s_law_course) t (w_law_course sp_law_draw EE) := fun cdv hc A outer s H E EE xo =>
  have B := M.b
  ⟨_, (ss_cons (s_set 3 xo.nd (d_lst true a_nil))
  (ss_cons (s_for xo (i_rng1 B.n_range (a_cons (d_ix (d_lst false (a_cons d_int (a_cons d_int (a_cons d_int (a_cons d_int (a_cons (d_call D_law_draw xo h0 (a_cons (d_var 0) (a_cons (d_var 1) (a_cons d_int a_nil)))) a_nil)))))) (d_call D_law_draw xo h0 (a_cons (d_var 0) (a_cons (d_var 1) (a_cons d_int a_nil))))) a_nil)) (g_name 4 xo.nd)
  (ss_one (s_expr (d_append (d_var 3) (a_cons (d_ix (d_lst false (a_cons d_int (a_cons d_int (a_cons (d_call D_law_draw xo h0 (a_cons (d_var 0) (a_cons (d_var 1) (a_cons d_int a_nil)))) (a_cons (d_add false d_int (d_call D_law_draw xo h0 (a_cons (d_var 0) (a_cons (d_var 1) (a_cons d_int a_nil))))) a_nil))))) (d_call D_law_draw xo h0 (a_cons (d_var 0) (a_cons (d_var 1) (a_cons d_int a_nil))))) a_nil)))))
  (ss_cons (s_for xo (i_rng1 B.n_range (a_cons (d_min xo.calm B.n_min (a_cons (d_len B.n_len (a_cons (d_var 3) a_nil)) (a_cons (d_ix (d_lst false (a_cons d_int (a_cons d_int (a_cons d_int (a_cons d_int (a_cons (d_call D_law_draw xo h0 (a_cons (d_var 0) (a_cons (d_var 1) (a_cons d_int a_nil)))) a_nil)))))) (d_call D_law_draw xo h0 (a_cons (d_var 0) (a_cons (d_var 1) (a_cons d_int a_nil))))) a_nil))) a_nil)) (g_name 4 xo.nd)
  (ss_one (s_asg d_int (g_sub (d_var 3) (d_sub (d_sub (d_len B.n_len (a_cons (d_var 3) a_nil)) d_int) (d_var 4))))))
  (ss_one (s_ret (d_tup false (a_cons (d_var 2) (a_cons (d_fz (d_var 3)) (a_cons (d_ix (d_lst false (a_cons d_int (a_cons d_int (a_cons (d_call D_law_draw xo h0 (a_cons (d_var 0) (a_cons (d_var 1) (a_cons d_int a_nil)))) (a_cons d_int a_nil))))) (d_call D_law_draw xo h0 (a_cons (d_var 0) (a_cons (d_var 1) (a_cons d_int a_nil))))) a_nil)))))))))⟩
abbrev s_law : Stmt := (topS 16)
abbrev n_law : List Str := ["script", "state", "tariff", "k", "coins", "many", "weights", "given", "told", "whole", "j", "extra", "i", "rest", "other", "course", "lines", "kept", "need", "short", "more", "sum_now", "back", "due", "one"]
abbrev p_law : List Str := ["script"]
abbrev a_law : Str × Option Str := ("law", none)
theorem sc_law : FnScope n_law p_law (defScope s_law) := ⟨rfl, rfl, rfl, by decide +kernel, rfl, by decide +kernel, by decide +kernel⟩
def w_law (sp_law_tariff : DSp) (sp_law_draw : DSp) (sp_share : DSp) (sp_law_course : DSp) (sp_bill : DSp) (sp_credit : DSp) (sp_law_exact : DSp) (sp_total : DSp) (EE : EXd) : TSd :=
  (sSeq (sAsg (eLst true (aCons (eC (.d (.int 0))) (aCons (eC (.d (.int 0))) aNil))) (uName 1))
  (sSeq (sAsg (eCall EE sp_law_tariff (aCons (eVar 1) (aCons (eVar 0) aNil))) (uName 2))
  (sSeq (sFor (iRngD1 (aCons (eC (.d (.int 4))) aNil)) (uName 3)
  (sSeq (sAsg (eOp opIx (eLst false (aCons (eCall EE sp_law_draw (aCons (eVar 1) (aCons (eVar 0) (aCons (eC (.d (.int 30))) aNil)))) (aCons (eCall EE sp_law_draw (aCons (eVar 1) (aCons (eVar 0) (aCons (eC (.d (.int 1000))) aNil)))) (aCons (eCall EE sp_law_draw (aCons (eVar 1) (aCons (eVar 0) (aCons (eOp opPow (eC (.d (.int 10))) (eC (.d (.int 9)))) aNil)))) (aCons (eC (.d (.int 999999999))) aNil))))) (eCall EE sp_law_draw (aCons (eVar 1) (aCons (eVar 0) (aCons (eC (.d (.int 4))) aNil))))) (uName 4))
  (sSeq (sAsg (eOp (opAdd false) (eC (.d (.int 1))) (eCall EE sp_law_draw (aCons (eVar 1) (aCons (eVar 0) (aCons (eC (.d (.int 8))) aNil))))) (uName 5))
  (sSeq (sAsg (eLc true (iRngD1 (aCons (eVar 5) aNil)) (uName 10) tYesD (eOp opIx (eLst false (aCons (eC (.d (.int 0))) (aCons (eC (.d (.int 1))) (aCons (eC (.d (.int 99))) (aCons (eCall EE0 sp_law_draw (aCons (eVar 1) (aCons (eVar 0) (aCons (eC (.d (.int 100))) aNil)))) (aCons (eOp (opAdd false) (eC (.d (.int 1))) (eCall EE0 sp_law_draw (aCons (eVar 1) (aCons (eVar 0) (aCons (eC (.d (.int 3))) aNil))))) aNil)))))) (eCall EE0 sp_law_draw (aCons (eVar 1) (aCons (eVar 0) (aCons (eC (.d (.int 5))) aNil))))) [10]) (uName 6))
  (sSeq (sJoin (sIf (tBl (eOp (opEq false) (eCB opSum (aCons (eVar 6) aNil)) (eC (.d (.int 0))))) (sAsg (eOp (opAdd false) (eC (.d (.int 1))) (eCall EE sp_law_draw (aCons (eVar 1) (aCons (eVar 0) (aCons (eC (.d (.int 99))) aNil))))) (uSubL (eVar 6) (eCall EE sp_law_draw (aCons (eVar 1) (aCons (eVar 0) (aCons (eVar 5) aNil)))))) sNext))
  (sSeq (sAsg (eCB (opList false) (aCons (eVar 6) aNil)) (uName 7))
  (sSeq (sAsg (eCall EE sp_share (aCons (eVar 4) (aCons (eVar 7) aNil))) (uName 8))
  (sSeq (sAsg (eCB opSum (aCons (eVar 6) aNil)) (uName 9))
  (sSeq (sJoin (sIf (tOrD (tNotD (tTru (eCB opIsi (aCons (eVar 8) (aCons (eC (.ty "list")) aNil))))) (tOrD (tBl (eOp (opEq true) (eCB opLen (aCons (eVar 8) aNil)) (eVar 5))) (tNotD (tTru (eCB opAll (aCons (eLc false (iSeqD (eVar 8)) (uName 24) tYesD (eAnd (eCB opIsi (aCons (eVar 24) (aCons (eC (.ty "int")) aNil))) (eUn opNot (eCB opIsi (aCons (eVar 24) (aCons (eC (.ty "bool")) aNil))))) [24]) aNil)))))) (sRet (eC (.d (.bool false)))) sNext))
  (sSeq (sJoin (sIf (tOrD (tBl (eOp (opEq true) (eCB opSum (aCons (eVar 8) aNil)) (eVar 4))) (tBl (eOp (opEq true) (eVar 7) (eVar 6)))) (sRet (eC (.d (.bool false)))) sNext))
  (sSeq (sFor (iRngD1 (aCons (eVar 5) aNil)) (uName 10)
  (sSeq (sAsg (eOp opSub (eOp opIx (eVar 8) (eVar 10)) (eOp opFdiv (eOp (opMul false) (eVar 4) (eOp opIx (eVar 6) (eVar 10))) (eVar 9))) (uName 11))
  (sSeq (sJoin (sIf (tBl (eOp (opIn true) (eVar 11) (eTup false (aCons (eC (.d (.int 0))) (aCons (eC (.d (.int 1))) aNil))))) (sRet (eC (.d (.bool false)))) sNext))
  (sFor (iRngD1 (aCons (eVar 5) aNil)) (uName 12)
  (sSeq (sPar 13 14 (aCons (eOp opMod (eOp (opMul false) (eVar 4) (eOp opIx (eVar 6) (eVar 10))) (eVar 9)) (aCons (eOp opMod (eOp (opMul false) (eVar 4) (eOp opIx (eVar 6) (eVar 12))) (eVar 9)) aNil)))
  (sIf (tAndD (tBl (eOp (opEq false) (eVar 11) (eC (.d (.int 0))))) (tAndD (tBl (eOp (opEq false) (eOp opSub (eOp opIx (eVar 8) (eVar 12)) (eOp opFdiv (eOp (opMul false) (eVar 4) (eOp opIx (eVar 6) (eVar 12))) (eVar 9))) (eC (.d (.int 1))))) (tOrD (tBl (eOp opGt (eVar 13) (eVar 14))) (tAndD (tBl (eOp (opEq false) (eVar 13) (eVar 14))) (tBl (eOp opLt (eVar 10) (eVar 12))))))) (sRet (eC (.d (.bool false)))) sNext))))))
  (sSeq (sAsg (eCall EE sp_law_course (aCons (eVar 1) (aCons (eVar 0) (aCons (eCall EE sp_law_draw (aCons (eVar 1) (aCons (eVar 0) (aCons (eC (.d (.int 100))) aNil)))) aNil)))) (uName 15))
  (sSeq (sAsg (eCall EE sp_bill (aCons (eVar 2) (aCons (eVar 15) aNil))) (uName 16))
  (sSeq (sAsg (eCB (opList false) (aCons (eVar 16) aNil)) (uName 17))
  (sSeq (sAsg (eOp opIx (eLst false (aCons (eC (.d (.int 1))) (aCons (eOp (opAdd false) (eC (.d (.int 1))) (eCall EE sp_law_draw (aCons (eVar 1) (aCons (eVar 0) (aCons (eC (.d (.int 999))) aNil))))) (aCons (eOp (opAdd false) (eC (.d (.int 1))) (eCall EE sp_law_draw (aCons (eVar 1) (aCons (eVar 0) (aCons (eC (.d (.int 20))) aNil))))) aNil)))) (eCall EE sp_law_draw (aCons (eVar 1) (aCons (eVar 0) (aCons (eC (.d (.int 3))) aNil))))) (uName 18))
  (sFor (iSeqD (eLst false (aCons (eC (.d (.int 0))) (aCons (eVar 18) (aCons (eCall EE sp_law_draw (aCons (eVar 1) (aCons (eVar 0) (aCons (eOp (opAdd false) (eVar 18) (eC (.d (.int 1)))) aNil)))) aNil))))) (uName 19)
  (sSeq (sAsg (eCall EE sp_credit (aCons (eVar 16) (aCons (eVar 19) (aCons (eVar 18) aNil)))) (uName 20))
  (sSeq (sAsg (eCB opSum (aCons (eLc false (iSeqD (eVar 17)) (uName 24) tYesD (eOp opIx (eVar 24) (eC (.d (.int 3)))) [24]) aNil)) (uName 21))
  (sSeq (sAsg (eOp opFdiv (eOp opSub (eOp (opAdd false) (eOp (opMul false) (eVar 21) (eVar 19)) (eVar 18)) (eC (.d (.int 1)))) (eVar 18)) (uName 22))
  (sSeq (sAsg (eIf (tBl (eOp opGt (eVar 19) (eC (.d (.int 0))))) (eOp (opAdd false) (eVar 17) (eLst false (aCons (eTup false (aCons (eC (.d (.str "credit"))) (aCons (eC (.d (.int 0))) (aCons (eVar 19) (aCons (eUn opNeg (eVar 22)) aNil))))) aNil))) (eVar 17)) (uName 23))
  (sSeq (sJoin (sIf (tOrD (tNotD (tTru (eCall EE sp_law_exact (aCons (eVar 23) (aCons (eVar 20) aNil))))) (tOrD (tBl (eOp (opEq true) (eVar 16) (eVar 17))) (tNotD (tTru (eCall EE sp_law_exact (aCons (eOp opSub (eVar 21) (eVar 22)) (aCons (eCall EE sp_total (aCons (eVar 20) aNil)) aNil))))))) (sRet (eC (.d (.bool false)))) sNext))
  (sSeq (sDrop (eM opAppend (eVar 20) (aCons (eTup false (aCons (eC (.d (.str "late"))) (aCons (eC (.d (.int 0))) (aCons (eC (.d (.int 0))) (aCons (eC (.d (.int 0))) aNil))))) aNil)))
  (sIf (tBl (eOp (opEq true) (eVar 16) (eVar 17))) (sRet (eC (.d (.bool false)))) sNext)))))))))))))))))))))))
  (sRet (eC (.d (.bool true)))))))
theorem der_law {P : Program} {w : World} {K : PySem.W.Frag} {mg : Str → Option Value} {base : Heap} {T : Addr → Prop} {k l0 l1 l2 l3 l4 l5 l6 l7 : Nat} {f : Addr} (M : Kn K mg) {sp_law_tariff : DSp} {sp_law_draw : DSp} {sp_share : DSp} {sp_law_course : DSp} {sp_bill : DSp} {sp_credit : DSp} {sp_law_exact : DSp} {sp_total : DSp} (D_law_tariff : DFn P w K mg base T "_law_tariff" l0 sp_law_tariff) (D_law_draw : DFn P w K mg base T "_law_draw" l1 sp_law_draw) (D_share : DFn P w K mg base T "share" l2 sp_share) (D_law_course : DFn P w K mg base T "_law_course" l3 sp_law_course) (D_bill : DFn P w K mg base T "bill" l4 sp_bill) (D_credit : DFn P w K mg base T "credit" l5 sp_credit) (D_law_exact : DFn P w K mg base T "_law_exact" l6 sp_law_exact) (D_total : DFn P w K mg base T "total" l7 sp_total) (h0 : l0 ≤ k) (h1 : l1 ≤ k) (h2 : l2 ≤ k) (h3 : l3 ≤ k) (h4 : l4 ≤ k) (h5 : l5 ≤ k) (h6 : l6 ≤ k) (h7 : l7 ≤ k) : ∀ (cdv : Value), cdv = .ref (He.cT K a_law).1 → ∀ (A : Around) (outer : List Env) (s : Shared) (H : Hp) (E : XK) (EE : EXd), XO ⟨T, fun c d _ H => E c d H, EE⟩ (cxD P w K mg base n_law "law" s_law f cdv A outer s H E) k →
    ∃ t, DSs ⟨T, fun c d _ H => E c d H, EE⟩ (cxD P w K mg base n_law "law" s_law f cdv A outer s H E) (defBody s_law) t (w_law sp_law_tariff sp_law_draw sp_share sp_law_course sp_bill sp_credit sp_law_exact sp_total EE) := fun cdv hc A outer s H E EE xo =>
  have B := M.b
  ⟨_, (ss_cons (s_set 1 xo.nd (d_lst true (a_cons d_int (a_cons d_int a_nil))))
  (ss_cons (s_set 2 xo.nd (d_call D_law_tariff xo h0 (a_cons (d_var 1) (a_cons (d_var 0) a_nil))))
  (ss_cons (s_for xo (i_rng1 B.n_range (a_cons d_int a_nil)) (g_name 3 xo.nd)
  (ss_cons (s_set 4 xo.nd (d_ix (d_lst false (a_cons (d_call D_law_draw xo h1 (a_cons (d_var 1) (a_cons (d_var 0) (a_cons d_int a_nil)))) (a_cons (d_call D_law_draw xo h1 (a_cons (d_var 1) (a_cons (d_var 0) (a_cons d_int a_nil)))) (a_cons (d_call D_law_draw xo h1 (a_cons (d_var 1) (a_cons (d_var 0) (a_cons (d_pow d_int d_int) a_nil)))) (a_cons d_int a_nil))))) (d_call D_law_draw xo h1 (a_cons (d_var 1) (a_cons (d_var 0) (a_cons d_int a_nil))))))
  (ss_cons (s_set 5 xo.nd (d_add false d_int (d_call D_law_draw xo h1 (a_cons (d_var 1) (a_cons (d_var 0) (a_cons d_int a_nil))))))
  (ss_cons (s_setLcE 6 (own := [("j", 10)]) true xo (i_rng1 B.n_range (a_cons (d_var 5) a_nil)) (blkOk_by (N := n_law) (sc := defScope s_law) (by decide +kernel)) (fun s1 H1 C1 c1 f1 => by exact ⟨_, (g_name 10 (xo.in_ s1 H1 C1 c1 f1).nd), (go_name)⟩) (fun s1 H1 C1 c1 f1 => by exact ⟨_, ts_nil⟩) (fun s1 H1 C1 c1 f1 => by exact ⟨_, (d_ix (d_lst false (a_cons d_int (a_cons d_int (a_cons d_int (a_cons (d_call D_law_draw (xo.in_ s1 H1 C1 c1 f1) h1 (a_cons (d_var 1) (a_cons (d_var 0) (a_cons d_int a_nil)))) (a_cons (d_add false d_int (d_call D_law_draw (xo.in_ s1 H1 C1 c1 f1) h1 (a_cons (d_var 1) (a_cons (d_var 0) (a_cons d_int a_nil))))) a_nil)))))) (d_call D_law_draw (xo.in_ s1 H1 C1 c1 f1) h1 (a_cons (d_var 1) (a_cons (d_var 0) (a_cons d_int a_nil)))))⟩))
  (ss_cons (s_join (s_if (t_eq xo.room (d_sum xo.calm B.n_sum (a_cons (d_var 6) a_nil)) d_int) (ss_one (s_asg (d_add false d_int (d_call D_law_draw xo h1 (a_cons (d_var 1) (a_cons (d_var 0) (a_cons d_int a_nil))))) (g_sub (d_var 6) (d_call D_law_draw xo h1 (a_cons (d_var 1) (a_cons (d_var 0) (a_cons (d_var 5) a_nil))))))) ss_nil))
  (ss_cons (s_set 7 xo.nd (d_list false B.n_list (a_cons (d_var 6) a_nil)))
  (ss_cons (s_set 8 xo.nd (d_call D_share xo h2 (a_cons (d_var 4) (a_cons (d_var 7) a_nil))))
  (ss_cons (s_set 9 xo.nd (d_sum xo.calm B.n_sum (a_cons (d_var 6) a_nil)))
  (ss_cons (s_join (s_if (t_w (w_or (t_not (t_e (d_isi B.n_isinstance (a_cons (d_var 8) (a_cons (d_ty "list" B.n_list) a_nil))))) (w_or (t_ne xo.room (d_len B.n_len (a_cons (d_var 8) a_nil)) (d_var 5)) (w_or1 (t_not (t_e (d_all xo.calm B.n_all (a_cons (d_lcE (own := [("one", 24)]) false xo (i_seq (d_var 8)) (blkOk_by (N := n_law) (sc := defScope s_law) (by decide +kernel)) (fun s1 H1 C1 c1 f1 => by exact ⟨_, (g_name 24 (xo.in_ s1 H1 C1 c1 f1).nd), (go_name)⟩) (fun s1 H1 C1 c1 f1 => by exact ⟨_, ts_nil⟩) (fun s1 H1 C1 c1 f1 => by exact ⟨_, (d_and (d_isi B.n_isinstance (a_cons (d_var 24) (a_cons (d_ty "int" B.n_int) a_nil))) (d_one (d_not (d_isi B.n_isinstance (a_cons (d_var 24) (a_cons (d_ty "bool" B.n_bool) a_nil))))))⟩)) a_nil)))))))) (ss_one (s_ret d_bl)) ss_nil))
  (ss_cons (s_join (s_if (t_w (w_or (t_ne xo.room (d_sum xo.calm B.n_sum (a_cons (d_var 8) a_nil)) (d_var 4)) (w_or1 (t_ne xo.room (d_var 7) (d_var 6))))) (ss_one (s_ret d_bl)) ss_nil))
  (ss_cons (s_for xo (i_rng1 B.n_range (a_cons (d_var 5) a_nil)) (g_name 10 xo.nd)
  (ss_cons (s_set 11 xo.nd (d_sub (d_ix (d_var 8) (d_var 10)) (d_fdiv (d_mul false (d_var 4) (d_ix (d_var 6) (d_var 10))) (d_var 9))))
  (ss_cons (s_join (s_if (t_notin xo.room (d_var 11) (d_tup false (a_cons d_int (a_cons d_int a_nil)))) (ss_one (s_ret d_bl)) ss_nil))
  (ss_one (s_for xo (i_rng1 B.n_range (a_cons (d_var 5) a_nil)) (g_name 12 xo.nd)
  (ss_cons (s_par 13 14 xo.calm xo.nd (a_cons (d_mod (d_mul false (d_var 4) (d_ix (d_var 6) (d_var 10))) (d_var 9)) (a_cons (d_mod (d_mul false (d_var 4) (d_ix (d_var 6) (d_var 12))) (d_var 9)) a_nil)))
  (ss_one (s_if (t_w (w_and (t_eq xo.room (d_var 11) d_int) (w_and (t_eq xo.room (d_sub (d_ix (d_var 8) (d_var 12)) (d_fdiv (d_mul false (d_var 4) (d_ix (d_var 6) (d_var 12))) (d_var 9))) d_int) (w_and1 (t_w (w_or (t_gt (d_var 13) (d_var 14)) (w_or1 (t_w (w_and (t_eq xo.room (d_var 13) (d_var 14)) (w_and1 (t_lt (d_var 10) (d_var 12)))))))))))) (ss_one (s_ret d_bl)) ss_nil))))))))
  (ss_cons (s_set 15 xo.nd (d_call D_law_course xo h3 (a_cons (d_var 1) (a_cons (d_var 0) (a_cons (d_call D_law_draw xo h1 (a_cons (d_var 1) (a_cons (d_var 0) (a_cons d_int a_nil)))) a_nil)))))
  (ss_cons (s_set 16 xo.nd (d_call D_bill xo h4 (a_cons (d_var 2) (a_cons (d_var 15) a_nil))))
  (ss_cons (s_set 17 xo.nd (d_list false B.n_list (a_cons (d_var 16) a_nil)))
  (ss_cons (s_set 18 xo.nd (d_ix (d_lst false (a_cons d_int (a_cons (d_add false d_int (d_call D_law_draw xo h1 (a_cons (d_var 1) (a_cons (d_var 0) (a_cons d_int a_nil))))) (a_cons (d_add false d_int (d_call D_law_draw xo h1 (a_cons (d_var 1) (a_cons (d_var 0) (a_cons d_int a_nil))))) a_nil)))) (d_call D_law_draw xo h1 (a_cons (d_var 1) (a_cons (d_var 0) (a_cons d_int a_nil))))))
  (ss_one (s_for xo (i_seq (d_lst false (a_cons d_int (a_cons (d_var 18) (a_cons (d_call D_law_draw xo h1 (a_cons (d_var 1) (a_cons (d_var 0) (a_cons (d_add false (d_var 18) d_int) a_nil)))) a_nil))))) (g_name 19 xo.nd)
  (ss_cons (s_set 20 xo.nd (d_call D_credit xo h5 (a_cons (d_var 16) (a_cons (d_var 19) (a_cons (d_var 18) a_nil)))))
  (ss_cons (s_set 21 xo.nd (d_sum xo.calm B.n_sum (a_cons (d_lcE (own := [("one", 24)]) false xo (i_seq (d_var 17)) (blkOk_by (N := n_law) (sc := defScope s_law) (by decide +kernel)) (fun s1 H1 C1 c1 f1 => by exact ⟨_, (g_name 24 (xo.in_ s1 H1 C1 c1 f1).nd), (go_name)⟩) (fun s1 H1 C1 c1 f1 => by exact ⟨_, ts_nil⟩) (fun s1 H1 C1 c1 f1 => by exact ⟨_, (d_ix (d_var 24) d_int)⟩)) a_nil)))
  (ss_cons (s_set 22 xo.nd (d_fdiv (d_sub (d_add false (d_mul false (d_var 21) (d_var 19)) (d_var 18)) d_int) (d_var 18)))
  (ss_cons (s_set 23 xo.nd (d_if (t_gt (d_var 19) d_int) (d_add false (d_var 17) (d_lst false (a_cons (d_tup false (a_cons d_str (a_cons d_int (a_cons (d_var 19) (a_cons (d_neg (d_var 22)) a_nil))))) a_nil))) (d_var 17)))
  (ss_cons (s_join (s_if (t_w (w_or (t_not (t_e (d_call D_law_exact xo h6 (a_cons (d_var 23) (a_cons (d_var 20) a_nil))))) (w_or (t_ne xo.room (d_var 16) (d_var 17)) (w_or1 (t_not (t_e (d_call D_law_exact xo h6 (a_cons (d_sub (d_var 21) (d_var 22)) (a_cons (d_call D_total xo h7 (a_cons (d_var 20) a_nil)) a_nil))))))))) (ss_one (s_ret d_bl)) ss_nil))
  (ss_cons (s_expr (d_append (d_var 20) (a_cons (d_tup false (a_cons d_str (a_cons d_int (a_cons d_int (a_cons d_int a_nil))))) a_nil)))
  (ss_one (s_if (t_ne xo.room (d_var 16) (d_var 17)) (ss_one (s_ret d_bl)) ss_nil)))))))))))))))))))))))))
  (ss_one (s_ret d_bl)))))⟩
end K84

set_option Elab.async false
set_option linter.all false
set_option maxRecDepth 100000
set_option maxHeartbeats 2000000
namespace K84
open PySem L2 Dl
def sp_law_refill : DSp := fun ds C Q _ => ∃ (ns : List Int) (k : Int), ds = [.scr ns, .d (.int k)] ∧ 0 ≤ k ∧ ∀ n, 0 ≤ n → Q (.d (.int n)) C
theorem c_law_refill : ∀ ds C Q E, sp_law_refill ds C Q E → w_law_refill (exOf E) (endsF Q) (startD n_law_refill ds) C := by
  rintro ds C Q E ⟨ns, k, rfl, hk, h⟩
  refine r_seq ?_
  simp only [RUN, RUV, ENV, n_law_refill]
  refine r_sj (fun γ' C' => ∃ z, γ' = [some (.scr ns), some (.d (.int k)), some (.d (.int z))] ∧ C = C') ?_ ?_
  · simp only [RUN, RUV, ENV, opTru_scr, opLen_scr, opIx_scr]
    cases ns with
    | nil => exact ⟨0, rfl, trivial⟩
    | cons n ns =>
      have hl : (0 : Int) < ((n :: ns).length : Int) := by rw [List.length_cons]; omega
      refine ⟨hl, ?_⟩
      rw [atI_pick (Int.emod_nonneg k (by omega)) (Int.emod_lt_of_pos k hl)]
      exact ⟨_, rfl, trivial⟩
  rintro γ' C' ⟨z, rfl, rfl⟩
  refine r_sj (fun γ' C' => ∃ z, 0 ≤ z ∧ γ' = [some (.scr ns), some (.d (.int k)), some (.d (.int z))] ∧ C = C') ?_ ?_
  · simp only [RUN, RUV, ENV, opMul_ii]
    by_cases hz : z < 0
    · rw [if_pos (by simpa using hz)]
      exact ⟨cmulL (by decide), _, by omega, rfl, trivial⟩
    · rw [if_neg (by simpa using hz)]
      exact ⟨z, by omega, rfl, trivial⟩
  rintro γ' C' ⟨z, hz, rfl, rfl⟩
  refine r_sj (fun γ' C' => γ' = [some (.scr ns), some (.d (.int k)), some (.d (.int z))] ∧ C = C') ?_ ?_
  · simp only [RUN, RUV, ENV, opLen_scr]
    refine ⟨cpow (by decide), ?_⟩
    split
    · split
      · exact r_ret (h _ hz)
      · exact ⟨trivial, trivial⟩
    · exact ⟨trivial, trivial⟩
  rintro γ' C' ⟨rfl, rfl⟩
  simp only [RUN, RUV, ENV, opMul_ii, opAdd_ii, opInt_i]
  exact ⟨cmulR (by decide), cmulR (by decide), cmulR (by decide), by decide, r_ret (h _ (Int.emod_nonneg _ (by decide)))⟩
/-- the state of the draws -/
abbrev stC (s0 s1 : Int) : Cell := .lst [.d (.int s0), .d (.int s1)]
def sp_law_draw : DSp := fun ds C Q _ => ∃ (a : Addr) (ns : List Int) (n s0 s1 : Int), ds = [.own a, .scr ns, .d (.int n)] ∧ (0 < n ∧ n < 1073741824) ∧ C a = some (stC s0 s1) ∧ 0 ≤ s0 ∧ 0 ≤ s1 ∧
  ∀ d t0 t1, 0 ≤ d → d < n → 0 ≤ t0 → 0 ≤ t1 → Q (.d (.int d)) (cup C a (stC t0 t1))
theorem c_law_draw : ∀ ds C Q E, sp_law_draw ds C Q E → w_law_draw sp_law_refill (exOf E) (endsF Q) (startD n_law_draw ds) C := by
  rintro ds C Q E ⟨a, ns, n, s0, s1, rfl, ⟨hn, hn2⟩, hC, h0, h1, h⟩
  have i0 : ixN (0 + 1 + 1) 0 = some 0 := rfl
  have i1 : ixN (0 + 1 + 1) 1 = some 1 := rfl
  refine r_sj (fun γ' C' => ∃ t0 t1, 0 ≤ t0 ∧ 0 ≤ t1 ∧ γ' = [some (.own a), some (.scr ns), some (.d (.int n)), none] ∧ C' = cup C a (stC t0 t1)) ?_ ?_
  · simp only [RUN, RUV, ENV, ATI, n_law_draw, hC, Bool.false_eq_true, if_false]
    split
    · refine r_seq ?_
      simp only [RUN, RUV, ENV, ATI, hC, sp_law_refill]
      refine ⟨ns, s0, rfl, h0, fun m hm => ?_⟩
      simp only [RUN, RUV, ENV, hC, i1, List.set, ATI, i0]
      exact ⟨s0 + 1, m, by omega, hm, trivial, rfl⟩
    · exact ⟨s0, s1, h0, h1, trivial, (cup_self hC).symm⟩
  rintro γ' C' ⟨t0, t1, g0, g1, rfl, rfl⟩
  refine r_seq ?_
  simp only [RUN, RUV, ENV, ATI]
  refine ⟨hn, r_seq ?_⟩
  simp only [RUN, RUV, ENV, ATI, i1, List.set]
  exact ⟨cdiv ⟨hn, hn2⟩, r_ret (h _ _ _ (Int.emod_nonneg _ (by omega)) (Int.emod_lt_of_pos _ hn) g0 (Int.ediv_nonneg g1 (by omega)))⟩
/-! ### _law_exact -/
/-- w stands for x -/
inductive Vw (C : Cm) : W → PyData → Prop
  | d (x : PyData) : Vw C (.d x) x
  | own {a : Addr} {xs : List PyData} : C a = some (.lst (xs.map W.d)) → Vw C (.own a) (.list xs)
theorem Vw.cup {C : Cm} {w : W} {x : PyData} {p : Addr} {c : Cell} (h : Vw C w x) (hp : C p = none) : Vw (cup C p c) w x := by
  cases h with
  | d x => exact .d x
  | own e => exact .own (by rw [cup_ne (fun z => by rw [z, hp] at e; cases e)]; exact e)
theorem Vw.len {C : Cm} {w : W} {xs : List PyData} {Q : WK} (h : Vw C w (.list xs)) : opLen [w] C Q = Q (.d (.int xs.length)) C := by
  cases h with
  | d x => rfl
  | own e => rw [opLen_own e, List.length_map]
theorem Vw.ix {C : Cm} {w : W} {xs : List PyData} {Q : WK} {i : Nat} (h : Vw C w (.list xs)) (hi : i < xs.length) : opIx w (.d (.int (i : Nat))) C Q = Q (.d xs[i]) C := by
  cases h with
  | d x => rw [opIx_l, atI_pick (by omega) (by omega)]; simp
  | own e => rw [opIx_own e, atI_map, atI_pick (by omega) (by omega)]; simp
theorem Vw.ty {C : Cm} {w : W} {xs : List PyData} (h : Vw C w (.list xs)) : tyW C w = some "list" := by
  cases h with
  | d x => rfl
  | own e => simp only [tyW, e]
def szD : Nat → PyData → Prop
  | _, .none => True
  | _, .bool _ => True
  | _, .int _ => True
  | _, .str s => s.length ≤ sizeLine
  | 0, _ => False
  | n + 1, .list xs => xs.length ≤ sizeLine ∧ ∀ x ∈ xs, szD n x
  | n + 1, .tuple xs => xs.length ≤ sizeLine ∧ ∀ x ∈ xs, szD n x
  | _, .dict _ => False
/-- alike things (of depth n) are told to be alike -/
def sp_law_exact : Nat → DSp
  | 0 => fun _ _ _ _ => False
  | n + 1 => fun ds C Q _ => ∃ w1 w2 x, ds = [w1, w2] ∧ Vw C w1 x ∧ Vw C w2 x ∧ szD n x ∧ ∀ C', Sub C C' → Q (.d (.bool true)) C'
theorem sub_cup {C C' : Cm} {p : Addr} {c : Cell} (h : Sub C C') (hp : C' p = none) : Sub C (cup C' p c) := fun b x e => by
  have e1 := h b x e
  rw [cup_ne (fun z => by rw [z, hp] at e1; cases e1)]; exact e1
theorem Vw.sub {C C' : Cm} {w : W} {x : PyData} (h : Vw C w x) (s : Sub C C') : Vw C' w x := by
  cases h with
  | d x => exact .d x
  | own e => exact .own (s _ _ e)
theorem c_law_exact (n : Nat) : ∀ ds C Q E, sp_law_exact (n + 1) ds C Q E → w_law_exact (sp_law_exact n) (exOf E) (endsF Q) (startD n_law_exact ds) C := by
  rintro ds C Q E ⟨w1, w2, x, rfl, v1, v2, hs, h⟩
  have base : ∀ x, Gxp.flatD x = true → szD n x → w1 = .d x → w2 = .d x → w_law_exact (sp_law_exact n) (exOf E) (endsF Q) (startD n_law_exact [w1, w2]) C := by
    rintro x hf hz rfl rfl
    have end_ : ∀ C', Sub C C' → (endsF Q).rt (.d (.bool true)) C' := fun C' s => r_ret (h C' s)
    cases x with
    | none =>
      refine r_sj (fun γ' C' => γ' = [some (.d .none), some (.d .none), none, none] ∧ Sub C C') ?_ ?_
      · simp only [RUN, RUV, ENV, n_law_exact]
        refine ⟨by decide, fun p hp => ?_⟩
        simp only [RUN, RUV, ENV, ISI, KTB, isiAny, Option.bind_some, Bool.or_false, Bool.false_eq_true, if_false]
        exact ⟨trivial, sub_cup (Sub.refl _) hp⟩
      · rintro γ' C' ⟨rfl, s⟩
        refine r_seq (r_nojoin ?_)
        simp only [RUN, RUV, ENV, ISI, KTB, Bool.false_eq_true, if_false, if_true]
        exact end_ _ s
    | bool b =>
      refine r_sj (fun γ' C' => γ' = [some (.d (.bool b)), some (.d (.bool b)), none, none] ∧ Sub C C') ?_ ?_
      · simp only [RUN, RUV, ENV, n_law_exact]
        refine ⟨by decide, fun p hp => ?_⟩
        simp only [RUN, RUV, ENV, ISI, KTB, isiAny, Option.bind_some, Bool.or_false, Bool.false_eq_true, if_false]
        exact ⟨trivial, sub_cup (Sub.refl _) hp⟩
      · rintro γ' C' ⟨rfl, s⟩
        refine r_seq (r_nojoin ?_)
        simp only [RUN, RUV, ENV, Bool.false_eq_true, if_false]
        refine r_seq ?_
        simp only [RUN, RUV, ENV, ISI, KTB, Option.bind_some, Bool.false_eq_true, if_false, BEq.rfl]
        exact end_ _ s
    | int b =>
      refine r_sj (fun γ' C' => γ' = [some (.d (.int b)), some (.d (.int b)), none, none] ∧ Sub C C') ?_ ?_
      · simp only [RUN, RUV, ENV, n_law_exact]
        refine ⟨by decide, fun p hp => ?_⟩
        simp only [RUN, RUV, ENV, ISI, KTB, isiAny, Option.bind_some, Bool.or_false, Bool.false_eq_true, if_false]
        exact ⟨trivial, sub_cup (Sub.refl _) hp⟩
      · rintro γ' C' ⟨rfl, s⟩
        refine r_seq (r_nojoin ?_)
        simp only [RUN, RUV, ENV, Bool.false_eq_true, if_false]
        refine r_seq ?_
        simp only [RUN, RUV, ENV, ISI, KTB, Option.bind_some, Bool.false_eq_true, if_false, BEq.rfl]
        exact end_ _ s
    | str b =>
      refine r_sj (fun γ' C' => γ' = [some (.d (.str b)), some (.d (.str b)), none, none] ∧ Sub C C') ?_ ?_
      · simp only [RUN, RUV, ENV, n_law_exact]
        refine ⟨by decide, fun p hp => ?_⟩
        simp only [RUN, RUV, ENV, ISI, KTB, isiAny, Option.bind_some, Bool.or_false, Bool.false_eq_true, if_false]
        exact ⟨trivial, sub_cup (Sub.refl _) hp⟩
      · rintro γ' C' ⟨rfl, s⟩
        refine r_seq (r_nojoin ?_)
        simp only [RUN, RUV, ENV, Bool.false_eq_true, if_false]
        refine r_seq ?_
        simp only [RUN, RUV, ENV, ISI, KTB, Option.bind_some, Bool.false_eq_true, if_false, BEq.rfl]
        exact end_ _ s
    | list b => cases hf
    | tuple b => cases hf
    | dict b => cases hf
  have seqs : ∀ xs, szD n x → (x = .list xs ∨ x = .tuple xs) → w_law_exact (sp_law_exact n) (exOf E) (endsF Q) (startD n_law_exact [w1, w2]) C := by
    intro xs hz hx
    obtain ⟨k, rfl, hl, hel⟩ : ∃ k, n = k + 1 ∧ xs.length ≤ sizeLine ∧ ∀ y ∈ xs, szD k y := by
      cases n with
      | zero => rcases hx with rfl | rfl <;> exact hz.elim
      | succ k => rcases hx with rfl | rfl <;> exact ⟨k, rfl, hz⟩
    have hsl : (sizeLine : Nat) < 2 ^ 62 := by rw [sizeLine_eq]; decide
    have tail : ∀ C', Sub C C' → (∀ (C2 : Cm) (Q : WK), Sub C C2 → opLen [w1] C2 Q = Q (.d (.int xs.length)) C2 ∧ opLen [w2] C2 Q = Q (.d (.int xs.length)) C2) → (∀ (C2 : Cm) (Q : WK) (i : Nat) (hi : i < xs.length), Sub C C2 → opIx w1 (.d (.int (i : Nat))) C2 Q = Q (.d xs[i]) C2 ∧ opIx w2 (.d (.int (i : Nat))) C2 Q = Q (.d xs[i]) C2) →
        eAnd (eOp (opEq false) (eCB opLen (aCons (eVar 0) aNil)) (eCB opLen (aCons (eVar 1) aNil))) (eCB opAll (aCons (eLc false (iRngD1 (aCons (eCB opLen (aCons (eVar 0) aNil)) aNil)) (uName 3) tYesD (eCall EE0 (sp_law_exact (k + 1)) (aCons (eOp opIx (eVar 0) (eVar 3)) (aCons (eOp opIx (eVar 1) (eVar 3)) aNil))) [3]) aNil)) [some w1, some w2, none, none] C' fun d C2 => (endsF Q).rt d C2 := by
      intro C' s hlen hix
      simp only [RUN, RUV, ENV, (hlen _ _ s).1, (hlen _ _ s).2, BEq.rfl, Bool.false_eq_true, if_false, RUI]
      refine ⟨by omega, by omega, ?_⟩
      refine lc_pr (fun C2 => Sub C C2) (fun _ y => y = .d (.bool true)) s (fun _ _ => trivial) (by rw [List.length_map, List.length_range]; omega) ?_ ?_
      · intro i d C2 K Ks hd hJ hK
        obtain ⟨hi, e⟩ := List.getElem?_eq_some_iff.mp hd
        rw [List.length_map, List.length_range] at hi
        have hi' : i < xs.length := by omega
        have e2 : d = .d (.int (i : Nat)) := by rw [← e]; simp
        subst e2
        simp only [RUN, RUV, ENV, wipeD, (hix C2 _ i hi' hJ).1, if_true]
        rw [(hix C2 _ i hi' hJ).2]
        exact ⟨_, _, xs[i], rfl, .d _, .d _, hel _ (List.getElem_mem _), fun C3 s3 => hK _ _ C3 rfl (Sub.refl _) (hJ.trans s3)⟩
      · intro ys C2 hy hp hJ
        have ey : ys = ((List.replicate ys.length true).map PyData.bool).map W.d := by
          apply List.ext_getElem
          · simp
          · intro i h1 h2
            rw [hp i _ (List.getElem?_eq_getElem h1)]
            simp
        rw [ey]
        simp only [RUV]
        have eb : ((List.replicate ys.length true).all fun b => b) = true := by simp
        rw [eb]
        exact r_ret (h _ hJ)
    rcases hx with rfl | rfl
    · -- a list
      refine r_sj (fun _ _ => False) ?_ (fun _ _ z => z.elim)
      simp only [RUN, RUV, ENV, n_law_exact]
      refine ⟨by decide, fun p hp => ?_⟩
      have v1' := v1.cup (c := .tup [.ty "list", .ty "tuple"]) hp
      have v2' := v2.cup (c := .tup [.ty "list", .ty "tuple"]) hp
      have s1 : Sub C (cup C p (.tup [.ty "list", .ty "tuple"])) := sub_cup (Sub.refl _) hp
      simp only [RUN, RUV, ENV, ISI, KTB, isiAny, v1'.ty, Option.bind_some, Bool.or_false, Bool.or_true, Bool.false_eq_true, if_true]
      refine r_sj (fun γ' C' => γ' = [some w1, some w2, none, none] ∧ Sub C C') ?_ ?_
      · simp only [RUN, RUV, ENV, ISI, KTB, v1'.ty, v2'.ty, Option.bind_some, Bool.false_eq_true, if_false, BEq.rfl, Bool.not_true, if_true]
        exact ⟨trivial, s1⟩
      · rintro γ' C' ⟨rfl, s⟩
        exact tail C' s (fun C2 Q s2 => ⟨(v1.sub s2).len, (v2.sub s2).len⟩) fun C2 Q i hi s2 => ⟨(v1.sub s2).ix hi, (v2.sub s2).ix hi⟩
    · -- a tuple
      cases v1
      cases v2
      refine r_sj (fun _ _ => False) ?_ (fun _ _ z => z.elim)
      simp only [RUN, RUV, ENV, n_law_exact]
      refine ⟨by decide, fun p hp => ?_⟩
      have s1 : Sub C (cup C p (.tup [.ty "list", .ty "tuple"])) := sub_cup (Sub.refl _) hp
      simp only [RUN, RUV, ENV, ISI, KTB, isiAny, Option.bind_some, Bool.or_false, Bool.or_true, Bool.false_or, Bool.false_eq_true, if_true]
      refine r_sj (fun γ' C' => γ' = [some (.d (.tuple xs)), some (.d (.tuple xs)), none, none] ∧ Sub C C') ?_ ?_
      · simp only [RUN, RUV, ENV, ISI, KTB, Option.bind_some, Bool.false_eq_true, if_false, BEq.rfl, Bool.not_true, if_true]
        exact ⟨trivial, s1⟩
      · rintro γ' C' ⟨rfl, s⟩
        exact tail C' s (fun C2 Q s2 => ⟨rfl, rfl⟩) fun C2 Q i hi s2 => by
          rw [opIx_t, atI_pick (by omega) (by omega)]
          simp
  cases x with
  | none => cases v1; cases v2; exact base _ rfl hs rfl rfl
  | bool b => cases v1; cases v2; exact base _ rfl hs rfl rfl
  | int b => cases v1; cases v2; exact base _ rfl hs rfl rfl
  | str b => cases v1; cases v2; exact base _ rfl hs rfl rfl
  | list b => exact seqs b hs (.inl rfl)
  | tuple b => exact seqs b hs (.inr rfl)
  | dict b => cases n <;> exact hs.elim
/-! ### bills.py -/
abbrev Ln : Type := Str × Int × Int × Int
def lnD (l : Ln) : PyData := .tuple [.str l.1, .int l.2.1, .int l.2.2.1, .int l.2.2.2]
abbrev lnsD (ls : List Ln) : PyData := .list (ls.map lnD)
def totalF (ls : List Ln) : Int := (ls.map fun l => l.2.2.2).sum
theorem Vw.asSd {C : Cm} {w : W} {xs : List PyData} (h : Vw C w (.list xs)) : asSd C w = some xs := by
  cases h with
  | d x => simp only [Dl.asSd, asS, asL, Option.bind_some, dAll_map]
  | own e => simp only [Dl.asSd, asS, asL, e, Option.bind_some, dAll_map]
def sp_total : DSp := fun ds C Q _ => ∃ w ls, ds = [w] ∧ Vw C w (lnsD ls) ∧ Q (.d (.int (totalF ls))) C
theorem c_total : ∀ ds C Q E, sp_total ds C Q E → w_total (exOf E) (endsF Q) (startD n_total ds) C := by
  rintro ds C Q E ⟨w, ls, rfl, v, h⟩
  simp only [w_total, RUN, ENV, n_total, eGen, v.asSd]
  refine ⟨(ls.map fun l : Ln => l.2.2.2).map .int, ?_, ?_, ls.map fun l : Ln => l.2.2.2, rfl, r_ret h⟩
  · rw [List.map_map, List.map_map, List.map_map]
    apply List.map_congr_left
    rintro ⟨k, i, q, c⟩ _
    rfl
  · rw [List.all_eq_true]
    intro x hx
    obtain ⟨n, _, rfl⟩ := List.mem_map.mp hx
    rfl
/-- an entry of a tariff -/
structure Ent where
  kind : Str
  first : Int
  last : Int
  price : Int
  step : Int
def entD (e : Ent) : PyData := .tuple [.str e.kind, .int e.first, .int e.last, .int e.price, .int e.step]
abbrev entsD (es : List Ent) : PyData := .tuple (es.map entD)
def appliesF (e : Ent) (tick : Int) : Bool := if e.first < e.last then decide (e.first ≤ tick % 24) && decide (tick % 24 < e.last) else decide (e.first ≤ tick % 24) || decide (tick % 24 < e.last)
def sp_applies : DSp := fun ds C Q _ => ∃ e t, ds = [.d (entD e), .d (.int t)] ∧ Q (.d (.bool (appliesF e t))) C
theorem c_applies : ∀ ds C Q E, sp_applies ds C Q E → w_applies (exOf E) (endsF Q) (startD n_applies ds) C := by
  rintro ds C Q E ⟨e, t, rfl, h⟩
  refine r_seq ?_
  simp only [RUN, RUV, ENV, n_applies, entD]
  refine ⟨trivial, r_seq ?_⟩
  simp only [RUN, RUV, ENV, n_applies]
  refine ⟨by decide, ?_⟩
  unfold appliesF at h
  split
  · rename_i h1
    rw [if_pos (by simpa using h1)] at h
    by_cases h2 : e.first ≤ t % 24
    · simp only [h2, decide_true]
      exact r_ret (by simpa [h2] using h)
    · simp only [h2, decide_false]
      exact r_ret (by simpa [h2] using h)
  · rename_i h1
    rw [if_neg (by simpa using h1)] at h
    by_cases h2 : e.first ≤ t % 24
    · simp only [h2, decide_true]
      exact r_ret (by simpa [h2] using h)
    · simp only [h2, decide_false]
      exact r_ret (by simpa [h2] using h)
theorem zip_at {α : Type} {g : α → PyData} {es : List α} {i : Nat} {d : W} (h : ((es.map g).zipIdx.map fun p => W.d (.tuple [.int (p.2 : Nat), p.1]))[i]? = some d) : ∃ e, es[i]? = some e ∧ d = .d (.tuple [.int (i : Nat), g e]) := by
  rw [List.getElem?_map, List.getElem?_zipIdx, List.getElem?_map] at h
  cases e : es[i]? with
  | none => rw [e] at h; cases h
  | some x =>
    rw [e] at h
    have h2 : some (W.d (.tuple [.int ((0 + i : Nat) : Int), g x])) = some d := h
    rw [Nat.zero_add] at h2
    exact ⟨x, rfl, (Option.some.inj h2).symm⟩
def countedF (es : List Ent) (kind : Str) (tick : Int) : Option Nat := es.findIdx? fun e => e.kind == kind && appliesF e tick
def optD : Option Nat → PyData
  | none => .none
  | some i => .int (i : Nat)
def sp_counted : DSp := fun ds C Q _ => ∃ es kind t, ds = [.d (entsD es), .d (.str kind), .d (.int t)] ∧ Q (.d (optD (countedF es kind t))) C
theorem findIdx_at {α : Type} {p : α → Bool} {xs : List α} {i : Nat} {x : α} (h : xs[i]? = some x) (hp : p x = true) (hn : ∀ j y, j < i → xs[j]? = some y → p y = false) : xs.findIdx? p = some i := by
  rw [List.findIdx?_eq_some_iff_getElem]
  obtain ⟨hi, e⟩ := List.getElem?_eq_some_iff.mp h
  refine ⟨hi, by rw [e]; exact hp, fun j hj => ?_⟩
  rw [hn j _ hj (List.getElem?_eq_getElem (by omega))]
  decide
theorem c_counted : ∀ ds C Q E, sp_counted ds C Q E → w_counted sp_applies (exOf E) (endsF Q) (startD n_counted ds) C := by
  rintro ds C Q E ⟨es, kind, t, rfl, h⟩
  refine r_seq ?_
  simp only [RUI, RUE, RUN, ENV, n_counted]
  refine ⟨fun i γ' C' => C = C' ∧ (∃ a b, γ' = [some (.d (entsD es)), some (.d (.str kind)), some (.d (.int t)), a, b]) ∧ ∀ j e, j < i → es[j]? = some e → (e.kind == kind && appliesF e t) = false, ⟨rfl, ⟨_, _, rfl⟩, fun j e hj => absurd hj (Nat.not_lt_zero _)⟩, fun _ _ _ _ _ => trivial, ?_, ?_⟩
  · rintro i d γ' C' hd ⟨rfl, ⟨a, b, rfl⟩, hno⟩
    obtain ⟨e, he, rfl⟩ := zip_at hd
    simp only [RUN, RUV, ENV]
    refine ⟨trivial, ?_⟩
    simp only [RUN, RUV, ENV, entD, ATI, Bool.false_eq_true, if_false]
    by_cases hk : (e.kind == kind) = true
    · rw [if_pos hk]
      refine ⟨e, t, rfl, ?_⟩
      simp only [RUN, RUV, ENV]
      by_cases ha : appliesF e t = true
      · rw [if_pos ha]
        refine r_ret ?_
        have : countedF es kind t = some i := findIdx_at he (by simp [hk, ha]) hno
        rw [this] at h
        exact h
      · rw [if_neg ha]
        refine ⟨C, Sub.refl _, rfl, ⟨_, _, rfl⟩, fun j e' hj hje => ?_⟩
        by_cases hji : j = i
        · subst hji
          rw [he] at hje; cases hje
          simp [ha]
        · exact hno j e' (by omega) hje
    · rw [if_neg hk]
      refine ⟨C, Sub.refl _, rfl, ⟨_, _, rfl⟩, fun j e' hj hje => ?_⟩
      by_cases hji : j = i
      · subst hji
        rw [he] at hje; cases hje
        simp [hk]
      · exact hno j e' (by omega) hje
  · rintro γ' C' ⟨rfl, ⟨a, b, rfl⟩, hno⟩
    refine r_ret ?_
    have : countedF es kind t = none := by
      unfold countedF
      rw [List.findIdx?_eq_none_iff]
      intro x hx
      obtain ⟨j, hj, rfl⟩ := List.getElem_of_mem hx
      exact hno j _ (by simpa using hj) (List.getElem?_eq_getElem hj)
    rw [this] at h
    exact h
/-- events of a course -/
abbrev Ev : Type := Str × Int × Int
def evD (e : Ev) : PyData := .tuple [.str e.1, .int e.2.1, .int e.2.2]
def busyF (draws : List Int) : Int := match (draws.zipIdx.filter fun p => decide (0 < p.1)).map fun p => (p.2 : Int) + 1 with
  | [] => 0
  | x :: xs => xs.foldl max x
def evAt (begin_ busy grace : Int) (p : Int × Nat) : List Ev :=
  ("unit", begin_ + (p.2 : Int), p.1) :: (if (p.2 : Int) < busy then [("tick", begin_ + (p.2 : Int), 1)] else if busy + grace ≤ (p.2 : Int) then [("blocked", begin_ + (p.2 : Int), 1)] else [])
def eventsF (begin_ : Int) (draws : List Int) (grace : Int) : List Ev := ("start", begin_, 1) :: (draws.zipIdx.map (evAt begin_ (busyF draws) grace)).flatten
def courseD (begin_ : Int) (draws : List Int) (grace : Int) : PyData := .tuple [.int begin_, .list (draws.map .int), .int grace]
def sp_events : DSp := fun ds C Q _ => ∃ b dr g, ds = [.d (courseD b dr g)] ∧ dr.length ≤ 1000 ∧ Q (.d (.list ((eventsF b dr g).map evD))) C
theorem big : (1000000 : Nat) ≤ sizeLine := by rw [sizeLine_eq]; decide
theorem alike_ints' (ns : List Int) : PySem.W.AlikeAll (ns.map PyData.int) := by
  refine ⟨fun x hx y hy => ?_, fun x hx => ?_⟩
  · obtain ⟨a, _, rfl⟩ := List.mem_map.mp hx
    obtain ⟨b, _, rfl⟩ := List.mem_map.mp hy
    rfl
  · obtain ⟨a, _, rfl⟩ := List.mem_map.mp hx
    exact fun h => by cases h
theorem zipIdx_map' {α β : Type} (f : α → β) : ∀ (xs : List α) (n : Nat), (xs.map f).zipIdx n = (xs.zipIdx n).map fun p => (f p.1, p.2)
  | [], _ => rfl
  | x :: xs, n => by rw [List.map_cons, List.zipIdx_cons, List.zipIdx_cons, List.map_cons, zipIdx_map' f xs]
theorem maxK_ints {C : Cm} {K : WK} {z : Int} (ns : List Int) (h : K (.d (.int (match ns with | [] => z | x :: xs => xs.foldl max x))) C) : opBestK PySem.W.maxD [.d (.list (ns.map .int))] [.d (.int z)] C K := by
  cases ns with
  | nil => exact h
  | cons x xs =>
    unfold opBestK
    simp only [asLd, asL, Option.bind_some, dAll_map]
    show PySem.W.AlikeAll (PyData.int x :: xs.map .int) ∧ PyData.depthAll (PyData.int x :: xs.map .int) ≤ 60 ∧ K (.d (PySem.W.maxD (.int x) (xs.map .int))) C
    refine ⟨alike_ints' (x :: xs), by rw [show PyData.int x :: xs.map PyData.int = (x :: xs).map PyData.int from rfl, PySem.W.depth_ints (x :: xs)]; decide, ?_⟩
    rw [PySem.W.maxD_ints]
    exact h
theorem evAt_len (b z g : Int) (p : Int × Nat) : (evAt b z g p).length ≤ 2 := by
  unfold evAt
  split
  · simp
  · split <;> simp
theorem flat_len {α β : Type} {f : α → List β} {n : Nat} (h : ∀ x, (f x).length ≤ n) : ∀ xs : List α, (xs.map f).flatten.length ≤ n * xs.length
  | [] => by simp
  | x :: xs => by
    have := flat_len h xs
    have := h x
    simp only [List.map_cons, List.flatten_cons, List.length_append, List.length_cons]
    rw [Nat.mul_add]
    omega
theorem c_events : ∀ ds C Q E, sp_events ds C Q E → w_events (exOf E) (endsF Q) (startD n_events ds) C := by
  rintro ds C Q E ⟨b, dr, g, rfl, hl, h⟩
  have hbig := big
  refine r_seq ?_
  simp only [RUN, RUV, ENV, n_events, courseD]
  refine ⟨trivial, r_seq ?_⟩
  simp only [RUN, RUV, ENV, RUI, RUE]
  refine lc_filter (fun d => match d with | .d (.tuple [.int i, _]) => .d (.int (i + 1)) | _ => .d .none) (fun d => match d with | .d (.tuple [_, .int u]) => decide (0 < u) | _ => false) trivial (by simp; omega) ?_ ?_
  · intro d hd K Ks h1 h2
    obtain ⟨i, hi⟩ := List.mem_iff_getElem?.mp hd
    obtain ⟨u, hu, rfl⟩ := zip_at hi
    simp only [RUN, RUV, ENV, wipeD]
    refine ⟨trivial, ?_⟩
    by_cases hp : 0 < u
    · rw [if_pos (by simpa using hp)]
      exact h1 (by simpa using hp)
    · rw [if_neg (by simpa using hp)]
      exact h2 (by simpa using hp)
  · have e1 : ((((dr.map PyData.int).zipIdx.map fun p => W.d (.tuple [.int (p.2 : Nat), p.1])).filter (fun d => match d with | .d (.tuple [_, .int u]) => decide (0 < u) | _ => false)).map (fun d => match d with | .d (.tuple [.int i, _]) => W.d (.int (i + 1)) | _ => .d .none))
        = ((((dr.zipIdx.filter fun p => decide (0 < p.1)).map fun p => (p.2 : Int) + 1)).map PyData.int).map W.d := by
      rw [zipIdx_map', List.map_map, List.filter_map, List.map_map, List.map_map, List.map_map]
      rfl
    rw [e1, newL_d]
    refine maxK_ints _ ?_
    show sSeq _ _ _ _ _
    refine r_seq ?_
    simp only [RUN, RUV, ENV]
    refine ⟨by decide, by decide, fun p hp => r_seq ?_⟩
    simp only [RUN, RUV, ENV, RUE, RUI]
    refine ⟨fun i γ' C' => ∃ x y z, γ' = [some (.d (courseD b dr g)), some (.d (.int b)), some (.d (.list (dr.map .int))), some (.d (.int g)), some (.d (.int (busyF dr))), some (.own p), x, y, z] ∧
      C' = cup C p (.lst ((((("start", b, 1) : Ev) :: ((dr.zipIdx.take i).map (evAt b (busyF dr) g)).flatten).map evD).map W.d)), ⟨_, _, _, rfl, rfl⟩, fun _ _ _ _ _ => trivial, ?_, ?_⟩
    · rintro i d γ' C' hd ⟨x, y, z, rfl, rfl⟩
      obtain ⟨u, hu, rfl⟩ := zip_at hd
      have hi : i < dr.length := (List.getElem?_eq_some_iff.mp hu).1
      have hz : dr.zipIdx[i]? = some (u, i) := by rw [List.getElem?_zipIdx, hu]; simp
      have hlen : ((((("start", b, 1) : Ev) :: ((dr.zipIdx.take i).map (evAt b (busyF dr) g)).flatten).map evD).map W.d).length + 2 < sizeLine := by
        have := flat_len (evAt_len b (busyF dr) g) (dr.zipIdx.take i)
        have h3 : (dr.zipIdx.take i).length ≤ dr.length := by rw [List.length_take, List.length_zipIdx]; omega
        simp only [List.length_map, List.length_cons]
        omega
      have step : ((("start", b, 1) : Ev) :: ((dr.zipIdx.take (i + 1)).map (evAt b (busyF dr) g)).flatten) = ((("start", b, 1) : Ev) :: ((dr.zipIdx.take i).map (evAt b (busyF dr) g)).flatten) ++ evAt b (busyF dr) g (u, i) := by
        rw [take_succ' hz, List.map_append, List.flatten_append]
        simp
      simp only [RUN, RUV, ENV]
      refine ⟨trivial, r_seq ?_⟩
      simp only [RUN, RUV, ENV]
      refine r_seq ?_
      simp only [RUN, RUV, ENV]
      refine ⟨by decide, by omega, ?_⟩
      by_cases h1 : (i : Int) < busyF dr
      · rw [if_pos (by simpa using h1)]
        refine ⟨by decide, by rw [List.length_append]; simp only [List.length_cons, List.length_nil]; omega, _, Sub.refl _, _, _, _, rfl, ?_⟩
        rw [step]
        unfold evAt
        rw [if_pos h1]
        simp [evD]
      · rw [if_neg (by simpa using h1)]
        simp only [RUN, RUV, ENV]
        by_cases h2 : busyF dr + g ≤ (i : Int)
        · rw [if_pos (by simpa using h2)]
          refine ⟨by decide, by rw [List.length_append]; simp only [List.length_cons, List.length_nil]; omega, _, Sub.refl _, _, _, _, rfl, ?_⟩
          rw [step]
          unfold evAt
          rw [if_neg h1, if_pos h2]
          simp [evD]
        · rw [if_neg (by simpa using h2)]
          refine ⟨_, Sub.refl _, _, _, _, rfl, ?_⟩
          rw [step]
          unfold evAt
          rw [if_neg h1, if_neg h2]
          simp [evD]
    · rintro γ' C' ⟨x, y, z, rfl, rfl⟩
      simp only [RUN, RUV, ENV]
      refine r_retF cup_same (sub_cup_del hp) ?_
      have e2 : dr.zipIdx.take ((dr.map PyData.int).zipIdx.map fun p => W.d (.tuple [.int (p.2 : Nat), p.1])).length = dr.zipIdx := by
        rw [List.length_map, List.length_zipIdx, List.length_map, ← List.length_zipIdx (l := dr) (i := 0), List.take_length]
      rw [e2]
      exact h
/-- quantities -/
def addQ (es : List Ent) (t : List Int) (e : Ev) : List Int := match countedF es e.1 e.2.1 with
  | none => t
  | some i => t.set i (t.getD i 0 + e.2.2)
def quantF (es : List Ent) (b : Int) (dr : List Int) (g : Int) : List Int := (eventsF b dr g).foldl (addQ es) (List.replicate es.length 0)
def sp_quantities : DSp := fun ds C Q _ => ∃ es b dr g, ds = [.d (entsD es), .d (courseD b dr g)] ∧ dr.length ≤ 1000 ∧ es.length ≤ 1000 ∧ Q (.d (.list ((quantF es b dr g).map .int))) C
theorem addQ_none {es : List Ent} {t : List Int} {e : Ev} (h : countedF es e.1 e.2.1 = none) : addQ es t e = t := by unfold addQ; rw [h]
theorem addQ_some {es : List Ent} {t : List Int} {e : Ev} {i : Nat} (h : countedF es e.1 e.2.1 = some i) (hi : i < t.length) : addQ es t e = t.set i (t[i] + e.2.2) := by
  unfold addQ; rw [h]; show t.set i (t.getD i 0 + _) = _; rw [List.getD_eq_getElem?_getD, List.getElem?_eq_getElem hi]; rfl
theorem addQ_len (es : List Ent) (t : List Int) (e : Ev) : (addQ es t e).length = t.length := by
  unfold addQ
  split
  · rfl
  · rw [List.length_set]
theorem foldl_len (es : List Ent) : ∀ (ev : List Ev) (t : List Int), (ev.foldl (addQ es) t).length = t.length
  | [], t => rfl
  | e :: ev, t => by rw [List.foldl_cons, foldl_len es ev, addQ_len]
theorem counted_lt {es : List Ent} {k : Str} {t : Int} {i : Nat} (h : countedF es k t = some i) : i < es.length := by
  unfold countedF at h
  rw [List.findIdx?_eq_some_iff_getElem] at h
  exact h.1
theorem map_at {α : Type} {g : α → PyData} {es : List α} {i : Nat} {d : W} (h : ((es.map g).map W.d)[i]? = some d) : ∃ e, es[i]? = some e ∧ d = .d (g e) := by
  rw [List.getElem?_map, List.getElem?_map] at h
  cases e : es[i]? with
  | none => rw [e] at h; cases h
  | some x => rw [e] at h; exact ⟨x, rfl, (Option.some.inj h).symm⟩
theorem rep_flat {x : PyData} : ∀ n : Nat, (List.replicate n [x]).flatten = List.replicate n x
  | 0 => rfl
  | n + 1 => by rw [List.replicate_succ, List.flatten_cons, rep_flat n]; rfl
theorem set_map {ns : List Int} {i : Nat} {n : Int} : ((ns.map PyData.int).map W.d).set i (.d (.int n)) = ((ns.set i n).map PyData.int).map W.d := by
  rw [List.map_map, List.map_map, List.map_set]; rfl
theorem c_quantities : ∀ ds C Q E, sp_quantities ds C Q E → w_quantities sp_events sp_counted (exOf E) (endsF Q) (startD n_quantities ds) C := by
  rintro ds C Q E ⟨es, b, dr, g, rfl, hl, hl2, h⟩
  have hbig := big
  refine r_seq ?_
  simp only [RUN, RUV, ENV, n_quantities, opMul_li]
  refine ⟨by decide, ⟨by omega, by rw [List.length_map]; omega, by rw [List.length_map]; simp only [List.length_cons, List.length_nil]; omega⟩, fun p hp => r_seq ?_⟩
  simp only [RUN, RUV, ENV, RUI]
  refine ⟨b, dr, g, rfl, hl, ?_⟩
  simp only [RUN, RUV, ENV, RUI]
  refine ⟨fun i γ' C' => (∃ x y z u, γ' = [some (.d (entsD es)), some (.d (courseD b dr g)), some (.own p), x, y, z, u]) ∧ C' = cup C p (.lst (((((eventsF b dr g).take i).foldl (addQ es) (List.replicate es.length 0)).map .int).map W.d)), ⟨⟨_, _, _, _, rfl⟩, ?_⟩, fun _ _ _ _ _ => trivial, ?_, ?_⟩
  · rw [List.length_map, Int.toNat_natCast, rep_flat]
    simp
  · rintro i d γ' C' hd ⟨⟨x, y, z, u, rfl⟩, rfl⟩
    obtain ⟨e, he, rfl⟩ := map_at hd
    have step : ((eventsF b dr g).take (i + 1)).foldl (addQ es) (List.replicate es.length 0) = addQ es (((eventsF b dr g).take i).foldl (addQ es) (List.replicate es.length 0)) e := by
      rw [take_succ' he, List.foldl_append]; rfl
    have tl : (((eventsF b dr g).take i).foldl (addQ es) (List.replicate es.length 0)).length = es.length := by rw [foldl_len, List.length_replicate]
    simp only [RUN, RUV, ENV, evD]
    refine ⟨trivial, r_seq ?_⟩
    simp only [RUN, RUV, ENV]
    refine ⟨es, e.1, e.2.1, rfl, ?_⟩
    simp only [RUN, RUV, ENV]
    cases hc : countedF es e.1 e.2.1 with
    | none =>
      simp only [RUN, RUV, ENV, optD, Bool.not_true, Bool.false_eq_true, if_false, if_true]
      refine ⟨_, Sub.refl _, ⟨_, _, _, _, rfl⟩, ?_⟩
      rw [step, addQ_none hc]
    | some j =>
      have hj := counted_lt hc
      simp only [RUN, RUV, ENV, optD, Bool.not_false, if_true]
      rw [ixN_in (by omega) (by rw [List.length_map, List.length_map, tl]; omega)]
      simp only [Int.toNat_natCast]
      rw [List.getElem?_map, List.getElem?_map, List.getElem?_eq_getElem (by omega)]
      simp only [RUN, RUV, ENV, Option.map_some]
      refine ⟨trivial, _, Sub.refl _, ⟨_, _, _, _, rfl⟩, ?_⟩
      rw [step, set_map, addQ_some hc (by omega)]
  · rintro γ' C' ⟨⟨x, y, z, u, rfl⟩, rfl⟩
    simp only [RUN, RUV, ENV]
    refine r_retF cup_same (sub_cup_del hp) ?_
    rw [List.length_map, List.length_map, List.take_length]
    exact h
/-- bills -/
def entLn (e : Ent) (i : Nat) (q : Int) : List Ln := if 0 < q then [("entry", (i : Int), q, e.price * -(-q / e.step))] else []
def noEnt : Ent := ⟨"", 0, 0, 0, 1⟩
def lines0 (es : List Ent) (q : List Int) : List Ln := (q.zipIdx.map fun p => entLn (es.getD p.2 noEnt) p.2 p.1).flatten
def lines1 (l : List Ln) (least most : Int) : List Ln := if totalF l < least then l ++ [(("least", 0, 0, least - totalF l) : Ln)] else if most < totalF l then l ++ [(("most", 0, 0, most - totalF l) : Ln)] else l
def billF (es : List Ent) (least most : Int) (taxes : List Int) (b : Int) (dr : List Int) (g : Int) : List Ln :=
  let l := lines1 (lines0 es (quantF es b dr g)) least most
  l ++ taxes.zipIdx.map fun p => (("tax", (p.2 : Int), totalF l, totalF l * p.1 / 1000) : Ln)
def tariffD (es : List Ent) (least most : Int) (taxes : List Int) : PyData := .tuple [entsD es, .int least, .int most, .tuple (taxes.map .int)]
structure TarOk (es : List Ent) (taxes : List Int) : Prop where
  ents : es.length ≤ 1000
  taxs : taxes.length ≤ 1000
  ent : ∀ e ∈ es, (0 < e.step ∧ e.step < 1073741824) ∧ -(2 ^ 64) < e.price ∧ e.price < 2 ^ 64
  tax : ∀ t ∈ taxes, -(2 ^ 64) < t ∧ t < 2 ^ 64
def sp_bill : DSp := fun ds C Q _ => ∃ es least most taxes b dr g, ds = [.d (tariffD es least most taxes), .d (courseD b dr g)] ∧ TarOk es taxes ∧ dr.length ≤ 1000 ∧ Q (.d (lnsD (billF es least most taxes b dr g))) C
theorem quant_len (es : List Ent) (b : Int) (dr : List Int) (g : Int) : (quantF es b dr g).length = es.length := by
  unfold quantF
  rw [foldl_len, List.length_replicate]
theorem entLn_len (e : Ent) (i : Nat) (q : Int) : (entLn e i q).length ≤ 1 := by
  unfold entLn
  split <;> simp
theorem c_bill : ∀ ds C Q E, sp_bill ds C Q E → w_bill sp_quantities sp_total (exOf E) (endsF Q) (startD n_bill ds) C := by
  rintro ds C Q E ⟨es, least, most, taxes, b, dr, g, rfl, ok, hl, h⟩
  have hbig := big
  refine r_seq ?_
  simp only [RUN, RUV, ENV, n_bill, tariffD]
  refine ⟨trivial, r_seq ?_⟩
  simp only [RUN, RUV, ENV]
  refine ⟨by decide, fun p hp => r_seq ?_⟩
  simp only [RUN, RUV, ENV, RUE, RUI]
  refine ⟨es, b, dr, g, rfl, hl, ok.ents, ?_⟩
  simp only [RUN, RUV, ENV, RUE, RUI]
  have ql := quant_len es b dr g
  refine ⟨fun i γ' C' => (∃ x y z u v, γ' = [some (.d (tariffD es least most taxes)), some (.d (courseD b dr g)), some (.d (entsD es)), some (.d (.int least)), some (.d (.int most)), some (.d (.tuple (taxes.map .int))), some (.own p), x, y, z, u, v, none, none]) ∧
    C' = cup C p (.lst (((((quantF es b dr g).zipIdx.take i).map fun p => entLn (es.getD p.2 noEnt) p.2 p.1).flatten.map lnD).map W.d)), ⟨⟨_, _, _, _, _, rfl⟩, rfl⟩, fun _ _ _ _ _ => trivial, ?_, ?_⟩
  · rintro i d γ' C' hd ⟨⟨x, y, z, u, v, rfl⟩, rfl⟩
    obtain ⟨q, hq, rfl⟩ := zip_at hd
    have hi : i < es.length := by rw [← ql]; exact (List.getElem?_eq_some_iff.mp hq).1
    have hz : (quantF es b dr g).zipIdx[i]? = some (q, i) := by rw [List.getElem?_zipIdx, hq]; simp
    have step : (((quantF es b dr g).zipIdx.take (i + 1)).map fun p => entLn (es.getD p.2 noEnt) p.2 p.1).flatten = (((quantF es b dr g).zipIdx.take i).map fun p => entLn (es.getD p.2 noEnt) p.2 p.1).flatten ++ entLn es[i] i q := by
      rw [take_succ' hz, List.map_append, List.flatten_append]
      simp only [List.map_cons, List.map_nil, List.flatten_cons, List.flatten_nil, List.append_nil]
      rw [List.getD_eq_getElem?_getD, List.getElem?_eq_getElem hi]; rfl
    have hlen : ((((((quantF es b dr g).zipIdx.take i).map fun p => entLn (es.getD p.2 noEnt) p.2 p.1).flatten.map lnD).map W.d)).length < sizeLine := by
      have := flat_len (fun p : Int × Nat => entLn_len (es.getD p.2 noEnt) p.2 p.1) ((quantF es b dr g).zipIdx.take i)
      have h3 : ((quantF es b dr g).zipIdx.take i).length ≤ es.length := by rw [List.length_take, List.length_zipIdx]; omega
      have := ok.ents
      simp only [List.length_map]
      omega
    simp only [RUN, RUV, ENV]
    refine ⟨trivial, r_seq ?_⟩
    simp only [RUN, RUV, ENV]
    rw [atI_map, atI_pick (by omega) (by omega)]
    simp only [RUN, RUV, ENV, Option.map_some, Int.toNat_natCast, entD]
    refine ⟨trivial, ?_⟩
    obtain ⟨hs, hpr⟩ := ok.ent es[i] (List.getElem_mem _)
    by_cases h0 : 0 < q
    · rw [if_pos (by simpa using h0)]
      refine ⟨cdiv hs, cmulL hpr, by decide, hlen, _, Sub.refl _, ⟨_, _, _, _, _, rfl⟩, ?_⟩
      rw [step]
      unfold entLn
      rw [if_pos h0]
      simp [lnD]
    · rw [if_neg (by simpa using h0)]
      refine ⟨_, Sub.refl _, ⟨_, _, _, _, _, rfl⟩, ?_⟩
      rw [step]
      unfold entLn
      rw [if_neg h0]
      simp
  · rintro γ' C' ⟨⟨x, y, z, u, v, rfl⟩, rfl⟩
    have e0 : (((quantF es b dr g).zipIdx.take ((((quantF es b dr g).map PyData.int).zipIdx.map fun p => W.d (.tuple [.int (p.2 : Nat), p.1]))).length).map fun p => entLn (es.getD p.2 noEnt) p.2 p.1).flatten = lines0 es (quantF es b dr g) := by
      rw [List.length_map, List.length_zipIdx, List.length_map, ← List.length_zipIdx (l := quantF es b dr g) (i := 0), List.take_length]; rfl
    rw [e0]
    have l0 : (lines0 es (quantF es b dr g)).length ≤ 1000 := by
      have := flat_len (fun p : Int × Nat => entLn_len (es.getD p.2 noEnt) p.2 p.1) (quantF es b dr g).zipIdx
      have := ok.ents
      unfold lines0
      rw [List.length_zipIdx] at *
      omega
    generalize hL : lines0 es (quantF es b dr g) = L at l0
    have hV : Vw (cup C p (.lst ((L.map lnD).map W.d))) (.own p) (lnsD L) := .own cup_same
    refine r_sj (fun γ' C' => γ' = [some (.d (tariffD es least most taxes)), some (.d (courseD b dr g)), some (.d (entsD es)), some (.d (.int least)), some (.d (.int most)), some (.d (.tuple (taxes.map .int))), some (.own p), x, y, z, u, v, none, none] ∧ C' = cup C p (.lst (((lines1 L least most).map lnD).map W.d))) ?_ ?_
    · simp only [RUN, RUV, ENV]
      refine ⟨_, L, rfl, hV, ?_⟩
      simp only [RUN, RUV, ENV]
      by_cases h1 : totalF L < least
      · rw [if_pos (by simpa using h1)]
        refine ⟨_, L, rfl, hV, ?_⟩
        simp only [RUN, RUV, ENV]
        refine ⟨by decide, by simp only [List.length_map]; omega, trivial, ?_⟩
        unfold lines1
        rw [if_pos h1]
        simp [lnD]
      · rw [if_neg (by simpa using h1)]
        refine ⟨_, L, rfl, hV, ?_⟩
        simp only [RUN, RUV, ENV]
        by_cases h2 : most < totalF L
        · rw [if_pos (by simpa using h2)]
          refine ⟨_, L, rfl, hV, ?_⟩
          simp only [RUN, RUV, ENV]
          refine ⟨by decide, by simp only [List.length_map]; omega, trivial, ?_⟩
          unfold lines1
          rw [if_neg h1, if_pos h2]
          simp [lnD]
        · rw [if_neg (by simpa using h2)]
          refine ⟨trivial, ?_⟩
          unfold lines1
          rw [if_neg h1, if_neg h2]
    rintro γ' C' ⟨rfl, rfl⟩
    have hM : billF es least most taxes b dr g = lines1 L least most ++ taxes.zipIdx.map fun p => (("tax", (p.2 : Int), totalF (lines1 L least most), totalF (lines1 L least most) * p.1 / 1000) : Ln) := by
      unfold billF
      rw [hL]
    have l1 : (lines1 L least most).length ≤ 1001 := by
      unfold lines1
      split
      · simp; omega
      · split
        · simp; omega
        · omega
    rw [hM] at h
    generalize lines1 L least most = M at l1 h
    refine r_seq ?_
    simp only [RUN, RUV, ENV]
    refine ⟨_, M, rfl, .own cup_same, ?_⟩
    simp only [RUN, RUV, ENV, RUI, RUE]
    refine lc_map (fun d => match d with | .d (.tuple [.int i, .int t]) => .d (lnD ("tax", i, totalF M, totalF M * t / 1000)) | _ => .d .none) trivial (by have := ok.taxs; simp; omega) ?_ ?_
    · intro d hd K hK
      obtain ⟨i, hi⟩ := List.mem_iff_getElem?.mp hd
      obtain ⟨t, ht, rfl⟩ := zip_at hi
      simp only [RUN, RUV, ENV, wipeD]
      refine ⟨trivial, ?_⟩
      exact ⟨cmulR (ok.tax t (List.mem_of_getElem? ht)), cdiv (by decide), by decide, hK⟩
    · have e1 : (((taxes.map PyData.int).zipIdx.map fun p => W.d (.tuple [.int (p.2 : Nat), p.1])).map fun d => match d with | .d (.tuple [.int i, .int t]) => W.d (lnD ("tax", i, totalF M, totalF M * t / 1000)) | _ => .d .none)
          = ((taxes.zipIdx.map fun p => (("tax", (p.2 : Int), totalF M, totalF M * p.1 / 1000) : Ln)).map lnD).map W.d := by
        rw [zipIdx_map', List.map_map, List.map_map, List.map_map, List.map_map]
        rfl
      rw [e1, newL_d]
      show opAdd false (.own p) (.d (.list _)) _ _
      rw [opAdd_ol cup_same, newL_d]
      refine ⟨by have := ok.taxs; simp; omega, ?_⟩
      refine r_retS (C2 := C) (fun c z e => ?_) ?_
      · rw [cup_ne (fun z => by rw [z, hp] at e; cases e)]; exact e
      · rw [← List.map_append]; exact h
/-- credit -/
theorem Vw.list {C : Cm} {w : W} {xs : List PyData} {Q : WK} {m : Bool} (h : Vw C w (.list xs)) : opList m [w] C Q = newL m (xs.map W.d) C Q := by
  cases h with
  | d x => rfl
  | own e => rw [opList_own e]
def creditF (ls : List Ln) (short need : Int) : List Ln := if short = 0 then ls else ls ++ [(("credit", 0, short, -(totalF ls * short) / need) : Ln)]
def sp_credit : DSp := fun ds C Q _ => ∃ w ls short need, ds = [w, .d (.int short), .d (.int need)] ∧ Vw C w (lnsD ls) ∧ ls.length ≤ 10000 ∧ (0 < need ∧ need < 1073741824) ∧ (-(2 ^ 64) < short ∧ short < 2 ^ 64) ∧ ∀ p, C p = none → Q (.own p) (cup C p (.lst (((creditF ls short need).map lnD).map W.d)))
theorem c_credit : ∀ ds C Q E, sp_credit ds C Q E → w_credit sp_total (exOf E) (endsF Q) (startD n_credit ds) C := by
  rintro ds C Q E ⟨w, ls, short, need, rfl, v, hl, hn, hs, h⟩
  have hbig := big
  unfold creditF at h
  refine r_sj (fun γ' C' => γ' = [some w, some (.d (.int short)), some (.d (.int need))] ∧ C = C' ∧ short ≠ 0) ?_ ?_
  · simp only [RUN, RUV, ENV, n_credit, v.list, Bool.false_eq_true, if_false]
    by_cases h0 : short = 0
    · rw [if_pos (by simpa using h0)]
      intro p hp
      rw [if_pos h0] at h
      exact r_ret (h p hp)
    · rw [if_neg (by simpa using h0)]
      exact ⟨rfl, trivial, h0⟩
  · rintro γ' C' ⟨rfl, rfl, h0⟩
    rw [if_neg h0] at h
    simp only [RUN, RUV, ENV, v.list]
    refine ⟨w, ls, rfl, v, ?_⟩
    simp only [RUN, RUV, ENV, v.list]
    refine ⟨cmulR hs, cdiv hn, by decide, by decide, by rw [List.length_map]; simp only [List.length_cons, List.length_nil]; omega, fun p hp => r_ret ?_⟩
    have := h p hp
    simpa [lnD] using this
/-- shares -/
abbrev Pr : Type := Int × Nat
def prD (p : Pr) : PyData := .tuple [.int p.1, .int (p.2 : Nat)]
def prLe (p q : Pr) : Bool := decide (p.1 < q.1 ∨ (p.1 = q.1 ∧ p.2 ≤ q.2))
def sh0 (coins : Int) (ws : List Int) : List Int := ws.map fun w => coins * w / ws.sum
def rests (coins : Int) (ws : List Int) : List Pr := ws.zipIdx.map fun p => (-(coins * p.1 % ws.sum), p.2)
def bump (t : List Int) (p : Pr) : List Int := t.set p.2 (t.getD p.2 0 + 1)
def picks (coins : Int) (ws : List Int) : List Pr := ((rests coins ws).mergeSort prLe).take (coins - (sh0 coins ws).sum).toNat
def shareF (coins : Int) (ws : List Int) : List Int := (picks coins ws).foldl bump (sh0 coins ws)
theorem srt_map {α : Type} (f : α → PyData) (l : List α) : srt (l.map f) = (l.mergeSort (PySem.W.dataLe false f)).map f := by
  unfold srt
  exact (List.map_mergeSort (r := PySem.W.dataLe false f) (s := PySem.W.dataLe false id) (f := f) (l := l) (fun _ _ _ _ => rfl)).symm
theorem prLe_eq : PySem.W.dataLe false prD = prLe := by
  have e := PySem.W.dataLe_ii (fun p : Pr => p.1) (fun p : Pr => ((p.2 : Nat) : Int))
  unfold prLe
  show PySem.W.dataLe false (fun b : Pr => .tuple [.int b.1, .int ((b.2 : Nat) : Int)]) = _
  rw [e]
  funext p q
  simp
theorem alike_pr (l : List Pr) : PySem.W.AllAlike (l.map prD) := PySem.W.AllAlike.of fun _ _ => rfl
theorem sortable_pr (l : List Pr) : PySem.W.Sortable (l.map prD) := PySem.W.Sortable.tuples fun _ => ⟨_, _, rfl⟩
theorem depth_pr : ∀ l : List Pr, PyData.depthAll (l.map prD) ≤ 1
  | [] => by simp [PyData.depthAll]
  | p :: l => by
    have := depth_pr l
    simp only [List.map_cons, PyData.depthAll]
    have : (prD p).depth ≤ 1 := by simp [prD, PyData.depth, PyData.depthAll]
    omega
theorem bump_len (t : List Int) (p : Pr) : (bump t p).length = t.length := by unfold bump; rw [List.length_set]
theorem bump_at {t : List Int} {p : Pr} (h : p.2 < t.length) : bump t p = t.set p.2 (t[p.2] + 1) := by
  unfold bump; rw [List.getD_eq_getElem?_getD, List.getElem?_eq_getElem h]; rfl
theorem bumps_len : ∀ (ps : List Pr) (t : List Int), (ps.foldl bump t).length = t.length
  | [], t => rfl
  | p :: ps, t => by rw [List.foldl_cons, bumps_len ps, bump_len]
theorem rests_lt {coins : Int} {ws : List Int} {p : Pr} (h : p ∈ rests coins ws) : p.2 < ws.length := by
  unfold rests at h
  obtain ⟨⟨x, i⟩, hq, rfl⟩ := List.mem_map.mp h
  obtain ⟨j, hj⟩ := List.mem_iff_getElem?.mp hq
  rw [List.getElem?_zipIdx] at hj
  cases e : ws[j]? with
  | none => rw [e] at hj; cases hj
  | some y =>
    rw [e] at hj
    have h2 : (y, 0 + j) = (x, i) := Option.some.inj hj
    have := (List.getElem?_eq_some_iff.mp e).1
    have h3 : 0 + j = i := congrArg Prod.snd h2
    show i < ws.length
    omega
def sp_share : DSp := fun ds C Q _ => ∃ coins ws, ds = [.d (.int coins), .d (.list (ws.map .int))] ∧ ws.length ≤ 1000 ∧ (0 < ws.sum ∧ ws.sum < 1073741824) ∧ (-(2 ^ 64) < coins ∧ coins < 2 ^ 64) ∧ 0 ≤ coins - (sh0 coins ws).sum ∧ Q (.d (.list ((shareF coins ws).map .int))) C
theorem c_share : ∀ ds C Q E, sp_share ds C Q E → w_share (exOf E) (endsF Q) (startD n_share ds) C := by
  rintro ds C Q E ⟨coins, ws, rfl, hl, hw, hc, hk, h⟩
  have hbig := big
  refine r_seq ?_
  simp only [RUN, RUV, ENV, n_share]
  refine r_seq ?_
  simp only [RUN, RUV, ENV, RUI]
  refine lc_map (fun d => match d with | .d (.int w) => .d (.int (coins * w / ws.sum)) | _ => .d .none) trivial (by simp; omega) ?_ ?_
  · intro d hd K hK
    obtain ⟨i, hi⟩ := List.mem_iff_getElem?.mp hd
    obtain ⟨w, hw1, rfl⟩ := map_at hi
    simp only [RUN, RUV, ENV, wipeD]
    exact ⟨cmulL hc, cdiv hw, hK⟩
  have e1 : (((ws.map PyData.int).map W.d).map fun d => match d with | .d (.int w) => W.d (.int (coins * w / ws.sum)) | _ => .d .none) = ((sh0 coins ws).map PyData.int).map W.d := by
    rw [List.map_map, List.map_map]; unfold sh0; rw [List.map_map, List.map_map]; rfl
  rw [e1, newL_true]
  intro p hp
  refine r_seq ?_
  simp only [RUN, RUV, ENV, RUI, RUE]
  refine lc_map (fun d => match d with | .d (.tuple [.int i, .int w]) => .d (.tuple [.int (-(coins * w % ws.sum)), .int i]) | _ => .d .none) trivial (by simp; omega) ?_ ?_
  · intro d hd K hK
    obtain ⟨i, hi⟩ := List.mem_iff_getElem?.mp hd
    obtain ⟨w, hw1, rfl⟩ := zip_at hi
    simp only [RUN, RUV, ENV, wipeD]
    refine ⟨trivial, cmulL hc, hw.1, by decide, hK⟩
  have e2 : (((ws.map PyData.int).zipIdx.map fun p => W.d (.tuple [.int (p.2 : Nat), p.1])).map fun d => match d with | .d (.tuple [.int i, .int w]) => W.d (.tuple [.int (-(coins * w % ws.sum)), .int i]) | _ => .d .none) = ((rests coins ws).map prD).map W.d := by
    unfold rests
    rw [zipIdx_map', List.map_map, List.map_map, List.map_map, List.map_map]
    rfl
  rw [e2, newL_d]
  refine r_seq ?_
  have hs : opSorted false [.d (.list ((rests coins ws).map prD))] = fun C Q => (PySem.W.AllAlike ((rests coins ws).map prD) ∧ PySem.W.Sortable ((rests coins ws).map prD) ∧ PyData.depthAll ((rests coins ws).map prD) ≤ 60 ∧ newL false ((srt ((rests coins ws).map prD)).map W.d) C Q) := by
    funext C Q
    unfold opSorted
    simp only [asLd, asL, Option.bind_some, dAll_map]
  simp only [RUN, RUV, ENV, RUI, hs]
  have hd := depth_pr (rests coins ws)
  refine ⟨alike_pr _, sortable_pr _, by omega, ?_⟩
  rw [srt_map, prLe_eq, opSum_own cup_same]
  simp only [RUN, RUV, ENV]
  rw [opSl_list]
  rw [cut_to hk, ← List.map_take]
  simp only [RUN, RUV, ENV, RUI]
  refine ⟨fun i γ' C' => (∃ x y, γ' = [some (.d (.int coins)), some (.d (.list (ws.map .int))), some (.d (.int ws.sum)), some (.own p), some (.d (.list ((rests coins ws).map prD))), x, y, none]) ∧
    C' = cup C p (.lst (((((picks coins ws).take i).foldl bump (sh0 coins ws)).map .int).map W.d)), ⟨⟨_, _, rfl⟩, rfl⟩, fun _ _ _ _ _ => trivial, ?_, ?_⟩
  · rintro i d γ' C' hd ⟨⟨x, y, rfl⟩, rfl⟩
    obtain ⟨q, hq, rfl⟩ := map_at hd
    have hq2 : (picks coins ws)[i]? = some q := hq
    have hm : q ∈ rests coins ws := by
      have h1 := List.mem_of_mem_take (List.mem_of_getElem? hq)
      exact (List.mergeSort_perm _ _).mem_iff.mp h1
    have lt := rests_lt hm
    have tl : (((picks coins ws).take i).foldl bump (sh0 coins ws)).length = ws.length := by rw [bumps_len]; unfold sh0; rw [List.length_map]
    simp only [RUN, RUV, ENV, prD]
    refine ⟨trivial, ?_⟩
    rw [ixN_in (by omega) (by rw [List.length_map, List.length_map, tl]; omega)]
    simp only [Int.toNat_natCast]
    rw [List.getElem?_map, List.getElem?_map, List.getElem?_eq_getElem (by omega)]
    simp only [RUN, RUV, ENV, Option.map_some]
    refine ⟨trivial, _, Sub.refl _, ⟨_, _, rfl⟩, ?_⟩
    rw [set_map, take_succ' hq2, List.foldl_append]
    show _ = cup C p (.lst (((bump _ q).map PyData.int).map W.d))
    rw [bump_at (by omega)]
  · rintro γ' C' ⟨⟨x, y, rfl⟩, rfl⟩
    simp only [RUN, RUV, ENV]
    refine r_retF cup_same (sub_cup_del hp) ?_
    have e3 : (picks coins ws).take (((((rests coins ws).mergeSort prLe).take (coins - (sh0 coins ws).sum).toNat).map prD).map W.d).length = picks coins ws := by
      rw [List.length_map, List.length_map]; exact List.take_length
    rw [e3]
    exact h
end K84

set_option maxRecDepth 100000
set_option maxHeartbeats 4000000
namespace K84
open PySem L2 Dl
/-! ### the law's draws -/
theorem drawn {a : Addr} {ns : List Int} {n s0 s1 : Int} {B : Cm} {Q : WK} {E : Value → List (Str × W) → Cm → Prop} (h0 : 0 ≤ s0) (h1 : 0 ≤ s1) (hn : 0 < n ∧ n < 1073741824)
    (k : ∀ d t0 t1, 0 ≤ d → d < n → 0 ≤ t0 → 0 ≤ t1 → Q (.d (.int d)) (cup B a (stC t0 t1))) : sp_law_draw [.own a, .scr ns, .d (.int n)] (cup B a (stC s0 s1)) Q E :=
  ⟨a, ns, n, s0, s1, rfl, hn, cup_same, h0, h1, fun d t0 t1 g0 g1 g2 g3 => by rw [cup_cup]; exact k d t0 t1 g0 g1 g2 g3⟩
theorem drawn2 {a p : Addr} {ns : List Int} {n s0 s1 : Int} {B : Cm} {c : Cell} {Q : WK} {E : Value → List (Str × W) → Cm → Prop} (hp : p ≠ a) (h0 : 0 ≤ s0) (h1 : 0 ≤ s1) (hn : 0 < n ∧ n < 1073741824)
    (k : ∀ d t0 t1, 0 ≤ d → d < n → 0 ≤ t0 → 0 ≤ t1 → Q (.d (.int d)) (cup (cup B a (stC t0 t1)) p c)) : sp_law_draw [.own a, .scr ns, .d (.int n)] (cup (cup B a (stC s0 s1)) p c) Q E :=
  ⟨a, ns, n, s0, s1, rfl, hn, by rw [cup_ne (Ne.symm hp), cup_same], h0, h1, fun d t0 t1 g0 g1 g2 g3 => by rw [cup_comm hp, cup_cup]; exact k d t0 t1 g0 g1 g2 g3⟩
theorem fresh_ne {B : Cm} {a p : Addr} {c : Cell} (h : cup B a c p = none) : p ≠ a := fun z => by rw [z, cup_same] at h; cases h
theorem opIx_int {xs : List PyData} {i : Int} {C : Cm} {Q : WK} (P : Int → Prop) (h0 : 0 ≤ i) (h1 : i < xs.length) (h : ∀ x ∈ xs, ∃ n, x = .int n ∧ P n) (k : ∀ n, P n → Q (.d (.int n)) C) : opIx (.d (.list xs)) (.d (.int i)) C Q :=
  opIx_pick h0 h1 fun x hx => by
    obtain ⟨n, rfl, hn⟩ := h x hx
    exact k n hn
theorem mem_end {P : PyData → Prop} : ∀ x ∈ ([] : List PyData), P x := fun _ h => by simp at h
theorem mem_con {P : PyData → Prop} {a : PyData} {l : List PyData} (h : P a) (k : ∀ x ∈ l, P x) : ∀ x ∈ a :: l, P x := fun x hx => by
  rcases List.mem_cons.mp hx with rfl | hx
  · exact h
  · exact k x hx
theorem range_at {n : Nat} {i : Nat} {d : W} (h : ((List.range n).map fun i => W.d (.int (i : Nat)))[i]? = some d) : i < n ∧ d = .d (.int (i : Nat)) := by
  rw [List.getElem?_map] at h
  by_cases hi : i < n
  · rw [List.getElem?_range hi] at h
    exact ⟨hi, (Option.some.inj h).symm⟩
  · rw [List.getElem?_eq_none (by simpa using hi)] at h; cases h
theorem ints_of {P : Int → Prop} : ∀ {ys : List W}, (∀ (i : Nat) y, ys[i]? = some y → ∃ n : Int, y = .d (.int n) ∧ P n) → ∃ ts : List Int, ys = (ts.map PyData.int).map W.d ∧ ∀ t ∈ ts, P t
  | [], _ => ⟨[], rfl, fun t h => by simp at h⟩
  | y :: ys, h => by
    obtain ⟨n, rfl, hn⟩ := h 0 y rfl
    obtain ⟨ts, rfl, hts⟩ := ints_of (ys := ys) fun i y e => h (i + 1) y (by simpa using e)
    refine ⟨n :: ts, rfl, fun t ht => ?_⟩
    rcases List.mem_cons.mp ht with rfl | ht
    · exact hn
    · exact hts t ht
structure EntOk (e : Ent) : Prop where
  st : 0 < e.step ∧ e.step < 1073741824
  pr : -(2 ^ 64) < e.price ∧ e.price < 2 ^ 64
def sp_law_tariff : DSp := fun ds C Q _ => ∃ a ns B s0 s1, ds = [.own a, .scr ns] ∧ C = cup B a (stC s0 s1) ∧ 0 ≤ s0 ∧ 0 ≤ s1 ∧
  ∀ es least most taxes t0 t1, TarOk es taxes → 0 ≤ t0 → 0 ≤ t1 → Q (.d (tariffD es least most taxes)) (cup B a (stC t0 t1))
theorem c_law_tariff : ∀ ds C Q E, sp_law_tariff ds C Q E → w_law_tariff sp_law_draw (exOf E) (endsF Q) (startD n_law_tariff ds) C := by
  rintro ds C Q E ⟨a, ns, B, s0, s1, rfl, rfl, g0, g1, h⟩
  have hbig := big
  refine r_seq ?_
  simp only [RUN, RUV, ENV, n_law_tariff]
  refine ⟨by decide, fun p hp => r_seq ?_⟩
  have hpa : p ≠ a := fresh_ne hp
  simp only [RUN, RUV, ENV, RUI]
  refine drawn2 hpa g0 g1 (by decide) fun d1 t0 t1 d1a d1b g2 g3 => ?_
  simp only [RUN, RUV, ENV, RUI, Option.map_some]
  refine ⟨by decide, drawn2 hpa g2 g3 (by decide) fun d2 t0 t1 d2a d2b g4 g5 => ?_⟩
  refine opIx_int (fun n => 1 ≤ n ∧ n ≤ 12) d2a d2b (mem_con ⟨_, rfl, by omega⟩ (mem_con ⟨_, rfl, by omega⟩ (mem_con ⟨_, rfl, by omega⟩ (mem_con ⟨_, rfl, by omega⟩ (mem_con ⟨_, rfl, by omega⟩ mem_end))))) fun n hn => ?_
  simp only [RUN, RUV, ENV, RUI]
  refine ⟨by omega, by omega, ?_⟩
  refine ⟨fun i γ' C' => (∃ x1 x2 x3 x4 x5 x6, γ' = [some (.own a), some (.scr ns), some (.own p), x1, x2, x3, x4, x5, x6, none, none, none]) ∧ ∃ (es : List Ent) (s0 s1 : Int), C' = cup (cup B a (stC s0 s1)) p (.lst ((es.map entD).map W.d)) ∧ es.length = i ∧ (∀ e ∈ es, EntOk e) ∧ 0 ≤ s0 ∧ 0 ≤ s1,
    ⟨⟨_, _, _, _, _, _, rfl⟩, [], t0, t1, rfl, rfl, fun e he => by simp at he, g4, g5⟩, fun _ _ _ _ _ => trivial, ?_, ?_⟩
  · rintro i d γ' C' hd ⟨⟨x1, x2, x3, x4, x5, x6, rfl⟩, es, s0, s1, rfl, hl, hes, g0, g1⟩
    obtain ⟨hi, rfl⟩ := range_at hd
    simp only [RUN, ENV]
    refine r_seq ?_
    simp only [RUN, RUV, ENV, Option.map_some]
    refine ⟨by decide, drawn2 hpa g0 g1 (by decide) fun d1 t0 t1 d1a d1b g2 g3 => ?_⟩
    refine opIx_pick d1a d1b fun kd hkd => ?_
    obtain ⟨kd, rfl⟩ : ∃ z, kd = .str z := mem_con (P := fun k => ∃ z, k = .str z) ⟨_, rfl⟩ (mem_con ⟨_, rfl⟩ (mem_con ⟨_, rfl⟩ (mem_con ⟨_, rfl⟩ (mem_con ⟨_, rfl⟩ (mem_con ⟨_, rfl⟩ mem_end))))) kd hkd
    refine r_seq ?_
    simp only [RUN, RUV, ENV, Option.map_some]
    refine drawn2 hpa g2 g3 (by decide) fun d2 t0 t1 d2a d2b g2 g3 => ?_
    simp only [RUN, RUV, ENV, Option.map_some]
    refine ⟨by decide, drawn2 hpa g2 g3 (by decide) fun d3 t0 t1 d3a d3b g2 g3 => ?_⟩
    refine opIx_int (fun n => True) d3a d3b (mem_con ⟨_, rfl, trivial⟩ (mem_con ⟨_, rfl, trivial⟩ (mem_con ⟨_, rfl, trivial⟩ (mem_con ⟨_, rfl, trivial⟩ mem_end)))) fun first _ => ?_
    refine r_seq ?_
    simp only [RUN, RUV, ENV, Option.map_some]
    refine drawn2 hpa g2 g3 (by decide) fun d4 t0 t1 d4a d4b g2 g3 => ?_
    simp only [RUN, RUV, ENV, Option.map_some]
    refine ⟨by decide, drawn2 hpa g2 g3 (by decide) fun d5 t0 t1 d5a d5b g2 g3 => ?_⟩
    refine opIx_int (fun n => True) d5a d5b (mem_con ⟨_, rfl, trivial⟩ (mem_con ⟨_, rfl, trivial⟩ (mem_con ⟨_, rfl, trivial⟩ (mem_con ⟨_, rfl, trivial⟩ mem_end)))) fun last _ => ?_
    refine r_seq ?_
    simp only [RUN, RUV, ENV, Option.map_some]
    refine drawn2 hpa g2 g3 (by decide) fun d6 t0 t1 d6a d6b g2 g3 => ?_
    simp only [RUN, RUV, ENV, Option.map_some]
    refine drawn2 hpa g2 g3 (by decide) fun d7 t0 t1 d7a d7b g2 g3 => ?_
    simp only [RUN, RUV, ENV, Option.map_some]
    refine ⟨by decide, drawn2 hpa g2 g3 (by decide) fun d8 t0 t1 d8a d8b g2 g3 => ?_⟩
    refine opIx_int (fun n => 0 ≤ n ∧ n ≤ 9999) d8a d8b (mem_con ⟨_, rfl, by omega⟩ (mem_con ⟨_, rfl, by omega⟩ (mem_con ⟨_, rfl, by omega⟩ (mem_con ⟨_, rfl, by omega⟩ mem_end)))) fun price hpr => ?_
    have hok : ∀ step, 1 ≤ step → step ≤ 20 → ∀ e ∈ es ++ [(⟨kd, first, last, price, step⟩ : Ent)], EntOk e := fun step hs1 hs2 e he => by
      rcases List.mem_append.mp he with he | he
      · exact hes e he
      · rcases List.mem_cons.mp he with rfl | he
        · exact ⟨by show 0 < step ∧ step < _; omega, by show -(2 ^ 64) < price ∧ price < 2 ^ 64; omega⟩
        · simp at he
    refine r_seq ?_
    simp only [RUN, RUV, ENV, Option.map_some, Bool.false_eq_true, if_false]
    split
    · refine ⟨by decide, by simp only [List.length_map]; omega, ?_⟩
      refine ⟨_, Sub.refl _, ⟨_, _, _, _, _, _, rfl⟩, es ++ [(⟨kd, first, last, price, 1⟩ : Ent)], _, _, by rw [List.map_append, List.map_append]; rfl, by simp [hl], hok 1 (by omega) (by omega), g2, g3⟩
    · refine drawn2 (n := 20) hpa g2 g3 (by decide) fun d9 t0 t1 d9a d9b g2 g3 => ?_
      simp only [RUN, RUV, ENV, Option.map_some]
      refine drawn2 hpa g2 g3 (by decide) fun d10 t0 t1 d10a d10b g2 g3 => ?_
      simp only [RUN, RUV, ENV, Option.map_some]
      refine ⟨by decide, drawn2 hpa g2 g3 (by decide) fun d11 t0 t1 d11a d11b g2 g3 => ?_⟩
      refine opIx_int (fun n => 1 ≤ n ∧ n ≤ 20) d11a d11b (mem_con ⟨_, rfl, by omega⟩ (mem_con ⟨_, rfl, by omega⟩ (mem_con ⟨_, rfl, by omega⟩ (mem_con ⟨_, rfl, by omega⟩ mem_end)))) fun step hst => ?_
      simp only [RUN, RUV, ENV, Option.map_some]
      refine ⟨by decide, by simp only [List.length_map]; omega, ?_⟩
      refine ⟨_, Sub.refl _, ⟨_, _, _, _, _, _, rfl⟩, es ++ [(⟨kd, first, last, price, step⟩ : Ent)], _, _, by rw [List.map_append, List.map_append]; rfl, by simp [hl], hok step hst.1 hst.2, g2, g3⟩
  · rintro γ' C' ⟨⟨x1, x2, x3, x4, x5, x6, rfl⟩, es, s0, s1, rfl, hl, hes, g0, g1⟩
    rw [List.length_map, List.length_range] at hl
    dsimp only
    refine r_seq ?_
    simp only [RUN, RUV, ENV, Option.map_some]
    refine drawn2 hpa g0 g1 (by decide) fun d1 t0 t1 d1a d1b g2 g3 => ?_
    simp only [RUN, RUV, ENV, Option.map_some]
    refine drawn2 hpa g2 g3 (by decide) fun d2 t0 t1 d2a d2b g2 g3 => ?_
    simp only [RUN, RUV, ENV, Option.map_some]
    refine ⟨by decide, drawn2 hpa g2 g3 (by decide) fun d3 t0 t1 d3a d3b g2 g3 => ?_⟩
    refine opIx_int (fun n => True) d3a d3b (mem_con ⟨_, rfl, trivial⟩ (mem_con ⟨_, rfl, trivial⟩ (mem_con ⟨_, rfl, trivial⟩ (mem_con ⟨_, rfl, trivial⟩ mem_end)))) fun least _ => ?_
    refine r_seq ?_
    simp only [RUN, RUV, ENV, Option.map_some]
    refine drawn2 hpa g2 g3 (by decide) fun d4 t0 t1 d4a d4b g2 g3 => ?_
    simp only [RUN, RUV, ENV, Option.map_some]
    refine drawn2 hpa g2 g3 (by decide) fun d5 t0 t1 d5a d5b g2 g3 => ?_
    simp only [RUN, RUV, ENV, Option.map_some]
    refine ⟨by decide, drawn2 hpa g2 g3 (by decide) fun d6 t0 t1 d6a d6b g2 g3 => ?_⟩
    refine opIx_int (fun n => True) d6a d6b (mem_con ⟨_, rfl, trivial⟩ (mem_con ⟨_, rfl, trivial⟩ (mem_con ⟨_, rfl, trivial⟩ (mem_con ⟨_, rfl, trivial⟩ mem_end)))) fun more _ => ?_
    simp only [RUN, RUV, ENV]
    refine r_seq ?_
    simp only [RUN, RUV, ENV, RUI]
    refine drawn2 hpa g2 g3 (by decide) fun d7 t0 t1 d7a d7b g2 g3 => ?_
    simp only [RUN, RUV, ENV, RUI]
    refine ⟨by omega, by omega, ?_⟩
    refine lc_pr (fun C' => ∃ t0 t1, C' = cup (cup B a (stC t0 t1)) p (.lst ((es.map entD).map W.d)) ∧ 0 ≤ t0 ∧ 0 ≤ t1) (fun _ y => ∃ n : Int, y = .d (.int n) ∧ 0 ≤ n ∧ n ≤ 999) ⟨t0, t1, rfl, g2, g3⟩ (fun _ _ => trivial) (by simp; omega) ?_ ?_
    · rintro i d C' K Ks hd ⟨t0, t1, rfl, g2, g3⟩ hK
      simp only [RUN, RUV, ENV, wipeD, if_true]
      refine drawn2 hpa g2 g3 (by decide) fun d8 t0 t1 d8a d8b g2 g3 => ?_
      simp only [RUN, RUV, ENV, Option.map_some]
      refine ⟨by decide, drawn2 hpa g2 g3 (by decide) fun d9 t0 t1 d9a d9b g2 g3 => ?_⟩
      refine opIx_int (fun n => 0 ≤ n ∧ n ≤ 999) d9a d9b (mem_con ⟨_, rfl, by omega⟩ (mem_con ⟨_, rfl, by omega⟩ (mem_con ⟨_, rfl, by omega⟩ (mem_con ⟨_, rfl, by omega⟩ mem_end)))) fun tx ht => ?_
      exact hK _ _ _ ⟨tx, rfl, ht⟩ (Sub.refl _) ⟨t0, t1, rfl, g2, g3⟩
    · rintro ys C' hy hpr ⟨t0, t1, rfl, g2, g3⟩
      obtain ⟨ts, rfl, hts⟩ := ints_of hpr
      rw [newL_d]
      simp only [RUN, RUV, ENV, newT_d, opTuple_own cup_same]
      simp only [List.length_map, List.length_range] at hy
      simp only [Option.map_some]
      refine ⟨by decide, r_retS (C2 := cup B a (stC t0 t1)) (sub_cup (Sub.refl _) ?_) ?_⟩
      · rw [cup_ne hpa]; rw [cup_ne hpa] at hp; exact hp
      · refine h es least _ ts t0 t1 ⟨by omega, by rw [hy]; omega, fun e he => ?_, fun t ht => ?_⟩ g2 g3
        · have := hes e he; exact ⟨this.st, this.pr⟩
        · have := hts t ht; omega

theorem cdel_cup {C : Cm} {p : Addr} {c : Cell} (h : C p = none) : cdel (cup C p c) p = C := by
  funext b
  by_cases e : b = p
  · subst e; rw [h]; simp [cdel]
  · rw [cdel_ne e, cup_ne e]
def sp_law_course : DSp := fun ds C Q _ => ∃ a ns b B s0 s1, ds = [.own a, .scr ns, .d (.int b)] ∧ C = cup B a (stC s0 s1) ∧ 0 ≤ s0 ∧ 0 ≤ s1 ∧
  ∀ dr g t0 t1, dr.length ≤ 96 → 0 ≤ t0 → 0 ≤ t1 → Q (.d (courseD b dr g)) (cup B a (stC t0 t1))
theorem c_law_course : ∀ ds C Q E, sp_law_course ds C Q E → w_law_course sp_law_draw (exOf E) (endsF Q) (startD n_law_course ds) C := by
  rintro ds C Q E ⟨a, ns, b, B, s0, s1, rfl, rfl, g0, g1, h⟩
  have hbig := big
  refine r_seq ?_
  simp only [RUN, RUV, ENV, n_law_course]
  refine ⟨by decide, fun p hp => r_seq ?_⟩
  have hpa : p ≠ a := fresh_ne hp
  simp only [RUN, RUV, ENV, RUI]
  refine drawn2 hpa g0 g1 (by decide) fun d1 t0 t1 d1a d1b g2 g3 => ?_
  simp only [RUN, RUV, ENV, RUI, Option.map_some]
  refine ⟨by decide, drawn2 hpa g2 g3 (by decide) fun d2 t0 t1 d2a d2b g4 g5 => ?_⟩
  refine opIx_int (fun n => 0 ≤ n ∧ n ≤ 96) d2a d2b (mem_con ⟨_, rfl, by omega⟩ (mem_con ⟨_, rfl, by omega⟩ (mem_con ⟨_, rfl, by omega⟩ (mem_con ⟨_, rfl, by omega⟩ (mem_con ⟨_, rfl, by omega⟩ mem_end))))) fun n hn => ?_
  simp only [RUN, RUV, ENV, RUI]
  refine ⟨by omega, by omega, ?_⟩
  refine ⟨fun i γ' C' => (∃ x1, γ' = [some (.own a), some (.scr ns), some (.d (.int b)), some (.own p), x1]) ∧ ∃ (dr : List Int) (s0 s1 : Int), C' = cup (cup B a (stC s0 s1)) p (.lst ((dr.map PyData.int).map W.d)) ∧ dr.length = i ∧ 0 ≤ s0 ∧ 0 ≤ s1,
    ⟨⟨_, rfl⟩, [], t0, t1, rfl, rfl, g4, g5⟩, fun _ _ _ _ _ => trivial, ?_, ?_⟩
  · rintro i d γ' C' hd ⟨⟨x1, rfl⟩, dr, s0, s1, rfl, hl, g0, g1⟩
    obtain ⟨hi, rfl⟩ := range_at hd
    simp only [RUN, RUV, ENV, Option.map_some]
    refine drawn2 hpa g0 g1 (by decide) fun d1 t0 t1 d1a d1b g2 g3 => ?_
    simp only [RUN, RUV, ENV, Option.map_some]
    refine drawn2 hpa g2 g3 (by decide) fun d2 t0 t1 d2a d2b g2 g3 => ?_
    simp only [RUN, RUV, ENV, Option.map_some]
    refine ⟨by decide, drawn2 hpa g2 g3 (by decide) fun d3 t0 t1 d3a d3b g2 g3 => ?_⟩
    refine opIx_int (fun n => True) d3a d3b (mem_con ⟨_, rfl, trivial⟩ (mem_con ⟨_, rfl, trivial⟩ (mem_con ⟨_, rfl, trivial⟩ (mem_con ⟨_, rfl, trivial⟩ mem_end)))) fun x _ => ?_
    simp only [RUN, RUV, ENV, Option.map_some]
    refine ⟨by simp only [List.length_map]; omega, ?_⟩
    exact ⟨_, Sub.refl _, ⟨_, rfl⟩, dr ++ [x], _, _, by rw [List.map_append, List.map_append]; rfl, by simp [hl], g2, g3⟩
  · rintro γ' C' ⟨⟨x1, rfl⟩, dr, s0, s1, rfl, hl, g0, g1⟩
    rw [List.length_map, List.length_range] at hl
    dsimp only
    refine r_seq ?_
    simp only [RUN, RUV, ENV, RUI, Option.map_some]
    refine drawn2 hpa g0 g1 (by decide) fun d1 t0 t1 d1a d1b g2 g3 => ?_
    simp only [RUN, RUV, ENV, RUI, Option.map_some]
    refine ⟨by decide, drawn2 hpa g2 g3 (by decide) fun d2 t0 t1 d2a d2b g4 g5 => ?_⟩
    refine opIx_int (fun n => 0 ≤ n ∧ n ≤ 96) d2a d2b (mem_con ⟨_, rfl, by omega⟩ (mem_con ⟨_, rfl, by omega⟩ (mem_con ⟨_, rfl, by omega⟩ (mem_con ⟨_, rfl, by omega⟩ (mem_con ⟨_, rfl, by omega⟩ mem_end))))) fun m hm => ?_
    simp only [RUN, RUV, ENV, RUI]
    have hL : ((dr.map PyData.int).map W.d).length = n.toNat := by rw [List.length_map, List.length_map]; omega
    rw [hL]
    obtain ⟨q, hq, hq0, hq1⟩ : ∃ q : Int, (if m < (n.toNat : Nat) then m else (n.toNat : Nat)) = q ∧ 0 ≤ q ∧ q ≤ n := by
      split
      · exact ⟨_, rfl, by omega, by omega⟩
      · exact ⟨_, rfl, by omega, by omega⟩
    rw [hq]
    refine ⟨by omega, by omega, ?_⟩
    refine ⟨fun i γ' C' => (∃ x1, γ' = [some (.own a), some (.scr ns), some (.d (.int b)), some (.own p), x1]) ∧ ∃ (dr : List Int), C' = cup (cup B a (stC t0 t1)) p (.lst ((dr.map PyData.int).map W.d)) ∧ dr.length = n.toNat,
      ⟨⟨_, rfl⟩, dr, rfl, by omega⟩, fun _ _ _ _ _ => trivial, ?_, ?_⟩
    · rintro i d γ' C' hd ⟨⟨x1, rfl⟩, dr, rfl, hl⟩
      obtain ⟨hi, rfl⟩ := range_at hd
      simp only [RUN, RUV, ENV, Option.map_some, List.length_map, hl]
      rw [ixN_in (by omega) (by omega)]
      simp only [RUN, RUV, ENV, set_map]
      exact ⟨_, Sub.refl _, ⟨_, rfl⟩, _, rfl, by rw [List.length_set]; exact hl⟩
    · rintro γ' C' ⟨⟨x1, rfl⟩, dr, rfl, hl⟩
      dsimp only
      simp only [RUN, RUV, ENV]
      refine ⟨_, _, .lst cup_same, ?_⟩
      have hp0 : cup B a (stC t0 t1) p = none := by rw [cup_ne hpa]; rw [cup_ne hpa] at hp; exact hp
      rw [cdel_cup hp0]
      simp only [RUN, RUV, ENV, Option.map_some]
      refine drawn g4 g5 (by decide) fun d3 t0 t1 d3a d3b g2 g3 => ?_
      simp only [RUN, RUV, ENV, Option.map_some]
      refine ⟨by decide, drawn g2 g3 (by decide) fun d4 t0 t1 d4a d4b g2 g3 => ?_⟩
      refine opIx_int (fun n => True) d4a d4b (mem_con ⟨_, rfl, trivial⟩ (mem_con ⟨_, rfl, trivial⟩ (mem_con ⟨_, rfl, trivial⟩ (mem_con ⟨_, rfl, trivial⟩ mem_end)))) fun g _ => ?_
      simp only [RUN, RUV, ENV, Option.map_some]
      exact ⟨by omega, r_ret (h dr g t0 t1 (by omega) g2 g3)⟩

/-! ### shares: plain arithmetic -/
theorem sum_set1 : ∀ (t : List Int) (i : Nat), i < t.length → (t.set i (t.getD i 0 + 1)).sum = t.sum + 1
  | [], i, h => by simp at h
  | x :: t, 0, _ => by simp; omega
  | x :: t, i + 1, h => by
    have := sum_set1 t i (by simpa using h)
    simp only [List.set_cons_succ, List.getD_cons_succ, List.sum_cons, this]; omega
theorem bumps_sum : ∀ (ps : List Pr) (t : List Int), (∀ p ∈ ps, p.2 < t.length) → (ps.foldl bump t).sum = t.sum + ps.length
  | [], t, _ => by simp
  | p :: ps, t, h => by
    rw [List.foldl_cons, bumps_sum ps (bump t p) (fun q hq => by rw [bump_len]; exact h q (List.mem_cons_of_mem _ hq)), bump, sum_set1 _ _ (h p List.mem_cons_self)]
    simp only [List.length_cons]; omega
theorem bump_get {t : List Int} {p : Pr} {i : Nat} (h : p.2 < t.length) : (bump t p).getD i 0 = t.getD i 0 + if p.2 = i then 1 else 0 := by
  unfold bump
  simp only [List.getD_eq_getElem?_getD, List.getElem?_set]
  by_cases e : p.2 = i
  · subst e; simp [h]
  · simp [e]
theorem bumps_get : ∀ (ps : List Pr) (t : List Int) (i : Nat), (∀ p ∈ ps, p.2 < t.length) → (ps.map (·.2)).Nodup → (ps.foldl bump t).getD i 0 = t.getD i 0 + if i ∈ ps.map (·.2) then 1 else 0
  | [], t, i, _, _ => by simp
  | p :: ps, t, i, h, hn => by
    rw [List.map_cons, List.nodup_cons] at hn
    rw [List.foldl_cons, bumps_get ps (bump t p) i (fun q hq => by rw [bump_len]; exact h q (List.mem_cons_of_mem _ hq)) hn.2, bump_get (h p List.mem_cons_self)]
    by_cases e : p.2 = i
    · have : i ∉ ps.map (·.2) := fun m => hn.1 (by rw [e]; exact m)
      simp [e, this]
    · have e' : ¬ i = p.2 := fun z => e z.symm
      simp only [if_neg e, List.map_cons, List.mem_cons, e', false_or]; omega
theorem rests_snd (coins : Int) (ws : List Int) : (rests coins ws).map (·.2) = List.range' 0 ws.length := by
  unfold rests
  rw [List.map_map, ← List.zipIdx_map_snd 0 ws]
  rfl
theorem rests_mem {coins : Int} {ws : List Int} {p : Pr} (h : p ∈ rests coins ws) : p.1 = -(coins * ws.getD p.2 0 % ws.sum) := by
  unfold rests at h
  obtain ⟨q, hq, rfl⟩ := List.mem_map.mp h
  have := List.mem_zipIdx' hq
  simp only [List.getD_eq_getElem?_getD]
  rw [List.getElem?_eq_getElem this.1, ← this.2]; rfl
theorem rests_has {coins : Int} {ws : List Int} {i : Nat} (h : i < ws.length) : (-(coins * ws.getD i 0 % ws.sum), i) ∈ rests coins ws := by
  unfold rests
  refine List.mem_map.mpr ⟨(ws[i], i), ?_, ?_⟩
  · rw [List.mem_zipIdx_iff_getElem?]; simp [h]
  · simp [h]
theorem le_trans' (a b c : Pr) (h1 : prLe a b = true) (h2 : prLe b c = true) : prLe a c = true := by
  simp only [prLe, decide_eq_true_eq] at *; omega
theorem le_total' (a b : Pr) : (prLe a b || prLe b a) = true := by
  simp only [prLe, Bool.or_eq_true, decide_eq_true_eq]; omega
theorem sorted_rests (coins : Int) (ws : List Int) : ((rests coins ws).mergeSort prLe).Pairwise (fun a b => prLe a b = true) :=
  List.pairwise_mergeSort le_trans' le_total' _
theorem sort_perm (coins : Int) (ws : List Int) : ((rests coins ws).mergeSort prLe).Perm (rests coins ws) := List.mergeSort_perm _ _
theorem picks_nodup (coins : Int) (ws : List Int) : ((picks coins ws).map (·.2)).Nodup := by
  have h : (((rests coins ws).mergeSort prLe).map (·.2)).Nodup := ((sort_perm coins ws).map _).nodup_iff.mpr (by rw [rests_snd]; exact List.nodup_range')
  exact h.sublist ((List.take_sublist _ _).map _)
theorem picks_lt {coins : Int} {ws : List Int} : ∀ p ∈ picks coins ws, p.2 < (sh0 coins ws).length := fun p hp => by
  have := rests_lt ((sort_perm coins ws).mem_iff.mp (List.mem_of_mem_take hp))
  simpa [sh0] using this
/-- rounding down takes less than one from each -/
theorem floor_sum (c W : Int) (hW : 0 < W) : ∀ ws : List Int, 0 ≤ c * ws.sum - W * (ws.map fun w => c * w / W).sum ∧ c * ws.sum - W * (ws.map fun w => c * w / W).sum ≤ ws.length * (W - 1)
  | [] => by simp
  | w :: ws => by
    have ih := floor_sum c W hW ws
    have e := Int.mul_ediv_add_emod (c * w) W
    have h0 := Int.emod_nonneg (c * w) (show W ≠ 0 by omega)
    have h1 := Int.emod_lt_of_pos (c * w) hW
    simp only [List.sum_cons, List.map_cons, List.length_cons, Int.mul_add]
    rw [Int.natCast_add, Int.add_mul]
    simp only [Int.natCast_one, Int.one_mul]
    omega
theorem left_ok {c : Int} {ws : List Int} (hW : 0 < ws.sum) : 0 ≤ c - (sh0 c ws).sum ∧ c - (sh0 c ws).sum ≤ ws.length := by
  have h := floor_sum c ws.sum hW ws
  have e : c * ws.sum - ws.sum * (sh0 c ws).sum = ws.sum * (c - (sh0 c ws).sum) := by rw [Int.mul_sub, Int.mul_comm c]
  have h1 : 0 ≤ ws.sum * (c - (sh0 c ws).sum) := by rw [← e]; exact h.1
  have h2 : ws.sum * (c - (sh0 c ws).sum) ≤ ws.length * (ws.sum - 1) := by rw [← e]; exact h.2
  constructor
  · by_cases z : 0 ≤ c - (sh0 c ws).sum
    · exact z
    · have := Int.mul_lt_mul_of_pos_left (show c - (sh0 c ws).sum < 0 by omega) hW
      rw [Int.mul_zero] at this; omega
  · by_cases z : c - (sh0 c ws).sum ≤ ws.length
    · exact z
    · have := Int.mul_le_mul_of_nonneg_left (show (ws.length : Int) + 1 ≤ c - (sh0 c ws).sum by omega) (Int.le_of_lt hW)
      rw [Int.mul_add, Int.mul_one] at this
      have e2 : (ws.length : Int) * (ws.sum - 1) = ws.sum * ws.length - ws.length := by rw [Int.mul_sub, Int.mul_one, Int.mul_comm]
      rw [e2] at h2
      omega
theorem picks_len {c : Int} {ws : List Int} (hW : 0 < ws.sum) : ((picks c ws).length : Int) = c - (sh0 c ws).sum := by
  have := left_ok (c := c) hW
  unfold picks
  rw [List.length_take, List.length_mergeSort]
  have : (rests c ws).length = ws.length := by simp [rests]
  omega
theorem share_sum {c : Int} {ws : List Int} (hW : 0 < ws.sum) : (shareF c ws).sum = c := by
  unfold shareF
  rw [bumps_sum _ _ picks_lt, picks_len hW]; omega
theorem share_len (c : Int) (ws : List Int) : (shareF c ws).length = ws.length := by
  unfold shareF
  rw [bumps_len]; simp [sh0]
def luck (c : Int) (ws : List Int) (i : Nat) : Int := if i ∈ (picks c ws).map (·.2) then 1 else 0
theorem sh0_get {c : Int} {ws : List Int} {i : Nat} (h : i < ws.length) : (sh0 c ws).getD i 0 = c * ws.getD i 0 / ws.sum := by
  unfold sh0; simp [h]
theorem share_at {c : Int} {ws : List Int} {i : Nat} (h : i < ws.length) : (shareF c ws).getD i 0 = c * ws.getD i 0 / ws.sum + luck c ws i := by
  unfold shareF luck
  rw [bumps_get _ _ _ picks_lt (picks_nodup c ws), sh0_get h]
theorem luck_order {c : Int} {ws : List Int} {i j : Nat} (hi : i < ws.length) (hj : j < ws.length) (h0 : luck c ws j = 0) (h1 : luck c ws i = 1) :
    c * ws.getD j 0 % ws.sum ≤ c * ws.getD i 0 % ws.sum ∧ (c * ws.getD j 0 % ws.sum = c * ws.getD i 0 % ws.sum → i ≤ j) := by
  have hip : i ∈ (picks c ws).map (·.2) := by
    unfold luck at h1
    split at h1
    · assumption
    · omega
  have hjp : j ∉ (picks c ws).map (·.2) := by
    unfold luck at h0
    split at h0
    · omega
    · assumption
  obtain ⟨p, hp, rfl⟩ := List.mem_map.mp hip
  have hjm := (sort_perm c ws).mem_iff.mpr (rests_has hj)
  have hpm := rests_mem ((sort_perm c ws).mem_iff.mp (List.mem_of_mem_take hp))
  have hs := sorted_rests c ws
  rw [← List.take_append_drop (c - (sh0 c ws).sum).toNat ((rests c ws).mergeSort prLe)] at hs hjm
  rcases List.mem_append.mp hjm with hm | hm
  · exact absurd (List.mem_map.mpr ⟨_, hm, rfl⟩) hjp
  · have := (List.pairwise_append.mp hs).2.2 p hp _ hm
    simp only [prLe, decide_eq_true_eq, hpm] at this
    omega

theorem at_i {l : List Int} {i : Nat} (h : i < l.length) : atI (l.map PyData.int) (i : Int) = some (.int (l.getD i 0)) := by
  have hl : i < (l.map PyData.int).length := by rw [List.length_map]; exact h
  rw [atI_pick (by omega) (by omega)]
  simp [h]
theorem at_w {l : List Int} {i : Nat} (h : i < l.length) : atI ((l.map PyData.int).map W.d) (i : Int) = some (.d (.int (l.getD i 0))) := by
  have hl : i < ((l.map PyData.int).map W.d).length := by rw [List.length_map, List.length_map]; exact h
  rw [atI_pick (by omega) (by omega)]
  simp [h]
theorem plain_ints : ∀ l : List Int, PyData.plainAll (l.map .int) = true
  | [] => rfl
  | _ :: l => by simp only [List.map_cons, PyData.plainAll, PyData.plain, plain_ints l, Bool.and_self]
theorem plain_lns : ∀ l : List Ln, PyData.plainAll (l.map lnD) = true
  | [] => rfl
  | _ :: l => by simp only [List.map_cons, PyData.plainAll, lnD, PyData.plain, plain_lns l, Bool.and_self]
theorem depth_lns : ∀ l : List Ln, PyData.depthAll (l.map lnD) ≤ 1
  | [] => by simp [PyData.depthAll]
  | p :: l => by
    have := depth_lns l
    simp only [List.map_cons, PyData.depthAll]
    have : (lnD p).depth ≤ 1 := by simp [lnD, PyData.depth, PyData.depthAll]
    omega
theorem ne_ints {C : Cm} {Q : WK} {p : Addr} {ts : List Int} (h : C p = some (.lst ((ts.map PyData.int).map W.d))) (k : Q (.d (.bool false)) C) : opEq true (.d (.list (ts.map .int))) (.own p) C Q := by
  rw [opEq_v, wpy_own h, wpy_d]
  have e : PyData.eqv (.list (ts.map .int)) (.list (ts.map .int)) = true := SeqAt.eqv_refl_plain _ (by simp only [PyData.plain, plain_ints])
  simp only [e]
  refine ⟨.inl ?_, k⟩
  simp only [PyData.depth, W.depth_ints]; omega
theorem ne_lns {C : Cm} {Q : WK} {ls : List Ln} (k : Q (.d (.bool false)) C) : opEq true (.d (lnsD ls)) (.d (lnsD ls)) C Q := by
  rw [opEq_ll]
  have e : PyData.eqv (lnsD ls) (lnsD ls) = true := SeqAt.eqv_refl_plain _ (by simp only [PyData.plain, plain_lns])
  rw [e]
  refine ⟨.inl ?_, k⟩
  have := depth_lns ls
  simp only [PyData.depth]; omega
/-- a whole number among whole numbers -/
theorem opIn_2 {C : Cm} {Q : WK} {neg : Bool} {i a b : Int} : opIn neg (.d (.int i)) (.d (.tuple [.int a, .int b])) C Q = Q (.d (.bool (if neg then !((a == i) || (b == i)) else ((a == i) || (b == i))))) C := by
  unfold opIn
  rw [wpy_d, wpy_d]
  simp [PyData.depth, PyData.eqv]
theorem billF_len (es : List Ent) (least most : Int) (taxes : List Int) (b : Int) (dr : List Int) (g : Int) : (billF es least most taxes b dr g).length ≤ es.length + 1 + taxes.length := by
  have h0 : (lines0 es (quantF es b dr g)).length ≤ 1 * (quantF es b dr g).zipIdx.length := flat_len (fun x => entLn_len _ _ _) _
  rw [List.length_zipIdx, quant_len] at h0
  have h1 : ∀ l : List Ln, (lines1 l least most).length ≤ l.length + 1 := fun l => by
    unfold lines1
    split
    · simp
    · split <;> simp
  have h2 := h1 (lines0 es (quantF es b dr g))
  unfold billF
  simp only [List.length_append, List.length_map, List.length_zipIdx]
  omega
theorem ints_sz {l : List Int} (h : l.length ≤ sizeLine) (n : Nat) : szD (n + 1) (.list (l.map .int)) := ⟨by rw [List.length_map]; exact h, fun x hx => by
  obtain ⟨i, _, rfl⟩ := List.mem_map.mp hx; unfold szD; trivial⟩
theorem sum_nn : ∀ l : List Int, (∀ w ∈ l, 0 ≤ w ∧ w ≤ 99) → 0 ≤ l.sum ∧ l.sum ≤ 99 * l.length
  | [], _ => by simp
  | x :: l, h => by
    have := sum_nn l fun w hw => h w (List.mem_cons_of_mem _ hw)
    have := h x List.mem_cons_self
    simp only [List.sum_cons, List.length_cons]; omega
theorem sum_pos : ∀ (l : List Int) (i : Nat) (v : Int), (∀ w ∈ l, 0 ≤ w ∧ w ≤ 99) → i < l.length → 0 < v → 0 < (l.set i v).sum
  | [], _, _, _, h, _ => by simp at h
  | x :: l, 0, v, h, _, hv => by
    have := sum_nn l fun w hw => h w (List.mem_cons_of_mem _ hw)
    simp only [List.set_cons_zero, List.sum_cons]; omega
  | x :: l, i + 1, v, h, hi, hv => by
    have := sum_pos l i v (fun w hw => h w (List.mem_cons_of_mem _ hw)) (by simpa using hi) hv
    have := h x List.mem_cons_self
    simp only [List.set_cons_succ, List.sum_cons]; omega
theorem opAll_t {C : Cm} {Q : WK} {n : Nat} (h : Q (.d (.bool true)) C) : opAll [.d (.list (List.replicate n (.bool true)))] C Q := by
  have e : List.replicate n (PyData.bool true) = (List.replicate n true).map .bool := by rw [List.map_replicate]
  rw [e, opAll_b]
  simpa using h
theorem map_const {α β : Type} (l : List α) (c : β) : (l.map fun _ => c) = List.replicate l.length c := List.map_const'
theorem luck_01 (c : Int) (ws : List Int) (i : Nat) : luck c ws i = 0 ∨ luck c ws i = 1 := by
  unfold luck
  split
  · exact .inr rfl
  · exact .inl rfl
theorem billF_ok (es : List Ent) (least most : Int) (taxes : List Int) (b : Int) (dr : List Int) (g : Int) : ∀ l ∈ billF es least most taxes b dr g, l.1.length ≤ 10 := by
  have h0 : ∀ l ∈ lines0 es (quantF es b dr g), l.1.length ≤ 10 := fun l hl => by
    unfold lines0 at hl
    obtain ⟨xs, hxs, hl⟩ := List.mem_flatten.mp hl
    obtain ⟨q, _, rfl⟩ := List.mem_map.mp hxs
    unfold entLn at hl
    split at hl
    · rw [List.mem_singleton] at hl; subst hl; show Str.length "entry" ≤ 10; decide
    · simp at hl
  have h1 : ∀ l ∈ lines1 (lines0 es (quantF es b dr g)) least most, l.1.length ≤ 10 := fun l hl => by
    unfold lines1 at hl
    split at hl
    · rcases List.mem_append.mp hl with h | h
      · exact h0 l h
      · rw [List.mem_singleton] at h; subst h; show Str.length "least" ≤ 10; decide
    · split at hl
      · rcases List.mem_append.mp hl with h | h
        · exact h0 l h
        · rw [List.mem_singleton] at h; subst h; show Str.length "most" ≤ 10; decide
      · exact h0 l hl
  intro l hl
  unfold billF at hl
  rcases List.mem_append.mp hl with h | h
  · exact h1 l h
  · obtain ⟨q, _, rfl⟩ := List.mem_map.mp h; show Str.length "tax" ≤ 10; decide
theorem lns_sz {ls : List Ln} (h : ls.length ≤ 3000) (hk : ∀ l ∈ ls, l.1.length ≤ 10) : szD 2 (lnsD ls) := by
  have hbig := big
  refine ⟨by rw [List.length_map]; omega, fun x hx => ?_⟩
  obtain ⟨l, hl, rfl⟩ := List.mem_map.mp hx
  have := hk l hl
  refine ⟨by simp; omega, mem_con ?_ (mem_con ?_ (mem_con ?_ (mem_con ?_ mem_end)))⟩
  · show l.1.length ≤ sizeLine; omega
  · exact trivial
  · exact trivial
  · exact trivial
theorem creditF_ok {ls : List Ln} {short need : Int} (hk : ∀ l ∈ ls, l.1.length ≤ 10) : ∀ l ∈ creditF ls short need, l.1.length ≤ 10 := fun l hl => by
  unfold creditF at hl
  split at hl
  · exact hk l hl
  · rcases List.mem_append.mp hl with h | h
    · exact hk l h
    · rw [List.mem_singleton] at h; subst h; show Str.length "credit" ≤ 10; decide
theorem creditF_len (ls : List Ln) (short need : Int) : (creditF ls short need).length ≤ ls.length + 1 := by
  unfold creditF
  split
  · omega
  · simp
theorem up_down {x n : Int} (h : 0 < n) : -((x + n - 1) / n) = -x / n := by
  have h1 := Int.mul_ediv_add_emod (x + n - 1) n
  have h2 := Int.emod_nonneg (x + n - 1) (show n ≠ 0 by omega)
  have h3 := Int.emod_lt_of_pos (x + n - 1) h
  have h4 := Int.mul_ediv_add_emod (-x) n
  have h5 := Int.emod_nonneg (-x) (show n ≠ 0 by omega)
  have h6 := Int.emod_lt_of_pos (-x) h
  have e : n * ((x + n - 1) / n + -x / n) = n - 1 - (x + n - 1) % n - (-x) % n := by rw [Int.mul_add]; omega
  generalize (x + n - 1) / n = u at *
  generalize -x / n = v at *
  have lo : -1 < u + v := by
    by_cases z : -1 < u + v
    · exact z
    · have := Int.mul_le_mul_of_nonneg_left (show u + v ≤ -1 by omega) (Int.le_of_lt h)
      omega
  have hi : u + v < 1 := by
    by_cases z : u + v < 1
    · exact z
    · have := Int.mul_le_mul_of_nonneg_left (show 1 ≤ u + v by omega) (Int.le_of_lt h)
      omega
  omega
theorem totalF_app (a b : List Ln) : totalF (a ++ b) = totalF a + totalF b := by simp [totalF]
theorem credit_total {ls : List Ln} {short need : Int} (hn : 0 < need) : totalF (creditF ls short need) = totalF ls - (totalF ls * short + need - 1) / need := by
  have e := up_down (x := totalF ls * short) hn
  unfold creditF
  split
  · rename_i h0
    subst h0
    have : (totalF ls * 0 + need - 1) / need = 0 := by
      rw [Int.mul_zero]
      exact Int.ediv_eq_zero_of_lt (by omega) (by omega)
    omega
  · rw [totalF_app]
    simp only [totalF, List.map_cons, List.map_nil, List.sum_cons, List.sum_nil] at *
    omega
def last4 : W → W
  | .d (.tuple [_, _, _, x]) => .d x
  | w => w
theorem sub_cup0 {C C' : Cm} {p : Addr} {c : Cell} (h : Sub C C') (hp : C p = none) : Sub C (cup C' p c) := fun b x e => by
  have ne : b ≠ p := fun z => by rw [z, hp] at e; cases e
  rw [cup_ne ne]; exact h b x e

theorem r_cb1 {w : List W → Cm → WK → Prop} {a : TEd} {i : Nat} {D : EndsD} {γ : En} {C : Cm} (h : a γ C fun x C1 => w [x] C1 fun d C2 => D.nx (γ.set i (some d)) C2) : sAsg (eCB w (aCons a aNil)) (uName i) D γ C := h
theorem r_lcS {w : List W → Cm → WK → Prop} {g : W → En → Cm → (En → Cm → Prop) → Prop} {m : Bool} {k i : Nat} {te : TEd} {vs : List Nat} {D : EndsD} {γ : En} {C : Cm} {xs : List PyData} (f : W → W) (hk : γ[k]? = some (some (.d (.list xs)))) (hl : (xs.map W.d).length ≤ sizeLine)
    (he : ∀ d ∈ xs.map W.d, ∀ K : WK, K (f d) C → g d (wipeD γ vs) C fun γ2 C2 => te γ2 C2 K) (h : newL m ((xs.map W.d).map f) C fun x C1 => w [x] C1 fun d C2 => D.nx (γ.set i (some d)) C2) :
    sAsg (eCB w (aCons (eLc m (iSeqD (eVar k)) g tYesD te vs) aNil)) (uName i) D γ C := by
  refine r_cb1 ?_
  simp only [RUI, RUN, hk]
  exact lc_map f trivial hl he h
theorem r_asgV {a : TEd} {i : Nat} {D : EndsD} {γ : En} {C : Cm} (x : W) (h : ∀ Q : WK, Q x C → a γ C Q) (k : D.nx (γ.set i (some x)) C) : sAsg a (uName i) D γ C := h _ k
def sp_law : DSp := fun ds C Q _ => ∃ ns : List Int, ds = [.scr ns] ∧ ∀ C', Q (.d (.bool true)) C'
theorem c_law : ∀ ds C Q E, sp_law ds C Q E → w_law sp_law_tariff sp_law_draw sp_share sp_law_course sp_bill sp_credit (sp_law_exact 3) sp_total (exOf E) (endsF Q) (startD n_law ds) C := by
  rintro ds B Q E ⟨ns, rfl, hend⟩
  have hbig := big
  refine r_seq ?_
  simp only [RUN, RUV, ENV, n_law]
  refine ⟨by omega, fun a ha => r_seq ?_⟩
  simp only [RUN, RUV, ENV]
  refine ⟨a, ns, B, 0, 0, rfl, rfl, by omega, by omega, fun es least most taxes t0 t1 tok g0 g1 => ?_⟩
  refine r_seq ?_
  simp only [RUN, RUV, ENV, RUI]
  refine ⟨by omega, by omega, ?_⟩
  refine ⟨fun i γ' C' => (∃ x3 x4 x5 x6 x7 x8 x9 x10 x11 x12 x13 x14 x15 x16 x17 x18 x19 x20 x21 x22 x23, γ' = [some (.scr ns), some (.own a), some (.d (tariffD es least most taxes)), x3, x4, x5, x6, x7, x8, x9, x10, x11, x12, x13, x14, x15, x16, x17, x18, x19, x20, x21, x22, x23, none]) ∧ ∃ s0 s1, C' = cup B a (stC s0 s1) ∧ 0 ≤ s0 ∧ 0 ≤ s1,
    ⟨⟨_, _, _, _, _, _, _, _, _, _, _, _, _, _, _, _, _, _, _, _, _, rfl⟩, t0, t1, rfl, g0, g1⟩, fun _ _ _ _ _ => trivial, ?_, ?_⟩
  · rintro i d γ' C' hd ⟨⟨x3, x4, x5, x6, x7, x8, x9, x10, x11, x12, x13, x14, x15, x16, x17, x18, x19, x20, x21, x22, x23, rfl⟩, s0, s1, rfl, g0, g1⟩
    obtain ⟨hi, rfl⟩ := range_at hd
    simp only [RUN, ENV]
    -- coins
    refine r_seq ?_
    simp only [RUN, RUV, ENV, Option.map_some]
    refine drawn g0 g1 (by decide) fun d1 t0 t1 d1a d1b g0 g1 => ?_
    simp only [RUN, RUV, ENV, Option.map_some]
    refine drawn g0 g1 (by decide) fun d2 t0 t1 d2a d2b g0 g1 => ?_
    simp only [RUN, RUV, ENV, Option.map_some]
    refine ⟨cpow (by decide), drawn g0 g1 (by decide) fun d3 t0 t1 d3a d3b g0 g1 => ?_⟩
    simp only [RUN, RUV, ENV, Option.map_some]
    refine ⟨by omega, drawn g0 g1 (by decide) fun d4 t0 t1 d4a d4b g0 g1 => ?_⟩
    have e9 : (10 : Int) ^ Int.toNat 9 = 1000000000 := by decide
    rw [e9] at d3b
    refine opIx_int (fun n => 0 ≤ n ∧ n ≤ 1000000000) d4a d4b (mem_con ⟨_, rfl, by omega⟩ (mem_con ⟨_, rfl, by omega⟩ (mem_con ⟨_, rfl, by omega⟩ (mem_con ⟨_, rfl, by omega⟩ mem_end)))) fun coins hcoins => ?_
    -- many
    refine r_seq ?_
    simp only [RUN, RUV, ENV, Option.map_some]
    refine drawn g0 g1 (by decide) fun d5 t0 t1 d5a d5b g0 g1 => ?_
    simp only [RUN, RUV, ENV, Option.map_some]
    obtain ⟨many, hmany, hm1, hm2⟩ : ∃ n : Nat, 1 + d5 = (n : Int) ∧ 0 < n ∧ n ≤ 8 := ⟨(1 + d5).toNat, by omega, by omega, by omega⟩
    rw [hmany]
    -- weights
    refine r_seq ?_
    simp only [RUN, RUV, ENV, RUI, Option.map_some]
    refine ⟨by omega, by omega, ?_⟩
    refine lc_pr (fun C' => ∃ t0 t1, C' = cup B a (stC t0 t1) ∧ 0 ≤ t0 ∧ 0 ≤ t1) (fun _ y => ∃ n : Int, y = .d (.int n) ∧ 0 ≤ n ∧ n ≤ 99) ⟨t0, t1, rfl, g0, g1⟩ (fun _ _ => trivial) (by simp; omega) ?_ ?_
    · rintro i d C' K Ks hd ⟨t0, t1, rfl, g0, g1⟩ hK
      simp only [RUN, RUV, ENV, wipeD, if_true]
      refine drawn g0 g1 (by decide) fun d6 t0 t1 d6a d6b g0 g1 => ?_
      simp only [RUN, RUV, ENV, Option.map_some]
      refine drawn g0 g1 (by decide) fun d7 t0 t1 d7a d7b g0 g1 => ?_
      simp only [RUN, RUV, ENV, Option.map_some]
      refine ⟨by omega, drawn g0 g1 (by decide) fun d8 t0 t1 d8a d8b g0 g1 => ?_⟩
      refine opIx_int (fun n => 0 ≤ n ∧ n ≤ 99) d8a d8b (mem_con ⟨_, rfl, by omega⟩ (mem_con ⟨_, rfl, by omega⟩ (mem_con ⟨_, rfl, by omega⟩ (mem_con ⟨_, rfl, by omega⟩ (mem_con ⟨_, rfl, by omega⟩ mem_end))))) fun tx ht => ?_
      exact hK _ _ _ ⟨tx, rfl, ht⟩ (Sub.refl _) ⟨t0, t1, rfl, g0, g1⟩
    rintro ys C' hy hpr ⟨t0, t1, rfl, g0, g1⟩
    obtain ⟨ws0, rfl, hws0⟩ := ints_of hpr
    simp only [List.length_map, List.length_range, Int.toNat_natCast] at hy
    refine fun p hp => ?_
    dsimp only
    have hpa : p ≠ a := fresh_ne hp
    -- not all nought
    refine r_seq ?_
    refine r_sj (fun γ' C' => γ' = [some (.scr ns), some (.own a), some (.d (tariffD es least most taxes)), some (.d (.int (i : Nat))), some (.d (.int coins)), some (.d (.int (many : Nat))), some (.own p), x7, x8, x9, x10, x11, x12, x13, x14, x15, x16, x17, x18, x19, x20, x21, x22, x23, none] ∧ ∃ (ws : List Int) (s0 s1 : Int), C' = cup (cup B a (stC s0 s1)) p (.lst ((ws.map PyData.int).map W.d)) ∧ ws.length = many ∧ (∀ w ∈ ws, 0 ≤ w ∧ w ≤ 99) ∧ 0 < ws.sum ∧ 0 ≤ s0 ∧ 0 ≤ s1) ?_ ?_
    · simp only [RUN, RUV, ENV, opSum_own cup_same]
      simp only [Bool.false_eq_true, if_false]
      split
      · refine drawn2 hpa g0 g1 (by decide) fun d9 t0 t1 d9a d9b g0 g1 => ?_
        simp only [RUN, RUV, ENV]
        refine drawn2 hpa g0 g1 (by omega) fun d10 t0 t1 d10a d10b g0 g1 => ?_
        simp only [RUN, RUV, ENV, List.length_map]
        rw [ixN_in (by omega) (by omega)]
        simp only [set_map, cup_cup]
        refine ⟨trivial, ws0.set d10.toNat (1 + d9), t0, t1, rfl, by rw [List.length_set]; exact hy, fun w hw => ?_, sum_pos _ _ _ hws0 (by omega) (by omega), g0, g1⟩
        rcases List.mem_or_eq_of_mem_set hw with h | h
        · exact hws0 w h
        · omega
      · rename_i hne
        have := (sum_nn ws0 hws0).1
        refine ⟨trivial, ws0, t0, t1, rfl, hy, hws0, ?_, g0, g1⟩
        have : ws0.sum ≠ 0 := fun z => hne (by simp [z])
        omega
    rintro γ' C' ⟨rfl, ws, s0, s1, rfl, hwl, hws, hsum, g0, g1⟩
    have hsum2 := (sum_nn ws hws).2
    refine r_seq ?_
    simp only [RUN, RUV, ENV, opList_own cup_same, newL_d]
    refine r_seq ?_
    simp only [RUN, RUV, ENV]
    refine ⟨coins, ws, rfl, by omega, ⟨hsum, by omega⟩, ⟨by omega, by omega⟩, (left_ok hsum).1, ?_⟩
    refine r_seq ?_
    simp only [RUN, RUV, ENV, opSum_own cup_same]
    refine r_seq ?_
    refine r_sj (fun γ' C' => γ' = [some (.scr ns), some (.own a), some (.d (tariffD es least most taxes)), some (.d (.int (i : Nat))), some (.d (.int coins)), some (.d (.int (many : Nat))), some (.own p), some (.d (.list (ws.map .int))), some (.d (.list ((shareF coins ws).map .int))), some (.d (.int ws.sum)), x10, x11, x12, x13, x14, x15, x16, x17, x18, x19, x20, x21, x22, x23, none] ∧ C' = cup (cup B a (stC s0 s1)) p (.lst ((ws.map PyData.int).map W.d))) ?_ ?_
    · simp only [RUN, RUV, ENV, RUI, ISI, KTB, Option.bind_some]
      have hlen : ((((shareF coins ws).map PyData.int).length : Nat) : Int) = (many : Nat) := by rw [List.length_map, share_len, hwl]
      rw [if_neg (by decide), if_neg (by rw [hlen]; simp)]
      refine lc_map (fun _ => .d (.bool true)) trivial (by simp [share_len]; omega) ?_ ?_
      · intro d hd K hK
        obtain ⟨z, hz, rfl⟩ := List.mem_map.mp hd
        obtain ⟨n, _, rfl⟩ := List.mem_map.mp hz
        simp only [RUN, RUV, ENV, wipeD, ISI, KTB, Option.bind_some]
        exact hK
      · rw [map_const, show List.replicate (((shareF coins ws).map PyData.int).map W.d).length (W.d (.bool true)) = (List.replicate (((shareF coins ws).map PyData.int).map W.d).length (PyData.bool true)).map W.d by rw [List.map_replicate], newL_d]
        refine opAll_t ?_
        simp only [RUN, RUV, ENV]
        rw [if_neg (by decide)]
        exact ⟨trivial, trivial⟩
    rintro γ' C' ⟨rfl, rfl⟩
    refine r_seq ?_
    refine r_sj (fun γ' C' => γ' = [some (.scr ns), some (.own a), some (.d (tariffD es least most taxes)), some (.d (.int (i : Nat))), some (.d (.int coins)), some (.d (.int (many : Nat))), some (.own p), some (.d (.list (ws.map .int))), some (.d (.list ((shareF coins ws).map .int))), some (.d (.int ws.sum)), x10, x11, x12, x13, x14, x15, x16, x17, x18, x19, x20, x21, x22, x23, none] ∧ C' = cup (cup B a (stC s0 s1)) p (.lst ((ws.map PyData.int).map W.d))) ?_ ?_
    · simp only [RUN, RUV, ENV, RUI]
      rw [if_neg (by rw [share_sum hsum]; simp)]
      refine ne_ints cup_same ?_
      simp only [Bool.false_eq_true, if_false]
      exact ⟨trivial, trivial⟩
    rintro γ' C' ⟨rfl, rfl⟩
    -- each share
    refine r_seq ?_
    simp only [RUN, RUV, ENV, RUI]
    refine ⟨by omega, by omega, ?_⟩
    refine ⟨fun j γ' C' => (∃ x10 x11 x12 x13 x14, γ' = [some (.scr ns), some (.own a), some (.d (tariffD es least most taxes)), some (.d (.int (i : Nat))), some (.d (.int coins)), some (.d (.int (many : Nat))), some (.own p), some (.d (.list (ws.map .int))), some (.d (.list ((shareF coins ws).map .int))), some (.d (.int ws.sum)), x10, x11, x12, x13, x14, x15, x16, x17, x18, x19, x20, x21, x22, x23, none]) ∧ C' = cup (cup B a (stC s0 s1)) p (.lst ((ws.map PyData.int).map W.d)), ⟨⟨_, _, _, _, _, rfl⟩, rfl⟩, fun _ _ _ _ _ => trivial, ?_, ?_⟩
    · rintro j d γ' C' hd ⟨⟨x10, x11, x12, x13, x14, rfl⟩, rfl⟩
      obtain ⟨hj, rfl⟩ := range_at hd
      rw [Int.toNat_natCast] at hj
      have hjs : j < (shareF coins ws).length := by rw [share_len]; omega
      have hjw : j < ws.length := by omega
      simp only [RUN, ENV]
      refine r_seq ?_
      simp only [RUN, RUV, ENV, opIx_own cup_same, at_i hjs, at_w hjw, cup_same]
      refine ⟨cmulL ⟨by omega, by omega⟩, cdiv ⟨hsum, by omega⟩, ?_⟩
      have hsh : (shareF coins ws).getD j 0 - coins * ws.getD j 0 / ws.sum = luck coins ws j := by rw [share_at hjw]; omega
      rw [hsh]
      refine r_seq ?_
      refine r_sj (fun γ' C' => γ' = [some (.scr ns), some (.own a), some (.d (tariffD es least most taxes)), some (.d (.int (i : Nat))), some (.d (.int coins)), some (.d (.int (many : Nat))), some (.own p), some (.d (.list (ws.map .int))), some (.d (.list ((shareF coins ws).map .int))), some (.d (.int ws.sum)), some (.d (.int (j : Nat))), some (.d (.int (luck coins ws j))), x12, x13, x14, x15, x16, x17, x18, x19, x20, x21, x22, x23, none] ∧ C' = cup (cup B a (stC s0 s1)) p (.lst ((ws.map PyData.int).map W.d))) ?_ ?_
      · simp only [RUN, RUV, ENV, RUI, Option.map_some, opIn_2]
        rw [if_neg (by rcases luck_01 coins ws j with e | e <;> rw [e] <;> decide)]
        exact ⟨by omega, trivial, trivial⟩
      rintro γ' C' ⟨rfl, rfl⟩
      simp only [RUN, RUV, ENV, RUI]
      refine ⟨by omega, by omega, ?_⟩
      refine ⟨fun l γ' C' => (∃ x12 x13 x14, γ' = [some (.scr ns), some (.own a), some (.d (tariffD es least most taxes)), some (.d (.int (i : Nat))), some (.d (.int coins)), some (.d (.int (many : Nat))), some (.own p), some (.d (.list (ws.map .int))), some (.d (.list ((shareF coins ws).map .int))), some (.d (.int ws.sum)), some (.d (.int (j : Nat))), some (.d (.int (luck coins ws j))), x12, x13, x14, x15, x16, x17, x18, x19, x20, x21, x22, x23, none]) ∧ C' = cup (cup B a (stC s0 s1)) p (.lst ((ws.map PyData.int).map W.d)), ⟨⟨_, _, _, rfl⟩, rfl⟩, fun _ _ _ _ _ => trivial, ?_, ?_⟩
      · rintro l d γ' C' hd ⟨⟨x12, x13, x14, rfl⟩, rfl⟩
        obtain ⟨hl, rfl⟩ := range_at hd
        rw [Int.toNat_natCast] at hl
        have hls : l < (shareF coins ws).length := by rw [share_len]; omega
        have hlw : l < ws.length := by omega
        have hsl : (shareF coins ws).getD l 0 - coins * ws.getD l 0 / ws.sum = luck coins ws l := by rw [share_at hlw]; omega
        simp only [RUN, ENV]
        refine r_seq ?_
        simp only [RUN, RUV, ENV, opIx_own cup_same, at_i hls, at_w hjw, at_w hlw, cup_same]
        refine ⟨cmulL ⟨by omega, by omega⟩, hsum, cmulL ⟨by omega, by omega⟩, hsum, ?_⟩
        rw [hsl]
        simp only [Bool.false_eq_true, if_false, if_true, beq_iff_eq, decide_eq_true_eq]
        split
        · rename_i hz
          refine ⟨cmulL ⟨by omega, by omega⟩, cdiv ⟨hsum, by omega⟩, ?_⟩
          split
          · rename_i ho
            have hlk := luck_order hlw hjw hz ho
            rw [if_neg (by omega)]
            split
            · rename_i he
              have := hlk.2 he
              rw [if_neg (by omega)]
              exact ⟨_, Sub.refl _, ⟨_, _, _, rfl⟩, rfl⟩
            · exact ⟨_, Sub.refl _, ⟨_, _, _, rfl⟩, rfl⟩
          · exact ⟨_, Sub.refl _, ⟨_, _, _, rfl⟩, rfl⟩
        · exact ⟨_, Sub.refl _, ⟨_, _, _, rfl⟩, rfl⟩
      · rintro γ' C' ⟨⟨x12, x13, x14, rfl⟩, rfl⟩
        exact ⟨_, Sub.refl _, ⟨_, _, _, _, _, rfl⟩, rfl⟩
    rintro γ' C' ⟨⟨x10, x11, x12, x13, x14, rfl⟩, rfl⟩
    dsimp only
    -- the course
    rw [cup_comm (Ne.symm hpa)]
    refine r_seq ?_
    simp only [RUN, RUV, ENV]
    refine drawn g0 g1 (by decide) fun dc s0 s1 dca dcb g0 g1 => ?_
    refine ⟨a, ns, dc, _, s0, s1, rfl, rfl, g0, g1, fun dr gr s0 s1 hdr g0 g1 => ?_⟩
    refine r_seq ?_
    simp only [RUN, RUV, ENV]
    refine ⟨es, least, most, taxes, dc, dr, gr, rfl, tok, by omega, ?_⟩
    obtain ⟨ls, hls⟩ : ∃ ls, billF es least most taxes dc dr gr = ls := ⟨_, rfl⟩
    have hll : ls.length ≤ 2001 := by
      have := billF_len es least most taxes dc dr gr
      have := tok.ents
      have := tok.taxs
      rw [← hls]; omega
    rw [hls]
    refine r_seq ?_
    simp only [RUN, RUV, ENV, newL_d]
    -- need
    refine r_seq ?_
    simp only [RUN, RUV, ENV, Option.map_some]
    refine drawn g0 g1 (by decide) fun d1 t0 t1 d1a d1b g0 g1 => ?_
    simp only [RUN, RUV, ENV, Option.map_some]
    refine drawn g0 g1 (by decide) fun d2 t0 t1 d2a d2b g0 g1 => ?_
    simp only [RUN, RUV, ENV, Option.map_some]
    refine ⟨by omega, drawn g0 g1 (by decide) fun d3 t0 t1 d3a d3b g0 g1 => ?_⟩
    refine opIx_int (fun n => 1 ≤ n ∧ n ≤ 1000) d3a d3b (mem_con ⟨_, rfl, by omega⟩ (mem_con ⟨_, rfl, by omega⟩ (mem_con ⟨_, rfl, by omega⟩ mem_end))) fun need hneed => ?_
    simp only [RUN, RUV, ENV, RUI, Option.map_some]
    refine drawn g0 g1 (by omega) fun d4 t0 t1 d4a d4b g0 g1 => ?_
    simp only [RUN, RUV, ENV, RUI, Option.map_some]
    have hlok : ∀ l ∈ ls, l.1.length ≤ 10 := by rw [← hls]; exact billF_ok _ _ _ _ _ _ _
    obtain ⟨C0, hC0⟩ : ∃ C0, cup (cup B p (.lst ((ws.map PyData.int).map W.d))) a (stC t0 t1) = C0 := ⟨_, rfl⟩
    rw [hC0]
    refine ⟨by omega, ?_⟩
    refine ⟨fun j γ' C' => (∃ x19 x20 x21 x22 x23, γ' = [some (.scr ns), some (.own a), some (.d (tariffD es least most taxes)), some (.d (.int (i : Nat))), some (.d (.int coins)), some (.d (.int (many : Nat))), some (.own p), some (.d (.list (ws.map .int))), some (.d (.list ((shareF coins ws).map .int))), some (.d (.int ws.sum)), x10, x11, x12, x13, x14, some (.d (courseD dc dr gr)), some (.d (lnsD ls)), some (.d (lnsD ls)), some (.d (.int need)), x19, x20, x21, x22, x23, none]) ∧ C' = C0, ⟨⟨_, _, _, _, _, rfl⟩, rfl⟩, fun _ _ _ _ _ => trivial, ?_, ?_⟩
    · rintro j d γ' C' hd ⟨⟨x19, x20, x21, x22, x23, rfl⟩, rfl⟩
      obtain ⟨short, rfl, hsh⟩ : ∃ n : Int, d = .d (.int n) ∧ 0 ≤ n ∧ n ≤ need := by
        have hm := List.mem_of_getElem? hd
        simp only [List.mem_cons, List.not_mem_nil, or_false] at hm
        rcases hm with rfl | rfl | rfl
        · exact ⟨_, rfl, by omega, by omega⟩
        · exact ⟨_, rfl, by omega, by omega⟩
        · exact ⟨_, rfl, by omega, by omega⟩
      simp only [RUN, ENV]
      refine r_seq ?_
      simp only [RUN, RUV, ENV]
      have hq1 : 0 < need ∧ need < 1073741824 := by clear hd; omega
      have hq2 : -(2 ^ 64) < short ∧ short < 2 ^ 64 := by clear hd; omega
      have hq3 : ls.length ≤ 10000 := by clear hd; omega
      refine ⟨.d (lnsD ls), ls, short, need, rfl, .d _, hq3, hq1, hq2, fun p2 hp2 => ?_⟩
      dsimp only
      refine r_seq ?_
      refine r_lcS last4 rfl (by simp only [List.length_map]; clear hd; omega) (fun d hd K hK => by
        obtain ⟨z, hz, rfl⟩ := List.mem_map.mp hd
        obtain ⟨n, _, rfl⟩ := List.mem_map.mp hz
        simp only [RUN, RUV, ENV, wipeD, lnD]
        exact hK) ?_
      rw [show ((ls.map lnD).map W.d).map last4 = ((ls.map fun l => l.2.2.2).map PyData.int).map W.d by simp [last4, lnD], newL_d, opSum_i]
      dsimp only
      simp only [ENV]
      refine r_seq ?_
      simp only [RUN, RUV, ENV]
      have hq4 : -(2 ^ 64) < short ∧ short < 2 ^ 64 := hq2
      refine ⟨cmulR hq4, cdiv hq1, ?_⟩
      rw [show (List.map (fun l : Ln => l.2.2.2) ls).sum = totalF ls from rfl]
      obtain ⟨back, hback⟩ : ∃ b, (totalF ls * short + need - 1) / need = b := ⟨_, rfl⟩
      rw [hback]
      have hud : -back = -(totalF ls * short) / need := by rw [← hback]; exact up_down hq1.1
      refine r_seq ?_
      refine r_asgV (.d (lnsD (creditF ls short need))) ?_ ?_
      · intro Q'
        generalize cup C' p2 (Cell.lst (List.map W.d (List.map lnD (creditF ls short need)))) = D0
        intro hQ
        simp only [RUN, RUV, ENV, Option.map_some, decide_eq_true_eq]
        split
        · refine ⟨by omega, by omega, by simp only [List.length_map, List.length_cons, List.length_nil]; omega, ?_⟩
          rw [hud]
          have e : creditF ls short need = ls ++ [(("credit", 0, short, -(totalF ls * short) / need) : Ln)] := by unfold creditF; rw [if_neg (by omega)]
          rw [e, show lnsD (ls ++ [(("credit", 0, short, -(totalF ls * short) / need) : Ln)]) = .list (ls.map lnD ++ [lnD ("credit", 0, short, -(totalF ls * short) / need)]) by unfold lnsD; rw [List.map_append]; rfl] at hQ
          exact hQ
        · have e : creditF ls short need = ls := by unfold creditF; rw [if_pos (by omega)]
          rw [e] at hQ
          exact hQ
      dsimp only
      simp only [ENV]
      obtain ⟨D0, hD0⟩ : ∃ D0, cup C' p2 (Cell.lst (List.map W.d (List.map lnD (creditF ls short need)))) = D0 := ⟨_, rfl⟩
      have hD2 : D0 p2 = some (.lst (((creditF ls short need).map lnD).map W.d)) := by rw [← hD0]; exact cup_same
      have hD1 : Sub C' D0 := by rw [← hD0]; exact sub_cup (Sub.refl _) hp2
      rw [hD0]
      refine r_seq ?_
      refine r_sj (fun γ2 C2 => γ2 = [some (.scr ns), some (.own a), some (.d (tariffD es least most taxes)), some (.d (.int (i : Nat))), some (.d (.int coins)), some (.d (.int (many : Nat))), some (.own p), some (.d (.list (ws.map .int))), some (.d (.list ((shareF coins ws).map .int))), some (.d (.int ws.sum)), x10, x11, x12, x13, x14, some (.d (courseD dc dr gr)), some (.d (lnsD ls)), some (.d (lnsD ls)), some (.d (.int need)), some (.d (.int short)), some (.own p2), some (.d (.int (totalF ls))), some (.d (.int back)), some (.d (lnsD (creditF ls short need))), none] ∧ Sub D0 C2) ?_ ?_
      · simp only [RUN, RUV, ENV]
        refine ⟨_, _, _, rfl, .d _, .own hD2, lns_sz (by have := creditF_len ls short need; omega) (creditF_ok hlok), fun C2 hs2 => ?_⟩
        simp only [RUN, RUV, ENV]
        rw [if_neg (by decide)]
        refine ne_lns ?_
        simp only [RUN, RUV, ENV]
        rw [if_neg (by decide)]
        refine ⟨_, creditF ls short need, rfl, .own (hs2 _ _ hD2), ?_⟩
        refine ⟨_, _, _, rfl, .d _, ?_, (trivial : szD 2 (.int _)), fun C3 hs3 => ?_⟩
        · rw [credit_total hq1.1, hback]; exact .d _
        simp only [RUN, RUV, ENV]
        rw [if_neg (by decide)]
        exact ⟨trivial, hs2.trans hs3⟩
      rintro γ2 C2 ⟨rfl, hs2⟩
      refine r_seq ?_
      simp only [RUN, RUV, ENV, hs2 _ _ hD2, Option.map_some]
      refine ⟨by omega, by have := creditF_len ls short need; simp only [List.length_map]; omega, ne_lns ?_⟩
      simp only [RUN, RUV, ENV]
      rw [if_neg (by decide)]
      exact ⟨C', sub_cup0 (hD1.trans hs2) hp2, ⟨_, _, _, _, _, rfl⟩, rfl⟩
    · rintro γ' C' ⟨⟨x19, x20, x21, x22, x23, rfl⟩, rfl⟩
      rw [← hC0]
      refine ⟨cup B a (stC t0 t1), ?_, ⟨_, _, _, _, _, _, _, _, _, _, _, _, _, _, _, _, _, _, _, _, _, rfl⟩, t0, t1, rfl, g0, g1⟩
      rw [cup_comm hpa]
      exact sub_cup (Sub.refl _) (by rw [cup_ne hpa]; rw [cup_ne hpa] at hp; exact hp)
  · rintro γ' C' ⟨⟨x3, x4, x5, x6, x7, x8, x9, x10, x11, x12, x13, x14, x15, x16, x17, x18, x19, x20, x21, x22, x23, rfl⟩, s0, s1, rfl, g0, g1⟩
    dsimp only
    simp only [RUN, RUV, ENV]
    exact r_ret (hend _)

/-! ### the defs keep their promises -/
abbrev FnP (K : PySem.W.Frag) (x : Str) (st : Stmt) (fd : FuncData) : Prop := FunD K x x (defArgs st) (defBody st) (defScope st) [] [] (He.fAd K (x, none)) fd
section
variable {P : Program} {w : World} {K : PySem.W.Frag} {mg : Str → Option Value} {base : Heap} {T : Addr → Prop}
theorem dfnH {x : Str} {st : Stmt} {fd : FuncData} {N ps : List Str} {k : Nat} {sp : DSp} {wb : EXd → TSd} (F : FnP K x st fd) (Sc : FnScope N ps (defScope st)) (len : ∀ ds C Q E, sp ds C Q E → ds.length = ps.length)
    (der : ∀ (cdv : Value), cdv = .ref (He.cT K (x, none)).1 → ∀ (A : Around) (outer : List Env) (s : Shared) (H : Hp) (E : XK) (EE : EXd), XO ⟨T, fun c d _ H => E c d H, EE⟩ (cxD P w K mg base N x st (He.fAd K (x, none)) cdv A outer s H E) k →
      ∃ t, DSs ⟨T, fun c d _ H => E c d H, EE⟩ (cxD P w K mg base N x st (He.fAd K (x, none)) cdv A outer s H E) (defBody st) t (wb EE))
    (hw : ∀ ds C Q E, sp ds C Q E → wb (exOf E) (endsF Q) (startD N ds) C) (hm : mg x = some (.ref (He.ga K x))) (b : Binds K fd ps []) : DFn P w K mg base T x (k + 1) sp :=
  dfn_of F (fn_dataH F Sc len der hw) hm b
structure FF (K : PySem.W.Frag) (mg : Str → Option Value) (x : Str) (st : Stmt) : Prop where
  f : ∃ fd, FnP K x st fd
  g : mg x = some (.ref (He.ga K x))
theorem b1 {x a : Str} {st : Stmt} {fd : FuncData} (F : FnP K x st fd) (h : Binds K fd [a] []) : Binds K fd [a] [] := h
structure All (K : PySem.W.Frag) (mg : Str → Option Value) : Prop where
  kn : Kn K mg
  law_refill : FF K mg "_law_refill" s_law_refill
  law_draw : FF K mg "_law_draw" s_law_draw
  law_exact : FF K mg "_law_exact" s_law_exact
  applies : FF K mg "applies" s_applies
  counted : FF K mg "counted" s_counted
  events : FF K mg "events" s_events
  quantities : FF K mg "quantities" s_quantities
  total : FF K mg "total" s_total
  bill : FF K mg "bill" s_bill
  share : FF K mg "share" s_share
  credit : FF K mg "credit" s_credit
  law_tariff : FF K mg "_law_tariff" s_law_tariff
  law_course : FF K mg "_law_course" s_law_course
variable (M : All K mg)
include M
theorem D_law_refill : DFn P w K mg base T "_law_refill" 1 sp_law_refill := by
  obtain ⟨fd, F⟩ := M.law_refill.f
  exact dfnH (k := 0) F sc_law_refill (by rintro ds C Q E ⟨_, _, rfl, _⟩; rfl) (der_law_refill M.kn) c_law_refill M.law_refill.g (F.bindsN fun _ _ _ _ _ _ us hl => match us, hl with | [_, _], _ => rfl)
theorem D_law_draw : DFn P w K mg base T "_law_draw" 2 sp_law_draw := by
  obtain ⟨fd, F⟩ := M.law_draw.f
  exact dfnH (k := 1) F sc_law_draw (by rintro ds C Q E ⟨_, _, _, _, _, rfl, _⟩; rfl) (der_law_draw M.kn (D_law_refill M) (by decide)) c_law_draw M.law_draw.g (F.bindsN fun _ _ _ _ _ _ us hl => match us, hl with | [_, _, _], _ => rfl)
theorem D_applies : DFn P w K mg base T "applies" 1 sp_applies := by
  obtain ⟨fd, F⟩ := M.applies.f
  exact dfnH (k := 0) F sc_applies (by rintro ds C Q E ⟨_, _, rfl, _⟩; rfl) (der_applies M.kn) c_applies M.applies.g (F.bindsN fun _ _ _ _ _ _ us hl => match us, hl with | [_, _], _ => rfl)
theorem D_counted : DFn P w K mg base T "counted" 2 sp_counted := by
  obtain ⟨fd, F⟩ := M.counted.f
  exact dfnH (k := 1) F sc_counted (by rintro ds C Q E ⟨_, _, _, rfl, _⟩; rfl) (der_counted M.kn (D_applies M) (by decide)) c_counted M.counted.g (F.bindsN fun _ _ _ _ _ _ us hl => match us, hl with | [_, _, _], _ => rfl)
theorem D_events : DFn P w K mg base T "events" 1 sp_events := by
  obtain ⟨fd, F⟩ := M.events.f
  exact dfnH (k := 0) F sc_events (by rintro ds C Q E ⟨_, _, _, rfl, _⟩; rfl) (der_events M.kn) c_events M.events.g (F.bindsN fun _ _ _ _ _ _ us hl => match us, hl with | [_], _ => rfl)
theorem D_quantities : DFn P w K mg base T "quantities" 3 sp_quantities := by
  obtain ⟨fd, F⟩ := M.quantities.f
  exact dfnH (k := 2) F sc_quantities (by rintro ds C Q E ⟨_, _, _, _, rfl, _⟩; rfl) (der_quantities M.kn (D_events M) (D_counted M) (by decide) (by decide)) c_quantities M.quantities.g (F.bindsN fun _ _ _ _ _ _ us hl => match us, hl with | [_, _], _ => rfl)
theorem D_total (TB : GxR.TabB base mg (He.cT K a_total).1 (He.cT K a_total).2) (hT : T (He.cT K a_total).2) : DFn P w K mg base T "total" 1 sp_total := by
  obtain ⟨fd, F⟩ := M.total.f
  exact dfnH (k := 0) F sc_total (by rintro ds C Q E ⟨_, _, rfl, _⟩; rfl) (der_total M.kn TB hT) c_total M.total.g (F.bindsN fun _ _ _ _ _ _ us hl => match us, hl with | [_], _ => rfl)
theorem D_bill (TB : GxR.TabB base mg (He.cT K a_total).1 (He.cT K a_total).2) (hT : T (He.cT K a_total).2) : DFn P w K mg base T "bill" 4 sp_bill := by
  obtain ⟨fd, F⟩ := M.bill.f
  exact dfnH (k := 3) F sc_bill (by rintro ds C Q E ⟨_, _, _, _, _, _, _, rfl, _⟩; rfl) (der_bill M.kn (D_quantities M) (D_total M TB hT) (by decide) (by decide)) c_bill M.bill.g (F.bindsN fun _ _ _ _ _ _ us hl => match us, hl with | [_, _], _ => rfl)
theorem D_share : DFn P w K mg base T "share" 1 sp_share := by
  obtain ⟨fd, F⟩ := M.share.f
  exact dfnH (k := 0) F sc_share (by rintro ds C Q E ⟨_, _, rfl, _⟩; rfl) (der_share M.kn) c_share M.share.g (F.bindsN fun _ _ _ _ _ _ us hl => match us, hl with | [_, _], _ => rfl)
theorem D_credit (TB : GxR.TabB base mg (He.cT K a_total).1 (He.cT K a_total).2) (hT : T (He.cT K a_total).2) : DFn P w K mg base T "credit" 2 sp_credit := by
  obtain ⟨fd, F⟩ := M.credit.f
  exact dfnH (k := 1) F sc_credit (by rintro ds C Q E ⟨_, _, _, _, rfl, _⟩; rfl) (der_credit M.kn (D_total M TB hT) (by decide)) c_credit M.credit.g (F.bindsN fun _ _ _ _ _ _ us hl => match us, hl with | [_, _, _], _ => rfl)
theorem D_law_tariff : DFn P w K mg base T "_law_tariff" 3 sp_law_tariff := by
  obtain ⟨fd, F⟩ := M.law_tariff.f
  exact dfnH (k := 2) F sc_law_tariff (by rintro ds C Q E ⟨_, _, _, _, _, rfl, _⟩; rfl) (der_law_tariff M.kn (D_law_draw M) (by decide)) c_law_tariff M.law_tariff.g (F.bindsN fun _ _ _ _ _ _ us hl => match us, hl with | [_, _], _ => rfl)
theorem D_law_course : DFn P w K mg base T "_law_course" 3 sp_law_course := by
  obtain ⟨fd, F⟩ := M.law_course.f
  exact dfnH (k := 2) F sc_law_course (by rintro ds C Q E ⟨_, _, _, _, _, _, rfl, _⟩; rfl) (der_law_course M.kn (D_law_draw M) (by decide)) c_law_course M.law_course.g (F.bindsN fun _ _ _ _ _ _ us hl => match us, hl with | [_, _, _], _ => rfl)
end

section
variable {P : Program} {w : World} {K : PySem.W.Frag} {mg : Str → Option Value} {base : Heap} {T : Addr → Prop}
/-- nothing is promised where nothing may be asked -/
theorem dfn0 {x : Str} {st : Stmt} {fd : FuncData} {N ps : List Str} {sp : DSp} (F : FnP K x st fd) (Sc : FnScope N ps (defScope st)) (no : ∀ ds C Q E, ¬ sp ds C Q E) (hm : mg x = some (.ref (He.ga K x))) (b : Binds K fd ps []) : DFn P w K mg base T x 1 sp := by
  refine dfn_of F ?_ hm b
  obtain ⟨oc, od, dV, kV, doc, pm, an, cdv, ct, osl, rfl, lk, hcd, _, _⟩ := F.ex
  refine fn_of (k := 0) lk hcd Sc (fun vs H Q E h => ?_) (fun A outer s H vs Q E hr h => ?_)
  · obtain ⟨S, C, F', ds, Q0, E0, _, r, h, _⟩ := h
    exact absurd h (no _ _ _ _)
  · obtain ⟨S, C, F', ds, Q0, E0, _, r, h, _⟩ := h
    exact absurd h (no _ _ _ _)
variable (M : All K mg)
include M
theorem D_law_exact : ∀ n : Nat, DFn P w K mg base T "_law_exact" (n + 1) (sp_law_exact n)
  | 0 => by
    obtain ⟨fd, F⟩ := M.law_exact.f
    exact dfn0 F sc_law_exact (fun _ _ _ _ h => h) M.law_exact.g (F.bindsN fun _ _ _ _ _ _ us hl => match us, hl with | [_, _], _ => rfl)
  | n + 1 => by
    obtain ⟨fd, F⟩ := M.law_exact.f
    exact dfnH (k := n + 1) F sc_law_exact (by rintro ds C Q E ⟨_, _, _, rfl, _⟩; rfl) (der_law_exact M.kn (D_law_exact n) (Nat.le_refl _)) (c_law_exact n) M.law_exact.g (F.bindsN fun _ _ _ _ _ _ us hl => match us, hl with | [_, _], _ => rfl)
theorem ok_law {fd : FuncData} (F : FnP K "law" s_law fd) (TB : GxR.TabB base mg (He.cT K a_total).1 (He.cT K a_total).2) (hT : T (He.cT K a_total).2) : FnOk P w K mg base (L2.CX P w) 5 (He.fAd K ("law", none)) fd ["script"] (spD K T spLawD) :=
  fn_dataH (k := 4) F sc_law (by rintro ds C Q E ⟨_, rfl, _⟩; rfl)
    (der_law M.kn (D_law_tariff M) (D_law_draw M) (D_share M) (D_law_course M) (D_bill M TB hT) (D_credit M TB hT) (D_law_exact M 3) (D_total M TB hT) (by decide) (by decide) (by decide) (by decide) (by decide) (by decide) (by decide) (by decide))
    (by rintro ds C Q E ⟨ns, rfl, _, h⟩; exact c_law _ _ _ _ ⟨ns, rfl, h⟩)
end

/-! ### the head -/
abbrev dd (x : Str) (st : Stmt) : He.DefD := dfOf (x, none) x x st
def fnL : List He.DefD := [dd "_law_refill" s_law_refill, dd "_law_draw" s_law_draw, dd "_law_exact" s_law_exact, dd "applies" s_applies, dd "counted" s_counted, dd "events" s_events, dd "quantities" s_quantities, dd "total" s_total, dd "bill" s_bill, dd "share" s_share, dd "credit" s_credit, dd "_law_tariff" s_law_tariff, dd "_law_course" s_law_course, dd "law" s_law]
def faL : List He.Fa := [.int "DAY" 24, .glo "_law_refill", .glo "_law_draw", .glo "_law_exact", .glo "applies", .glo "counted", .glo "events", .glo "quantities", .glo "total", .glo "bill", .glo "share", .glo "credit", .glo "_law_tariff", .glo "_law_course", .glo "law"] ++ btNames.map .free
def tfL : List He.Defn := [a_total]
abbrev LL : PySem.W.OpenLaw := PySem.Challenge.rw_pledgedwatts_k84_shares_and_credits
abbrev RR : PySem.W.OpenRow := PySem.W.OpenLaw.row LL
abbrev hkL : PySem.W.Hook := He.hookX 5 faL fnL [] tfL fun _ => true
def obL (s : PySem.W.SharedT) : He.AlX := He.obsX 5 faL fnL [] tfL (fun _ => true) (HandSHeadRun.getT s)
theorem obL_eq (s : PySem.W.SharedT) : obL s = hkL.obs s.abs := He.obsX_eq (HandSHeadRun.getT_eq s)
def looseL : List Str := ["DAY", "_law_refill", "_law_draw", "_law_exact", "applies", "counted", "events", "quantities", "total", "bill", "share", "credit", "_law_tariff", "_law_course"]
theorem runL (w : World) : HandSHeadRun.RunEq RR (PySem.W.view RR.prog [16]) hkL obL 1000 looseL w := by
  intro os
  kernel_rfl

theorem allL {K : PySem.W.Frag} {h : Heap} {mg : Str → Option Value} (X : K.In h) (G : h.Ns mainGlobals mg) (c : He.SaysD faL fnL K) : All K mg :=
  ⟨⟨bt_of X G fun x hx => He.SaysD.facts c (List.mem_append_right _ (List.mem_map_of_mem hx)), He.int_ok X G (c.fact 0 (f := .int "DAY" 24) rfl)⟩,
   ⟨c.def_ 0 (d := dd "_law_refill" s_law_refill) rfl, He.glo_ok X G (c.fact 1 (f := .glo "_law_refill") rfl)⟩,
   ⟨c.def_ 1 (d := dd "_law_draw" s_law_draw) rfl, He.glo_ok X G (c.fact 2 (f := .glo "_law_draw") rfl)⟩,
   ⟨c.def_ 2 (d := dd "_law_exact" s_law_exact) rfl, He.glo_ok X G (c.fact 3 (f := .glo "_law_exact") rfl)⟩,
   ⟨c.def_ 3 (d := dd "applies" s_applies) rfl, He.glo_ok X G (c.fact 4 (f := .glo "applies") rfl)⟩,
   ⟨c.def_ 4 (d := dd "counted" s_counted) rfl, He.glo_ok X G (c.fact 5 (f := .glo "counted") rfl)⟩,
   ⟨c.def_ 5 (d := dd "events" s_events) rfl, He.glo_ok X G (c.fact 6 (f := .glo "events") rfl)⟩,
   ⟨c.def_ 6 (d := dd "quantities" s_quantities) rfl, He.glo_ok X G (c.fact 7 (f := .glo "quantities") rfl)⟩,
   ⟨c.def_ 7 (d := dd "total" s_total) rfl, He.glo_ok X G (c.fact 8 (f := .glo "total") rfl)⟩,
   ⟨c.def_ 8 (d := dd "bill" s_bill) rfl, He.glo_ok X G (c.fact 9 (f := .glo "bill") rfl)⟩,
   ⟨c.def_ 9 (d := dd "share" s_share) rfl, He.glo_ok X G (c.fact 10 (f := .glo "share") rfl)⟩,
   ⟨c.def_ 10 (d := dd "credit" s_credit) rfl, He.glo_ok X G (c.fact 11 (f := .glo "credit") rfl)⟩,
   ⟨c.def_ 11 (d := dd "_law_tariff" s_law_tariff) rfl, He.glo_ok X G (c.fact 12 (f := .glo "_law_tariff") rfl)⟩,
   ⟨c.def_ 12 (d := dd "_law_course" s_law_course) rfl, He.glo_ok X G (c.fact 13 (f := .glo "_law_course") rfl)⟩⟩
theorem law_at {w : World} {K : PySem.W.Frag} {h : Heap} {mg : Str → Option Value} {fa : Addr} (X : K.In h) (G : h.Ns mainGlobals mg) (c : He.SaysX faL fnL [] tfL (fun _ => true) w h K) (hfa : mg ("law" : Str) = some (.ref fa)) :
    LamX.LawAtS LL w K (L2.CX LL.prog w) 5 63 "script" mg fa h := by
  have M := allL X G c.t.d
  obtain ⟨fd, F⟩ := c.t.d.def_ 13 (d := dd "law" s_law) rfl
  have e := hfa.symm.trans (He.glo_ok X G (c.t.d.fact 14 (f := .glo "law") rfl))
  cases e
  have b := FunD.bindsA (ps := ["script"]) F fun _ _ _ _ _ _ us hl => match us, hl with | [_], _ => rfl
  exact law_end (tf := tfL) X c.hd c.out c.empty (fun s v => b s [v] rfl) fun base KB NB TB => ok_law M F (TB a_total List.mem_cons_self) ⟨a_total, List.mem_cons_self, rfl⟩

end K84
open PySem PySem.W PySem.Calls PyProof.Rows
theorem PySem.Challenge.cw_pledgedwatts_k84_shares_and_credits_holds : PySem.Challenge.rw_pledgedwatts_k84_shares_and_credits.Holds := by
  w_on; o_law
  refine HandSHeadRun.head_any (r := K84.RR) (q := view K84.RR.prog [16]) (H := K84.hkL) (ob := K84.obL) (M := 1000) (loose := K84.looseL) (d := HandSHeadRun.topDef K84.RR.prog 16) (kwd := []) K84.obL_eq
    (by kernel_rfl) (fun s => by kernel_rfl) K84.runL (by kernel_rfl) (by kernel_rfl) (by kernel_rfl) (by rfl) (by first | assumption | decide +kernel) (by decide +kernel)
    ⟨rfl, rfl, rfl, rfl, rfl, by decide +kernel⟩ ?hw ?hc
  case hw => w_witness2
  case hc =>
    refine LamX.walk_ofTsE (l := K84.LL) (n := 63) (k := 5) (x := "script") (CX := L2.CX K84.LL.prog) rfl (by decide) (by kernel_rfl) ⟨rfl, by decide, by decide⟩ ?F ?G
    case F =>
      intro w mg fa h Y G hmg0
      obtain ⟨K, KX, c⟩ := Y
      have e : (HandSHeadRun.topDef K84.RR.prog 16).name = ("law" : PySem.Str) := by kernel_rfl
      exact ⟨K, KX, K84.law_at KX G c (by rw [← e]; exact hmg0)⟩
    case G => exact fun _ _ _ _ _ z => by first | exact z | exact z.elim | simpa [L2.CX] using z
