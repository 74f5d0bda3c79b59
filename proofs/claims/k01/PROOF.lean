import PyProof.Rows.All
import HandS.Conv
import HandS.Deep
import HandS.EndBits
import HandS.Flow
import HandS.ForExc
import HandS.ForMost
import HandS.IsInst
import HandS.NoneIn
import HandS.RaiseMore
import HandS.SortInts
import HandS.Style
import HandS.Text
import HandS.TupAny
import HandS.TupMul
import HandS.Walk
import HandS.Wide
import HandS.Zip
import KE.KIntText
import OpenK.AllK
import PyProof.ReprRoads
import Wide.All
import Wide.FinOn
import PySem.Challenge.RW_onlyonemore_k01_fractions_as_texts
set_option Elab.async false
set_option linter.all false
set_option maxRecDepth 100000
set_option maxHeartbeats 4000000
namespace M
open PySem PySem.Spec PyProof.Rows L2

/-! ## results, slots -/
inductive R (α : Type) where
  | ok (a : α)
  | err (c : Str) (d : PyData)
  | fail
inductive Slot where
  | un
  | fz (d : PyData)
  | ol (r : Option Nat) (ds : List PyData)
abbrev MEnv := List Slot
abbrev ME (α : Type) := MEnv → R (α × MEnv)

def bnd {α β : Type} (m : ME α) (k : α → ME β) : ME β := fun ρ => match m ρ with
  | .ok (a, ρ1) => k a ρ1
  | .err c d => .err c d
  | .fail => .fail
def ret {α : Type} (a : α) : ME α := fun ρ => .ok (a, ρ)
def lft {α : Type} (r : R α) : ME α := fun ρ => match r with
  | .ok a => .ok (a, ρ)
  | .err c d => .err c d
  | .fail => .fail
def getS : MEnv → Nat → Slot
  | [], _ => .un
  | s :: _, 0 => s
  | _ :: r, n + 1 => getS r n
theorem getS_of {ρ : MEnv} {i : Nat} {s : Slot} (h : getS ρ i = s) (hs : s ≠ .un) : ρ[i]? = some s := by
  induction ρ generalizing i with
  | nil => subst h; exact absurd rfl hs
  | cons a r ih =>
    cases i with
    | zero => subst h; rfl
    | succ n => exact ih h
theorem getS_un {ρ : MEnv} {i : Nat} (h : ρ.length ≤ i) : getS ρ i = .un := by
  induction ρ generalizing i with
  | nil => rfl
  | cons a r ih =>
    cases i with
    | zero => simp at h
    | succ n => exact ih (by simpa using h)

/-! ## data -/
mutual
/-- what a value stands for; a list that is only read (the script) is told as lckD -/
inductive Dp (K : PySem.W.Frag) (H : Hp) : V → PyData → Prop
  | non : Dp K H .non .none
  | bl (b : Bool) : Dp K H (.bl b) (.bool b)
  | int (i : Int) : Dp K H (.int i) (.int i)
  | str (x : Str) : Dp K H (.str x) (.str x)
  | lst {a : Addr} {xs : List V} {ds : List PyData} : H a = some (.lst xs) → DpAll K H xs ds → Dp K H (.ref a) (.list ds)
  | lck {a : Addr} {xs : List V} {ds : List PyData} : SqL K H a xs → DpAll K H xs ds → Dp K H (.ref a) (.dict [(.none, .list ds)])
  | tup {a : Addr} {xs : List V} {ds : List PyData} : SqT K H a xs → DpAll K H xs ds → Dp K H (.ref a) (.tuple ds)
inductive DpAll (K : PySem.W.Frag) (H : Hp) : List V → List PyData → Prop
  | nil : DpAll K H [] []
  | cons {v : V} {vs : List V} {d : PyData} {ds : List PyData} : Dp K H v d → DpAll K H vs ds → DpAll K H (v :: vs) (d :: ds)
end
mutual
theorem Dp.up {K : PySem.W.Frag} {F : Hp} : ∀ (d : PyData) {v : V}, d.canLay0 = true → Dp K F v d → L2.Dp K F v d
  | .none, _, _, .non => .non
  | .bool _, _, _, .bl _ => .bl _
  | .int _, _, _, .int _ => .int _
  | .str _, _, _, .str _ => .str _
  | .list ds, _, c, .lst hs ha => .lst (.inl (.inl hs)) (DpAll.up ds (by simpa only [PyData.canLay0] using c) ha)
  | .tuple ds, _, c, .tup hs ha => .tup hs (DpAll.up ds (by simpa only [PyData.canLay0] using c) ha)
  | .dict _, _, c, _ => by simp only [PyData.canLay0] at c; cases c
theorem DpAll.up {K : PySem.W.Frag} {F : Hp} : ∀ (ds : List PyData) {vs : List V}, PyData.canLayAll0 ds = true → DpAll K F vs ds → L2.DpAll K F vs ds
  | [], _, _, .nil => .nil
  | d :: ds, _, c, .cons p q => by
    simp only [PyData.canLayAll0, Bool.and_eq_true] at c
    exact .cons (Dp.up d c.1 p) (DpAll.up ds c.2 q)
end
theorem Rd.mono {F F' : Hp} (h : ∀ a o, F a = some o → F' a = some o) {a : Addr} {u : HO} (r : Rd F a u) : Rd F' a u := r.imp (h _ _) fun ⟨o, z⟩ => ⟨o, h _ _ z⟩
mutual
theorem Dp.mono {K : PySem.W.Frag} {F F' : Hp} (h : ∀ a o, F a = some o → F' a = some o) : ∀ (d : PyData) {v : V}, Dp K F v d → Dp K F' v d
  | .none, _, .non => .non
  | .bool _, _, .bl _ => .bl _
  | .int _, _, .int _ => .int _
  | .str _, _, .str _ => .str _
  | .list ds, _, .lst hs ha => .lst (h _ _ hs) (DpAll.mono h ds ha)
  | .dict [(.none, .list ds)], _, .lck hs ha => .lck (hs.imp (fun r => r.imp (h _ _) fun ⟨o, z⟩ => ⟨o, h _ _ z⟩) id) (DpAll.mono h ds ha)
  | .tuple ds, _, .tup hs ha => .tup (hs.imp (fun r => r.imp (h _ _) fun ⟨o, z⟩ => ⟨o, h _ _ z⟩) id) (DpAll.mono h ds ha)
theorem DpAll.mono {K : PySem.W.Frag} {F F' : Hp} (h : ∀ a o, F a = some o → F' a = some o) : ∀ (ds : List PyData) {vs : List V}, DpAll K F vs ds → DpAll K F' vs ds
  | [], _, .nil => .nil
  | d :: ds, _, .cons p q => .cons (Dp.mono h d p) (DpAll.mono h ds q)
end
theorem SqL.mono {K : PySem.W.Frag} {F F' : Hp} (h : ∀ a o, F a = some o → F' a = some o) {a : Addr} {xs : List V} (s : SqL K F a xs) : SqL K F' a xs :=
  s.imp (fun r => r.imp (h _ _) fun ⟨o, z⟩ => ⟨o, h _ _ z⟩) id
theorem SqT.mono {K : PySem.W.Frag} {F F' : Hp} (h : ∀ a o, F a = some o → F' a = some o) {a : Addr} {xs : List V} (s : SqT K F a xs) : SqT K F' a xs :=
  s.imp (fun r => r.imp (h _ _) fun ⟨o, z⟩ => ⟨o, h _ _ z⟩) id
theorem DpAll.length {K : PySem.W.Frag} {F : Hp} : ∀ {ds : List PyData} {vs : List V}, DpAll K F vs ds → vs.length = ds.length
  | [], _, .nil => rfl
  | _ :: _, _, .cons _ q => by simp [DpAll.length q]
theorem DpAll.append {K : PySem.W.Frag} {F : Hp} : ∀ {ds es : List PyData} {vs us : List V}, DpAll K F vs ds → DpAll K F us es → DpAll K F (vs ++ us) (ds ++ es)
  | [], _, _, _, .nil, q => q
  | _ :: _, _, _, _, .cons p t, q => .cons p (DpAll.append t q)
theorem DpAll.get {K : PySem.W.Frag} {F : Hp} : ∀ {ds : List PyData} {vs : List V} {i : Nat} {d : PyData}, DpAll K F vs ds → ds[i]? = some d → ∃ v, vs[i]? = some v ∧ Dp K F v d
  | [], _, _, _, .nil, h => by simp at h
  | _ :: _, _, 0, _, .cons p _, h => by simp at h; subst h; exact ⟨_, rfl, p⟩
  | _ :: _, _, i + 1, _, .cons _ q, h => by simpa using DpAll.get q (by simpa using h)
theorem DpAll.get' {K : PySem.W.Frag} {F : Hp} : ∀ {ds : List PyData} {vs : List V} {i : Nat} {v : V}, DpAll K F vs ds → vs[i]? = some v → ∃ d, ds[i]? = some d ∧ Dp K F v d
  | [], _, _, _, .nil, h => by simp at h
  | _ :: _, _, 0, _, .cons p _, h => by simp at h; subst h; exact ⟨_, rfl, p⟩
  | _ :: _, _, i + 1, _, .cons _ q, h => by simpa using DpAll.get' q (by simpa using h)
theorem DpAll.set {K : PySem.W.Frag} {F : Hp} {v : V} {d : PyData} (h : Dp K F v d) : ∀ {ds : List PyData} {vs : List V} (i : Nat), DpAll K F vs ds → DpAll K F (vs.set i v) (ds.set i d)
  | [], _, _, .nil => .nil
  | _ :: _, _, 0, .cons _ q => .cons h q
  | _ :: _, _, i + 1, .cons p q => .cons p (DpAll.set h i q)
theorem DpAll.take {K : PySem.W.Frag} {F : Hp} : ∀ {ds : List PyData} {vs : List V} (i : Nat), DpAll K F vs ds → DpAll K F (vs.take i) (ds.take i)
  | _, _, 0, _ => by simpa using .nil
  | [], _, _ + 1, .nil => .nil
  | _ :: _, _, i + 1, .cons p q => .cons p (DpAll.take i q)
theorem DpAll.drop {K : PySem.W.Frag} {F : Hp} : ∀ {ds : List PyData} {vs : List V} (i : Nat), DpAll K F vs ds → DpAll K F (vs.drop i) (ds.drop i)
  | _, _, 0, q => q
  | [], _, _ + 1, .nil => .nil
  | _ :: _, _, i + 1, .cons _ q => DpAll.drop i q

/-- what is frozen is of a size -/
structure SzOk (K : PySem.W.Frag) (F : Hp) : Prop where
  l : ∀ a xs, SqL K F a xs → xs.length ≤ sizeLine
  t : ∀ a xs, SqT K F a xs → xs.length ≤ sizeLine

/-! ## contexts -/
/-- K: the written part; mg: the module's names; pa: where the parameters' own lists stand; E: what is wanted of an exception -/
structure Cc where
  K : PySem.W.Frag
  mg : Str → Option Value
  pa : Nat → Addr
  E : XK

abbrev Fs := Nat → List Addr
def SlotR (C : Cc) (F H : Hp) (x : Option (Option V)) (fs : List Addr) : Slot → Prop
  | .un => fs = []
  | .fz d => fs = [] ∧ ∃ v, x = some (some v) ∧ Dp C.K F v d
  | .ol r ds => ∃ a vs, x = some (some (.ref a)) ∧ fs = [a] ∧ H a = some (.lst vs) ∧ DpAll C.K F vs ds ∧ vs.length ≤ sizeLine ∧ ∀ n, r = some n → a = C.pa n
structure Rel (C : Cc) (F H : Hp) (σ : L2.St) (ρ : MEnv) (fs : Fs) : Prop where
  len : σ.length = ρ.length
  slot : ∀ i s, ρ[i]? = some s → SlotR C F H σ[i]? (fs i) s
  trk : ∀ i a, a ∈ fs i → ∃ vs, H a = some (.lst vs)
  lim : ∃ L, ∀ i, L ≤ i → fs i = []
  dis : ∀ i j a, a ∈ fs i → a ∈ fs j → i = j
  nd : ∀ i, (fs i).Nodup
  out : ∀ i a, a ∈ fs i → F a = none
  sub : ∀ a o, F a = some o → H a = some o
  sz : SzOk C.K F
/-- from one state to a later one -/
structure Ext (F H : Hp) (fs : Fs) (F' H' : Hp) (fs' : Fs) : Prop where
  fz : ∀ a o, F a = some o → F' a = some o
  keep : ∀ a o, H a = some o → (∀ i, a ∉ fs i) → H' a = some o
  own : ∀ i a, a ∈ fs' i → (∃ j, a ∈ fs j) ∨ H a = none
  dom : ∀ a, H' a = none → H a = none
  new : ∀ a, F' a ≠ none → F a ≠ none ∨ H a = none ∨ ∃ i, a ∈ fs i
theorem Ext.refl {F H : Hp} {fs : Fs} : Ext F H fs F H fs := ⟨fun _ _ h => h, fun _ _ h _ => h, fun i _ h => .inl ⟨i, h⟩, fun _ h => h, fun _ h => .inl h⟩
theorem Ext.trans {F H F1 H1 F2 H2 : Hp} {fs fs1 fs2 : Fs} (a : Ext F H fs F1 H1 fs1) (b : Ext F1 H1 fs1 F2 H2 fs2) : Ext F H fs F2 H2 fs2 where
  fz := fun x o h => b.fz x o (a.fz x o h)
  keep := fun x o h n => b.keep x o (a.keep x o h n) fun i hi => by
    rcases a.own i x hi with ⟨j, hj⟩ | z
    · exact n j hj
    · rw [z] at h; cases h
  own := fun i x h => by
    rcases b.own i x h with ⟨j, hj⟩ | z
    · exact a.own j x hj
    · exact .inr (a.dom x z)
  dom := fun x h => a.dom x (b.dom x h)
  new := fun x h => by
    rcases b.new x h with z | z | ⟨i, z⟩
    · exact a.new x z
    · exact .inr (.inl (a.dom x z))
    · rcases a.own i x z with y | y
      · exact .inr (.inr y)
      · exact .inr (.inl y)
/-- new objects alone -/
structure AExt (K : PySem.W.Frag) (F H F' H' : Hp) : Prop where
  fz : ∀ a o, F a = some o → F' a = some o
  keep : ∀ a o, H a = some o → H' a = some o
  new : ∀ a, F' a ≠ none → F a ≠ none ∨ H a = none
  sub : ∀ a o, F' a = some o → H' a = some o
  sz : SzOk K F'
theorem AExt.refl {K : PySem.W.Frag} {F H : Hp} (hs : ∀ a o, F a = some o → H a = some o) (hz : SzOk K F) : AExt K F H F H :=
  ⟨fun _ _ h => h, fun _ _ h => h, fun _ h => .inl h, hs, hz⟩
theorem AExt.trans {K : PySem.W.Frag} {F H F1 H1 F2 H2 : Hp} (a : AExt K F H F1 H1) (b : AExt K F1 H1 F2 H2) : AExt K F H F2 H2 :=
  ⟨fun x o h => b.fz x o (a.fz x o h), fun x o h => b.keep x o (a.keep x o h), fun x h => by
    rcases b.new x h with z | z
    · exact a.new x z
    · refine .inr ?_
      cases q : H x with
      | none => rfl
      | some o =>
        have z' := a.keep x o q
        rw [z] at z'
        exact absurd z' (by simp), b.sub, b.sz⟩
section
variable {C : Cc} {F H F' H' : Hp} {σ : L2.St} {ρ : MEnv} {fs fs' : Fs}
theorem SlotR.aext (a : AExt C.K F H F' H') {x : Option (Option V)} {f : List Addr} : ∀ {s : Slot}, SlotR C F H x f s → SlotR C F' H' x f s
  | .un, h => h
  | .fz d, ⟨h1, v, h2, h3⟩ => ⟨h1, v, h2, Dp.mono a.fz d h3⟩
  | .ol r ds, ⟨b, vs, h1, h2, h3, h4, h5⟩ => ⟨b, vs, h1, h2, a.keep _ _ h3, DpAll.mono a.fz ds h4, h5⟩
theorem Rel.aext (r : Rel C F H σ ρ fs) (a : AExt C.K F H F' H') : Rel C F' H' σ ρ fs :=
  ⟨r.len, fun i s h => (r.slot i s h).aext a, fun i b h => let ⟨vs, z⟩ := r.trk i b h; ⟨vs, a.keep _ _ z⟩, r.lim, r.dis, r.nd, fun i b h => by
    cases q : F' b with
    | none => rfl
    | some o =>
      rcases a.new b (by rw [q]; simp) with z | z
      · exact absurd (r.out i b h) z
      · obtain ⟨vs, e⟩ := r.trk i b h
        rw [z] at e
        exact absurd e (by simp), a.sub, a.sz⟩
theorem AExt.ext (a : AExt C.K F H F' H') : Ext F H fs F' H' fs :=
  ⟨a.fz, fun b o h _ => a.keep b o h, fun i b h => .inl ⟨i, h⟩, fun b h => by
    cases q : H b with
    | none => rfl
    | some o => exact absurd ((a.keep b o q).symm.trans h) (by simp), fun b h => (a.new b h).imp id .inl⟩
/-- a new object, frozen at once -/
theorem AExt.one {K : PySem.W.Frag} {p : Addr} {o : HO} (hs : ∀ a o, F a = some o → H a = some o) (hz : SzOk K F) (hp : H p = none)
    (ho : (∃ xs, o = .tup xs ∧ xs.length ≤ sizeLine) ∨ ∃ xs, o = .lst xs ∧ xs.length ≤ sizeLine) : AExt K F H (upd F p o) (upd H p o) := by
  have hF : F p = none := by
    cases q : F p with
    | none => rfl
    | some o => rw [hs p o q] at hp; cases hp
  refine ⟨fun a u h => ?_, fun a u h => ?_, fun a h => ?_, fun a u h => ?_, ⟨fun a xs h => ?_, fun a xs h => ?_⟩⟩
  · rw [upd_ne (ne_of_none h hF)]; exact h
  · rw [upd_ne (ne_of_none h hp)]; exact h
  · by_cases e : a = p
    · exact .inr (e ▸ hp)
    · rw [upd_ne e] at h; exact .inl h
  · by_cases e : a = p
    · subst e; rw [upd_same] at h ⊢; exact h
    · rw [upd_ne e] at h ⊢; exact hs a u h
  · rcases h with (h | ⟨ob, h⟩) | h
    · by_cases e : a = p
      · subst e; rw [upd_same] at h; cases h
        rcases ho with ⟨ys, e, _⟩ | ⟨ys, e, hl⟩
        · cases e
        · cases e; exact hl
      · rw [upd_ne e] at h; exact hz.l a xs (.inl (.inl h))
    · by_cases e : a = p
      · subst e; rw [upd_same] at h; cases h
        rcases ho with ⟨ys, e, _⟩ | ⟨ys, e, _⟩ <;> cases e
      · rw [upd_ne e] at h; exact hz.l a xs (.inl (.inr ⟨ob, h⟩))
    · exact hz.l a xs (.inr h)
  · rcases h with (h | ⟨ob, h⟩) | h
    · by_cases e : a = p
      · subst e; rw [upd_same] at h; cases h
        rcases ho with ⟨ys, e, hl⟩ | ⟨ys, e, _⟩
        · cases e; exact hl
        · cases e
      · rw [upd_ne e] at h; exact hz.t a xs (.inl (.inl h))
    · by_cases e : a = p
      · subst e; rw [upd_same] at h; cases h
        rcases ho with ⟨ys, e, _⟩ | ⟨ys, e, _⟩ <;> cases e
      · rw [upd_ne e] at h; exact hz.t a xs (.inl (.inr ⟨ob, h⟩))
    · exact hz.t a xs (.inr h)
end

/-! ## the reading of a mirror -/
/-- an exception that may come: C.mg names its class; its own dict bears the value -/
def ErrP (C : Cc) (F H : Hp) (fs : Fs) (c : Str) (d : PyData) : Prop :=
  ∃ cl, C.mg c = some (.ref cl) ∧ ∀ dx H' F' fs' v, Ext F H fs F' H' fs' → (∀ a o, F' a = some o → H' a = some o) → SzOk C.K F' →
    H' dx = some (.xd [("value", v)]) → H dx = none → F' dx = none → Dp C.K F' v d → C.E (.ref cl) (some dx) H'
theorem ErrP.ext {C : Cc} {F H F1 H1 : Hp} {fs fs1 : Fs} {c : Str} {d : PyData} (x : Ext F H fs F1 H1 fs1) (h : ErrP C F H fs c d) : ErrP C F1 H1 fs1 c d :=
  let ⟨cl, h1, h2⟩ := h
  ⟨cl, h1, fun dx H' F' fs' v y s z e n f q => h2 dx H' F' fs' v (x.trans y) s z e (x.dom dx n) f q⟩
/-- how a value stands to what the mirror gives: by the frozen heap, the heap, the own places -/
abbrev RV (β α : Type) := Hp → Hp → Fs → β → α → Prop
def Res {β α : Type} (C : Cc) (rv : RV β α) (σ : L2.St) (F H : Hp) (fs : Fs) (Q : β → Hp → Prop) : R (α × MEnv) → Prop
  | .ok (a, ρ') => ∀ b H' F' fs', Rel C F' H' σ ρ' fs' → Ext F H fs F' H' fs' → rv F' H' fs' b a → Q b H'
  | .err c d => ErrP C F H fs c d
  | .fail => False
def tG {β α : Type} (C : Cc) (rv : RV β α) (m : ME α) : L2.St → Hp → (β → Hp → Prop) → Prop := fun σ H Q =>
  ∃ F ρ fs, Rel C F H σ ρ fs ∧ Res C rv σ F H fs Q (m ρ)
theorem Res.ext {β α : Type} {C : Cc} {rv : RV β α} {σ : L2.St} {F H F1 H1 : Hp} {fs fs1 : Fs} {Q : β → Hp → Prop} (x : Ext F H fs F1 H1 fs1) : ∀ {r : R (α × MEnv)}, Res C rv σ F H fs Q r → Res C rv σ F1 H1 fs1 Q r
  | .ok (_, _), h => fun b H' F' fs' r y q => h b H' F' fs' r (x.trans y) q
  | .err _ _, h => ErrP.ext x h
theorem tG.mono {β α : Type} {C : Cc} {rv : RV β α} {m : ME α} {σ : L2.St} {H : Hp} {Q Q' : β → Hp → Prop} (h : tG C rv m σ H Q) (hq : ∀ b H', Q b H' → Q' b H') : tG C rv m σ H Q' := by
  obtain ⟨F, ρ, fs, r, h⟩ := h
  refine ⟨F, ρ, fs, r, ?_⟩
  cases e : m ρ with
  | ok p => rw [e] at h; exact fun b H' F' fs' r y q => hq b H' (h b H' F' fs' r y q)
  | err c d => rw [e] at h; exact h
  | fail => rw [e] at h; exact h
/-- a state and what is left to do -/
def Left {β α γ : Type} (C : Cc) (rv : RV β α) (rg : RV γ δ) (k : α → ME δ) (σ : L2.St) (Q : γ → Hp → Prop) (b : β) (H1 : Hp) : Prop :=
  ∃ F1 ρ1 fs1 a, Rel C F1 H1 σ ρ1 fs1 ∧ rv F1 H1 fs1 b a ∧ Res C rg σ F1 H1 fs1 Q (k a ρ1)
theorem tG.bnd {β α γ δ : Type} {C : Cc} {rv : RV β α} {rg : RV γ δ} {m : ME α} {k : α → ME δ} {σ : L2.St} {H : Hp} {Q : γ → Hp → Prop} (h : tG C rg (bnd m k) σ H Q) : tG C rv m σ H (Left C rv rg k σ Q) := by
  obtain ⟨F, ρ, fs, r, h⟩ := h
  refine ⟨F, ρ, fs, r, ?_⟩
  unfold M.bnd at h
  cases e : m ρ with
  | ok p =>
    rw [e] at h
    exact fun b H' F' fs' r' x q => ⟨F', p.2, fs', p.1, r', q, Res.ext x h⟩
  | err c d => rw [e] at h; exact h
  | fail => rw [e] at h; exact h
/-- the value as it is -/
abbrev rvD (C : Cc) : RV V PyData := fun F _ _ v d => Dp C.K F v d
abbrev rvB : RV Bool Bool := fun _ _ _ b a => b = a
abbrev rvL (C : Cc) : RV (List V) (List PyData) := fun F _ _ vs ds => DpAll C.K F vs ds
/-- a new list of one's own, at an index of the own places behind the slots -/
abbrev rvF (C : Cc) (σ : L2.St) : RV V (List PyData) := fun F H fs v ds => ∃ a vs j, v = .ref a ∧ fs j = [a] ∧ σ.length ≤ j ∧ H a = some (.lst vs) ∧ DpAll C.K F vs ds ∧ vs.length ≤ sizeLine

structure Good (X : Cx) (C : Cc) (k : Nat) : Prop where
  K : C.K = X.K
  mg : C.mg = X.mg
  room : Room k X.A
  calm : X.calm = true
  nd : X.N.Nodup
  guards : X.A.guards = some []

abbrev DE (X : Cx) (C : Cc) (e : Expr) (m : ME PyData) : Prop := PE X e (tG C (rvD C) m)
abbrev DT (X : Cx) (C : Cc) (e : Expr) (m : ME Bool) : Prop := PT X e (tG C rvB m)
abbrev DF (X : Cx) (C : Cc) (e : Expr) (m : ME (List PyData)) : Prop := PE X e (fun σ H Q => tG C (rvF C σ) m σ H Q)
theorem PE.imp {X : Cx} {e : Expr} {t t' : TE} (h : PE X e t) (i : ∀ σ H Q, t' σ H Q → t σ H Q) : PE X e t' := ⟨fun pins s σ H Q I q => h.run pins s σ H Q I (i σ H Q q)⟩
theorem PT.imp {X : Cx} {e : Expr} {t t' : TT} (h : PT X e t) (i : ∀ σ H Q, t' σ H Q → t σ H Q) : PT X e t' := ⟨fun pins s σ H Q I q => h.run pins s σ H Q I (i σ H Q q)⟩
theorem PW.imp {X : Cx} {e : Expr} {t t' : TT} (h : PW X e t) (i : ∀ σ H Q, t' σ H Q → t σ H Q) : PW X e t' := ⟨fun wh pins s σ H Q I q => h.run wh pins s σ H Q I (i σ H Q q)⟩
theorem PA.imp {X : Cx} {es : List Expr} {t t' : TA} (h : PA X es t) (i : ∀ σ H Q, t' σ H Q → t σ H Q) : PA X es t' := ⟨fun pos pins s σ H Q I q => h.run pos pins s σ H Q I (i σ H Q q)⟩
theorem PS.imp {X : Cx} {e : Stmt} {t t' : TS} (h : PS X e t) (i : ∀ D σ H, t' D σ H → t D σ H) : PS X e t' := ⟨fun pins s σ H D I q => h.run pins s σ H D I (i D σ H q)⟩
theorem PSs.imp {X : Cx} {e : List Stmt} {t t' : TS} (h : PSs X e t) (i : ∀ D σ H, t' D σ H → t D σ H) : PSs X e t' := ⟨fun pins s σ H D I q => h.run pins s σ H D I (i D σ H q)⟩
end M
set_option Elab.async false
set_option linter.all false
set_option maxRecDepth 100000
set_option maxHeartbeats 4000000
namespace M
open PySem PySem.Spec PyProof.Rows L2

theorem bnd_assoc {α β γ : Type} (m : ME α) (k : α → ME β) (l : β → ME γ) : bnd (bnd m k) l = bnd m fun a => bnd (k a) l := by
  funext ρ
  unfold bnd
  cases m ρ <;> rfl
theorem ret_bnd {α β : Type} (a : α) (k : α → ME β) : bnd (ret a) k = k a := rfl
/-! ## sequences of readings -/
theorem Res.bnd {β α γ δ : Type} {C : Cc} {rv : RV β α} {rg : RV γ δ} {m : ME α} {k : α → ME δ} {σ : L2.St} {F H : Hp} {ρ : MEnv} {fs : Fs} {Q : γ → Hp → Prop} (r : Rel C F H σ ρ fs)
    (h : Res C rg σ F H fs Q (bnd m k ρ)) : tG C rv m σ H (fun b H1 => ∃ F1 ρ1 fs1 a, Rel C F1 H1 σ ρ1 fs1 ∧ Ext F H fs F1 H1 fs1 ∧ rv F1 H1 fs1 b a ∧ Res C rg σ F1 H1 fs1 Q (k a ρ1)) := by
  refine ⟨F, ρ, fs, r, ?_⟩
  unfold M.bnd at h
  cases e : m ρ with
  | ok p =>
    rw [e] at h
    exact fun b H' F' fs' r' x q => ⟨F', p.2, fs', p.1, r', x, q, Res.ext x h⟩
  | err c d => rw [e] at h; exact h
  | fail => rw [e] at h; exact h

/-! ## operands: values, or names that are read at the end -/
inductive Opd where
  | v (m : ME PyData)
  | n (i : Nat)
def Opd.run : Opd → ME (PyData ⊕ Nat)
  | .v m => bnd m fun d => ret (.inl d)
  | .n i => fun ρ => match getS ρ i with
    | .un => .fail
    | .fz _ => .ok (.inr i, ρ)
    | .ol _ _ => .ok (.inr i, ρ)
def peek (i : Nat) : ME PyData := fun ρ => match getS ρ i with
  | .fz d => .ok (d, ρ)
  | .ol _ ds => .ok (.list ds, ρ)
  | .un => .fail
def fin : PyData ⊕ Nat → ME PyData
  | .inl d => ret d
  | .inr i => peek i
abbrev rvO (C : Cc) (σ : L2.St) : RV V (PyData ⊕ Nat) := fun F _ _ v x => match x with
  | .inl d => Dp C.K F v d
  | .inr i => σ[i]? = some (some v)
theorem rvO.ext {C : Cc} {σ : L2.St} {F H F' H' : Hp} {fs fs' : Fs} (x : Ext F H fs F' H' fs') {v : V} : ∀ {o : PyData ⊕ Nat}, rvO C σ F H fs v o → rvO C σ F' H' fs' v o
  | .inl d, h => Dp.mono x.fz d h
  | .inr _, h => h
abbrev DO (X : Cx) (C : Cc) (e : Expr) (o : Opd) : Prop := PE X e (fun σ H Q => tG C (rvO C σ) o.run σ H Q)
/-- a value as it stands now: frozen, or a list of one's own -/
def Dt (K : PySem.W.Frag) (F H : Hp) (v : V) (d : PyData) : Prop :=
  Dp K F v d ∨ ∃ a vs ds, v = .ref a ∧ d = .list ds ∧ H a = some (.lst vs) ∧ DpAll K F vs ds ∧ vs.length ≤ sizeLine
section
variable {X : Cx} {C : Cc} {k : Nat} {e a b : Expr} {pos : Pos}
theorem do_v {m : ME PyData} (h : DE X C e m) : DO X C e (.v m) := PE.imp h fun σ H Q ⟨F, ρ, fs, r, q⟩ => by
  refine tG.mono (Res.bnd (rv := rvD C) r q) fun v H1 ⟨F1, ρ1, fs1, d, r1, x, rd, q1⟩ => ?_
  exact q1 v H1 F1 fs1 r1 .refl rd
theorem do_n {i : Nat} {x : Str} (hN : X.N[i]? = some x) (hv : Vis X.env.scope x) (hd : (x == ("__debug__" : Str)) = false := by decide) (hcd : (x == ("__classdict__" : Str)) = false := by decide) : DO X C (.Name x pos) (.n i) := PE.imp (pe_var hN hv hd hcd) fun σ H Q ⟨F, ρ, fs, r, q⟩ => by
  have fnd : ∀ s, getS ρ i = s → s ≠ .un → ∃ v, σ[i]? = some (some v) := fun s e hs => by
    have z := r.slot i s (getS_of e hs)
    cases s with
    | un => exact absurd rfl hs
    | fz d => exact let ⟨_, v, h, _⟩ := z; ⟨v, h⟩
    | ol n ds => exact let ⟨a, _, h, _⟩ := z; ⟨_, h⟩
  unfold Opd.run at q
  cases e : getS ρ i with
  | un => simp only [e] at q; exact q.elim
  | fz d =>
    simp only [e] at q
    obtain ⟨v, hv⟩ := fnd _ e (by simp)
    exact ⟨v, hv, q v H F fs r .refl hv⟩
  | ol n ds =>
    simp only [e] at q
    obtain ⟨v, hv⟩ := fnd _ e (by simp)
    exact ⟨v, hv, q v H F fs r .refl hv⟩
theorem Rel.dt {σ : L2.St} {F H : Hp} {ρ : MEnv} {fs : Fs} (r : Rel C F H σ ρ fs) {i : Nat} {v : V} (hv : σ[i]? = some (some v)) {d : PyData} (hd : peek i ρ = .ok (d, ρ)) : Dt C.K F H v d := by
  unfold peek at hd
  cases e : getS ρ i with
  | un => rw [e] at hd; cases hd
  | fz d' =>
    rw [e] at hd
    injection hd with hd
    injection hd with hd _
    subst hd
    obtain ⟨_, v', h1, h2⟩ := r.slot i _ (getS_of e (by simp))
    rw [hv] at h1
    have : v = v' := by simpa using h1
    subst this
    exact .inl h2
  | ol n ds =>
    rw [e] at hd
    injection hd with hd
    injection hd with hd _
    subst hd
    obtain ⟨a, vs, h1, _, h2, h3, h4, _⟩ := r.slot i _ (getS_of e (by simp))
    rw [hv] at h1
    have : v = .ref a := by simpa using h1
    subst this
    exact .inr ⟨a, vs, ds, rfl, rfl, h2, h3, h4⟩
theorem peek_env {i : Nat} {ρ ρ' : MEnv} {d : PyData} (h : peek i ρ = .ok (d, ρ')) : ρ' = ρ := by
  unfold peek at h
  cases e : getS ρ i with
  | un => rw [e] at h; cases h
  | fz d' => rw [e] at h; injection h with h; injection h with _ h; exact h.symm
  | ol n ds => rw [e] at h; injection h with h; injection h with _ h; exact h.symm
theorem peek_err {i : Nat} {ρ : MEnv} {c : Str} {d : PyData} (h : peek i ρ = .err c d) : False := by
  unfold peek at h
  cases e : getS ρ i with
  | un => rw [e] at h; cases h
  | fz d' => rw [e] at h; cases h
  | ol n ds => rw [e] at h; cases h
/-- the operand read at the end -/
theorem Res.fin {γ δ : Type} {rg : RV γ δ} {kk : PyData → ME δ} {σ : L2.St} {F H : Hp} {ρ : MEnv} {fs : Fs} {Q : γ → Hp → Prop} {v : V} {x : PyData ⊕ Nat} (r : Rel C F H σ ρ fs) (hv : rvO C σ F H fs v x)
    (h : Res C rg σ F H fs Q (M.bnd (M.fin x) kk ρ)) : ∃ d, Dt C.K F H v d ∧ Res C rg σ F H fs Q (kk d ρ) := by
  cases x with
  | inl d => exact ⟨d, .inl hv, h⟩
  | inr i =>
    unfold M.bnd M.fin at h
    cases e : peek i ρ with
    | ok p =>
      obtain ⟨d, ρ'⟩ := p
      have e2 := peek_env e
      subst e2
      simp only [e] at h
      exact ⟨d, r.dt hv e, h⟩
    | err c d => exact (peek_err e).elim
    | fail => simp only [e] at h; exact h.elim
end
def upF (fs : Fs) (i : Nat) (f : List Addr) : Fs := fun j => if j = i then f else fs j
theorem upF_same {fs : Fs} {i : Nat} {f : List Addr} : upF fs i f i = f := if_pos rfl
theorem upF_ne {fs : Fs} {i j : Nat} {f : List Addr} (h : j ≠ i) : upF fs i f j = fs j := if_neg h
def lfo {α : Type} (o : Option α) : ME α := fun ρ => match o with
  | some a => .ok (a, ρ)
  | none => .fail
/-- what a rule by values wants, told by a function on data -/
abbrev Wants (K : PySem.W.Frag) (F H : Hp) (Q : VK) (o : Option PyData) : Prop := ∃ z, o = some z ∧ ∀ v F' H', AExt K F H F' H' → Dp K F' v z → Q v H'
theorem Res.lfo {C : Cc} {σ : L2.St} {F H : Hp} {ρ : MEnv} {fs : Fs} {Q : VK} {o : Option PyData} (r : Rel C F H σ ρ fs) (h : Res C (rvD C) σ F H fs Q (M.lfo o ρ)) : Wants C.K F H Q o := by
  unfold M.lfo at h
  cases o with
  | none => exact h.elim
  | some z => exact ⟨z, rfl, fun v F' H' x q => h v H' F' fs (r.aext x) x.ext q⟩
def VOp2 (K : PySem.W.Frag) (r : R2) (f : PyData → PyData → Option PyData) : Prop :=
  ∀ (F H : Hp) (x y : V) (d e : PyData) (Q : VK), (∀ a o, F a = some o → H a = some o) → SzOk K F → Dt K F H x d → Dt K F H y e → Wants K F H Q (f d e) → r x y H Q
def VOp1 (K : PySem.W.Frag) (r : V → Hp → VK → Prop) (f : PyData → Option PyData) : Prop :=
  ∀ (F H : Hp) (x : V) (d : PyData) (Q : VK), (∀ a o, F a = some o → H a = some o) → SzOk K F → Dt K F H x d → Wants K F H Q (f d) → r x H Q
inductive DtAll (K : PySem.W.Frag) (F H : Hp) : List V → List PyData → Prop
  | nil : DtAll K F H [] []
  | cons {v : V} {d : PyData} {vs : List V} {ds : List PyData} : Dt K F H v d → DtAll K F H vs ds → DtAll K F H (v :: vs) (d :: ds)
def VOpL (K : PySem.W.Frag) (r : List V → Hp → VK → Prop) (f : List PyData → Option PyData) : Prop :=
  ∀ (F H : Hp) (xs : List V) (ds : List PyData) (Q : VK), (∀ a o, F a = some o → H a = some o) → SzOk K F → DtAll K F H xs ds → Wants K F H Q (f ds) → r xs H Q
def op1 (f : PyData → Option PyData) (a : Opd) : ME PyData := bnd a.run fun x => bnd (fin x) fun d => lfo (f d)
def op2 (f : PyData → PyData → Option PyData) (a b : Opd) : ME PyData := bnd a.run fun x => bnd b.run fun y => bnd (fin x) fun d => bnd (fin y) fun e => lfo (f d e)
def runs : List Opd → ME (List (PyData ⊕ Nat))
  | [] => ret []
  | o :: os => bnd o.run fun x => bnd (runs os) fun xs => ret (x :: xs)
def fins : List (PyData ⊕ Nat) → ME (List PyData)
  | [] => ret []
  | x :: xs => bnd (fin x) fun d => bnd (fins xs) fun ds => ret (d :: ds)
def opL (f : List PyData → Option PyData) (os : List Opd) : ME PyData := bnd (runs os) fun xs => bnd (fins xs) fun ds => lfo (f ds)
inductive RvOs (C : Cc) (σ : L2.St) (F H : Hp) (fs : Fs) : List V → List (PyData ⊕ Nat) → Prop
  | nil : RvOs C σ F H fs [] []
  | cons {v : V} {x : PyData ⊕ Nat} {vs : List V} {xs : List (PyData ⊕ Nat)} : rvO C σ F H fs v x → RvOs C σ F H fs vs xs → RvOs C σ F H fs (v :: vs) (x :: xs)
theorem RvOs.ext {C : Cc} {σ : L2.St} {F H F' H' : Hp} {fs fs' : Fs} (x : Ext F H fs F' H' fs') : ∀ {vs : List V} {os : List (PyData ⊕ Nat)}, RvOs C σ F H fs vs os → RvOs C σ F' H' fs' vs os
  | _, _, .nil => .nil
  | _, _, .cons p q => .cons (rvO.ext x p) (RvOs.ext x q)
abbrev DOs (X : Cx) (C : Cc) (es : List Expr) (os : List Opd) : Prop := PA X es (fun σ H Q => tG C (fun F H fs => RvOs C σ F H fs) (runs os) σ H Q)
section
variable {X : Cx} {C : Cc} {k : Nat} {e a b : Expr} {es : List Expr} {pos : Pos}
theorem dos_nil : DOs X C [] [] := PA.imp pa_nil fun σ H Q ⟨F, ρ, fs, r, q⟩ => q [] H F fs r .refl .nil
theorem dos_cons {o : Opd} {os : List Opd} (h : DO X C e o) (hs : DOs X C es os) (hst : starEach (e :: es) X.env = (false, eval e X.env) :: starEach es X.env := by rfl) : DOs X C (e :: es) (o :: os) := PA.imp (pa_cons h hs hst) fun σ H Q ⟨F, ρ, fs, r, q⟩ => by
  refine tG.mono (Res.bnd (rv := rvO C σ) r q) fun v H1 ⟨F1, ρ1, fs1, x, r1, x1, rd, q1⟩ => ?_
  refine tG.mono (Res.bnd (rv := fun F H fs => RvOs C σ F H fs) r1 q1) fun vs H2 ⟨F2, ρ2, fs2, xs, r2, x2, rds, q2⟩ => ?_
  exact q2 (v :: vs) H2 F2 fs2 r2 .refl (.cons (rvO.ext x2 rd) rds)
theorem de_op2 {op : Operator} {r : R2} {f : PyData → PyData → Option PyData} {oa ob : Opd} (ho : OpR X (binaryOp op) r) (hv : VOp2 C.K r f) (ha : DO X C a oa) (hb : DO X C b ob) : DE X C (.BinOp a op b pos) (op2 f oa ob) := PE.imp (pe_op ho ha hb) fun σ H Q ⟨F, ρ, fs, r, q⟩ => by
  refine tG.mono (Res.bnd (rv := rvO C σ) r q) fun v H1 ⟨F1, ρ1, fs1, x, r1, x1, rd, q1⟩ => ?_
  refine tG.mono (Res.bnd (rv := rvO C σ) r1 q1) fun u H2 ⟨F2, ρ2, fs2, y, r2, x2, re, q2⟩ => ?_
  obtain ⟨d, hd, q3⟩ := Res.fin r2 (rvO.ext x2 rd) q2
  obtain ⟨e', he, q4⟩ := Res.fin r2 re q3
  exact hv F2 H2 v u d e' Q r2.sub r2.sz hd he (Res.lfo r2 q4)
theorem de_cmp {op : CmpOp} {r : R2} {f : PyData → PyData → Option PyData} {oa ob : Opd} (ho : OpR X (compareOp op) r) (hv : VOp2 C.K r f) (ha : DO X C a oa) (hb : DO X C b ob) (hm : behindInMarks op b = false := by first | exact nomark _ | rfl) : DE X C (.Compare a [op] [b] pos) (op2 f oa ob) := PE.imp (pe_cmpR ho ha hb hm) fun σ H Q ⟨F, ρ, fs, r, q⟩ => by
  refine tG.mono (Res.bnd (rv := rvO C σ) r q) fun v H1 ⟨F1, ρ1, fs1, x, r1, x1, rd, q1⟩ => ?_
  refine tG.mono (Res.bnd (rv := rvO C σ) r1 q1) fun u H2 ⟨F2, ρ2, fs2, y, r2, x2, re, q2⟩ => ?_
  obtain ⟨d, hd, q3⟩ := Res.fin r2 (rvO.ext x2 rd) q2
  obtain ⟨e', he, q4⟩ := Res.fin r2 re q3
  exact hv F2 H2 v u d e' Q r2.sub r2.sz hd he (Res.lfo r2 q4)
theorem de_ix {r : R2} {f : PyData → PyData → Option PyData} {oa ob : Opd} (ho : IxR X r) (hv : VOp2 C.K r f) (ha : DO X C a oa) (hb : DO X C b ob) (hp : PlainIx b := by intro _ _; rfl) : DE X C (.Subscript a b pos) (op2 f oa ob) := PE.imp (pe_ix ho ha hb hp) fun σ H Q ⟨F, ρ, fs, r, q⟩ => by
  refine tG.mono (Res.bnd (rv := rvO C σ) r q) fun v H1 ⟨F1, ρ1, fs1, x, r1, x1, rd, q1⟩ => ?_
  refine tG.mono (Res.bnd (rv := rvO C σ) r1 q1) fun u H2 ⟨F2, ρ2, fs2, y, r2, x2, re, q2⟩ => ?_
  obtain ⟨d, hd, q3⟩ := Res.fin r2 (rvO.ext x2 rd) q2
  obtain ⟨e', he, q4⟩ := Res.fin r2 re q3
  exact hv F2 H2 v u d e' Q r2.sub r2.sz hd he (Res.lfo r2 q4)
theorem de_un {op : UnaryOp} {r : V → Hp → VK → Prop} {f : PyData → Option PyData} {oa : Opd} (ho : UnR X (unaryOp op) r) (hv : VOp1 C.K r f) (ha : DO X C a oa) : DE X C (.UnaryOp op a pos) (op1 f oa) := PE.imp (pe_un ho ha) fun σ H Q ⟨F, ρ, fs, r, q⟩ => by
  refine tG.mono (Res.bnd (rv := rvO C σ) r q) fun v H1 ⟨F1, ρ1, fs1, x, r1, x1, rd, q1⟩ => ?_
  obtain ⟨d, hd, q3⟩ := Res.fin r1 rd q1
  exact hv F1 H1 v d Q r1.sub r1.sz hd (Res.lfo r1 q3)
theorem Res.fins {γ δ : Type} {rg : RV γ δ} {σ : L2.St} {F H : Hp} {ρ : MEnv} {fs : Fs} {Q : γ → Hp → Prop} (r : Rel C F H σ ρ fs) : ∀ {vs : List V} {xs : List (PyData ⊕ Nat)} {kk : List PyData → ME δ}, RvOs C σ F H fs vs xs →
    Res C rg σ F H fs Q (M.bnd (M.fins xs) kk ρ) → ∃ ds, DtAll C.K F H vs ds ∧ Res C rg σ F H fs Q (kk ds ρ)
  | _, _, kk, .nil, h => ⟨[], .nil, h⟩
  | _, _, kk, .cons (x := x) (xs := xs) p t, h => by
    rw [M.fins, bnd_assoc] at h
    simp only [bnd_assoc, ret_bnd] at h
    obtain ⟨d, hd, h1⟩ := Res.fin r p h
    obtain ⟨ds, hds, h2⟩ := Res.fins r t h1
    exact ⟨d :: ds, .cons hd hds, h2⟩
theorem de_callB {id : String} {x : Str} {r : List V → Hp → VK → Prop} {f : List PyData → Option PyData} {o : Opd} {os : List Opd} {p : Pos} (hc : CallR X (.builtin id) r) (hv : VOpL C.K r f) (hg : Gl X x) (hm : X.mg x = none) (hb : bootBuiltins x = some (.builtin id))
    (h : DO X C e o) (hs : DOs X C es os) (hst : starEach (e :: es) X.env = (false, eval e X.env) :: starEach es X.env := by rfl) (hn : x ≠ "__name__" := by decide) (hdb : (x == ("__debug__" : Str)) = false := by decide) (hpl : (backTo pos (starEach es X.env)).any (·.1) = false := by rfl) :
    DE X C (.Call (.Name x p) (e :: es) [] pos) (opL f (o :: os)) := PE.imp (pe_callB hc hg hm hb (dos_cons h hs hst) hn hdb hst hpl) fun σ H Q ⟨F, ρ, fs, r, q⟩ => by
  refine tG.mono (Res.bnd (rv := fun F H fs => RvOs C σ F H fs) r q) fun vs H1 ⟨F1, ρ1, fs1, xs, r1, x1, rd, q1⟩ => ?_
  obtain ⟨ds, hd, q3⟩ := Res.fins r1 rd q1
  exact hv F1 H1 vs ds Q r1.sub r1.sz hd (Res.lfo r1 q3)
theorem de_callTy {T : String} {x : Str} {r : List V → Hp → VK → Prop} {f : List PyData → Option PyData} {o : Opd} {os : List Opd} {p : Pos} (hc : CallR X (.type T) r) (hv : VOpL C.K r f) (hg : Gl X x) (hm : X.mg x = none) (hb : bootBuiltins x = some (.type T))
    (h : DO X C e o) (hs : DOs X C es os) (hst : starEach (e :: es) X.env = (false, eval e X.env) :: starEach es X.env := by rfl) (hn : x ≠ "__name__" := by decide) (hdb : (x == ("__debug__" : Str)) = false := by decide) (hpl : (backTo pos (starEach es X.env)).any (·.1) = false := by rfl) :
    DE X C (.Call (.Name x p) (e :: es) [] pos) (opL f (o :: os)) := PE.imp (pe_callTy hc hg hm hb (dos_cons h hs hst) hn hdb hst hpl) fun σ H Q ⟨F, ρ, fs, r, q⟩ => by
  refine tG.mono (Res.bnd (rv := fun F H fs => RvOs C σ F H fs) r q) fun vs H1 ⟨F1, ρ1, fs1, xs, r1, x1, rd, q1⟩ => ?_
  obtain ⟨ds, hd, q3⟩ := Res.fins r1 rd q1
  exact hv F1 H1 vs ds Q r1.sub r1.sz hd (Res.lfo r1 q3)
/-! ### constants, displays -/
theorem de_int {i : Int} {j} : DE X C (.Constant (.int i) j pos) (ret (.int i)) := PE.imp pe_int fun σ H Q ⟨F, ρ, fs, r, q⟩ => q _ H F fs r .refl (.int i)
theorem de_bl {i : Bool} {j} : DE X C (.Constant (.bool i) j pos) (ret (.bool i)) := PE.imp pe_bl fun σ H Q ⟨F, ρ, fs, r, q⟩ => q _ H F fs r .refl (.bl i)
theorem de_non {j} : DE X C (.Constant .none j pos) (ret .none) := PE.imp pe_non fun σ H Q ⟨F, ρ, fs, r, q⟩ => q _ H F fs r .refl .non
theorem de_str {i : Str} {j} : DE X C (.Constant (.str i) j pos) (ret (.str i)) := PE.imp pe_str fun σ H Q ⟨F, ρ, fs, r, q⟩ => q _ H F fs r .refl (.str i)
/-- values from the left -/
def evs : List (ME PyData) → ME (List PyData)
  | [] => ret []
  | m :: ms => bnd m fun d => bnd (evs ms) fun ds => ret (d :: ds)
abbrev DL (X : Cx) (C : Cc) (es : List Expr) (ms : List (ME PyData)) : Prop := PA X es (tG C (rvL C) (evs ms))
theorem dl_nil : DL X C [] [] := PA.imp pa_nil fun σ H Q ⟨F, ρ, fs, r, q⟩ => q [] H F fs r .refl .nil
theorem dl_cons {m : ME PyData} {ms : List (ME PyData)} (h : DE X C e m) (hs : DL X C es ms) (hst : starEach (e :: es) X.env = (false, eval e X.env) :: starEach es X.env := by rfl) : DL X C (e :: es) (m :: ms) := PA.imp (pa_cons h hs hst) fun σ H Q ⟨F, ρ, fs, r, q⟩ => by
  refine tG.mono (Res.bnd (rv := rvD C) r q) fun v H1 ⟨F1, ρ1, fs1, x, r1, x1, rd, q1⟩ => ?_
  refine tG.mono (Res.bnd (rv := rvL C) r1 q1) fun vs H2 ⟨F2, ρ2, fs2, xs, r2, x2, rds, q2⟩ => ?_
  exact q2 (v :: vs) H2 F2 fs2 r2 .refl (.cons (Dp.mono x2.fz x rd) rds)
def tupM (ms : List (ME PyData)) : ME PyData := bnd (evs ms) fun ds => lfo (if ds.length ≤ sizeLine then some (.tuple ds) else none)
def lstM (ms : List (ME PyData)) : ME PyData := bnd (evs ms) fun ds => lfo (if ds.length ≤ sizeLine then some (.list ds) else none)
theorem Dp.newT {K : PySem.W.Frag} {F : Hp} {p : Addr} {xs : List V} {ds : List PyData} (h : DpAll K F xs ds) (hF : F p = none) : Dp K (upd F p (.tup xs)) (.ref p) (.tuple ds) :=
  .tup (.of upd_same) (DpAll.mono (fun a o z => by rw [upd_ne (ne_of_none z hF)]; exact z) ds h)
theorem Dp.newL {K : PySem.W.Frag} {F : Hp} {p : Addr} {xs : List V} {ds : List PyData} (h : DpAll K F xs ds) (hF : F p = none) : Dp K (upd F p (.lst xs)) (.ref p) (.list ds) :=
  .lst upd_same (DpAll.mono (fun a o z => by rw [upd_ne (ne_of_none z hF)]; exact z) ds h)
theorem none_of_sub {F H : Hp} (hs : ∀ a o, F a = some o → H a = some o) {p : Addr} (h : H p = none) : F p = none := by
  cases q : F p with
  | none => rfl
  | some o => rw [hs p o q] at h; cases h
theorem Wants.newT {K : PySem.W.Frag} {F H : Hp} {Q : VK} {xs : List V} {ds : List PyData} (hs : ∀ a o, F a = some o → H a = some o) (hz : SzOk K F) (hl : xs.length ≤ sizeLine) (h : DpAll K F xs ds) (w : Wants K F H Q (some (.tuple ds))) :
    ∀ p, H p = none → Q (.ref p) (upd H p (.tup xs)) := fun p hp => by
  obtain ⟨z, e, w⟩ := w
  cases e
  exact w _ _ _ (.one hs hz hp (.inl ⟨xs, rfl, hl⟩)) (Dp.newT h (none_of_sub hs hp))
theorem Wants.newL {K : PySem.W.Frag} {F H : Hp} {Q : VK} {xs : List V} {ds : List PyData} (hs : ∀ a o, F a = some o → H a = some o) (hz : SzOk K F) (hl : xs.length ≤ sizeLine) (h : DpAll K F xs ds) (w : Wants K F H Q (some (.list ds))) :
    ∀ p, H p = none → Q (.ref p) (upd H p (.lst xs)) := fun p hp => by
  obtain ⟨z, e, w⟩ := w
  cases e
  exact w _ _ _ (.one hs hz hp (.inr ⟨xs, rfl, hl⟩)) (Dp.newL h (none_of_sub hs hp))
theorem de_tup {ms : List (ME PyData)} {x1} (h : DL X C es ms) : DE X C (.Tuple es x1 pos) (tupM ms) := PE.imp (pe_tup h) fun σ H Q ⟨F, ρ, fs, r, q⟩ => by
  refine tG.mono (Res.bnd (rv := rvL C) r q) fun vs H1 ⟨F1, ρ1, fs1, ds, r1, x1, rd, q1⟩ => ?_
  have w := Res.lfo r1 q1
  by_cases hl : ds.length ≤ sizeLine
  · rw [if_pos hl] at w
    have hl' : vs.length ≤ sizeLine := by rw [DpAll.length rd]; exact hl
    exact ⟨hl', w.newT r1.sub r1.sz hl' rd⟩
  · rw [if_neg hl] at w
    obtain ⟨z, e, _⟩ := w
    cases e
theorem de_lst {ms : List (ME PyData)} (h : DL X C es ms) : DE X C (.List es pos) (lstM ms) := PE.imp (pe_lst h) fun σ H Q ⟨F, ρ, fs, r, q⟩ => by
  refine tG.mono (Res.bnd (rv := rvL C) r q) fun vs H1 ⟨F1, ρ1, fs1, ds, r1, x1, rd, q1⟩ => ?_
  have w := Res.lfo r1 q1
  by_cases hl : ds.length ≤ sizeLine
  · rw [if_pos hl] at w
    have hl' : vs.length ≤ sizeLine := by rw [DpAll.length rd]; exact hl
    exact ⟨hl', w.newL r1.sub r1.sz hl' rd⟩
  · rw [if_neg hl] at w
    obtain ⟨z, e, _⟩ := w
    cases e
variable {σ : L2.St} {F H : Hp} {ρ : MEnv} {fs : Fs}
/-- .. as a list of one's own -/
def lstO (ms : List (ME PyData)) : ME (List PyData) := bnd (evs ms) fun ds => lfo (if ds.length ≤ sizeLine then some ds else none)
theorem Rel.index (r : Rel C F H σ ρ fs) : ∃ j, σ.length ≤ j ∧ fs j = [] := by
  obtain ⟨L, h⟩ := r.lim
  exact ⟨max L σ.length, by omega, h _ (by omega)⟩
/-- a new list of one's own -/
theorem Rel.newO (r : Rel C F H σ ρ fs) {p : Addr} {vs : List V} (hp : H p = none) {j : Nat} (hj : σ.length ≤ j) (hf : fs j = []) :
    Rel C F (upd H p (.lst vs)) σ ρ (upF fs j [p]) ∧ Ext F H fs F (upd H p (.lst vs)) (upF fs j [p]) := by
  have np : ∀ i, p ∉ fs i := fun i hi => by
    obtain ⟨vs, e⟩ := r.trk i p hi
    rw [hp] at e; cases e
  refine ⟨⟨r.len, fun i s h => ?_, fun i a h => ?_, ?_, fun i l a h1 h2 => ?_, fun i => ?_, fun i a h => ?_, fun a o h => ?_, r.sz⟩, ⟨fun _ _ h => h, fun a o h _ => ?_, fun i a h => ?_, fun a h => ?_, fun a h => .inl h⟩⟩
  · have z := r.slot i s h
    have hi : i < ρ.length := (List.getElem?_eq_some_iff.mp h).1
    rw [upF_ne (by have := r.len; omega)]
    cases s with
    | un => exact z
    | fz d => exact z
    | ol n es =>
      obtain ⟨b, us, h1, h2, h3, h4⟩ := z
      exact ⟨b, us, h1, h2, by rw [upd_ne (ne_of_none h3 hp)]; exact h3, h4⟩
  · by_cases e : i = j
    · subst e
      rw [upF_same] at h
      have : a = p := by simpa using h
      subst this
      exact ⟨vs, upd_same⟩
    · rw [upF_ne e] at h
      obtain ⟨us, z⟩ := r.trk i a h
      exact ⟨us, by rw [upd_ne (ne_of_none z hp)]; exact z⟩
  · obtain ⟨L, h⟩ := r.lim
    refine ⟨max L (j + 1), fun i hi => ?_⟩
    rw [upF_ne (by omega)]
    exact h i (by omega)
  · by_cases e1 : i = j
    · by_cases e2 : l = j
      · rw [e1, e2]
      · subst e1
        rw [upF_same] at h1
        rw [upF_ne e2] at h2
        have : a = p := by simpa using h1
        subst this
        exact absurd h2 (np l)
    · by_cases e2 : l = j
      · subst e2
        rw [upF_same] at h2
        rw [upF_ne e1] at h1
        have : a = p := by simpa using h2
        subst this
        exact absurd h1 (np i)
      · rw [upF_ne e1] at h1
        rw [upF_ne e2] at h2
        exact r.dis i l a h1 h2
  · by_cases e : i = j
    · subst e; rw [upF_same]; simp
    · rw [upF_ne e]; exact r.nd i
  · by_cases e : i = j
    · subst e
      rw [upF_same] at h
      have : a = p := by simpa using h
      subst this
      exact none_of_sub r.sub hp
    · rw [upF_ne e] at h; exact r.out i a h
  · rw [upd_ne (ne_of_none (r.sub a o h) hp)]; exact r.sub a o h
  · rw [upd_ne (ne_of_none h hp)]; exact h
  · by_cases e : i = j
    · subst e
      rw [upF_same] at h
      have : a = p := by simpa using h
      subst this
      exact .inr hp
    · rw [upF_ne e] at h; exact .inl ⟨i, h⟩
  · by_cases e : a = p
    · exact e ▸ hp
    · rw [upd_ne e] at h; exact h
theorem Res.newO {Q : VK} {ds : List PyData} (r : Rel C F H σ ρ fs) {xs : List V} (h : DpAll C.K F xs ds) (hl : xs.length ≤ sizeLine) (q : Res C (rvF C σ) σ F H fs Q (.ok (ds, ρ))) : ∀ p, H p = none → Q (.ref p) (upd H p (.lst xs)) := fun p hp => by
  obtain ⟨j, hj, hf⟩ := r.index
  obtain ⟨r2, x2⟩ := r.newO (vs := xs) hp hj hf
  exact q _ _ _ _ r2 x2 ⟨p, xs, j, rfl, upF_same, hj, upd_same, h, hl⟩
theorem df_lst {ms : List (ME PyData)} (h : DL X C es ms) : DF X C (.List es pos) (lstO ms) := PE.imp (pe_lst h) fun σ H Q ⟨F, ρ, fs, r, q⟩ => by
  refine tG.mono (Res.bnd (rv := rvL C) r q) fun vs H1 ⟨F1, ρ1, fs1, ds, r1, x1, rd, q1⟩ => ?_
  unfold M.lfo at q1
  by_cases hl : ds.length ≤ sizeLine
  · rw [if_pos hl] at q1
    have hl' : vs.length ≤ sizeLine := by rw [DpAll.length rd]; exact hl
    exact ⟨hl', Res.newO r1 rd hl' q1⟩
  · rw [if_neg hl] at q1
    exact q1.elim
end
end M
set_option Elab.async false
set_option linter.all false
set_option maxRecDepth 100000
set_option maxHeartbeats 4000000
namespace M
open PySem PySem.Spec PyProof.Rows L2

/-! ## a name as a value: a list of one's own is frozen -/
def setS : MEnv → Nat → Slot → MEnv
  | [], _, _ => []
  | _ :: r, 0, t => t :: r
  | s :: r, n + 1, t => s :: setS r n t
theorem setS_eq (ρ : MEnv) (i : Nat) (s : Slot) : setS ρ i s = ρ.set i s := by
  induction ρ generalizing i with
  | nil => rfl
  | cons a r ih =>
    cases i with
    | zero => rfl
    | succ n => show a :: setS r n s = a :: r.set n s; rw [ih]
def nameM (i : Nat) : ME PyData := fun ρ => match getS ρ i with
  | .fz d => .ok (d, ρ)
  | .ol none ds => .ok (.list ds, setS ρ i (.fz (.list ds)))
  | .ol (some _) _ => .fail
  | .un => .fail
section
variable {X : Cx} {C : Cc} {k : Nat} {e a b : Expr} {es : List Expr} {pos : Pos} {σ : L2.St} {F H : Hp} {ρ : MEnv} {fs : Fs}
/-- freezing a list of one's own -/
theorem Rel.freeze (r : Rel C F H σ ρ fs) {i : Nat} {n : Option Nat} {ds : List PyData} (h : getS ρ i = .ol n ds) :
    ∃ a vs, σ[i]? = some (some (.ref a)) ∧ Rel C (upd F a (.lst vs)) H σ (ρ.set i (.fz (.list ds))) (upF fs i []) ∧ Ext F H fs (upd F a (.lst vs)) H (upF fs i []) ∧ Dp C.K (upd F a (.lst vs)) (.ref a) (.list ds) := by
  have hi := getS_of h (by simp)
  obtain ⟨a, vs, h1, h2, h3, h4, h5, _⟩ := r.slot i _ hi
  have hF : F a = none := r.out i a (by rw [h2]; simp)
  have up : ∀ x o, F x = some o → upd F a (.lst vs) x = some o := fun x o z => by rw [upd_ne (ne_of_none z hF)]; exact z
  have dp : Dp C.K (upd F a (.lst vs)) (.ref a) (.list ds) := Dp.newL h4 hF
  refine ⟨a, vs, h1, ⟨by rw [List.length_set]; exact r.len, fun j s hs => ?_, fun j b hj => ?_, ?_, fun j l b hj hl => ?_, fun j => ?_, fun j b hb => ?_, fun x o z => ?_, ?_⟩, ⟨up, fun _ _ z _ => z, fun j b hb => ?_, fun _ z => z, fun b z => ?_⟩, dp⟩
  · by_cases e : j = i
    · subst e
      rw [upF_same]
      rw [List.getElem?_set_self (by exact (List.getElem?_eq_some_iff.mp hi).1)] at hs
      have : s = .fz (.list ds) := by simpa using hs.symm
      subst this
      exact ⟨rfl, _, h1, dp⟩
    · rw [List.getElem?_set_ne (Ne.symm e)] at hs
      rw [upF_ne e]
      have z := r.slot j s hs
      cases s with
      | un => exact z
      | fz d => exact ⟨z.1, let ⟨v, q1, q2⟩ := z.2; ⟨v, q1, Dp.mono up d q2⟩⟩
      | ol m es =>
        obtain ⟨b, us, q1, q2, q3, q4, q5⟩ := z
        exact ⟨b, us, q1, q2, q3, DpAll.mono up es q4, q5⟩
  · by_cases e : j = i
    · subst e; rw [upF_same] at hj; cases hj
    · rw [upF_ne e] at hj; exact r.trk j b hj
  · obtain ⟨L, h⟩ := r.lim
    refine ⟨L, fun j hj => ?_⟩
    by_cases e : j = i
    · subst e; exact upF_same
    · rw [upF_ne e]; exact h j hj
  · by_cases e : j = i
    · subst e; rw [upF_same] at hj; cases hj
    · by_cases e' : l = i
      · subst e'; rw [upF_same] at hl; cases hl
      · rw [upF_ne e] at hj; rw [upF_ne e'] at hl; exact r.dis j l b hj hl
  · by_cases e : j = i
    · subst e; rw [upF_same]; exact List.nodup_nil
    · rw [upF_ne e]; exact r.nd j
  · by_cases e : j = i
    · subst e; rw [upF_same] at hb; cases hb
    · rw [upF_ne e] at hb
      have : b ≠ a := fun z => e (r.dis j i b hb (by rw [h2, z]; simp))
      rw [upd_ne this]; exact r.out j b hb
  · by_cases e : x = a
    · subst e; rw [upd_same] at z; cases z; exact h3
    · rw [upd_ne e] at z; exact r.sub x o z
  · refine ⟨fun b xs z => ?_, fun b xs z => ?_⟩
    · rcases z with (z | ⟨ob, z⟩) | z
      · by_cases e : b = a
        · subst e; rw [upd_same] at z; cases z; exact h5
        · rw [upd_ne e] at z; exact r.sz.l b xs (.inl (.inl z))
      · by_cases e : b = a
        · subst e; rw [upd_same] at z; cases z
        · rw [upd_ne e] at z; exact r.sz.l b xs (.inl (.inr ⟨ob, z⟩))
      · exact r.sz.l b xs (.inr z)
    · rcases z with (z | ⟨ob, z⟩) | z
      · by_cases e : b = a
        · subst e; rw [upd_same] at z; cases z
        · rw [upd_ne e] at z; exact r.sz.t b xs (.inl (.inl z))
      · by_cases e : b = a
        · subst e; rw [upd_same] at z; cases z
        · rw [upd_ne e] at z; exact r.sz.t b xs (.inl (.inr ⟨ob, z⟩))
      · exact r.sz.t b xs (.inr z)
  · by_cases e : j = i
    · subst e; rw [upF_same] at hb; cases hb
    · rw [upF_ne e] at hb; exact .inl ⟨j, hb⟩
  · by_cases e : b = a
    · subst e; exact .inr (.inr ⟨i, by rw [h2]; simp⟩)
    · rw [upd_ne e] at z; exact .inl z
theorem de_name {i : Nat} {x : Str} (hN : X.N[i]? = some x) (hv : Vis X.env.scope x) (hd : (x == ("__debug__" : Str)) = false := by decide) (hcd : (x == ("__classdict__" : Str)) = false := by decide) : DE X C (.Name x pos) (nameM i) := PE.imp (pe_var hN hv hd hcd) fun σ H Q ⟨F, ρ, fs, r, q⟩ => by
  unfold nameM at q
  cases e : getS ρ i with
  | un => simp only [e] at q; exact q.elim
  | fz d =>
    simp only [e] at q
    obtain ⟨_, v, h1, h2⟩ := r.slot i _ (getS_of e (by simp))
    exact ⟨v, h1, q v H F fs r .refl h2⟩
  | ol n ds =>
    cases n with
    | some _ => simp only [e] at q; exact q.elim
    | none =>
      simp only [e, setS_eq] at q
      obtain ⟨a, vs, h1, r2, x2, d2⟩ := r.freeze e
      exact ⟨_, h1, q _ H _ _ r2 x2 d2⟩
/-- a module's constant -/
theorem de_glob {x : Str} {v : V} {u : Value} {d : PyData} (hg : Gl X x) (hm : X.mg x = some u) (rv : RelV v u) (hd : ∀ F, Dp C.K F v d) (hdb : (x == ("__debug__" : Str)) = false := by decide) : DE X C (.Name x pos) (ret d) :=
  PE.imp (pe_glob hg hm rv hdb) fun σ H Q ⟨F, ρ, fs, r, q⟩ => q v H F fs r .refl (hd F)

/-! ## tests -/
def truth : PyData → Option Bool
  | .none => some false
  | .bool b => some b
  | .int i => some (i != 0)
  | .str z => if z.length ≤ sizeLine then some ((z.length : Int) != 0) else none
  | .list ds => some (!ds.isEmpty)
  | .tuple ds => some (!ds.isEmpty)
  | .dict _ => none
theorem Dt.list {K : PySem.W.Frag} {v : V} {ds : List PyData} (hs : ∀ a o, F a = some o → H a = some o) (hz : SzOk K F) (h : Dt K F H v (.list ds)) : ∃ a xs, v = .ref a ∧ H a = some (.lst xs) ∧ DpAll K F xs ds ∧ xs.length ≤ sizeLine := by
  rcases h with h | ⟨a, vs, es, h1, h2, h3, h4, h5⟩
  · cases h with
    | lst hq ha => exact ⟨_, _, rfl, hs _ _ hq, ha, hz.l _ _ (.inl (.inl hq))⟩
  · cases h2; exact ⟨a, vs, h1, h3, h4, h5⟩
theorem Dt.tuple {K : PySem.W.Frag} {v : V} {ds : List PyData} (hs : ∀ a o, F a = some o → H a = some o) (hz : SzOk K F) (h : Dt K F H v (.tuple ds)) : ∃ a xs, v = .ref a ∧ SqT K F a xs ∧ SqT K H a xs ∧ DpAll K F xs ds ∧ xs.length ≤ sizeLine := by
  rcases h with h | ⟨a, vs, es, h1, h2, h3, h4, h5⟩
  · cases h with
    | tup hq ha => exact ⟨_, _, rfl, hq, SqT.mono hs hq, ha, hz.t _ _ hq⟩
  · cases h2
theorem Dt.int {K : PySem.W.Frag} {v : V} {i : Int} (h : Dt K F H v (.int i)) : v = .int i := by
  rcases h with h | ⟨a, vs, es, h1, h2, h3, h4, h5⟩
  · cases h; rfl
  · cases h2
theorem Dt.bl {K : PySem.W.Frag} {v : V} {i : Bool} (h : Dt K F H v (.bool i)) : v = .bl i := by
  rcases h with h | ⟨a, vs, es, h1, h2, h3, h4, h5⟩
  · cases h; rfl
  · cases h2
theorem Dt.str {K : PySem.W.Frag} {v : V} {i : Str} (h : Dt K F H v (.str i)) : v = .str i := by
  rcases h with h | ⟨a, vs, es, h1, h2, h3, h4, h5⟩
  · cases h; rfl
  · cases h2
theorem Dt.non {K : PySem.W.Frag} {v : V} (h : Dt K F H v .none) : v = .non := by
  rcases h with h | ⟨a, vs, es, h1, h2, h3, h4, h5⟩
  · cases h; rfl
  · cases h2
theorem Dt.lck {K : PySem.W.Frag} {v : V} {ds : List PyData} (hs : ∀ a o, F a = some o → H a = some o) (hz : SzOk K F) (h : Dt K F H v (.dict [(.none, .list ds)])) : ∃ a xs, v = .ref a ∧ SqL K H a xs ∧ DpAll K F xs ds ∧ xs.length ≤ sizeLine := by
  rcases h with h | ⟨a, vs, es, h1, h2, h3, h4, h5⟩
  · cases h with
    | lck hq ha => exact ⟨_, _, rfl, SqL.mono hs hq, ha, hz.l _ _ hq⟩
  · cases h2
theorem Dt.of {K : PySem.W.Frag} {v : V} {d : PyData} (h : Dp K F v d) : Dt K F H v d := .inl h
theorem Dp.list {K : PySem.W.Frag} {v : V} {ds : List PyData} (h : Dp K F v (.list ds)) : ∃ a xs, v = .ref a ∧ F a = some (.lst xs) ∧ DpAll K F xs ds := by
  cases h with
  | lst hq ha => exact ⟨_, _, rfl, hq, ha⟩
theorem isEmpty_dp {K : PySem.W.Frag} {xs : List V} {ds : List PyData} (h : DpAll K F xs ds) : xs.isEmpty = ds.isEmpty := by
  cases h <;> rfl
theorem Dt.truth {K : PySem.W.Frag} {v : V} {d : PyData} {k : Bool} (hs : ∀ a o, F a = some o → H a = some o) (hz : SzOk K F) (h : Dt K F H v d) (ht : M.truth d = some k) : TruV K v H k := by
  cases d with
  | none => rw [h.non]; cases ht; rfl
  | bool b => rw [h.bl]; cases ht; rfl
  | int i => rw [h.int]; cases ht; rfl
  | str z =>
    rw [h.str]
    have ht : (if z.length ≤ sizeLine then some ((z.length : Int) != 0) else none) = some k := ht
    by_cases hl : z.length ≤ sizeLine
    · rw [if_pos hl] at ht; cases ht; exact ⟨hl, rfl⟩
    · rw [if_neg hl] at ht; cases ht
  | list ds =>
    obtain ⟨a, xs, rfl, hq, ha, _⟩ := h.list hs hz
    cases ht
    exact .inl ⟨xs, .of hq, by rw [isEmpty_dp ha]⟩
  | tuple ds =>
    obtain ⟨a, xs, rfl, _, hq, ha, _⟩ := h.tuple hs hz
    cases ht
    exact .inr (.inl ⟨xs, hq, by rw [isEmpty_dp ha]⟩)
  | dict kvs => cases ht
def tstM (o : Opd) : ME Bool := bnd o.run fun x => bnd (fin x) fun d => lfo (truth d)
/-- an expression by its truth -/
theorem dt_val {o : Opd} (G : Good X C k) (h : DO X C e o) (he : ∀ whole, isTrue e X.env whole = (do let v ← whole; standAt e.pos; holding [v] (truthy v)) := by intro _; rfl) : DT X C e (tstM o) := PT.imp (pt_truth h he) fun σ H Q ⟨F, ρ, fs, r, q⟩ => by
  refine tG.mono (Res.bnd (rv := rvO C σ) r q) fun v H1 ⟨F1, ρ1, fs1, x, r1, x1, rd, q1⟩ => ?_
  obtain ⟨d, hd, q2⟩ := Res.fin r1 rd q1
  unfold lfo at q2
  cases e : truth d with
  | none => simp only [e] at q2; exact q2.elim
  | some b =>
    simp only [e] at q2
    exact ⟨b, G.K ▸ hd.truth r1.sub r1.sz e, q2 b H1 F1 fs1 r1 .refl rfl⟩
/-- a comparison by its answer, as a test -/
theorem dt_cmp {op : CmpOp} {r : R2} {f : PyData → PyData → Option PyData} {oa ob : Opd} (ho : OpR X (compareOp op) r) (hv : VOp2 C.K r f) (ha : DO X C a oa) (hb : DO X C b ob) (hm : behindInMarks op b = false := by first | exact nomark _ | rfl) :
    DT X C (.Compare a [op] [b] pos) (bnd (op2 f oa ob) fun d => lfo (match d with | .bool k => some k | _ => none)) := PT.imp (pt_cmpR ho ha hb hm) fun σ H Q ⟨F, ρ, fs, r, q⟩ => by
  rw [op2, bnd_assoc] at q
  simp only [bnd_assoc] at q
  refine tG.mono (Res.bnd (rv := rvO C σ) r q) fun v H1 ⟨F1, ρ1, fs1, x, r1, x1, rd, q1⟩ => ?_
  refine tG.mono (Res.bnd (rv := rvO C σ) r1 q1) fun u H2 ⟨F2, ρ2, fs2, y, r2, x2, re, q2⟩ => ?_
  obtain ⟨d, hd, q3⟩ := Res.fin r2 (rvO.ext x2 rd) q2
  obtain ⟨e', he, q4⟩ := Res.fin r2 re q3
  refine hv F2 H2 v u d e' _ r2.sub r2.sz hd he ?_
  unfold M.bnd M.lfo at q4
  cases e : f d e' with
  | none => simp only [e] at q4; exact q4.elim
  | some z =>
    simp only [e] at q4
    refine ⟨z, rfl, fun w F' H' x3 dz => ?_⟩
    cases z with
    | bool kb =>
      cases dz
      exact ⟨kb, rfl, q4 kb H' F' fs2 (r2.aext x3) x3.ext rfl⟩
    | none => exact q4.elim
    | int _ => exact q4.elim
    | str _ => exact q4.elim
    | list _ => exact q4.elim
    | tuple _ => exact q4.elim
    | dict _ => exact q4.elim
abbrev DW (X : Cx) (C : Cc) (e : Expr) (m : ME Bool) : Prop := PW X e (tG C rvB m)
def andM (a b : ME Bool) : ME Bool := bnd a fun k => if k then b else ret false
def orM (a b : ME Bool) : ME Bool := bnd a fun k => if k then ret true else b
def notM (a : ME Bool) : ME Bool := bnd a fun k => ret (!k)
variable {ma mb : ME Bool} {rest : List Expr}
theorem dw_and1 (ha : DT X C a ma) : DW X C (.BoolOp .And [a] pos) ma := pw_and1 ha
theorem dw_or1 (ha : DT X C a ma) : DW X C (.BoolOp .Or [a] pos) ma := pw_or1 ha
theorem dw_and (ha : DT X C a ma) (hb : DW X C (.BoolOp .And (b :: rest) pos) mb) : DW X C (.BoolOp .And (a :: b :: rest) pos) (andM ma mb) := PW.imp (pw_and ha hb) fun σ H Q ⟨F, ρ, fs, r, q⟩ => by
  refine tG.mono (Res.bnd (rv := rvB) r q) fun v H1 ⟨F1, ρ1, fs1, x, r1, x1, rd, q1⟩ => ?_
  subst rd
  cases v with
  | true => exact ⟨F1, ρ1, fs1, r1, q1⟩
  | false => exact q1 false H1 F1 fs1 r1 .refl rfl
theorem dw_or (ha : DT X C a ma) (hb : DW X C (.BoolOp .Or (b :: rest) pos) mb) : DW X C (.BoolOp .Or (a :: b :: rest) pos) (orM ma mb) := PW.imp (pw_or ha hb) fun σ H Q ⟨F, ρ, fs, r, q⟩ => by
  refine tG.mono (Res.bnd (rv := rvB) r q) fun v H1 ⟨F1, ρ1, fs1, x, r1, x1, rd, q1⟩ => ?_
  subst rd
  cases v with
  | false => exact ⟨F1, ρ1, fs1, r1, q1⟩
  | true => exact q1 true H1 F1 fs1 r1 .refl rfl
theorem dt_w (h : DW X C e ma) : DT X C e ma := h.pt
theorem dt_not (ha : DT X C a ma) : DT X C (.UnaryOp .Not a pos) (notM ma) := PT.imp (pt_not ha) fun σ H Q ⟨F, ρ, fs, r, q⟩ => by
  refine tG.mono (Res.bnd (rv := rvB) r q) fun v H1 ⟨F1, ρ1, fs1, x, r1, x1, rd, q1⟩ => ?_
  subst rd
  exact q1 (!v) H1 F1 fs1 r1 .refl rfl
/-! ### and, or, not as values: what stands ahead is a bool -/
def asB (d : PyData) : Option Bool := match d with | .bool k => some k | _ => none
def andV (a b : ME PyData) : ME PyData := bnd a fun d => bnd (lfo (asB d)) fun k => if k then b else ret (.bool false)
def orV (a b : ME PyData) : ME PyData := bnd a fun d => bnd (lfo (asB d)) fun k => if k then ret (.bool true) else b
def notV (a : ME PyData) : ME PyData := bnd a fun d => bnd (lfo (asB d)) fun k => ret (.bool !k)
variable {na nb : ME PyData}
theorem Res.asB {γ δ : Type} {rg : RV γ δ} {kk : Bool → ME δ} {Q : γ → Hp → Prop} {v : V} {d : PyData} (hd : Dp C.K F v d) (q : Res C rg σ F H fs Q (M.bnd (M.lfo (M.asB d)) kk ρ)) : ∃ c, v = .bl c ∧ Res C rg σ F H fs Q (kk c ρ) := by
  cases d with
  | bool c => cases hd; exact ⟨c, rfl, q⟩
  | none => exact q.elim
  | int _ => exact q.elim
  | str _ => exact q.elim
  | list _ => exact q.elim
  | tuple _ => exact q.elim
  | dict _ => exact q.elim
theorem de_one {op} (h : DE X C a na) : DE X C (.BoolOp op [a] pos) na := pe_one h
theorem de_and (ha : DE X C a na) (hb : DE X C (.BoolOp .And (b :: rest) pos) nb) : DE X C (.BoolOp .And (a :: b :: rest) pos) (andV na nb) := PE.imp (pe_and ha hb) fun σ H Q ⟨F, ρ, fs, r, q⟩ => by
  refine tG.mono (Res.bnd (rv := rvD C) r q) fun v H1 ⟨F1, ρ1, fs1, x, r1, x1, rd, q1⟩ => ?_
  obtain ⟨c, rfl, q2⟩ := Res.asB rd q1
  refine ⟨c, rfl, ?_⟩
  cases c with
  | true => exact ⟨F1, ρ1, fs1, r1, q2⟩
  | false => exact q2 _ H1 F1 fs1 r1 .refl (.bl _)
theorem de_or (ha : DE X C a na) (hb : DE X C (.BoolOp .Or (b :: rest) pos) nb) : DE X C (.BoolOp .Or (a :: b :: rest) pos) (orV na nb) := PE.imp (pe_or ha hb) fun σ H Q ⟨F, ρ, fs, r, q⟩ => by
  refine tG.mono (Res.bnd (rv := rvD C) r q) fun v H1 ⟨F1, ρ1, fs1, x, r1, x1, rd, q1⟩ => ?_
  obtain ⟨c, rfl, q2⟩ := Res.asB rd q1
  refine ⟨c, rfl, ?_⟩
  cases c with
  | false => exact ⟨F1, ρ1, fs1, r1, q2⟩
  | true => exact q2 _ H1 F1 fs1 r1 .refl (.bl _)
theorem de_not (ha : DE X C a na) : DE X C (.UnaryOp .Not a pos) (notV na) := PE.imp (pe_not ha) fun σ H Q ⟨F, ρ, fs, r, q⟩ => by
  refine tG.mono (Res.bnd (rv := rvD C) r q) fun v H1 ⟨F1, ρ1, fs1, x, r1, x1, rd, q1⟩ => ?_
  obtain ⟨c, rfl, q2⟩ := Res.asB rd q1
  exact ⟨c, rfl, q2 _ H1 F1 fs1 r1 .refl (.bl _)⟩
def ifM {α : Type} (t : ME Bool) (a b : ME α) : ME α := bnd t fun k => if k then a else b
theorem de_if {c : Expr} (hc : DT X C c ma) (ha : DE X C a na) (hb : DE X C b nb) : DE X C (.IfExp c a b pos) (ifM ma na nb) := PE.imp (pe_ifExp hc ha hb) fun σ H Q ⟨F, ρ, fs, r, q⟩ => by
  refine tG.mono (Res.bnd (rv := rvB) r q) fun v H1 ⟨F1, ρ1, fs1, x, r1, x1, rd, q1⟩ => ?_
  subst rd
  cases v with
  | true => exact ⟨F1, ρ1, fs1, r1, q1⟩
  | false => exact ⟨F1, ρ1, fs1, r1, q1⟩
end
end M
set_option Elab.async false
set_option linter.all false
set_option maxRecDepth 100000
set_option maxHeartbeats 4000000
namespace M
open PySem PySem.Spec PyProof.Rows L2

/-! ## statements -/
inductive SR where
  | next (ρ : MEnv)
  | ret (d : PyData) (ρ : MEnv)
  | retO (ds : List PyData) (ρ : MEnv)
  | brk (ρ : MEnv)
  | cont (ρ : MEnv)
  | err (c : Str) (d : PyData)
  | fail
abbrev SM := MEnv → SR
/-- what follows, of slots, heap, frozen heap and own places -/
def After (C : Cc) (ρ' : MEnv) (F H : Hp) (fs : Fs) (K : L2.St → Hp → Prop) : Prop := ∀ σ' H' F' fs', Rel C F' H' σ' ρ' fs' → Ext F H fs F' H' fs' → K σ' H'
def ResS (C : Cc) (D : Ends) (F H : Hp) (fs : Fs) : SR → Prop
  | .next ρ' => After C ρ' F H fs D.nx
  | .brk ρ' => After C ρ' F H fs D.bk
  | .cont ρ' => After C ρ' F H fs D.ct
  | .ret d ρ' => ∀ v σ' H' F' fs', Rel C F' H' σ' ρ' fs' → Ext F H fs F' H' fs' → Dp C.K F' v d → D.rt v H'
  | .retO ds ρ' => ∀ v σ' H' F' fs', Rel C F' H' σ' ρ' fs' → Ext F H fs F' H' fs' → rvF C σ' F' H' fs' v ds → D.rt v H'
  | .err c d => ErrP C F H fs c d
  | .fail => False
def tS (C : Cc) (m : SM) : TS := fun D σ H => ∃ F ρ fs, Rel C F H σ ρ fs ∧ ResS C D F H fs (m ρ)
abbrev DS (X : Cx) (C : Cc) (st : Stmt) (m : SM) : Prop := PS X st (tS C m)
abbrev DSs (X : Cx) (C : Cc) (st : List Stmt) (m : SM) : Prop := PSs X st (tS C m)
theorem After.ext {C : Cc} {ρ' : MEnv} {F H F1 H1 : Hp} {fs fs1 : Fs} {K : L2.St → Hp → Prop} (x : Ext F H fs F1 H1 fs1) (h : After C ρ' F H fs K) : After C ρ' F1 H1 fs1 K :=
  fun σ' H' F' fs' r y => h σ' H' F' fs' r (x.trans y)
theorem ResS.ext {C : Cc} {D : Ends} {F H F1 H1 : Hp} {fs fs1 : Fs} (x : Ext F H fs F1 H1 fs1) : ∀ {r : SR}, ResS C D F H fs r → ResS C D F1 H1 fs1 r
  | .next _, h => After.ext x h
  | .brk _, h => After.ext x h
  | .cont _, h => After.ext x h
  | .ret _ _, h => fun v σ' H' F' fs' r y q => h v σ' H' F' fs' r (x.trans y) q
  | .retO _ _, h => fun v σ' H' F' fs' r y q => h v σ' H' F' fs' r (x.trans y) q
  | .err _ _, h => ErrP.ext x h
/-- an expression, then the rest of a statement -/
def bndS {α : Type} (m : ME α) (k : α → SM) : SM := fun ρ => match m ρ with
  | .ok (a, ρ1) => k a ρ1
  | .err c d => .err c d
  | .fail => .fail
def seqS (m1 m2 : SM) : SM := fun ρ => match m1 ρ with
  | .next ρ1 => m2 ρ1
  | r => r
section
variable {X : Cx} {C : Cc} {k : Nat} {e a b : Expr} {es : List Expr} {pos : Pos} {σ : L2.St} {F H : Hp} {ρ : MEnv} {fs : Fs} {st : Stmt} {rest : List Stmt} {D : Ends}
theorem ResS.bnd {β α : Type} {rv : RV β α} {m : ME α} {kk : α → SM} (r : Rel C F H σ ρ fs) (h : ResS C D F H fs (bndS m kk ρ)) :
    tG C rv m σ H (fun b H1 => ∃ F1 ρ1 fs1 a, Rel C F1 H1 σ ρ1 fs1 ∧ Ext F H fs F1 H1 fs1 ∧ rv F1 H1 fs1 b a ∧ ResS C D F1 H1 fs1 (kk a ρ1)) := by
  refine ⟨F, ρ, fs, r, ?_⟩
  unfold bndS at h
  cases e : m ρ with
  | ok p =>
    rw [e] at h
    exact fun b H' F' fs' r' x q => ⟨F', p.2, fs', p.1, r', x, q, ResS.ext x h⟩
  | err c d => rw [e] at h; exact h
  | fail => rw [e] at h; exact h
def nextM : SM := .next
theorem dss_nil : DSs X C [] nextM := PSs.imp pss_nil fun D σ H ⟨F, ρ, fs, r, q⟩ => q σ H F fs r .refl
theorem seq_imp {m1 m2 : SM} : ∀ D σ H, tS C (seqS m1 m2) D σ H → tSeq (tS C m1) (tS C m2) D σ H := fun D σ H ⟨F, ρ, fs, r, q⟩ => by
  refine ⟨F, ρ, fs, r, ?_⟩
  unfold seqS at q
  cases e : m1 ρ with
  | next ρ1 => rw [e] at q; exact fun σ' H' F' fs' r' x => ⟨F', ρ1, fs', r', ResS.ext x q⟩
  | ret d ρ1 => rw [e] at q; exact q
  | retO d ρ1 => rw [e] at q; exact q
  | brk ρ1 => rw [e] at q; exact q
  | cont ρ1 => rw [e] at q; exact q
  | err c d => rw [e] at q; exact q
  | fail => rw [e] at q; exact q
theorem dss_cons {m1 m2 : SM} (h1 : DS X C st m1) (h2 : DSs X C rest m2) : DSs X C (st :: rest) (seqS m1 m2) := PSs.imp (pss_cons h1 h2) seq_imp
theorem dss_one {m1 : SM} (h1 : DS X C st m1) : DSs X C [st] m1 := pss_one h1
def dropM (m : ME PyData) : SM := bndS m fun _ => .next
theorem ds_expr {m : ME PyData} (h : DE X C e m) (hs : swapsWith e none pos.line X.env = pure false := by rfl) : DS X C (.Expr e pos) (dropM m) := PS.imp (ps_expr h hs) fun D σ H ⟨F, ρ, fs, r, q⟩ => by
  refine tG.mono (ResS.bnd (rv := rvD C) r q) fun v H1 ⟨F1, ρ1, fs1, x, r1, x1, rd, q1⟩ => ?_
  exact q1 σ H1 F1 fs1 r1 .refl
def retM (m : ME PyData) : SM := bndS m fun d => .ret d
theorem ds_ret {m : ME PyData} (h : DE X C e m) : DS X C (.Return (some e) pos) (retM m) := PS.imp (ps_ret h) fun D σ H ⟨F, ρ, fs, r, q⟩ => by
  refine tG.mono (ResS.bnd (rv := rvD C) r q) fun v H1 ⟨F1, ρ1, fs1, x, r1, x1, rd, q1⟩ => ?_
  exact q1 v σ H1 F1 fs1 r1 .refl rd
def retOM (m : ME (List PyData)) : SM := bndS m fun d => .retO d
theorem ds_retO {m : ME (List PyData)} (h : DF X C e m) : DS X C (.Return (some e) pos) (retOM m) := PS.imp (ps_ret h) fun D σ H ⟨F, ρ, fs, r, q⟩ => by
  refine tG.mono (ResS.bnd (rv := rvF C σ) r q) fun v H1 ⟨F1, ρ1, fs1, x, r1, x1, rd, q1⟩ => ?_
  exact q1 v σ H1 F1 fs1 r1 .refl rd
def retN : SM := .ret .none
theorem ds_retN : DS X C (.Return none pos) retN := PS.imp ps_retN fun D σ H ⟨F, ρ, fs, r, q⟩ => q .non σ H F fs r .refl .non
def ifS (c : ME Bool) (a b : SM) : SM := bndS c fun k => if k then a else b
theorem ds_if {c : Expr} {a b : List Stmt} {mc : ME Bool} {ma mb : SM} (hc : DT X C c mc) (ha : DSs X C a ma) (hb : DSs X C b mb) : DS X C (.If c a b pos) (ifS mc ma mb) := PS.imp (ps_if hc ha hb) fun D σ H ⟨F, ρ, fs, r, q⟩ => by
  refine tG.mono (ResS.bnd (rv := rvB) r q) fun v H1 ⟨F1, ρ1, fs1, x, r1, x1, rd, q1⟩ => ?_
  subst rd
  cases v with
  | true => exact ⟨F1, ρ1, fs1, r1, q1⟩
  | false => exact ⟨F1, ρ1, fs1, r1, q1⟩
def failS : SM := fun _ => .fail
theorem ds_never : DS X C st failS := PS.imp ps_never fun D σ H ⟨F, ρ, fs, r, q⟩ => q
theorem ds_pass : DS X C (.Pass pos) nextM := PS.imp ps_pass fun D σ H ⟨F, ρ, fs, r, q⟩ => q σ H F fs r .refl
theorem ds_break : DS X C (.Break pos) .brk := PS.imp ps_break fun D σ H ⟨F, ρ, fs, r, q⟩ => q σ H F fs r .refl
theorem ds_continue : DS X C (.Continue pos) .cont := PS.imp ps_continue fun D σ H ⟨F, ρ, fs, r, q⟩ => q σ H F fs r .refl

/-! ## targets -/
/-- a slot stored: the list that a parameter brought is never let go -/
def putS (i : Nat) (t : Slot) (ρ : MEnv) : Option MEnv := match getS ρ i with
  | .ol (some _) _ => none
  | _ => some (setS ρ i t)
theorem putS_eq {i : Nat} {t : Slot} {ρ ρ' : MEnv} (h : putS i t ρ = some ρ') : ρ' = ρ.set i t := by
  unfold putS at h
  rw [← setS_eq]
  split at h
  · cases h
  · cases h; rfl
theorem Rel.put (r : Rel C F H σ ρ fs) {i : Nat} {v : V} {d : PyData} (h : Dp C.K F v d) : Rel C F H (σ.set i (some v)) (ρ.set i (.fz d)) (upF fs i []) ∧ Ext F H fs F H (upF fs i []) := by
  refine ⟨⟨by rw [List.length_set, List.length_set]; exact r.len, fun j s hs => ?_, fun j b hj => ?_, ?_, fun j l b hj hl => ?_, fun j => ?_, fun j b hb => ?_, r.sub, r.sz⟩, ⟨fun _ _ z => z, fun _ _ z _ => z, fun j b hb => ?_, fun _ z => z, fun b z => .inl z⟩⟩
  · by_cases e : j = i
    · subst e
      have hj : j < ρ.length := by have := (List.getElem?_eq_some_iff.mp hs).1; simpa using this
      rw [List.getElem?_set_self hj] at hs
      have : s = .fz d := by simpa using hs.symm
      subst this
      exact ⟨upF_same, v, by rw [List.getElem?_set_self (by rw [r.len]; exact hj)], h⟩
    · rw [List.getElem?_set_ne (Ne.symm e)] at hs
      rw [upF_ne e, List.getElem?_set_ne (Ne.symm e)]
      exact r.slot j s hs
  · by_cases e : j = i
    · subst e; rw [upF_same] at hj; cases hj
    · rw [upF_ne e] at hj; exact r.trk j b hj
  · obtain ⟨L, h⟩ := r.lim
    refine ⟨L, fun j hj => ?_⟩
    by_cases e : j = i
    · subst e; exact upF_same
    · rw [upF_ne e]; exact h j hj
  · by_cases e : j = i
    · subst e; rw [upF_same] at hj; cases hj
    · by_cases e' : l = i
      · subst e'; rw [upF_same] at hl; cases hl
      · rw [upF_ne e] at hj; rw [upF_ne e'] at hl; exact r.dis j l b hj hl
  · by_cases e : j = i
    · subst e; rw [upF_same]; exact List.nodup_nil
    · rw [upF_ne e]; exact r.nd j
  · by_cases e : j = i
    · subst e; rw [upF_same] at hb; cases hb
    · rw [upF_ne e] at hb; exact r.out j b hb
  · by_cases e : j = i
    · subst e; rw [upF_same] at hb; cases hb
    · rw [upF_ne e] at hb; exact .inl ⟨j, hb⟩
/-- a new list of one's own goes to a slot -/
theorem Rel.putO (r : Rel C F H σ ρ fs) {i : Nat} {v : V} {ds : List PyData} (h : rvF C σ F H fs v ds) : ∃ fs', Rel C F H (σ.set i (some v)) (ρ.set i (.ol none ds)) fs' ∧ Ext F H fs F H fs' := by
  obtain ⟨a, vs, j, rfl, hf, hj, ha, hd, hl⟩ := h
  have hij : ∀ s, ρ[i]? = some s → i ≠ j := fun s hs => by
    have := (List.getElem?_eq_some_iff.mp hs).1
    have := r.len
    omega
  by_cases hi : i < ρ.length
  · have ne : i ≠ j := by have := r.len; omega
    refine ⟨upF (upF fs j []) i [a], ⟨by rw [List.length_set, List.length_set]; exact r.len, fun l s hs => ?_, fun l b hb => ?_, ?_, fun l m b h1 h2 => ?_, fun l => ?_, fun l b hb => ?_, r.sub, r.sz⟩, ⟨fun _ _ z => z, fun _ _ z _ => z, fun l b hb => ?_, fun _ z => z, fun b z => .inl z⟩⟩
    · by_cases e : l = i
      · subst e
        rw [List.getElem?_set_self hi] at hs
        have : s = .ol none ds := by simpa using hs.symm
        subst this
        exact ⟨a, vs, by rw [List.getElem?_set_self (by rw [r.len]; exact hi)], upF_same, ha, hd, hl, fun n z => by cases z⟩
      · rw [List.getElem?_set_ne (Ne.symm e)] at hs
        have hl' : l < ρ.length := (List.getElem?_eq_some_iff.mp hs).1
        rw [upF_ne e, upF_ne (by have := r.len; omega), List.getElem?_set_ne (Ne.symm e)]
        exact r.slot l s hs
    · by_cases e : l = i
      · subst e; rw [upF_same] at hb
        have : b = a := by simpa using hb
        subst this
        exact ⟨vs, ha⟩
      · rw [upF_ne e] at hb
        by_cases e2 : l = j
        · subst e2; rw [upF_same] at hb; cases hb
        · rw [upF_ne e2] at hb; exact r.trk l b hb
    · obtain ⟨L, h⟩ := r.lim
      refine ⟨max L (i + 1), fun l hl => ?_⟩
      rw [upF_ne (by omega)]
      by_cases e2 : l = j
      · subst e2; exact upF_same
      · rw [upF_ne e2]; exact h l (by omega)
    · have key : ∀ l b, b ∈ upF (upF fs j []) i [a] l → (l = i ∧ b = a) ∨ (l ≠ i ∧ l ≠ j ∧ b ∈ fs l) := fun l b hb => by
        by_cases e : l = i
        · subst e; rw [upF_same] at hb; exact .inl ⟨rfl, by simpa using hb⟩
        · rw [upF_ne e] at hb
          by_cases e2 : l = j
          · subst e2; rw [upF_same] at hb; cases hb
          · rw [upF_ne e2] at hb; exact .inr ⟨e, e2, hb⟩
      have haj : a ∈ fs j := by rw [hf]; simp
      rcases key l b h1 with ⟨e1, e2⟩ | ⟨n1, n2, m1⟩
      · rcases key m b h2 with ⟨e3, e4⟩ | ⟨n3, n4, m2⟩
        · rw [e1, e3]
        · exact absurd (r.dis m j b m2 (e2 ▸ haj)) n4
      · rcases key m b h2 with ⟨e3, e4⟩ | ⟨n3, n4, m2⟩
        · exact absurd (r.dis l j b m1 (e4 ▸ haj)) n2
        · exact r.dis l m b m1 m2
    · by_cases e : l = i
      · subst e; rw [upF_same]; simp
      · rw [upF_ne e]
        by_cases e2 : l = j
        · subst e2; rw [upF_same]; exact List.nodup_nil
        · rw [upF_ne e2]; exact r.nd l
    · by_cases e : l = i
      · subst e; rw [upF_same] at hb
        have : b = a := by simpa using hb
        subst this
        exact r.out j b (by rw [hf]; simp)
      · rw [upF_ne e] at hb
        by_cases e2 : l = j
        · subst e2; rw [upF_same] at hb; cases hb
        · rw [upF_ne e2] at hb; exact r.out l b hb
    · by_cases e : l = i
      · subst e; rw [upF_same] at hb
        have : b = a := by simpa using hb
        subst this
        exact .inl ⟨j, by rw [hf]; simp⟩
      · rw [upF_ne e] at hb
        by_cases e2 : l = j
        · subst e2; rw [upF_same] at hb; cases hb
        · rw [upF_ne e2] at hb; exact .inl ⟨l, hb⟩
  · refine ⟨fs, ?_, .refl⟩
    rw [List.set_eq_of_length_le (by have := r.len; omega), List.set_eq_of_length_le (by omega)]
    exact r
abbrev TgM := PyData → MEnv → Option MEnv
/-- the slots but those at is are as they were -/
def Keeps (is : List Nat) (σ σ' : L2.St) : Prop := σ'.length = σ.length ∧ ∀ j, j ∉ is → σ'[j]? = σ[j]?
theorem Keeps.refl {is : List Nat} {σ : L2.St} : Keeps is σ σ := ⟨rfl, fun _ _ => rfl⟩
theorem Keeps.trans {is js : List Nat} {σ σ' σ'' : L2.St} (a : Keeps is σ σ') (b : Keeps js σ' σ'') : Keeps (is ++ js) σ σ'' :=
  ⟨b.1.trans a.1, fun j h => (b.2 j fun z => h (List.mem_append_right _ z)).trans (a.2 j fun z => h (List.mem_append_left _ z))⟩
theorem Keeps.set {i : Nat} {σ : L2.St} {x : Option V} : Keeps [i] σ (σ.set i x) := ⟨by simp, fun j h => by rw [List.getElem?_set_ne (by simpa [eq_comm] using h)]⟩
def AfterT (C : Cc) (is : List Nat) (σ : L2.St) (ρ' : MEnv) (F H : Hp) (fs : Fs) (K : L2.St → Hp → Prop) : Prop := ∀ σ' H' F' fs', Keeps is σ σ' → Rel C F' H' σ' ρ' fs' → Ext F H fs F' H' fs' → K σ' H'
theorem AfterT.ext {C : Cc} {is : List Nat} {σ : L2.St} {ρ' : MEnv} {F H F1 H1 : Hp} {fs fs1 : Fs} {K : L2.St → Hp → Prop} (x : Ext F H fs F1 H1 fs1) (h : AfterT C is σ ρ' F H fs K) : AfterT C is σ ρ' F1 H1 fs1 K :=
  fun σ' H' F' fs' k r y => h σ' H' F' fs' k r (x.trans y)
def gM (C : Cc) (is : List Nat) (g : TgM) : TG := fun v σ H Q => ∃ F ρ fs d ρ', Rel C F H σ ρ fs ∧ Dp C.K F v d ∧ g d ρ = some ρ' ∧ AfterT C is σ ρ' F H fs Q
abbrev DG (X : Cx) (C : Cc) (tg : Expr) (is : List Nat) (g : TgM) : Prop := PG X tg (gM C is g)
theorem PG.imp {e : Expr} {t t' : TG} (h : PG X e t) (i : ∀ v σ H Q, t' v σ H Q → t v σ H Q) : PG X e t' := ⟨fun pins s σ H v u Q I r q => h.run pins s σ H v u Q I r (i v σ H Q q)⟩
theorem PGs.imp {e : List Expr} {t t' : TGs} (h : PGs X e t) (i : ∀ v σ H Q, t' v σ H Q → t v σ H Q) : PGs X e t' := ⟨fun pins s σ H v u Q I r q => h.run pins s σ H v u Q I r (i v σ H Q q)⟩
def tgN (i : Nat) : TgM := fun d ρ => putS i (.fz d) ρ
theorem dg_name {i : Nat} {x : Str} (hN : X.N.Nodup) (hi : X.N[i]? = some x) (hx : Loc X.env.scope x) (hf : X.fn x = true ∨ X.env.scope.names.lookup x = some .local := by first | exact .inl rfl | exact .inr rfl | assumption) : DG X C (.Name x pos) [i] (tgN i) :=
  PG.imp (pg_name hN hi hx hf) fun v σ H Q ⟨F, ρ, fs, d, ρ', r, hd, hg, q⟩ => by
    have e := putS_eq hg
    subst e
    obtain ⟨r2, x2⟩ := r.put (i := i) hd
    exact q _ H F _ .set r2 x2
abbrev TgsM := List PyData → MEnv → Option MEnv
def gsM (C : Cc) (is : List Nat) (g : TgsM) : TGs := fun vs σ H Q => ∃ F ρ fs ds ρ', Rel C F H σ ρ fs ∧ DpAll C.K F vs ds ∧ g ds ρ = some ρ' ∧ AfterT C is σ ρ' F H fs Q
abbrev DGs (X : Cx) (C : Cc) (tg : List Expr) (is : List Nat) (g : TgsM) : Prop := PGs X tg (gsM C is g)
def tgsNil : TgsM := fun ds ρ => match ds with | [] => some ρ | _ :: _ => none
def tgsCons (g : TgM) (gs : TgsM) : TgsM := fun ds ρ => match ds with
  | [] => none
  | d :: ds => match g d ρ with
    | some ρ1 => gs ds ρ1
    | none => none
theorem dgs_nil : DGs X C [] [] tgsNil := PGs.imp pgs_nil fun vs σ H Q ⟨F, ρ, fs, ds, ρ', r, hd, hg, q⟩ => by
  cases hd with
  | nil => cases hg; exact ⟨rfl, q σ H F fs .refl r .refl⟩
  | cons _ _ => cases hg
theorem dgs_cons {is js : List Nat} {g : TgM} {gs : TgsM} (h1 : DG X C e is g) (h2 : DGs X C es js gs) (hs : (assignEach (e :: es) X.env).map (·.2) = assign e X.env :: (assignEach es X.env).map (·.2) := by rfl) : DGs X C (e :: es) (is ++ js) (tgsCons g gs) :=
  PGs.imp (pgs_cons h1 h2 hs) fun vs σ H Q ⟨F, ρ, fs, ds, ρ', r, hd, hg, q⟩ => by
    cases hd with
    | nil => cases hg
    | cons p t =>
      unfold tgsCons at hg
      simp only at hg
      split at hg
      · rename_i ρ1 e1
        exact ⟨_, _, rfl, F, ρ, fs, _, ρ1, r, p, e1, fun σ' H' F' fs' k' r' x' => ⟨F', ρ1, fs', _, ρ', r', DpAll.mono x'.fz _ t, hg, fun σ2 H2 F2 fs2 k2 r2 x2 => q σ2 H2 F2 fs2 (k'.trans k2) r2 (x'.trans x2)⟩⟩
      · cases hg
/-- a, b = a tuple, a list -/
def tgTup (n : Nat) (gs : TgsM) : TgM := fun d ρ => match d with
  | .tuple ds => if ds.length = n then gs ds ρ else none
  | _ => none
theorem dg_tup {j : Nat} {n : Nat} {is : List Nat} {gs : TgsM} (hK : C.K = X.K) (hc : X.calm = true) (h : DGs X C es is gs) (hn : (assignEach es X.env).length = n := by rfl) (hst : (assignEach es X.env).findIdx? (·.1) = none := by rfl) : DG X C (.Tuple es j pos) is (tgTup n gs) :=
  PG.imp (pg_tup hc h hn hst) fun v σ H Q ⟨F, ρ, fs, d, ρ', r, hd, hg, q⟩ => by
    cases d with
    | tuple ds =>
      unfold tgTup at hg
      simp only at hg
      split at hg
      · rename_i hl
        cases hd with
        | tup hq ha =>
          exact ⟨_, _, rfl, hK ▸ SqT.mono r.sub hq, by rw [DpAll.length ha]; exact hl, F, ρ, fs, ds, ρ', r, ha, hg, q⟩
      · cases hg
    | none => cases hg
    | bool _ => cases hg
    | int _ => cases hg
    | str _ => cases hg
    | list _ => cases hg
    | dict _ => cases hg
/-- a, b = a list -/
def tgLst (n : Nat) (gs : TgsM) : TgM := fun d ρ => match d with
  | .list ds => if ds.length = n then gs ds ρ else none
  | _ => none
theorem dg_lst {j : Nat} {n : Nat} {is : List Nat} {gs : TgsM} (hc : X.calm = true) (h : DGs X C es is gs) (hn : (assignEach es X.env).length = n := by rfl) (hst : (assignEach es X.env).findIdx? (·.1) = none := by rfl) : DG X C (.Tuple es j pos) is (tgLst n gs) :=
  PG.imp (pg_unl hc h hn hst) fun v σ H Q ⟨F, ρ, fs, d, ρ', r, hd, hg, q⟩ => by
    cases d with
    | list ds =>
      unfold tgLst at hg
      simp only at hg
      split at hg
      · rename_i hl
        cases hd with
        | lst hq ha =>
          exact ⟨_, _, rfl, .of (r.sub _ _ hq), by rw [DpAll.length ha]; exact hl, F, ρ, fs, ds, ρ', r, ha, hg, q⟩
      · cases hg
    | none => cases hg
    | bool _ => cases hg
    | int _ => cases hg
    | str _ => cases hg
    | tuple _ => cases hg
    | dict _ => cases hg
/-- target = value -/
def asgM (m : ME PyData) (g : TgM) : SM := bndS m fun d ρ => match g d ρ with
  | some ρ' => .next ρ'
  | none => .fail
theorem ds_asg {tg : Expr} {m : ME PyData} {is : List Nat} {g : TgM} (h : DE X C e m) (hg : DG X C tg is g) (hs : swapsWithSole [tg] e pos.line X.env = pure false := by rfl) (hw : swappedStores [tg] e X.env = pure none := by rfl)
    (h1 : (assignEach [tg] X.env).map (·.2) = [assign tg X.env] := by rfl) : DS X C (.Assign [tg] e pos) (asgM m g) := PS.imp (ps_asg h hg hs hw h1) fun D σ H ⟨F, ρ, fs, r, q⟩ => by
  refine tG.mono (ResS.bnd (rv := rvD C) r q) fun v H1 ⟨F1, ρ1, fs1, d, r1, x1, rd, q1⟩ => ?_
  cases e : g d ρ1 with
  | none => simp only [e] at q1; exact q1.elim
  | some ρ' => simp only [e] at q1; exact ⟨F1, ρ1, fs1, d, ρ', r1, rd, e, fun σ' H' F' fs' _ r' x' => q1 σ' H' F' fs' r' x'⟩
theorem ds_set {i : Nat} {x : Str} {m : ME PyData} {pos' : Pos} (hN : X.N.Nodup) (hi : X.N[i]? = some x) (hx : Loc X.env.scope x) (he : DE X C e m) (hs : swapsWith e (some (.Name x pos')) pos.line X.env = pure false := by rfl) (hf : X.fn x = true ∨ X.env.scope.names.lookup x = some .local := by first | exact .inl rfl | exact .inr rfl | assumption) :
    DS X C (.Assign [.Name x pos'] e pos) (asgM m (tgN i)) := PS.imp (ps_set hN hi hx he hs hf) fun D σ H ⟨F, ρ, fs, r, q⟩ => by
  refine tG.mono (ResS.bnd (rv := rvD C) r q) fun v H1 ⟨F1, ρ1, fs1, d, r1, x1, rd, q1⟩ => ?_
  cases e : tgN i d ρ1 with
  | none => simp only [e] at q1; exact q1.elim
  | some ρ' =>
    simp only [e] at q1
    have e' := putS_eq e
    subst e'
    obtain ⟨r2, x2⟩ := r1.put (i := i) rd
    exact q1 _ H1 F1 _ r2 x2
/-- name = a new list of one's own -/
def asgO (m : ME (List PyData)) (i : Nat) : SM := bndS m fun ds ρ => match putS i (.ol none ds) ρ with
  | some ρ' => .next ρ'
  | none => .fail
theorem ds_setO {i : Nat} {x : Str} {m : ME (List PyData)} {pos' : Pos} (hN : X.N.Nodup) (hi : X.N[i]? = some x) (hx : Loc X.env.scope x) (he : DF X C e m) (hs : swapsWith e (some (.Name x pos')) pos.line X.env = pure false := by rfl) (hf : X.fn x = true ∨ X.env.scope.names.lookup x = some .local := by first | exact .inl rfl | exact .inr rfl | assumption) :
    DS X C (.Assign [.Name x pos'] e pos) (asgO m i) := PS.imp (ps_set hN hi hx he hs hf) fun D σ H ⟨F, ρ, fs, r, q⟩ => by
  refine tG.mono (ResS.bnd (rv := rvF C σ) r q) fun v H1 ⟨F1, ρ1, fs1, d, r1, x1, rd, q1⟩ => ?_
  cases e : putS i (.ol none d) ρ1 with
  | none => simp only [e] at q1; exact q1.elim
  | some ρ' =>
    simp only [e] at q1
    have e' := putS_eq e
    subst e'
    obtain ⟨fs2, r2, x2⟩ := r1.putO (i := i) rd
    exact q1 _ H1 F1 _ r2 x2
/-- a, b = x, y with plain local names -/
def parM (i j : Nat) (ms : List (ME PyData)) : SM := bndS (evs ms) fun ds ρ => match ds with
  | [d, e] => match putS i (.fz d) ρ with
    | some ρ1 => match putS j (.fz e) ρ1 with
      | some ρ2 => .next ρ2
      | none => .fail
    | none => .fail
  | _ => .fail
theorem ds_par {i j : Nat} {x y : Str} {ms : List (ME PyData)} {px py pt : Pos} {kt k2 pt2} (hc : X.calm = true) (hN : X.N.Nodup) (hi : X.N[i]? = some x) (hj : X.N[j]? = some y) (hij : i ≠ j)
    (hx : X.env.scope.names.lookup x = some .local) (hy : X.env.scope.names.lookup y = some .local) (ha : DL X C [a, b] ms)
    (hw : swappedStores [.Tuple [.Name x px, .Name y py] kt pt] (.Tuple [a, b] k2 pt2) X.env = pure (some [x, y]) := by rfl)
    (hs : swapsWithSole [.Tuple [.Name x px, .Name y py] kt pt] (.Tuple [a, b] k2 pt2) pos.line X.env = pure false := by rfl) :
    DS X C (.Assign [.Tuple [.Name x px, .Name y py] kt pt] (.Tuple [a, b] k2 pt2) pos) (parM i j ms) := PS.imp (ps_par hc hN hi hj hij hx hy ha hw hs) fun D σ H ⟨F, ρ, fs, r, q⟩ => by
  refine tG.mono (ResS.bnd (rv := rvL C) r q) fun v H1 ⟨F1, ρ1, fs1, ds, r1, x1, rd, q1⟩ => ?_
  cases rd with
  | nil => exact q1.elim
  | cons p t =>
    cases t with
    | nil => exact q1.elim
    | cons p2 t2 =>
      cases t2 with
      | cons _ _ => exact q1.elim
      | nil =>
        simp only at q1
        split at q1
        · rename_i ρ2 e1
          split at q1
          · rename_i ρ3 e2
            have e1' := putS_eq e1
            have e2' := putS_eq e2
            subst e1'
            subst e2'
            obtain ⟨r2, x2⟩ := r1.put (i := i) p
            obtain ⟨r3, x3⟩ := r2.put (i := j) p2
            exact ⟨_, _, rfl, q1 _ H1 F1 _ r3 (x2.trans x3)⟩
          · exact q1.elim
        · exact q1.elim
end
end M
set_option Elab.async false
set_option linter.all false
set_option maxRecDepth 100000
set_option maxHeartbeats 4000000
namespace M
open PySem PySem.Spec PyProof.Rows L2

/-! ## what is walked -/
def Sub (F H : Hp) : Prop := ∀ a o, F a = some o → H a = some o
structure WalkD (K : PySem.W.Frag) (J : It) (ds : List PyData) (F : Hp) : Prop where
  len : ds.length ≤ sizeLine
  goes : ∀ i H, i < ds.length → Sub F H → J.go i H
  stops : ∀ H, Sub F H → J.stop ds.length H
  yields : ∀ i H x H' F1, i < ds.length → Sub F F1 → Sub F1 H → SzOk K F1 → J.yld i H x H' → ∃ F2 d, AExt K F1 H F2 H' ∧ ds[i]? = some d ∧ Dp K F2 x d
def tI (C : Cc) (m : ME (List PyData)) : TI := fun σ H R => ∃ F ρ fs, Rel C F H σ ρ fs ∧ match m ρ with
  | .ok (ds, ρ1) => ∀ J H' F' fs', Rel C F' H' σ ρ1 fs' → Ext F H fs F' H' fs' → WalkD C.K J ds F' → R J H'
  | .err c d => ErrP C F H fs c d
  | .fail => False
abbrev DI (X : Cx) (C : Cc) (tg iter : Expr) (m : ME (List PyData)) : Prop := PI X tg iter (tI C m)
theorem PIimp {X : Cx} {tg e : Expr} {t t' : TI} (h : PI X tg e t) (i : ∀ σ H Q, t' σ H Q → t σ H Q) : PI X tg e t' := ⟨fun pins s σ H Q I q => h.run pins s σ H Q I (i σ H Q q)⟩
theorem PIor {X : Cx} {tg e : Expr} {t t' : TI} (h : PI X tg e t) (h' : PI X tg e t') : PI X tg e (fun σ H Q => t σ H Q ∨ t' σ H Q) := ⟨fun pins s σ H Q I q => q.elim (h.run pins s σ H Q I) (h'.run pins s σ H Q I)⟩
section
variable {X : Cx} {C : Cc} {k : Nat} {e a b tg iter : Expr} {es : List Expr} {pos : Pos} {σ : L2.St} {F H : Hp} {ρ : MEnv} {fs : Fs} {st : Stmt} {rest : List Stmt} {D : Ends} {K : PySem.W.Frag}
theorem Sub.trans {A B D : Hp} (h : Sub A B) (h' : Sub B D) : Sub A D := fun a o z => h' a o (h a o z)
theorem walkD_list {p : Addr} {xs : List V} {ds : List PyData} (hz : SzOk K F) (hs : SqL K F p xs) (hd : DpAll K F xs ds) : WalkD K (Itl K p) ds F where
  len := DpAll.length hd ▸ hz.l _ _ hs
  goes := fun i H hi s => walk_list.goes i H (by rw [DpAll.length hd]; exact hi) (SqL.mono s hs)
  stops := fun H s => DpAll.length hd ▸ walk_list.stops H (SqL.mono s hs)
  yields := fun i H x H' F1 hi s s1 z y => by
    obtain ⟨rfl, e⟩ := walk_list.yields i H x H' (by rw [DpAll.length hd]; exact hi) (SqL.mono (s.trans s1) hs) y
    obtain ⟨d, e2, hd2⟩ := DpAll.get' hd e
    exact ⟨F1, d, .refl s1 z, e2, Dp.mono s d hd2⟩
theorem walkD_tup {p : Addr} {xs : List V} {ds : List PyData} (hz : SzOk K F) (hs : SqT K F p xs) (hd : DpAll K F xs ds) : WalkD K (Itt K p) ds F where
  len := DpAll.length hd ▸ hz.t _ _ hs
  goes := fun i H hi s => walk_tup.goes i H (by rw [DpAll.length hd]; exact hi) (SqT.mono s hs)
  stops := fun H s => DpAll.length hd ▸ walk_tup.stops H (SqT.mono s hs)
  yields := fun i H x H' F1 hi s s1 z y => by
    obtain ⟨rfl, e⟩ := walk_tup.yields i H x H' (by rw [DpAll.length hd]; exact hi) (SqT.mono (s.trans s1) hs) y
    obtain ⟨d, e2, hd2⟩ := DpAll.get' hd e
    exact ⟨F1, d, .refl s1 z, e2, Dp.mono s d hd2⟩
def signs (z : Str) : List PyData := z.cps.toList.map fun c => .str ⟨#[c]⟩
theorem walkD_str {z : Str} (hz : z.length ≤ sizeLine) : WalkD K (Its z) (signs z) F where
  len := by
    have e : (signs z).length = z.cps.size := by simp [signs]
    rw [e]; exact hz
  goes := fun i H hi s => (walk_str (z := z)).goes i H (by simpa [signs] using hi) trivial
  stops := fun H s => by
    have := (walk_str (z := z)).stops H trivial
    simpa [signs] using this
  yields := fun i H x H' F1 hi s s1 q y => by
    obtain ⟨rfl, c, e, rfl⟩ := (walk_str (z := z)).yields i H x H' (by simpa [signs] using hi) trivial y
    refine ⟨F1, .str ⟨#[c]⟩, .refl s1 q, ?_, .str _⟩
    simp [signs, e]
/-- the items of a value that is walked -/
def items (d : PyData) : Option (List PyData) := match d with
  | .list ds => some ds
  | .tuple ds => some ds
  | .str z => if z.length ≤ sizeLine then some (signs z) else none
  | _ => none
def itM (m : ME PyData) : ME (List PyData) := bnd m fun d => lfo (items d)
theorem di_seq {m : ME PyData} (hK : C.K = X.K) (h : DE X C e m) : DI X C tg e (itM m) := by
  refine PIimp (PIor (pi_list h) (PIor (pi_tup h) (pi_str h))) fun σ H R ⟨F, ρ, fs, r, q⟩ => ?_
  unfold itM bnd at q
  have go : ∀ (P : V → Hp → Prop), (match m ρ with
      | .ok (d, ρ1) => ∀ v H' F' fs', Rel C F' H' σ ρ1 fs' → Ext F H fs F' H' fs' → Dp C.K F' v d → P v H'
      | .err c d => ErrP C F H fs c d
      | .fail => False) → tG C (rvD C) m σ H P := fun P z => ⟨F, ρ, fs, r, by
    cases e : m ρ with
    | ok p => rw [e] at z; exact z
    | err c d => rw [e] at z; exact z
    | fail => rw [e] at z; exact z⟩
  cases e : m ρ with
  | err c d => rw [e] at q; exact .inl (go _ (by rw [e]; exact q))
  | fail => rw [e] at q; exact q.elim
  | ok p =>
    obtain ⟨d, ρ1⟩ := p
    rw [e] at q
    cases d with
    | list ds =>
      refine .inl (go _ ?_)
      rw [e]
      intro v H' F' fs' r' x hd
      cases hd with
      | lst hq ha => exact ⟨_, rfl, ⟨_, .of (r'.sub _ _ hq)⟩, hK ▸ q _ H' F' fs' r' x (walkD_list r'.sz (.of hq) ha)⟩
    | tuple ds =>
      refine .inr (.inl (go _ ?_))
      rw [e]
      intro v H' F' fs' r' x hd
      cases hd with
      | tup hq ha => exact ⟨_, rfl, ⟨_, hK ▸ SqT.mono r'.sub hq⟩, hK ▸ q _ H' F' fs' r' x (walkD_tup r'.sz hq ha)⟩
    | str z =>
      refine .inr (.inr (go _ ?_))
      rw [e]
      intro v H' F' fs' r' x hd
      cases hd
      unfold lfo items at q
      simp only at q
      by_cases hz : z.length ≤ sizeLine
      · rw [if_pos hz] at q
        exact ⟨_, rfl, q _ H' F' fs' r' x (walkD_str hz)⟩
      · rw [if_neg hz] at q
        exact q.elim
    | none => exact q.elim
    | bool _ => exact q.elim
    | int _ => exact q.elim
    | dict _ => exact q.elim
/-- lo, lo + 1, .. -/
def upTo (lo : Int) (n : Nat) : List PyData := (List.range n).map fun (i : Nat) => .int (lo + (i : Int))
theorem upTo_length (lo : Int) (n : Nat) : (upTo lo n).length = n := by simp [upTo]
theorem walkD_range {lo : Int} {n : Nat} (hz : n ≤ sizeLine) : WalkD K (Itr lo n) (upTo lo n) F where
  len := by rw [upTo_length]; exact hz
  goes := fun i H hi s => (walk_range (lo := lo) (n := n)).goes i H (by simpa [upTo] using hi) trivial
  stops := fun H s => by
    have := (walk_range (lo := lo) (n := n)).stops H trivial
    simpa [upTo] using this
  yields := fun i H x H' F1 hi s s1 q y => by
    have hi' : i < n := by simpa [upTo] using hi
    obtain ⟨rfl, rfl⟩ := (walk_range (lo := lo) (n := n)).yields i H x H' hi' trivial y
    refine ⟨F1, .int (lo + i), .refl s1 q, ?_, .int _⟩
    simp [upTo, hi']
def in62 (i : Int) : Bool := decide (-4611686018427387904 ≤ i ∧ i ≤ 16777216)
def range1 (d : PyData) : Option (List PyData) := match d with
  | .int j => if in62 j then some (upTo 0 j.toNat) else none
  | _ => none
def range2 (d e : PyData) : Option (List PyData) := match d, e with
  | .int i, .int j => if in62 i && in62 j && decide (j - i ≤ 16777216) then some (upTo i (j - i).toNat) else none
  | _, _ => none
def rngM1 (o : Opd) : ME (List PyData) := bnd (runs [o]) fun xs => bnd (fins xs) fun ds => lfo (match ds with | [d] => range1 d | _ => none)
def rngM2 (o o' : Opd) : ME (List PyData) := bnd (runs [o, o']) fun xs => bnd (fins xs) fun ds => lfo (match ds with | [d, e] => range2 d e | _ => none)
/-- a walk that no value stands for -/
theorem tI.of {m : ME (List PyData)} {R : It → Hp → Prop} {ds : List PyData} (r : Rel C F H σ ρ fs) {R : It → Hp → Prop} {o : Option (List PyData)} 
    (q : match lfo o ρ with
      | .ok (ds, ρ1) => ∀ J H' F' fs', Rel C F' H' σ ρ1 fs' → Ext F H fs F' H' fs' → WalkD C.K J ds F' → R J H'
      | .err c d => ErrP C F H fs c d
      | .fail => False) : ∃ ds, o = some ds ∧ ∀ J, WalkD C.K J ds F → R J H := by
  cases o with
  | none => exact q.elim
  | some ds => exact ⟨ds, rfl, fun J w => q J H F fs r .refl w⟩
/-- the reading of operands ahead of a walk -/
theorem tI.bnd {β α : Type} {rv : RV β α} {m : ME α} {kk : α → ME (List PyData)} {R : It → Hp → Prop} (r : Rel C F H σ ρ fs)
    (h : match bnd m kk ρ with
      | .ok (ds, ρ1) => ∀ J H' F' fs', Rel C F' H' σ ρ1 fs' → Ext F H fs F' H' fs' → WalkD C.K J ds F' → R J H'
      | .err c d => ErrP C F H fs c d
      | .fail => False) : tG C rv m σ H (fun b H1 => ∃ F1 ρ1 fs1 a, Rel C F1 H1 σ ρ1 fs1 ∧ Ext F H fs F1 H1 fs1 ∧ rv F1 H1 fs1 b a ∧ match kk a ρ1 with
      | .ok (ds, ρ2) => ∀ J H' F' fs', Rel C F' H' σ ρ2 fs' → Ext F1 H1 fs1 F' H' fs' → WalkD C.K J ds F' → R J H'
      | .err c d => ErrP C F1 H1 fs1 c d
      | .fail => False) := by
  refine ⟨F, ρ, fs, r, ?_⟩
  unfold M.bnd at h
  cases e : m ρ with
  | err c d => rw [e] at h; exact h
  | fail => rw [e] at h; exact h
  | ok p =>
    rw [e] at h
    refine fun b H' F' fs' r' x q => ⟨F', p.2, fs', p.1, r', x, q, ?_⟩
    simp only at h
    cases e2 : kk p.1 p.2 with
    | ok p2 => rw [e2] at h; exact fun J H2 F2 fs2 r2 x2 w => h J H2 F2 fs2 r2 (x.trans x2) w
    | err c d => rw [e2] at h; exact ErrP.ext x h
    | fail => rw [e2] at h; exact h
theorem tI.fins {R : It → Hp → Prop} (r : Rel C F H σ ρ fs) : ∀ {vs : List V} {xs : List (PyData ⊕ Nat)} {kk : List PyData → ME (List PyData)}, RvOs C σ F H fs vs xs →
    (match M.bnd (M.fins xs) kk ρ with
      | .ok (ds, ρ2) => ∀ J H' F' fs', Rel C F' H' σ ρ2 fs' → Ext F H fs F' H' fs' → WalkD C.K J ds F' → R J H'
      | .err c d => ErrP C F H fs c d
      | .fail => False) → ∃ ds, DtAll C.K F H vs ds ∧ match kk ds ρ with
      | .ok (ds, ρ2) => ∀ J H' F' fs', Rel C F' H' σ ρ2 fs' → Ext F H fs F' H' fs' → WalkD C.K J ds F' → R J H'
      | .err c d => ErrP C F H fs c d
      | .fail => False
  | _, _, kk, .nil, h => ⟨[], .nil, h⟩
  | _, _, kk, .cons (v := v) (x := x) (xs := xs) p t, h => by
    rw [M.fins, bnd_assoc] at h
    simp only [bnd_assoc, ret_bnd] at h
    have one : ∃ d, Dt C.K F H v d ∧ M.fin x ρ = .ok (d, ρ) ∨ M.fin x ρ = .fail := by
      cases x with
      | inl d => exact ⟨d, .inl ⟨.inl p, rfl⟩⟩
      | inr i =>
        cases e : peek i ρ with
        | ok q =>
          obtain ⟨d, ρ'⟩ := q
          have e2 := peek_env e
          subst e2
          exact ⟨d, .inl ⟨r.dt p e, e⟩⟩
        | err c d => exact (peek_err e).elim
        | fail => exact ⟨.none, .inr e⟩
    obtain ⟨d, one⟩ := one
    rcases one with ⟨hd, e⟩ | e
    · have h' := h
      unfold M.bnd at h'
      rw [e] at h'
      simp only at h'
      obtain ⟨ds, hds, h2⟩ := tI.fins r t (kk := fun ds => kk (d :: ds)) h'
      exact ⟨d :: ds, .cons hd hds, h2⟩
    · unfold M.bnd at h
      rw [e] at h
      exact h.elim
theorem di_range1 {o : Opd} {p : Pos} (hg : Gl X "range") (hm : X.mg "range" = none) (h : DO X C e o) (hst : starEach (e :: []) X.env = (false, eval e X.env) :: starEach [] X.env := by rfl) : DI X C tg (.Call (.Name "range" p) [e] [] pos) (rngM1 o) :=
  PIimp (pi_range1 hg hm (dos_cons h dos_nil hst) (hs := hst)) fun σ H R ⟨F, ρ, fs, r, q⟩ => by
    refine tG.mono (tI.bnd (rv := fun F H fs => RvOs C σ F H fs) r q) fun vs H1 ⟨F1, ρ1, fs1, xs, r1, x1, rd, q1⟩ => ?_
    obtain ⟨ds, hds, q2⟩ := tI.fins r1 rd q1
    obtain ⟨out, e, q3⟩ := tI.of (m := rngM1 o) (R := R) (ds := []) r1 q2
    cases hds with
    | nil => cases e
    | @cons v d _ _ hd t =>
      cases t with
      | cons _ _ => cases e
      | nil =>
        cases d with
        | int j =>
          have e : (if in62 j then some (upTo 0 j.toNat) else none) = some out := e
          split at e
          · rename_i hb
            have hb' := of_decide_eq_true hb
            cases e
            exact ⟨j, by rw [hd.int], by omega, by omega, q3 _ (walkD_range (by rw [sizeLine_eq]; omega))⟩
          · cases e
        | none => cases e
        | bool _ => cases e
        | str _ => cases e
        | list _ => cases e
        | tuple _ => cases e
        | dict _ => cases e
theorem di_range2 {e2 : Expr} {o o' : Opd} {p : Pos} (hg : Gl X "range") (hm : X.mg "range" = none) (h : DO X C e o) (h' : DO X C e2 o') (hst : starEach (e :: [e2]) X.env = (false, eval e X.env) :: starEach [e2] X.env := by rfl) (hst' : starEach [e2] X.env = (false, eval e2 X.env) :: starEach [] X.env := by rfl) :
    DI X C tg (.Call (.Name "range" p) [e, e2] [] pos) (rngM2 o o') :=
  PIimp (pi_range2 hg hm (dos_cons h (dos_cons h' dos_nil hst') hst) (hs := by rw [hst, hst']; rfl) (hs2 := hst')) fun σ H R ⟨F, ρ, fs, r, q⟩ => by
    refine tG.mono (tI.bnd (rv := fun F H fs => RvOs C σ F H fs) r q) fun vs H1 ⟨F1, ρ1, fs1, xs, r1, x1, rd, q1⟩ => ?_
    obtain ⟨ds, hds, q2⟩ := tI.fins r1 rd q1
    obtain ⟨out, e, q3⟩ := tI.of (m := rngM1 o) (R := R) (ds := []) r1 q2
    cases hds with
    | nil => cases e
    | @cons v d _ _ hd t =>
      cases t with
      | nil => cases e
      | @cons v2 d2 _ _ hd2 t =>
        cases t with
        | cons _ _ => cases e
        | nil =>
          cases d with
          | int i =>
            cases d2 with
            | int j =>
              have e : (if in62 i && in62 j && decide (j - i ≤ 16777216) then some (upTo i (j - i).toNat) else none) = some out := e
              split at e
              · rename_i hb
                rw [Bool.and_eq_true, Bool.and_eq_true] at hb
                have hb1 := of_decide_eq_true hb.1.1
                have hb2 := of_decide_eq_true hb.1.2
                have hb3 := of_decide_eq_true hb.2
                cases e
                exact ⟨i, j, by rw [hd.int, hd2.int], ⟨by omega, by omega, by omega, by omega⟩, q3 _ (walkD_range (by rw [sizeLine_eq]; omega))⟩
              · cases e
            | none => cases e
            | bool _ => cases e
            | str _ => cases e
            | list _ => cases e
            | tuple _ => cases e
            | dict _ => cases e
          | none => cases e
          | bool _ => cases e
          | str _ => cases e
          | list _ => cases e
          | tuple _ => cases e
          | dict _ => cases e

/-! ## for -/
def forL (g : TgM) (body : SM) : List PyData → SM
  | [] => .next
  | d :: ds => fun ρ => match g d ρ with
    | none => .fail
    | some ρ1 => match body ρ1 with
      | .next ρ2 => forL g body ds ρ2
      | .cont ρ2 => forL g body ds ρ2
      | .brk ρ2 => .next ρ2
      | .ret d ρ2 => .ret d ρ2
      | .retO d ρ2 => .retO d ρ2
      | .err c d => .err c d
      | .fail => .fail
def forM (m : ME (List PyData)) (g : TgM) (body : SM) : SM := bndS m fun ds => forL g body ds
theorem ds_for {m : ME (List PyData)} {is : List Nat} {g : TgM} {mb : SM} {body : List Stmt} (hp : PassesOwn (model X.prog X.w) X.A X.env X.xe) (hc : X.calm = true) (hi : DI X C tg iter m) (hg : DG X C tg is g) (hb : DSs X C body mb)
    (hs : ∀ x, foldedSetIterable iter X.env x = pure x := by intro _; rfl) : DS X C (.For tg iter body [] pos) (forM m g mb) := PS.imp (ps_for hp hc hi hg hb hs) fun D σ H ⟨F, ρ, fs, r, q⟩ => by
  refine ⟨F, ρ, fs, r, ?_⟩
  unfold forM bndS at q
  cases e : m ρ with
  | err c d => rw [e] at q; exact q
  | fail => rw [e] at q; exact q
  | ok p =>
    obtain ⟨ds, ρ1⟩ := p
    rw [e] at q
    intro J H1 F1 fs1 r1 x1 w
    have q := ResS.ext x1 q
    refine ⟨fun i n σ' H' => n = ds.length - i ∧ i ≤ ds.length ∧ ∃ F2 ρ2 fs2, Rel C F2 H' σ' ρ2 fs2 ∧ Sub F1 F2 ∧ ResS C D F2 H' fs2 (forL g mb (ds.drop i) ρ2), ⟨_, rfl, Nat.zero_le _, F1, ρ1, fs1, r1, fun _ _ z => z, by simpa using q⟩, ?_⟩
    rintro i n σ' H' ⟨rfl, hi, F2, ρ2, fs2, r2, s2, q2⟩
    by_cases hlt : i < ds.length
    · refine .inr ⟨w.goes i H' hlt (s2.trans r2.sub), fun σ'' H'' => ∃ F3 ρ3 fs3, Rel C F3 H'' σ'' ρ3 fs3 ∧ Sub F1 F3 ∧ ResS C D F3 H'' fs3 (forL g mb (ds.drop (i + 1)) ρ3), fun σ'' H'' z => ⟨ds.length - (i + 1), by omega, rfl, hlt, z⟩, fun x H2 y => ?_⟩
      obtain ⟨F3, d, a3, hd, dp⟩ := w.yields i H' x H2 F2 hlt s2 r2.sub r2.sz y
      have hdrop : ds.drop i = d :: ds.drop (i + 1) := by
        obtain ⟨h1, h2⟩ := List.getElem?_eq_some_iff.mp hd
        rw [← h2]
        exact List.drop_eq_getElem_cons hlt
      rw [hdrop] at q2
      unfold forL at q2
      have r3 := r2.aext a3
      have q2 := ResS.ext a3.ext (fs1 := fs2) q2
      cases eg : g d ρ2 with
      | none => simp only [eg] at q2; exact q2.elim
      | some ρ3 =>
        simp only [eg] at q2
        refine ⟨F3, ρ2, fs2, d, ρ3, r3, dp, eg, fun σ4 H4 F4 fs4 _ r4 x4 => ⟨F4, ρ3, fs4, r4, ?_⟩⟩
        have q2 := ResS.ext x4 q2
        have s4 : Sub F1 F4 := (s2.trans a3.fz).trans x4.fz
        cases eb : mb ρ3 with
        | next ρ5 => simp only [eb] at q2; exact fun σ5 H5 F5 fs5 r5 x5 => ⟨F5, ρ5, fs5, r5, s4.trans x5.fz, ResS.ext x5 q2⟩
        | cont ρ5 => simp only [eb] at q2; exact fun σ5 H5 F5 fs5 r5 x5 => ⟨F5, ρ5, fs5, r5, s4.trans x5.fz, ResS.ext x5 q2⟩
        | brk ρ5 => simp only [eb] at q2; exact q2
        | ret d ρ5 => simp only [eb] at q2; exact q2
        | retO d ρ5 => simp only [eb] at q2; exact q2
        | err c d => simp only [eb] at q2; exact q2
        | fail => simp only [eb] at q2; exact q2
    · have e : i = ds.length := by omega
      subst e
      rw [List.drop_length] at q2
      exact .inl ⟨w.stops H' (s2.trans r2.sub), q2 σ' H' F2 fs2 r2 .refl⟩

/-! ## while -/
def whileN (c : ME Bool) (body : SM) : Nat → SM
  | 0 => fun _ => .fail
  | n + 1 => bndS c fun k => if k then (fun ρ => match body ρ with
      | .next ρ2 => whileN c body n ρ2
      | .cont ρ2 => whileN c body n ρ2
      | .brk ρ2 => .next ρ2
      | .ret d ρ2 => .ret d ρ2
      | .retO d ρ2 => .retO d ρ2
      | .err c d => .err c d
      | .fail => .fail) else .next
theorem whileN_up (c : ME Bool) (body : SM) : ∀ (n : Nat) (ρ : MEnv), whileN c body n ρ ≠ .fail → ∀ m, n ≤ m → whileN c body m ρ = whileN c body n ρ
  | 0, ρ, h, m, _ => absurd rfl h
  | n + 1, ρ, h, 0, hm => absurd hm (by omega)
  | n + 1, ρ, h, m + 1, hm => by
    unfold whileN bndS at h ⊢
    cases e : c ρ with
    | err _ _ => rfl
    | fail => rfl
    | ok p =>
      obtain ⟨k, ρ1⟩ := p
      rw [e] at h
      cases k with
      | false => rfl
      | true =>
        simp only [if_true] at h ⊢
        cases eb : body ρ1 with
        | next ρ2 => simp only [eb] at h ⊢; exact whileN_up c body n ρ2 h m (by omega)
        | cont ρ2 => simp only [eb] at h ⊢; exact whileN_up c body n ρ2 h m (by omega)
        | brk ρ2 => rfl
        | ret d ρ2 => rfl
        | retO d ρ2 => rfl
        | err c d => rfl
        | fail => rfl
open Classical in
noncomputable def whileM (c : ME Bool) (body : SM) : SM := fun ρ => if h : ∃ n, whileN c body n ρ ≠ .fail then whileN c body (Classical.choose h) ρ else .fail
theorem whileM_of {c : ME Bool} {body : SM} {n : Nat} {ρ : MEnv} {r : SR} (h : whileN c body n ρ = r) (hr : r ≠ .fail) : whileM c body ρ = r := by
  have hex : ∃ n, whileN c body n ρ ≠ .fail := ⟨n, by rw [h]; exact hr⟩
  unfold whileM
  rw [dif_pos hex]
  have h2 := Classical.choose_spec hex
  rcases Nat.le_total n (Classical.choose hex) with z | z
  · rw [whileN_up c body n ρ (by rw [h]; exact hr) _ z]; exact h
  · rw [← whileN_up c body _ ρ h2 _ z]; exact h
theorem whileM_ne {c : ME Bool} {body : SM} {ρ : MEnv} (h : whileM c body ρ ≠ .fail) : ∃ n, whileN c body n ρ = whileM c body ρ := by
  unfold whileM at h ⊢
  split at h
  · rename_i hex
    exact ⟨_, by rw [dif_pos hex]⟩
  · exact absurd rfl h
/-- one turn -/
theorem whileM_step {c : ME Bool} {body : SM} {ρ : MEnv} : whileM c body ρ = bndS c (fun k => if k then (fun ρ => match body ρ with
      | .next ρ2 => whileM c body ρ2
      | .cont ρ2 => whileM c body ρ2
      | .brk ρ2 => .next ρ2
      | .ret d ρ2 => .ret d ρ2
      | .retO d ρ2 => .retO d ρ2
      | .err c d => .err c d
      | .fail => .fail) else .next) ρ := by
  have key : ∀ ρ2 r, whileM c body ρ2 = r → r ≠ .fail → ∃ n, whileN c body n ρ2 = r := fun ρ2 r e hr => by
    subst e
    exact whileM_ne hr
  by_cases h : whileM c body ρ = .fail
  · have hn : ∀ n, whileN c body n ρ = .fail := fun n => Classical.byContradiction fun z => by
      have := whileM_of (n := n) (ρ := ρ) rfl z
      rw [h] at this
      exact z this.symm
    rw [h]
    unfold bndS
    cases e : c ρ with
    | err c' d => have := hn 1; unfold whileN bndS at this; rw [e] at this; cases this
    | fail => rfl
    | ok p =>
      obtain ⟨k, ρ1⟩ := p
      cases k with
      | false => have := hn 1; unfold whileN bndS at this; rw [e] at this; cases this
      | true =>
        simp only [if_true]
        have go : ∀ ρ2, (∀ n, whileN c body n ρ2 = .fail) → SR.fail = whileM c body ρ2 := fun ρ2 z => Classical.byContradiction fun w => by
          obtain ⟨n, e⟩ := whileM_ne (c := c) (body := body) (ρ := ρ2) fun y => w y.symm
          rw [z n] at e
          exact w e
        cases eb : body ρ1 with
        | next ρ2 => exact go ρ2 fun n => by have := hn (n + 1); unfold whileN bndS at this; simpa only [e, if_true, eb] using this
        | cont ρ2 => exact go ρ2 fun n => by have := hn (n + 1); unfold whileN bndS at this; simpa only [e, if_true, eb] using this
        | brk ρ2 => have := hn 1; unfold whileN bndS at this; simp only [e, if_true, eb] at this; cases this
        | ret d ρ2 => have := hn 1; unfold whileN bndS at this; simp only [e, if_true, eb] at this; cases this
        | retO d ρ2 => have := hn 1; unfold whileN bndS at this; simp only [e, if_true, eb] at this; cases this
        | err c' d => have := hn 1; unfold whileN bndS at this; simp only [e, if_true, eb] at this; cases this
        | fail => rfl
  · obtain ⟨n, e⟩ := whileM_ne h
    rw [← e] at h ⊢
    cases n with
    | zero => exact absurd rfl h
    | succ n =>
      unfold whileN bndS at h ⊢
      cases ec : c ρ with
      | err c' d => rfl
      | fail => rfl
      | ok p =>
        obtain ⟨k, ρ1⟩ := p
        rw [ec] at h
        cases k with
        | false => rfl
        | true =>
          simp only [if_true] at h ⊢
          cases eb : body ρ1 with
          | next ρ2 => simp only [eb] at h ⊢; exact (whileM_of rfl h).symm
          | cont ρ2 => simp only [eb] at h ⊢; exact (whileM_of rfl h).symm
          | brk ρ2 => rfl
          | ret d ρ2 => rfl
          | retO d ρ2 => rfl
          | err c d => rfl
          | fail => rfl
theorem ds_while {c : Expr} {mc : ME Bool} {mb : SM} {body : List Stmt} (hp : PassesOwn (model X.prog X.w) X.A X.env X.xe) (hc : DT X C c mc) (hb : DSs X C body mb) : DS X C (.While c body [] pos) (whileM mc mb) := PS.imp (ps_while hp hc hb) fun D σ H ⟨F, ρ, fs, r, q⟩ => by
  have hne : whileM mc mb ρ ≠ .fail := fun z => by rw [z] at q; exact q
  obtain ⟨n, e⟩ := whileM_ne hne
  rw [← e] at q
  refine ⟨fun m σ H => ∃ F ρ fs, Rel C F H σ ρ fs ∧ ResS C D F H fs (whileN mc mb m ρ), ⟨n, F, ρ, fs, r, q⟩, ?_⟩
  rintro m σ1 H1 ⟨F1, ρ1, fs1, r1, q1⟩
  cases m with
  | zero => exact q1.elim
  | succ m =>
    unfold whileN at q1
    refine tG.mono (ResS.bnd (rv := rvB) r1 q1) fun v H2 ⟨F2, ρ2, fs2, x, r2, x2, rd, q2⟩ => ?_
    subst rd
    cases v with
    | false => exact q2 σ1 H2 F2 fs2 r2 .refl
    | true =>
      refine ⟨fun σ' H' => ∃ F ρ fs, Rel C F H' σ' ρ fs ∧ ResS C D F H' fs (whileN mc mb m ρ), fun σ' H' z => ⟨m, Nat.lt_succ_self m, z⟩, F2, ρ2, fs2, r2, ?_⟩
      simp only [if_true] at q2
      cases eb : mb ρ2 with
      | next ρ5 => simp only [eb] at q2; exact fun σ5 H5 F5 fs5 r5 x5 => ⟨F5, ρ5, fs5, r5, ResS.ext x5 q2⟩
      | cont ρ5 => simp only [eb] at q2; exact fun σ5 H5 F5 fs5 r5 x5 => ⟨F5, ρ5, fs5, r5, ResS.ext x5 q2⟩
      | brk ρ5 => simp only [eb] at q2; exact q2
      | ret d ρ5 => simp only [eb] at q2; exact q2
      | retO d ρ5 => simp only [eb] at q2; exact q2
      | err c d => simp only [eb] at q2; exact q2
      | fail => simp only [eb] at q2; exact q2
end
end M
set_option Elab.async false
set_option linter.all false
set_option maxRecDepth 100000
set_option maxHeartbeats 4000000
namespace M
open PySem PySem.Spec PyProof.Rows L2

/-! ## comprehensions -/
section
variable {X : Cx} {C C' : Cc} {k : Nat} {e a b tg iter elt : Expr} {es : List Expr} {pos : Pos} {σ : L2.St} {F H : Hp} {ρ : MEnv} {fs : Fs} {st : Stmt} {rest : List Stmt} {D : Ends} {K : PySem.W.Frag}
theorem SlotR.cc (h1 : C.K = C'.K) (h2 : C.pa = C'.pa) {x : Option (Option V)} {f : List Addr} {s : Slot} (h : SlotR C F H x f s) : SlotR C' F H x f s := by
  obtain ⟨K, mg, pa, E⟩ := C
  obtain ⟨K', mg', pa', E'⟩ := C'
  cases h1; cases h2
  cases s <;> exact h
theorem Rel.cc (h1 : C.K = C'.K) (h2 : C.pa = C'.pa) (r : Rel C F H σ ρ fs) : Rel C' F H σ ρ fs :=
  ⟨r.len, fun i s h => (r.slot i s h).cc h1 h2, r.trk, r.lim, r.dis, r.nd, r.out, r.sub, h1 ▸ r.sz⟩
/-- a slot forgotten -/
theorem Rel.wipe1 (r : Rel C F H σ ρ fs) (i : Nat) : Rel C F H (σ.set i none) (ρ.set i .un) (upF fs i []) ∧ Ext F H fs F H (upF fs i []) := by
  refine ⟨⟨by rw [List.length_set, List.length_set]; exact r.len, fun j s hs => ?_, fun j b hj => ?_, ?_, fun j l b hj hl => ?_, fun j => ?_, fun j b hb => ?_, r.sub, r.sz⟩, ⟨fun _ _ z => z, fun _ _ z _ => z, fun j b hb => ?_, fun _ z => z, fun b z => .inl z⟩⟩
  · by_cases e : j = i
    · subst e
      have hj : j < ρ.length := by have := (List.getElem?_eq_some_iff.mp hs).1; simpa using this
      rw [List.getElem?_set_self hj] at hs
      have : s = .un := by simpa using hs.symm
      subst this
      exact upF_same
    · rw [List.getElem?_set_ne (Ne.symm e)] at hs
      rw [upF_ne e, List.getElem?_set_ne (Ne.symm e)]
      exact r.slot j s hs
  · by_cases e : j = i
    · subst e; rw [upF_same] at hj; cases hj
    · rw [upF_ne e] at hj; exact r.trk j b hj
  · obtain ⟨L, h⟩ := r.lim
    refine ⟨L, fun j hj => ?_⟩
    by_cases e : j = i
    · subst e; exact upF_same
    · rw [upF_ne e]; exact h j hj
  · by_cases e : j = i
    · subst e; rw [upF_same] at hj; cases hj
    · by_cases e' : l = i
      · subst e'; rw [upF_same] at hl; cases hl
      · rw [upF_ne e] at hj; rw [upF_ne e'] at hl; exact r.dis j l b hj hl
  · by_cases e : j = i
    · subst e; rw [upF_same]; exact List.nodup_nil
    · rw [upF_ne e]; exact r.nd j
  · by_cases e : j = i
    · subst e; rw [upF_same] at hb; cases hb
    · rw [upF_ne e] at hb; exact r.out j b hb
  · by_cases e : j = i
    · subst e; rw [upF_same] at hb; cases hb
    · rw [upF_ne e] at hb; exact .inl ⟨j, hb⟩
def wipeE : List Nat → MEnv → MEnv
  | [], ρ => ρ
  | v :: vs, ρ => setS (wipeE vs ρ) v .un
theorem Rel.wipe (r : Rel C F H σ ρ fs) : ∀ vs : List Nat, ∃ fs', Rel C F H (L2.wipe σ vs) (wipeE vs ρ) fs' ∧ Ext F H fs F H fs'
  | [] => ⟨fs, r, .refl⟩
  | v :: vs => by
    obtain ⟨fs1, r1, x1⟩ := r.wipe vs
    obtain ⟨r2, x2⟩ := r1.wipe1 v
    unfold wipeE L2.wipe
    rw [setS_eq]
    exact ⟨_, r2, x1.trans x2⟩
theorem wipe_in {σ : L2.St} {i : Nat} : ∀ {vs : List Nat}, i ∈ vs → i < σ.length → (L2.wipe σ vs)[i]? = some none
  | v :: vs, h, hl => by
    unfold L2.wipe
    by_cases e : v = i
    · subst e
      rw [List.getElem?_set_self (by rw [L2.wipe_length]; exact hl)]
    · rw [List.getElem?_set_ne e]
      rcases List.mem_cons.mp h with z | z
      · exact absurd z.symm e
      · exact wipe_in z hl
theorem wipe_keeps {σ σ' : L2.St} {is vs : List Nat} (h : ∀ i ∈ is, i ∈ vs) (k : Keeps is σ σ') : L2.wipe σ' vs = L2.wipe σ vs := by
  refine List.ext_getElem? fun i => ?_
  by_cases hi : i ∈ vs
  · by_cases hl : i < σ.length
    · rw [wipe_in hi hl, wipe_in hi (by rw [k.1]; exact hl)]
    · rw [List.getElem?_eq_none (by rw [L2.wipe_length, k.1]; omega), List.getElem?_eq_none (by rw [L2.wipe_length]; omega)]
  · rw [L2.wipe_out hi, L2.wipe_out hi]
    exact k.2 i fun z => hi (h i z)
theorem wipe_wipe {σ : L2.St} {vs : List Nat} : L2.wipe (L2.wipe σ vs) vs = L2.wipe σ vs := by
  refine List.ext_getElem? fun i => ?_
  by_cases hi : i ∈ vs
  · by_cases hl : i < σ.length
    · rw [wipe_in hi hl, wipe_in hi (by rw [L2.wipe_length]; exact hl)]
    · rw [List.getElem?_eq_none (by rw [L2.wipe_length, L2.wipe_length]; omega), List.getElem?_eq_none (by rw [L2.wipe_length]; omega)]
  · rw [L2.wipe_out hi]
/-- a slot as it was -/
theorem Rel.back {i : Nat} {x : Option V} (r : Rel C F H (σ.set i none) ρ fs) {s : Slot} (hx : σ[i]? = some x) (hs : s = .un ∨ ∃ d v, s = .fz d ∧ x = some v ∧ Dp C.K F v d) : Rel C F H σ (ρ.set i s) (upF fs i []) := by
  have hl : σ.length = ρ.length := by have := r.len; simpa using this
  refine ⟨by rw [List.length_set]; exact hl, fun j t ht => ?_, fun j b hj => ?_, ?_, fun j l b hj hl => ?_, fun j => ?_, fun j b hb => ?_, r.sub, r.sz⟩
  · by_cases e : j = i
    · subst e
      have hj : j < ρ.length := by have := (List.getElem?_eq_some_iff.mp ht).1; simpa using this
      rw [List.getElem?_set_self hj] at ht
      have : t = s := by simpa using ht.symm
      subst this
      rw [upF_same, hx]
      rcases hs with rfl | ⟨d, v, rfl, rfl, hd⟩
      · exact rfl
      · exact ⟨rfl, v, rfl, hd⟩
    · rw [List.getElem?_set_ne (Ne.symm e)] at ht
      rw [upF_ne e]
      have z := r.slot j t ht
      rw [List.getElem?_set_ne (Ne.symm e)] at z
      exact z
  · by_cases e : j = i
    · subst e; rw [upF_same] at hj; cases hj
    · rw [upF_ne e] at hj; exact r.trk j b hj
  · obtain ⟨L, h⟩ := r.lim
    refine ⟨L, fun j hj => ?_⟩
    by_cases e : j = i
    · subst e; exact upF_same
    · rw [upF_ne e]; exact h j hj
  · by_cases e : j = i
    · subst e; rw [upF_same] at hj; cases hj
    · by_cases e' : l = i
      · subst e'; rw [upF_same] at hl; cases hl
      · rw [upF_ne e] at hj; rw [upF_ne e'] at hl; exact r.dis j l b hj hl
  · by_cases e : j = i
    · subst e; rw [upF_same]; exact List.nodup_nil
    · rw [upF_ne e]; exact r.nd j
  · by_cases e : j = i
    · subst e; rw [upF_same] at hb; cases hb
    · rw [upF_ne e] at hb; exact r.out j b hb
/-- only slots that hold no list of one's own are hidden by a comprehension's names -/
def hidable (ρ : MEnv) : List Nat → Bool
  | [] => true
  | v :: vs => (match getS ρ v with | .ol _ _ => false | _ => true) && !(vs.contains v) && hidable ρ vs
def restE (ρ : MEnv) : List Nat → MEnv → MEnv
  | [], ρ' => ρ'
  | v :: vs, ρ' => restE ρ vs (setS ρ' v (getS ρ v))
theorem Rel.resto {F' H' : Hp} (r : Rel C F H σ ρ fs) (hF : Sub F F') : ∀ (vs : List Nat) {ρ' : MEnv} {fs' : Fs}, hidable ρ vs = true → Rel C F' H' (L2.wipe σ vs) ρ' fs' → ∃ fs'', Rel C F' H' σ (restE ρ vs ρ') fs'' ∧ Ext F' H' fs' F' H' fs''
  | [], ρ', fs', _, r' => ⟨fs', r', .refl⟩
  | v :: vs, ρ', fs', hh, r' => by
    unfold hidable at hh
    rw [Bool.and_eq_true, Bool.and_eq_true] at hh
    obtain ⟨⟨h1, h2⟩, h3⟩ := hh
    unfold L2.wipe at r'
    have nv : v ∉ vs := by simpa using h2
    unfold restE
    rw [setS_eq]
    have up : ∀ {g : List Addr}, Ext F' H' fs' F' H' (upF fs' v []) := fun {g} => ⟨fun _ _ z => z, fun _ _ z _ => z, fun j b hb => by
      by_cases e : j = v
      · subst e; rw [upF_same] at hb; cases hb
      · rw [upF_ne e] at hb; exact .inl ⟨j, hb⟩, fun _ z => z, fun b z => .inl z⟩
    by_cases hv : v < σ.length
    · have ex : (L2.wipe σ vs)[v]? = some σ[v] := by rw [L2.wipe_out nv, List.getElem?_eq_getElem hv]
      have hs : getS ρ v = .un ∨ ∃ d w, getS ρ v = .fz d ∧ σ[v] = some w ∧ Dp C.K F' w d := by
        cases e : getS ρ v with
        | un => exact .inl rfl
        | ol n ds => rw [e] at h1; cases h1
        | fz d =>
          obtain ⟨_, w, q1, q2⟩ := r.slot v _ (getS_of e (by simp))
          rw [List.getElem?_eq_getElem hv] at q1
          exact .inr ⟨d, w, rfl, by simpa using q1, Dp.mono hF d q2⟩
      have r2 := r'.back ex hs
      obtain ⟨fs2, r3, x3⟩ := r.resto hF vs h3 r2
      exact ⟨fs2, r3, (up (g := [])).trans x3⟩
    · have el : ρ'.length = σ.length := by have := r'.len; rw [List.length_set, L2.wipe_length] at this; exact this.symm
      rw [List.set_eq_of_length_le (by omega)]
      rw [List.set_eq_of_length_le (by rw [L2.wipe_length]; omega)] at r'
      exact r.resto hF vs h3 r'
/-- an object that is nobody's own is changed or laid -/
theorem Rel.other (r : Rel C F H σ ρ fs) {p : Addr} {o : HO} (hn : ∀ i, p ∉ fs i) (hF : F p = none) : Rel C F (upd H p o) σ ρ fs :=
  ⟨r.len, fun i s h => by
    have z := r.slot i s h
    cases s with
    | un => exact z
    | fz d => exact z
    | ol n es =>
      obtain ⟨b, us, h1, h2, h3, h4⟩ := z
      exact ⟨b, us, h1, h2, by rw [upd_ne (fun e => hn i (by rw [h2, e]; simp))]; exact h3, h4⟩, fun i a h => by
    obtain ⟨vs, z⟩ := r.trk i a h
    exact ⟨vs, by rw [upd_ne (fun e => hn i (by rw [← e]; exact h))]; exact z⟩, r.lim, r.dis, r.nd, r.out, fun a o' h => by
    rw [upd_ne (ne_of_none h hF)]; exact r.sub a o' h, r.sz⟩
/-- a list that is nobody's becomes one's own -/
theorem Rel.adopt (r : Rel C F H σ ρ fs) {p : Addr} {vs : List V} (hp : H p = some (.lst vs)) (hn : ∀ i, p ∉ fs i) (hF : F p = none) {j : Nat} (hj : σ.length ≤ j) (hf : fs j = []) : Rel C F H σ ρ (upF fs j [p]) := by
  refine ⟨r.len, fun i s h => ?_, fun i a h => ?_, ?_, fun i l a h1 h2 => ?_, fun i => ?_, fun i a h => ?_, r.sub, r.sz⟩
  · have hi : i < ρ.length := (List.getElem?_eq_some_iff.mp h).1
    rw [upF_ne (by have := r.len; omega)]
    exact r.slot i s h
  · by_cases e : i = j
    · subst e
      rw [upF_same] at h
      have : a = p := by simpa using h
      subst this
      exact ⟨vs, hp⟩
    · rw [upF_ne e] at h; exact r.trk i a h
  · obtain ⟨L, h⟩ := r.lim
    refine ⟨max L (j + 1), fun i hi => ?_⟩
    rw [upF_ne (by omega)]
    exact h i (by omega)
  · by_cases e1 : i = j
    · by_cases e2 : l = j
      · rw [e1, e2]
      · subst e1
        rw [upF_same] at h1
        rw [upF_ne e2] at h2
        have : a = p := by simpa using h1
        subst this
        exact absurd h2 (hn l)
    · by_cases e2 : l = j
      · subst e2
        rw [upF_same] at h2
        rw [upF_ne e1] at h1
        have : a = p := by simpa using h2
        subst this
        exact absurd h1 (hn i)
      · rw [upF_ne e1] at h1
        rw [upF_ne e2] at h2
        exact r.dis i l a h1 h2
  · by_cases e : i = j
    · subst e; rw [upF_same]; simp
    · rw [upF_ne e]; exact r.nd i
  · by_cases e : i = j
    · subst e
      rw [upF_same] at h
      have : a = p := by simpa using h
      subst this
      exact hF
    · rw [upF_ne e] at h; exact r.out i a h
def compT (vs : List Nat) (g : TgM) (t : ME Bool) (m : ME PyData) (d : PyData) : ME (Option PyData) := fun ρ => match g d ρ with
  | none => .fail
  | some ρ1 => match t ρ1 with
    | .ok (false, ρ2) => .ok (none, wipeE vs ρ2)
    | .ok (true, ρ2) => match m ρ2 with
      | .ok (y, ρ3) => .ok (some y, wipeE vs ρ3)
      | _ => .fail
    | _ => .fail
def compL (vs : List Nat) (g : TgM) (t : ME Bool) (m : ME PyData) : List PyData → ME (List PyData)
  | [] => ret []
  | d :: ds => bnd (compT vs g t m d) fun o => bnd (compL vs g t m ds) fun r => ret (o.toList ++ r)
def compM (w : ME (List PyData)) (vs : List Nat) (g : TgM) (t : ME Bool) (m : ME PyData) : ME (List PyData) := bnd w fun ds ρ =>
  if hidable ρ vs then match compL vs g t m ds (wipeE vs ρ) with
    | .ok (out, ρ2) => .ok (out, restE ρ vs ρ2)
    | _ => .fail
  else .fail
/-- within a comprehension nothing is raised -/
abbrev Cc.in0 (C : Cc) : Cc := { C with E := fun _ _ _ => False }
abbrev DTs (X : Cx) (C : Cc) (ifs : List Expr) (m : ME Bool) : Prop := PTs X ifs (tG C rvB m)
theorem dts_nil : DTs X C [] (ret true) := ⟨fun pins s σ H Q I ⟨F, ρ, fs, r, q⟩ => pts_nil.run pins s σ H Q I (q true H F fs r .refl rfl)⟩
theorem dts_one {m : ME Bool} (h : DT X C e m) : DTs X C [e] m := pts_one h
theorem compL_noerr {vs : List Nat} {g : TgM} {t : ME Bool} {m : ME PyData} {ds : List PyData} {c : Str} {d : PyData} : ∀ {ρ : MEnv}, compL vs g t m ds ρ ≠ .err c d := by
  induction ds with
  | nil => exact fun z => nomatch z
  | cons x ds ih =>
    intro ρ z
    unfold compL bnd at z
    cases e : compT vs g t m x ρ with
    | err c' d' =>
      unfold compT at e
      repeat' (split at e)
      all_goals cases e
    | fail => rw [e] at z; cases z
    | ok p =>
      rw [e] at z
      simp only at z
      cases e2 : compL vs g t m ds p.2 with
      | err c' d' => rw [e2] at z; exact ih (ρ := p.2) (by cases z; exact e2)
      | fail => rw [e2] at z; cases z
      | ok p2 => rw [e2] at z; cases z
theorem lc_imp {w : ME (List PyData)} {is : List Nat} {own : List (Str × Nat)} {g : TgM} {t : ME Bool} {m : ME PyData} (hv : ∀ i ∈ is, i ∈ own.map (·.2)) {σ : L2.St} {H : Hp} {Q : VK}
    (h : tG C (rvF C σ) (compM w (own.map (·.2)) g t m) σ H Q) : tLc (tI C w) (gM C.in0 is g) (tG C.in0 rvB t) (tG C.in0 (rvD C.in0) m) (own.map (·.2)) σ H Q := by
  obtain ⟨F, ρ, fs, r, q⟩ := h
  refine ⟨F, ρ, fs, r, ?_⟩
  unfold compM bnd at q
  cases e : w ρ with
  | err c d => rw [e] at q; exact q
  | fail => rw [e] at q; exact q
  | ok p =>
    obtain ⟨ds, ρ1⟩ := p
    rw [e] at q
    simp only at q
    by_cases hh : hidable ρ1 (own.map (·.2)) = true
    · rw [if_pos hh] at q
      cases ec : compL (own.map (·.2)) g t m ds (wipeE (own.map (·.2)) ρ1) with
      | err c d => rw [ec] at q; exact q.elim
      | fail => rw [ec] at q; exact q.elim
      | ok p2 =>
        obtain ⟨out, ρe⟩ := p2
        rw [ec] at q
        simp only at q
        intro J H1 F1 fs1 r1 x1 wk D hD
        have nD : ∀ i, D ∉ fs1 i := fun i hi => by
          obtain ⟨vs, e⟩ := r1.trk i D hi
          rw [hD] at e; cases e
        have FD := none_of_sub r1.sub hD
        obtain ⟨fsw, rw', xw⟩ := r1.wipe (own.map (·.2))
        refine ⟨fun i n H' => n = ds.length - i ∧ i ≤ ds.length ∧ ∃ F2 ρ2 fs2 acc done tail, Rel C F2 H' (L2.wipe σ (own.map (·.2))) ρ2 fs2 ∧ Ext F1 H1 fs1 F2 H' fs2 ∧ (∀ i, D ∉ fs2 i) ∧ F2 D = none ∧ H' D = some (.lst acc) ∧ DpAll C.K F2 acc done ∧ done.length ≤ i ∧
          compL (own.map (·.2)) g t m (ds.drop i) ρ2 = .ok (tail, ρe) ∧ done ++ tail = out, ⟨_, rfl, Nat.zero_le _, F1, wipeE (own.map (·.2)) ρ1, fsw, [], [], out, ?_, ?_, ?_, FD, upd_same, .nil, Nat.le_refl _, by simpa using ec, rfl⟩, ?_⟩
        · exact rw'.other (fun i hi => by
            rcases xw.own i D hi with ⟨j, z⟩ | z
            · exact nD j z
            · obtain ⟨vs, e⟩ := rw'.trk i D hi
              rw [hD] at e; cases e) FD
        · exact xw.trans ⟨fun _ _ z => z, fun a o z _ => by rw [upd_ne (ne_of_none z hD)]; exact z, fun i a z => .inl ⟨i, z⟩, fun a z => by
            by_cases e : a = D
            · exact e ▸ hD
            · rw [upd_ne e] at z; exact z, fun a z => .inl z⟩
        · intro i hi
          obtain ⟨vs, e⟩ := rw'.trk i D hi
          rw [hD] at e; cases e
        rintro i n H' ⟨rfl, hil, F2, ρ2, fs2, acc, done, tail, r2, x2, n2, f2, h2, a2, l2, c2, o2⟩
        by_cases hlt : i < ds.length
        · refine .inr ⟨wk.goes i H' hlt ((show Sub F1 F2 from x2.fz).trans r2.sub), fun H'' => ∃ F2 ρ2 fs2 acc done tail, Rel C F2 H'' (L2.wipe σ (own.map (·.2))) ρ2 fs2 ∧ Ext F1 H1 fs1 F2 H'' fs2 ∧ (∀ i, D ∉ fs2 i) ∧ F2 D = none ∧ H'' D = some (.lst acc) ∧ DpAll C.K F2 acc done ∧ done.length ≤ i + 1 ∧
            compL (own.map (·.2)) g t m (ds.drop (i + 1)) ρ2 = .ok (tail, ρe) ∧ done ++ tail = out, fun H'' z => ⟨ds.length - (i + 1), by omega, rfl, hlt, z⟩, fun x H3 y => ?_⟩
          obtain ⟨F3, d, a3, hd, dp⟩ := wk.yields i H' x H3 F2 hlt x2.fz r2.sub r2.sz y
          have hdrop : ds.drop i = d :: ds.drop (i + 1) := by
            obtain ⟨h1, h2⟩ := List.getElem?_eq_some_iff.mp hd
            rw [← h2]
            exact List.drop_eq_getElem_cons hlt
          rw [hdrop] at c2
          unfold compL bnd at c2
          have r3 := r2.aext a3
          have x3 := x2.trans (a3.ext (fs := fs2))
          have h3 : H3 D = some (.lst acc) := a3.keep _ _ h2
          have f3 : F3 D = none := by
            cases z : F3 D with
            | none => rfl
            | some o =>
              rcases a3.new D (by rw [z]; simp) with z | z
              · exact absurd f2 z
              · rw [h2] at z; cases z
          have b3 := DpAll.mono a3.fz _ a2
          -- what is kept of D from here on
          have later : ∀ {F4 H4 : Hp} {fs4 : Fs}, Ext F3 H3 fs2 F4 H4 fs4 → (∀ i, D ∉ fs4 i) ∧ F4 D = none ∧ H4 D = some (.lst acc) := fun {F4 H4 fs4} x => by
            refine ⟨fun i hi => ?_, ?_, x.keep _ _ h3 n2⟩
            · rcases x.own i D hi with ⟨j, z⟩ | z
              · exact n2 j z
              · rw [h3] at z; cases z
            · cases z : F4 D with
              | none => rfl
              | some o =>
                rcases x.new D (by rw [z]; simp) with z | z | ⟨j, z⟩
                · exact absurd f3 z
                · rw [h3] at z; cases z
                · exact absurd z (n2 j)
          have hz : acc.length < sizeLine := by
            rw [DpAll.length a2]
            have := wk.len
            omega
          cases et : compT (own.map (·.2)) g t m d ρ2 with
          | err c d => rw [et] at c2; cases c2
          | fail => rw [et] at c2; cases c2
          | ok p3 =>
            obtain ⟨o, ρ3⟩ := p3
            rw [et] at c2
            simp only at c2
            cases el : compL (own.map (·.2)) g t m (ds.drop (i + 1)) ρ3 with
            | err c d => rw [el] at c2; cases c2
            | fail => rw [el] at c2; cases c2
            | ok p4 =>
              obtain ⟨tail', ρ4⟩ := p4
              rw [el] at c2
              have c2 : R.ok (o.toList ++ tail', ρ4) = R.ok (tail, ρe) := c2
              injection c2 with c2
              injection c2 with c3 c4
              subst c3
              subst c4
              unfold compT at et
              cases eg : g d ρ2 with
              | none => rw [eg] at et; cases et
              | some ρ5 =>
                rw [eg] at et
                simp only at et
                refine ⟨F3, ρ2, fs2, d, ρ5, Rel.cc (C := C) (C' := C.in0) rfl rfl r3, dp, eg, fun σ5 H5 F5 fs5 k5 r5 x5 => ⟨?_, F5, ρ5, fs5, r5, ?_⟩⟩
                · rw [wipe_keeps hv k5, wipe_wipe]
                have k5' : L2.wipe σ5 (own.map (·.2)) = L2.wipe σ (own.map (·.2)) := by rw [wipe_keeps hv k5, wipe_wipe]
                cases e5 : t ρ5 with
                | err c d => rw [e5] at et; cases et
                | fail => rw [e5] at et; cases et
                | ok p5 =>
                  obtain ⟨b, ρ6⟩ := p5
                  rw [e5] at et
                  intro b' H6 F6 fs6 r6 x6 eb
                  subst eb
                  cases b' with
                  | false =>
                    simp only at et
                    have et : R.ok (none, wipeE (own.map (·.2)) ρ6) = R.ok (o, ρ3) := et
                    injection et with et
                    injection et with et1 et2
                    subst et1
                    subst et2
                    obtain ⟨fs7, r7, x7⟩ := r6.wipe (own.map (·.2))
                    rw [k5'] at r7
                    have xx := (x5.trans x6).trans x7
                    obtain ⟨q1, q2, q3⟩ := later xx
                    simp only [Bool.false_eq_true, if_false]
                    exact ⟨F6, _, fs7, acc, done, tail', Rel.cc (C := C.in0) (C' := C) rfl rfl r7, x3.trans xx, q1, q2, q3, DpAll.mono xx.fz _ b3, by omega, el, o2⟩
                  | true =>
                    simp only at et
                    simp only [if_true]
                    cases e6 : m ρ6 with
                    | err c d => rw [e6] at et; cases et
                    | fail => rw [e6] at et; cases et
                    | ok p6 =>
                      obtain ⟨yd, ρ7⟩ := p6
                      rw [e6] at et
                      simp only at et
                      have et : R.ok (some yd, wipeE (own.map (·.2)) ρ7) = R.ok (o, ρ3) := et
                      injection et with et
                      injection et with et1 et2
                      subst et1
                      subst et2
                      refine ⟨F6, ρ6, fs6, r6, ?_⟩
                      rw [e6]
                      intro yv H7 F7 fs7 r7 x7 yd'
                      obtain ⟨fs8, r8, x8⟩ := r7.wipe (own.map (·.2))
                      rw [k5'] at r8
                      have xx := ((x5.trans x6).trans x7).trans x8
                      obtain ⟨q1, q2, q3⟩ := later xx
                      refine ⟨acc, q3, hz, F7, _, fs8, acc ++ [yv], done ++ [yd], tail', (Rel.cc (C := C.in0) (C' := C) rfl rfl r8).other q1 q2, ?_, q1, q2, upd_same, DpAll.append (DpAll.mono xx.fz _ b3) (.cons yd' .nil), by simp; omega, el, by simpa using o2⟩
                      refine ⟨(x3.trans xx).fz, fun a o z nz => ?_, (x3.trans xx).own, fun a z => ?_, (x3.trans xx).new⟩
                      · rw [upd_ne (ne_of_none z hD)]; exact (x3.trans xx).keep a o z nz
                      · by_cases e : a = D
                        · exact e ▸ hD
                        · rw [upd_ne e] at z; exact (x3.trans xx).dom a z
        · have e : i = ds.length := by omega
          subst e
          rw [List.drop_length] at c2
          have c2 : R.ok ([], ρ2) = R.ok (tail, ρe) := c2
          injection c2 with c2
          injection c2 with c3 c4
          subst c3
          subst c4
          have o2' : done = out := by simpa using o2
          subst o2'
          refine .inl ⟨wk.stops H' ((show Sub F1 F2 from x2.fz).trans r2.sub), ?_⟩
          obtain ⟨fs3, r3, x3⟩ := r1.resto x2.fz (own.map (·.2)) hh r2
          have n3 : ∀ i, D ∉ fs3 i := fun i hi => by
            rcases x3.own i D hi with ⟨j, z⟩ | z
            · exact n2 j z
            · rw [h2] at z; cases z
          obtain ⟨j, hj, hf⟩ := r3.index
          have xe := (x1.trans x2).trans x3
          refine q (.ref D) H' F2 _ (r3.adopt h2 n3 f2 hj hf) ⟨xe.fz, xe.keep, fun l a hl => ?_, xe.dom, xe.new⟩ ⟨D, acc, j, rfl, upF_same, hj, h2, a2, by rw [DpAll.length a2]; have := wk.len; omega⟩
          by_cases e : l = j
          · subst e
            rw [upF_same] at hl
            have : a = D := by simpa using hl
            subst this
            exact .inr (x1.dom _ hD)
          · rw [upF_ne e] at hl; exact xe.own l a hl
    · rw [if_neg hh] at q
      exact q.elim
theorem df_lc {ifs : List Expr} {scope : Scope} {own : List (Str × Nat)} {w : ME (List PyData)} {is : List Nat} {g : TgM} {t : ME Bool} {m : ME PyData} (hc : X.calm = true) (hN : X.N.Nodup) (hi : DI X C tg iter w) (ok : BlkOk X.N X.env.scope scope own)
    (hg : ∀ (s : Shared) (H : Hp) (D : Addr) (cl : List (Str × Addr)) (fp : List Addr), DG (X.blk s H scope (compEnvC scope cl D X.env) fp) C.in0 tg is g)
    (ht : ∀ (s : Shared) (H : Hp) (D : Addr) (cl : List (Str × Addr)) (fp : List Addr), DTs (X.blk s H scope (compEnvC scope cl D X.env) fp) C.in0 ifs t)
    (he : ∀ (s : Shared) (H : Hp) (D : Addr) (cl : List (Str × Addr)) (fp : List Addr), DE (X.blk s H scope (compEnvC scope cl D X.env) fp) C.in0 elt m)
    (hv : ∀ i ∈ is, i ∈ own.map (·.2) := by decide) (hs : ∀ x, foldedSetIterable iter X.env x = pure x := by intro _; rfl) :
    DF X C (.ListComp elt [⟨tg, iter, ifs, 0⟩] scope pos) (compM w (own.map (·.2)) g t m) := PE.imp (pe_lc hc hN hi ok hg ht he hs) fun σ H Q h => lc_imp hv h
/-- name = [..] on one line, the name a local: a list of one's own -/
theorem ds_setLcO {i : Nat} {y : Str} {py spos : Pos} {ifs : List Expr} {scope : Scope} {own : List (Str × Nat)} {w : ME (List PyData)} {is : List Nat} {g : TgM} {t : ME Bool} {m : ME PyData} (hc : X.calm = true) (hN : X.N.Nodup) (hy : X.N[i]? = some y) (hyl : X.env.scope.names.lookup y = some .local)
    (hsw : swapsWith (.ListComp elt [⟨tg, iter, ifs, 0⟩] scope pos) (some (.Name y py)) spos.line X.env = pure true) (hi : DI X C tg iter w) (ok : BlkOk X.N X.env.scope scope own)
    (hg : ∀ (s : Shared) (H : Hp) (D : Addr) (cl : List (Str × Addr)) (fp : List Addr), DG (X.blk s H scope (compEnvC scope cl D X.env) fp) C.in0 tg is g)
    (ht : ∀ (s : Shared) (H : Hp) (D : Addr) (cl : List (Str × Addr)) (fp : List Addr), DTs (X.blk s H scope (compEnvC scope cl D X.env) fp) C.in0 ifs t)
    (he : ∀ (s : Shared) (H : Hp) (D : Addr) (cl : List (Str × Addr)) (fp : List Addr), DE (X.blk s H scope (compEnvC scope cl D X.env) fp) C.in0 elt m)
    (hv : ∀ i ∈ is, i ∈ own.map (·.2) := by decide) (hs : ∀ x, foldedSetIterable iter X.env x = pure x := by intro _; rfl) :
    DS X C (.Assign [.Name y py] (.ListComp elt [⟨tg, iter, ifs, 0⟩] scope pos) spos) (asgO (compM w (own.map (·.2)) g t m) i) := PS.imp (ps_setLc hc hN hy hyl hsw hi ok hg ht he hs) fun D σ H ⟨F, ρ, fs, r, q⟩ => by
  refine lc_imp hv (tG.mono (ResS.bnd (rv := rvF C σ) r q) fun v H1 ⟨F1, ρ1, fs1, d, r1, x1, rd, q1⟩ => ?_)
  cases e : putS i (.ol none d) ρ1 with
  | none => simp only [e] at q1; exact q1.elim
  | some ρ' =>
    simp only [e] at q1
    have e' := putS_eq e
    subst e'
    obtain ⟨fs2, r2, x2⟩ := r1.putO (i := i) rd
    exact q1 _ H1 F1 _ r2 x2
/-- a list of one's own, frozen at once -/
def frzM (m : ME (List PyData)) : ME PyData := bnd m fun ds => ret (.list ds)
theorem Rel.freezeJ (r : Rel C F H σ ρ fs) {v : V} {ds : List PyData} (h : rvF C σ F H fs v ds) : ∃ F' fs', Rel C F' H σ ρ fs' ∧ Ext F H fs F' H fs' ∧ Dp C.K F' v (.list ds) := by
  obtain ⟨a, vs, j, rfl, hf, hj, ha, hd, hl⟩ := h
  have aj : a ∈ fs j := by rw [hf]; simp
  have hF : F a = none := r.out j a aj
  have up : ∀ x o, F x = some o → upd F a (.lst vs) x = some o := fun x o z => by rw [upd_ne (ne_of_none z hF)]; exact z
  refine ⟨upd F a (.lst vs), upF fs j [], ⟨r.len, fun i s hs => ?_, fun i b hb => ?_, ?_, fun i l b h1 h2 => ?_, fun i => ?_, fun i b hb => ?_, fun x o z => ?_, ?_⟩, ⟨up, fun _ _ z _ => z, fun i b hb => ?_, fun _ z => z, fun b z => ?_⟩, Dp.newL hd hF⟩
  · have hi : i < ρ.length := (List.getElem?_eq_some_iff.mp hs).1
    rw [upF_ne (by have := r.len; omega)]
    have z := r.slot i s hs
    cases s with
    | un => exact z
    | fz d => exact ⟨z.1, let ⟨v, q1, q2⟩ := z.2; ⟨v, q1, Dp.mono up d q2⟩⟩
    | ol m es =>
      obtain ⟨b, us, q1, q2, q3, q4, q5⟩ := z
      exact ⟨b, us, q1, q2, q3, DpAll.mono up es q4, q5⟩
  · by_cases e : i = j
    · subst e; rw [upF_same] at hb; cases hb
    · rw [upF_ne e] at hb; exact r.trk i b hb
  · obtain ⟨L, h⟩ := r.lim
    refine ⟨L, fun i hi => ?_⟩
    by_cases e : i = j
    · subst e; exact upF_same
    · rw [upF_ne e]; exact h i hi
  · by_cases e : i = j
    · subst e; rw [upF_same] at h1; cases h1
    · by_cases e' : l = j
      · subst e'; rw [upF_same] at h2; cases h2
      · rw [upF_ne e] at h1; rw [upF_ne e'] at h2; exact r.dis i l b h1 h2
  · by_cases e : i = j
    · subst e; rw [upF_same]; exact List.nodup_nil
    · rw [upF_ne e]; exact r.nd i
  · by_cases e : i = j
    · subst e; rw [upF_same] at hb; cases hb
    · rw [upF_ne e] at hb
      have : b ≠ a := fun z => e (r.dis i j b hb (z ▸ aj))
      rw [upd_ne this]; exact r.out i b hb
  · by_cases e : x = a
    · subst e; rw [upd_same] at z; cases z; exact ha
    · rw [upd_ne e] at z; exact r.sub x o z
  · refine ⟨fun b xs z => ?_, fun b xs z => ?_⟩
    · rcases z with (z | ⟨ob, z⟩) | z
      · by_cases e : b = a
        · subst e; rw [upd_same] at z; cases z; exact hl
        · rw [upd_ne e] at z; exact r.sz.l b xs (.inl (.inl z))
      · by_cases e : b = a
        · subst e; rw [upd_same] at z; cases z
        · rw [upd_ne e] at z; exact r.sz.l b xs (.inl (.inr ⟨ob, z⟩))
      · exact r.sz.l b xs (.inr z)
    · rcases z with (z | ⟨ob, z⟩) | z
      · by_cases e : b = a
        · subst e; rw [upd_same] at z; cases z
        · rw [upd_ne e] at z; exact r.sz.t b xs (.inl (.inl z))
      · by_cases e : b = a
        · subst e; rw [upd_same] at z; cases z
        · rw [upd_ne e] at z; exact r.sz.t b xs (.inl (.inr ⟨ob, z⟩))
      · exact r.sz.t b xs (.inr z)
  · by_cases e : i = j
    · subst e; rw [upF_same] at hb; cases hb
    · rw [upF_ne e] at hb; exact .inl ⟨i, hb⟩
  · by_cases e : b = a
    · subst e; exact .inr (.inr ⟨j, aj⟩)
    · rw [upd_ne e] at z; exact .inl z
theorem de_frz {m : ME (List PyData)} (h : DF X C e m) : DE X C e (frzM m) := PE.imp h fun σ H Q ⟨F, ρ, fs, r, q⟩ => by
  refine tG.mono (Res.bnd (rv := rvF C σ) r q) fun v H1 ⟨F1, ρ1, fs1, x, r1, x1, rd, q1⟩ => ?_
  obtain ⟨F2, fs2, r2, x2, d2⟩ := r1.freezeJ rd
  exact q1 v H1 F2 fs2 r2 x2 d2
/-- name = [..], the list frozen -/
theorem ds_setLc {i : Nat} {y : Str} {py spos : Pos} {ifs : List Expr} {scope : Scope} {own : List (Str × Nat)} {w : ME (List PyData)} {is : List Nat} {g : TgM} {t : ME Bool} {m : ME PyData} (hc : X.calm = true) (hN : X.N.Nodup) (hy : X.N[i]? = some y) (hyl : X.env.scope.names.lookup y = some .local)
    (hsw : swapsWith (.ListComp elt [⟨tg, iter, ifs, 0⟩] scope pos) (some (.Name y py)) spos.line X.env = pure true) (hi : DI X C tg iter w) (ok : BlkOk X.N X.env.scope scope own)
    (hg : ∀ (s : Shared) (H : Hp) (D : Addr) (cl : List (Str × Addr)) (fp : List Addr), DG (X.blk s H scope (compEnvC scope cl D X.env) fp) C.in0 tg is g)
    (ht : ∀ (s : Shared) (H : Hp) (D : Addr) (cl : List (Str × Addr)) (fp : List Addr), DTs (X.blk s H scope (compEnvC scope cl D X.env) fp) C.in0 ifs t)
    (he : ∀ (s : Shared) (H : Hp) (D : Addr) (cl : List (Str × Addr)) (fp : List Addr), DE (X.blk s H scope (compEnvC scope cl D X.env) fp) C.in0 elt m)
    (hv : ∀ i ∈ is, i ∈ own.map (·.2) := by decide) (hs : ∀ x, foldedSetIterable iter X.env x = pure x := by intro _; rfl) :
    DS X C (.Assign [.Name y py] (.ListComp elt [⟨tg, iter, ifs, 0⟩] scope pos) spos) (asgM (frzM (compM w (own.map (·.2)) g t m)) (tgN i)) := PS.imp (ps_setLc hc hN hy hyl hsw hi ok hg ht he hs) fun D σ H ⟨F, ρ, fs, r, q⟩ => by
  have fold : asgM (frzM (compM w (own.map (·.2)) g t m)) (tgN i) ρ = bndS (compM w (own.map (·.2)) g t m) (fun ds ρ => match tgN i (.list ds) ρ with
      | some ρ' => .next ρ'
      | none => .fail) ρ := by
    unfold asgM bndS frzM bnd
    cases compM w (own.map (·.2)) g t m ρ <;> rfl
  rw [fold] at q
  refine lc_imp hv (tG.mono (ResS.bnd (rv := rvF C σ) r q) fun v H1 ⟨F1, ρ1, fs1, d, r1, x1, rd, q1⟩ => ?_)
  obtain ⟨F2, fs2, r2, x2, d2⟩ := r1.freezeJ rd
  cases e : tgN i (.list d) ρ1 with
  | none => simp only [e] at q1; exact q1.elim
  | some ρ' =>
    simp only [e] at q1
    have e' := putS_eq e
    subst e'
    obtain ⟨r3, x3⟩ := r2.put (i := i) d2
    exact q1 _ H1 F2 _ r3 (x2.trans x3)
end
end M
set_option Elab.async false
set_option linter.all false
set_option maxRecDepth 100000
set_option maxHeartbeats 4000000
namespace M
open PySem PySem.Spec PyProof.Rows L2

/-! ## defs: promises by mirrors -/
/-- a context whose facts are all at hand -/
structure Gd (X : Cx) (C : Cc) (k : Nat) : Prop where
  g : Good X C k
  pass : Passes (L2.CX X.prog X.w) X C.E
  own : PassesOwn (model X.prog X.w) X.A X.env X.xe
/-- a def keeps a promise wherever no repr is under way -/
structure FnG (P : Program) (w : World) (K : PySem.W.Frag) (mg : Str → Option Value) (base : Heap) (k : Nat) (f : Addr) (fd : FuncData) (ps : List Str) (sp : Sp) : Prop where
  arity : ∀ vs H Q E, sp vs H Q E → vs.length = ps.length
  go : ∀ (A : Around) (frames : List Env) (s : Shared) (H : Hp) (args : Args) (us : List Value) (vs : List V) (Q : VK) (E : XK), Room k A → A.guards = some [] → Env0 P w K mg base A frames s H → BindsTo s fd args (ps.zip us) → Vals vs us → sp vs H Q E →
    codeAny (model P w) A (.call (.ref f) args) (CR (L2.CX P w) frames P w H s Q E) s
theorem FnG.up {P : Program} {w : World} {K : PySem.W.Frag} {mg : Str → Option Value} {base : Heap} {j k : Nat} {f : Addr} {fd : FuncData} {ps : List Str} {sp : Sp} (h : FnG P w K mg base j f fd ps sp) (hj : j ≤ k) : FnG P w K mg base k f fd ps sp :=
  ⟨h.arity, fun A fr s H args us vs Q E room => h.go A fr s H args us vs Q E (room.mono hj)⟩
section
variable {X : Cx} {C : Cc} {k j : Nat} {f : Addr} {fd : FuncData} {ps : List Str} {sp : Sp} {x : Str} {p pos : Pos} {e : Expr} {es : List Expr} {t : TA}
theorem runG {pins : List (Addr × Obj)} {σ : L2.St} {H : Hp} {s : Shared} {Q : VK} {us : List Value} {vs : List V} (G : Gd X C k) (hj : j ≤ k) (fn : FnG X.prog X.w X.K X.mg X.base j f fd ps sp) (bd : Binds X.K fd ps []) (I : Inv X pins σ H s) (rel : Vals vs us) (wish : sp vs H Q C.E) :
    wpAny (model X.prog X.w) X.A (call (.ref f) us) (EP X pins σ Q) X.xe s := by
  have count : us.length = ps.length := by rw [← rel.length]; exact fn.arity _ _ _ _ wish
  have bound := bd s us I.kIn (by simpa using count)
  rw [List.append_nil] at bound
  refine wpAny_call (codeAny_mono (fn.go X.A X.stack s H ⟨us, []⟩ us vs Q C.E (G.g.room.mono hj) G.g.guards I.env0 bound rel wish) fun out s1 z => ?_)
  match out, z with
  | .error u, z => exact G.pass pins σ H s u s1 I z
  | .ok (.ret u), z => exact I.after z
theorem pe_callG (G : Gd X C k) (hj : j ≤ k) (fn : FnG X.prog X.w X.K X.mg X.base j f fd ps sp) (hg : Gl X x) (hm : X.mg x = some (.ref f)) (hk : PySem.W.keepIn X.K (.ref f) = true) (bd : Binds X.K fd ps []) (ha : PA X (e :: es) t)
    (hdb : (x == ("__debug__" : Str)) = false := by decide) (hst : starEach (e :: es) X.env = (false, eval e X.env) :: starEach es X.env := by rfl) (hpl : (backTo pos (starEach es X.env)).any (·.1) = false := by rfl) :
    PE X (.Call (.Name x p) (e :: es) [] pos) (fun σ H Q => t σ H fun vs H1 => sp vs H1 Q C.E) :=
  ⟨fun pins s σ H Q I h => wpAny_Call_Name_kw (ld_glob I hg hm (PySem.W.callWith_K (h₀ := X.base) I.ok.mod.kin hk (thn (ha.run pos pins s σ H _ I h) fun us s1 z =>
    let ⟨vs, H1, I1, rel, wish⟩ := z; ⟨I1.kIn, runG G hj fn bd I1 rel wish⟩) hst hpl) hdb)⟩
/-! ### a def of values: F tells what it gives -/
/-- what is wanted of an answer: by the data; nothing that stood has changed -/
def OutP (K : PySem.W.Frag) (mg : Str → Option Value) (E : XK) (F H : Hp) (Q : VK) : R PyData → Prop
  | .ok d => ∀ v F' H', AExt K F H F' H' → Dp K F' v d → Q v H'
  | .err c d => ∃ cl, mg c = some (.ref cl) ∧ ∀ dx H' F' v, AExt K F H F' H' → H' dx = some (.xd [("value", v)]) → H dx = none → F' dx = none → Dp K F' v d → E (.ref cl) (some dx) H'
  | .fail => False
def spP (K : PySem.W.Frag) (mg : Str → Option Value) (n : Nat) (g : List PyData → R PyData) : Sp := fun vs H Q E => vs.length = n ∧ ∃ F ds, Sub F H ∧ SzOk K F ∧ DpAll K F vs ds ∧ OutP K mg E F H Q (g ds)
/-- f(e, ..) of a def of values -/
def callP (g : List PyData → R PyData) (ms : List (ME PyData)) : ME PyData := bnd (evs ms) fun ds => lft (g ds)
theorem AExt.rel {σ : L2.St} {ρ : MEnv} {F H F' H' : Hp} {fs : Fs} (r : Rel C F H σ ρ fs) (a : AExt C.K F H F' H') : Rel C F' H' σ ρ fs := r.aext a
theorem de_callP {g : List PyData → R PyData} {ms : List (ME PyData)} {n : Nat} {m : ME PyData} (G : Gd X C k) (hj : j ≤ k) (fn : FnG X.prog X.w X.K X.mg X.base j f fd ps (spP X.K X.mg n g)) (hg : Gl X x) (hm : X.mg x = some (.ref f)) (hk : PySem.W.keepIn X.K (.ref f) = true) (bd : Binds X.K fd ps [])
    (h : DL X C (e :: es) (m :: ms)) (hn : (e :: es).length = n := by rfl) (hlen : ms.length = es.length := by rfl)
    (hdb : (x == ("__debug__" : Str)) = false := by decide) (hst : starEach (e :: es) X.env = (false, eval e X.env) :: starEach es X.env := by rfl) (hpl : (backTo pos (starEach es X.env)).any (·.1) = false := by rfl) :
    DE X C (.Call (.Name x p) (e :: es) [] pos) (callP g (m :: ms)) := PE.imp (pe_callG G hj fn hg hm hk bd h hdb hst hpl) fun σ H Q ⟨F, ρ, fs, r, q⟩ => by
  obtain ⟨K, mg, pa, E⟩ := C
  obtain rfl : K = X.K := G.g.K
  obtain rfl : mg = X.mg := G.g.mg
  have lenE : ∀ (l : List (ME PyData)) (ρ : MEnv) ds ρ', evs l ρ = .ok (ds, ρ') → ds.length = l.length := by
    intro l
    induction l with
    | nil => intro ρ ds ρ' z; cases z; rfl
    | cons a l ih =>
      intro ρ ds ρ' z
      unfold evs bnd at z
      cases ea : a ρ with
      | err _ _ => rw [ea] at z; cases z
      | fail => rw [ea] at z; cases z
      | ok p =>
        rw [ea] at z
        simp only at z
        cases el : evs l p.2 with
        | err _ _ => rw [el] at z; cases z
        | fail => rw [el] at z; cases z
        | ok p2 =>
          rw [el] at z
          have z : R.ok (p.1 :: p2.1, p2.2) = R.ok (ds, ρ') := z
          injection z with z
          injection z with z1 z2
          rw [← z1]
          simp [ih _ _ _ el]
  refine ⟨F, ρ, fs, r, ?_⟩
  unfold callP bnd at q
  cases e1 : evs (m :: ms) ρ with
  | err c d => rw [e1] at q; exact q
  | fail => rw [e1] at q; exact q
  | ok pq =>
    obtain ⟨ds, ρ1⟩ := pq
    rw [e1] at q
    intro vs H1 F1 fs1 r1 x1 rd
    have q : Res _ (rvD _) σ F1 H1 fs1 Q (lft (g ds) ρ1) := Res.ext x1 q
    refine ⟨by rw [DpAll.length rd, lenE _ _ _ _ e1, ← hn]; simp [hlen], F1, ds, r1.sub, r1.sz, rd, ?_⟩
    unfold lft at q
    cases eg : g ds with
    | ok d => rw [eg] at q; exact fun v F' H' a hd => q v H' F' fs1 (r1.aext a) (AExt.ext (C := ⟨X.K, X.mg, pa, E⟩) a) hd
    | err c d =>
      rw [eg] at q
      obtain ⟨cl, h1, h2⟩ := q
      exact ⟨cl, h1, fun dx H' F' v a hx hn hf hd => h2 dx H' F' fs1 v (AExt.ext (C := ⟨X.K, X.mg, pa, E⟩) a) a.sub a.sz hx hn hf hd⟩
    | fail => rw [eg] at q; exact q.elim
/-! ### a def whose first argument is a list of the caller's own, that it may change -/
def spR (K : PySem.W.Frag) (mg : Str → Option Value) (n : Nat) (g : List PyData → List PyData → R (PyData × List PyData)) : Sp := fun vs H Q E => vs.length = n ∧ ∃ F a us ds xs rest, vs = .ref a :: rest ∧ Sub F H ∧ SzOk K F ∧ F a = none ∧ H a = some (.lst xs) ∧ xs.length ≤ sizeLine ∧ DpAll K F xs us ∧ DpAll K F rest ds ∧
  match g us ds with
  | .ok (d, us') => ∀ v F' H' xs', Ext F H (fun i => if i = 0 then [a] else []) F' H' (fun i => if i = 0 then [a] else []) → Sub F' H' → SzOk K F' → F' a = none → H' a = some (.lst xs') → xs'.length ≤ sizeLine → DpAll K F' xs' us' → Dp K F' v d → Q v H'
  | .err _ _ => False
  | .fail => False
def callR (g : List PyData → List PyData → R (PyData × List PyData)) (i : Nat) (ms : List (ME PyData)) : ME PyData := fun ρ0 => match getS ρ0 i with
  | .ol _ _ => bnd (evs ms) (fun ds ρ => match getS ρ i with
    | .ol r us => (match g us ds with
      | .ok (d, us') => .ok (d, setS ρ i (.ol r us'))
      | _ => .fail)
    | _ => .fail) ρ0
  | _ => .fail
/-- the places of one list -/
def one (a : Addr) : Fs := fun i => if i = 0 then [a] else []
theorem mem_one {a b : Addr} {i : Nat} (h : b ∈ one a i) : b = a := by
  unfold one at h
  split at h
  · simpa using h
  · cases h
theorem one_self {a : Addr} : a ∈ one a 0 := by simp [one]
theorem Rel.called {σ : L2.St} {ρ : MEnv} {F H F' H' : Hp} {fs : Fs} (r : Rel C F H σ ρ fs) {i : Nat} {n : Option Nat} {us us' : List PyData} (hi : getS ρ i = .ol n us) {a : Addr} (ha : σ[i]? = some (some (.ref a))) (x : Ext F H (one a) F' H' (one a)) (hs : Sub F' H') (hz : SzOk C.K F') (hF : F' a = none)
    {xs' : List V} (hx : H' a = some (.lst xs')) (hl : xs'.length ≤ sizeLine) (hd : DpAll C.K F' xs' us') : Rel C F' H' σ (ρ.set i (.ol n us')) fs ∧ Ext F H fs F' H' fs := by
  have hi' := getS_of hi (by simp)
  obtain ⟨b, vs, h1, h2, h3, h4, h5, h6⟩ := r.slot i _ hi'
  rw [ha] at h1
  have : a = b := by simpa using h1
  subst this
  have ai : a ∈ fs i := by rw [h2]; simp
  refine ⟨⟨by rw [List.length_set]; exact r.len, fun j t ht => ?_, fun j b hb => ?_, r.lim, r.dis, r.nd, fun j b hb => ?_, hs, hz⟩, ⟨x.fz, fun b o hb n => x.keep b o hb fun l z => ?_, fun j b hb => .inl ⟨j, hb⟩, x.dom, fun b hb => ?_⟩⟩
  · by_cases e : j = i
    · subst e
      have hj : j < ρ.length := by have := (List.getElem?_eq_some_iff.mp ht).1; simpa using this
      rw [List.getElem?_set_self hj] at ht
      have : t = .ol n us' := by simpa using ht.symm
      subst this
      exact ⟨a, xs', ha, h2, hx, hd, hl, h6⟩
    · rw [List.getElem?_set_ne (Ne.symm e)] at ht
      have z := r.slot j t ht
      cases t with
      | un => exact z
      | fz d => exact ⟨z.1, let ⟨v, q1, q2⟩ := z.2; ⟨v, q1, Dp.mono x.fz d q2⟩⟩
      | ol m es =>
        obtain ⟨b, ws, q1, q2, q3, q4, q5⟩ := z
        refine ⟨b, ws, q1, q2, x.keep b _ q3 fun l z => ?_, DpAll.mono x.fz es q4, q5⟩
        have := mem_one z
        subst this
        exact e (r.dis j i b (by rw [q2]; simp) ai)
  · by_cases e : b = a
    · subst e; exact ⟨xs', hx⟩
    · obtain ⟨ws, z⟩ := r.trk j b hb
      exact ⟨ws, x.keep b _ z fun l y => e (mem_one y)⟩
  · by_cases e : b = a
    · subst e; exact hF
    · cases z : F' b with
      | none => rfl
      | some o =>
        rcases x.new b (by rw [z]; simp) with y | y | ⟨l, y⟩
        · exact absurd (r.out j b hb) y
        · obtain ⟨ws, q⟩ := r.trk j b hb
          rw [y] at q; cases q
        · exact absurd (mem_one y) e
  · have := mem_one z
    subst this
    exact n i ai
  · rcases x.new b hb with y | y | ⟨l, y⟩
    · exact .inl y
    · exact .inr (.inl y)
    · have := mem_one y
      subst this
      exact .inr (.inr ⟨i, ai⟩)
theorem evs_length : ∀ (l : List (ME PyData)) {ρ : MEnv} {ds : List PyData} {ρ' : MEnv}, evs l ρ = .ok (ds, ρ') → ds.length = l.length := by
  intro l
  induction l with
  | nil => intro ρ ds ρ' z; cases z; rfl
  | cons a l ih =>
    intro ρ ds ρ' z
    unfold evs bnd at z
    cases ea : a ρ with
    | err _ _ => rw [ea] at z; cases z
    | fail => rw [ea] at z; cases z
    | ok p =>
      rw [ea] at z
      simp only at z
      cases el : evs l p.2 with
      | err _ _ => rw [el] at z; cases z
      | fail => rw [el] at z; cases z
      | ok p2 =>
        rw [el] at z
        have z : R.ok (p.1 :: p2.1, p2.2) = R.ok (ds, ρ') := z
        injection z with z
        injection z with z1 z2
        rw [← z1]
        simp [ih el]
theorem de_callR {g : List PyData → List PyData → R (PyData × List PyData)} {ms : List (ME PyData)} {n i : Nat} {y : Str} {py : Pos} (G : Gd X C k) (hj : j ≤ k) (fn : FnG X.prog X.w X.K X.mg X.base j f fd ps (spR X.K X.mg n g)) (hg : Gl X x) (hm : X.mg x = some (.ref f)) (hk : PySem.W.keepIn X.K (.ref f) = true) (bd : Binds X.K fd ps [])
    (hN : X.N[i]? = some y) (hv : Vis X.env.scope y) (h : DL X C es ms) (hn : es.length + 1 = n := by rfl) (hlen : ms.length = es.length := by rfl) (hd : (y == ("__debug__" : Str)) = false := by decide) (hcd : (y == ("__classdict__" : Str)) = false := by decide)
    (hdb : (x == ("__debug__" : Str)) = false := by decide) (hst : starEach (.Name y py :: es) X.env = (false, eval (.Name y py) X.env) :: starEach es X.env := by rfl) (hpl : (backTo pos (starEach es X.env)).any (·.1) = false := by rfl) :
    DE X C (.Call (.Name x p) (.Name y py :: es) [] pos) (callR g i ms) := PE.imp (pe_callG G hj fn hg hm hk bd (pa_cons (pe_var hN hv hd hcd) h hst) hdb hst hpl) fun σ H Q ⟨F, ρ, fs, r, q⟩ => by
  obtain ⟨K, mg, pa, E⟩ := C
  obtain rfl : K = X.K := G.g.K
  obtain rfl : mg = X.mg := G.g.mg
  unfold callR at q
  cases e0 : getS ρ i with
  | un => rw [e0] at q; exact q.elim
  | fz d => rw [e0] at q; exact q.elim
  | ol m0 us0 =>
    rw [e0] at q
    simp only at q
    obtain ⟨a, _, ha, _⟩ := r.slot i _ (getS_of e0 (by simp))
    refine ⟨.ref a, ha, F, ρ, fs, r, ?_⟩
    unfold bnd at q
    cases e1 : evs ms ρ with
    | err c d => rw [e1] at q; exact q
    | fail => rw [e1] at q; exact q
    | ok pq =>
      obtain ⟨ds, ρ1⟩ := pq
      rw [e1] at q
      simp only at q
      intro vs H1 F1 fs1 r1 x1 rd
      cases e2 : getS ρ1 i with
      | un => rw [e2] at q; exact q.elim
      | fz d => rw [e2] at q; exact q.elim
      | ol m1 us =>
        rw [e2] at q
        simp only at q
        obtain ⟨b, xs, h1, h2, h3, h4, h5, h6⟩ := r1.slot i _ (getS_of e2 (by simp))
        rw [ha] at h1
        have : a = b := by simpa using h1
        subst this
        refine ⟨by rw [List.length_cons, DpAll.length rd, evs_length _ e1, ← hn, hlen], F1, a, us, ds, xs, vs, rfl, r1.sub, r1.sz, r1.out i a (by rw [h2]; simp), h3, h5, h4, rd, ?_⟩
        cases eg : g us ds with
        | err c d => rw [eg] at q; exact q.elim
        | fail => rw [eg] at q; exact q.elim
        | ok p =>
          obtain ⟨d, us'⟩ := p
          rw [eg] at q
          intro v F' H' xs' xx hs hz hF hx hl hd hdv
          obtain ⟨r2, x2⟩ := r1.called e2 ha xx hs hz hF hx hl hd
          rw [← setS_eq] at r2
          exact q v H' F' fs1 r2 (x1.trans x2) hdv
end

/-! ## a def's own body -/
section
variable {P : Program} {w : World} {K : PySem.W.Frag} {mg : Str → Option Value} {base : Heap} {k : Nat} {f : Addr} {fd : FuncData} {ps N : List Str} {sp : Sp} {x qual : Str} {st : Stmt}
/-- from a body's reading to the promise -/
theorem fn_body (fu : Fun K x qual st f fd) (sc : FnScope N ps (defScope st)) (arity : ∀ vs H Q E, sp vs H Q E → vs.length = ps.length)
    (body : ∀ (cdv : Value) (A : Around) (frames : List Env) (s : Shared) (H : Hp) (vs : List V) (Q : VK) (E : XK), Room k (A.deeper (envOfC qual (defScope st) s.heap.objs.size f cdv)) → A.guards = some [] → sp vs H Q E →
      ∃ t, PSs (cxOf (L2.CX P w) P w K mg base N qual (defScope st) f cdv A frames s H E) (defBody st) t ∧ t { nx := fun _ H' => Q .non H', rt := Q } (L2.start N vs) H) : FnG P w K mg base (k + 1) f fd ps sp := by
  obtain ⟨oc, od, kV, doc, pm, an, cdv, ct, osl, rfl, at_f, code⟩ := fu.ex
  refine ⟨arity, fun A frames s H args us vs Q E room gds e0 bnds rel wish => ?_⟩
  have inK : K.In s.heap := e0.mod.kin.keeps fun b o z => (e0.bs b o z).1
  have nolim : s.heap.NoLimit := e0.mod.nolimit.keeps fun b o z => (e0.bs b o z).1
  refine codeAny_call_function room.depth (inK _ _ at_f) rfl sc.co sc.gen rfl (PySem.W.codeRec_of inK code) (bnds _ _ _ _ (wpAny_newFunctionEnv_cells sc.kind (fun q hq => ?_) fun env he s1 born => ?_))
  · obtain ⟨nm, val⟩ := q
    refine (sc.par nm (List.of_mem_zip hq).1).elim .inl fun z => .inr ⟨z, PySem.W.cellsFrom_some _ _ _ (.inl z)⟩
  subst he
  refine ⟨nolim.keeps born.toInCall.keep, codeAny_func ?_⟩
  obtain ⟨t, ht, go⟩ := body cdv A frames s H vs Q E (room.deeper _) gds wish
  have at0 := inv_start (CX := L2.CX P w) (E := E) sc room.hd e0 (arity _ _ _ _ wish) rel born
  refine wpAny_mono (ht.run [] s1 (L2.start N vs) H _ at0 go) (fun fl s2 z => ?_) fun _ _ z => z
  match fl, z with
  | .ret u, ⟨v, σ2, H2, I2, rv, z⟩ => exact ⟨v, H2, I2.os, I2.bare, I2.base, I2.hok, rv, z⟩
  | .next, ⟨σ2, H2, I2, z⟩ => exact ⟨.non, H2, I2.os, I2.bare, I2.base, I2.hok, rfl, z⟩
  | .brk, ⟨_, _, _, z⟩ => exact False.elim z
  | .cont, ⟨_, _, _, z⟩ => exact False.elim z
/-- the slots at a def's begin -/
def startE (n : Nat) (ss : List Slot) : MEnv := ss ++ List.replicate (n - ss.length) .un
/-- what a body gives -/
def runP (n : Nat) (m : SM) (ds : List PyData) : R PyData := match m (startE n (ds.map .fz)) with
  | .ret d _ => .ok d
  | .retO ds _ => .ok (.list ds)
  | .next _ => .ok .none
  | .err c d => .err c d
  | _ => .fail
def noFs : Fs := fun _ => []
theorem rel_start {C : Cc} {F H : Hp} {vs : List V} {ds : List PyData} {n : Nat} (hN : N.length = n) (hs : Sub F H) (hz : SzOk C.K F) (hd : DpAll C.K F vs ds) : Rel C F H (L2.start N vs) (startE n (ds.map .fz)) noFs := by
  have hl := DpAll.length hd
  refine ⟨?_, fun i s h => ?_, fun i a h => (by cases h), ⟨0, fun _ _ => rfl⟩, fun i j a h => (by cases h), fun i => List.nodup_nil, fun i a h => (by cases h), hs, hz⟩
  · unfold L2.start startE
    simp [hl, hN]
  · unfold startE at h
    by_cases hi : i < ds.length
    · rw [List.getElem?_append_left (by simpa using hi), List.getElem?_map, List.getElem?_eq_getElem hi] at h
      have : s = .fz ds[i] := by simpa using h.symm
      subst this
      obtain ⟨v, h1, h2⟩ := DpAll.get hd (List.getElem?_eq_getElem hi)
      refine ⟨rfl, v, ?_, h2⟩
      unfold L2.start
      rw [List.getElem?_append_left (by rw [List.length_map, hl]; exact hi), List.getElem?_map, h1]
      rfl
    · rw [List.getElem?_append_right (by simpa using hi)] at h
      have : s = .un := by
        obtain ⟨_, h⟩ := List.getElem?_eq_some_iff.mp h
        simpa using h.symm
      subst this
      exact rfl
theorem ext_aext {K : PySem.W.Frag} {F H F' H' : Hp} {fs' : Fs} (x : Ext F H noFs F' H' fs') (hs : Sub F' H') (hz : SzOk K F') : AExt K F H F' H' :=
  ⟨x.fz, fun a o h => x.keep a o h fun i z => (by cases z), fun a h => (x.new a h).elim .inl fun z => z.elim .inr fun ⟨i, y⟩ => (by cases y), hs, hz⟩
/-- the context in which a def's body runs -/
abbrev bX (P : Program) (w : World) (K : PySem.W.Frag) (mg : Str → Option Value) (base : Heap) (N : List Str) (qual : Str) (st : Stmt) (f : Addr) (cdv : Value) (A : Around) (frames : List Env) (s : Shared) (H : Hp) (E : XK) : Cx :=
  cxOf (L2.CX P w) P w K mg base N qual (defScope st) f cdv A frames s H E
theorem gd_body {N ps : List Str} {cdv : Value} {A : Around} {frames : List Env} {s : Shared} {H : Hp} {E : XK} {pa : Nat → Addr} (sc : FnScope N ps (defScope st)) (room : Room k (A.deeper (envOfC qual (defScope st) s.heap.objs.size f cdv))) (gds : A.guards = some []) :
    Gd (bX P w K mg base N qual st f cdv A frames s H E) ⟨K, mg, pa, E⟩ k :=
  ⟨⟨rfl, rfl, room, rfl, sc.nd, gds⟩, passes_call (takes_of rfl rfl rfl rfl) fun _ _ _ _ z => z, passes_of rfl⟩
abbrev Body (P : Program) (w : World) (K : PySem.W.Frag) (mg : Str → Option Value) (base : Heap) (N : List Str) (qual : Str) (st : Stmt) (f : Addr) (k : Nat) (m : SM) : Prop :=
  ∀ (cdv : Value) (A : Around) (frames : List Env) (s : Shared) (H : Hp) (E : XK) (pa : Nat → Addr), Gd (bX P w K mg base N qual st f cdv A frames s H E) ⟨K, mg, pa, E⟩ k → DSs (bX P w K mg base N qual st f cdv A frames s H E) ⟨K, mg, pa, E⟩ (defBody st) m
/-- THE RULE for a def of values -/
theorem ok_P {n : Nat} {m : SM} (fu : Fun K x qual st f fd) (sc : FnScope N ps (defScope st)) (hN : N.length = n) (body : Body P w K mg base N qual st f k m) :
    FnG P w K mg base (k + 1) f fd ps (spP K mg ps.length (runP n m)) := by
  refine fn_body fu sc (fun vs H Q E h => h.1) fun cdv A frames s H vs Q E room gds ⟨hl, F, ds, hs, hz, hd, out⟩ => ?_
  refine ⟨_, body cdv A frames s H E (fun _ => 0) (gd_body sc room gds), F, _, noFs, rel_start (C := ⟨K, mg, fun _ => 0, E⟩) hN hs hz hd, ?_⟩
  unfold runP at out
  cases e : m (startE n (ds.map .fz)) with
  | next ρ => rw [e] at out; exact fun σ' H' F' fs' r x => out .non F' H' (ext_aext x r.sub r.sz) .non
  | ret d ρ => rw [e] at out; exact fun v σ' H' F' fs' r x q => out v F' H' (ext_aext x r.sub r.sz) q
  | retO d ρ =>
    rw [e] at out
    intro v σ' H' F' fs' r x q
    obtain ⟨F2, fs2, r2, x2, d2⟩ := r.freezeJ q
    exact out v F2 H' (ext_aext (x.trans x2) r2.sub r2.sz) d2
  | brk ρ => rw [e] at out; exact out.elim
  | cont ρ => rw [e] at out; exact out.elim
  | err c d =>
    rw [e] at out
    obtain ⟨cl, h1, h2⟩ := out
    exact ⟨cl, h1, fun dx H' F' fs' v x s' z hx hn hf hd => h2 dx H' F' v (ext_aext x s' z) hx hn hf hd⟩
  | fail => rw [e] at out; exact out.elim
/-- what a body gives whose first argument is the caller's own list -/
def runR (n : Nat) (m : SM) (us ds : List PyData) : R (PyData × List PyData) := match m (startE n (.ol (some 0) us :: ds.map .fz)) with
  | .ret d ρ => match getS ρ 0 with
    | .ol (some 0) us' => .ok (d, us')
    | _ => .fail
  | .retO es ρ => match getS ρ 0 with
    | .ol (some 0) us' => .ok (.list es, us')
    | _ => .fail
  | .next ρ => match getS ρ 0 with
    | .ol (some 0) us' => .ok (.none, us')
    | _ => .fail
  | _ => .fail
theorem rel_startR {C : Cc} {F H : Hp} {a : Addr} {xs vs : List V} {us ds : List PyData} {n : Nat} (hN : N.length = n) (hs : Sub F H) (hz : SzOk C.K F) (hd : DpAll C.K F vs ds) (ha : H a = some (.lst xs)) (hu : DpAll C.K F xs us) (hl : xs.length ≤ sizeLine) (hF : F a = none) (hpa : C.pa 0 = a) :
    Rel C F H (L2.start N (.ref a :: vs)) (startE n (.ol (some 0) us :: ds.map .fz)) (M.one a) := by
  have hl' := DpAll.length hd
  refine ⟨?_, fun i s h => ?_, fun i b h => ?_, ⟨1, fun i hi => if_neg (by omega)⟩, fun i j b h1 h2 => ?_, fun i => ?_, fun i b h => ?_, hs, hz⟩
  · unfold L2.start startE
    simp [hl', hN]
  · cases i with
    | zero =>
      have : s = .ol (some 0) us := by simpa [startE] using h.symm
      subst this
      exact ⟨a, xs, by simp [L2.start], by simp [M.one], ha, hu, hl, fun n e => by cases e; exact hpa.symm⟩
    | succ i =>
      have no : M.one a (i + 1) = [] := if_neg (by omega)
      have h : (ds.map Slot.fz ++ List.replicate (n - (Slot.ol (some 0) us :: ds.map .fz).length) .un)[i]? = some s := by simpa [startE] using h
      by_cases hi : i < ds.length
      · rw [List.getElem?_append_left (by simpa using hi), List.getElem?_map, List.getElem?_eq_getElem hi] at h
        have : s = .fz ds[i] := by simpa using h.symm
        subst this
        obtain ⟨v, h1, h2⟩ := DpAll.get hd (List.getElem?_eq_getElem hi)
        refine ⟨no, v, ?_, h2⟩
        unfold L2.start
        simp only [List.map_cons, List.cons_append, List.getElem?_cons_succ]
        rw [List.getElem?_append_left (by rw [List.length_map, hl']; exact hi), List.getElem?_map, h1]
        rfl
      · rw [List.getElem?_append_right (by simpa using hi)] at h
        have : s = .un := by
          obtain ⟨_, h⟩ := List.getElem?_eq_some_iff.mp h
          simpa using h.symm
        subst this
        exact no
  · have := mem_one h
    subst this
    exact ⟨xs, ha⟩
  · have : ∀ i, b ∈ M.one a i → i = 0 := fun i h => by
      unfold M.one at h
      split at h
      · assumption
      · cases h
    rw [this i h1, this j h2]
  · unfold M.one
    split
    · simp
    · exact List.nodup_nil
  · have := mem_one h
    subst this
    exact hF
theorem ok_R {n : Nat} {m : SM} (fu : Fun K x qual st f fd) (sc : FnScope N ps (defScope st)) (hN : N.length = n) (body : Body P w K mg base N qual st f k m) :
    FnG P w K mg base (k + 1) f fd ps (spR K mg ps.length (runR n m)) := by
  refine fn_body fu sc (fun vs H Q E h => h.1) fun cdv A frames s H vs Q E room gds ⟨hl, F, a, us, ds, xs, rest, ev, hs, hz, hF, ha, hlx, hu, hd, out⟩ => ?_
  subst ev
  refine ⟨_, body cdv A frames s H E (fun _ => a) (gd_body sc room gds), F, _, M.one a, rel_startR (C := ⟨K, mg, fun _ => a, E⟩) hN hs hz hd ha hu hlx hF rfl, ?_⟩
  have fin : ∀ {σ' : L2.St} {H' F' : Hp} {fs' : Fs} {ρ : MEnv} {us' : List PyData}, Rel ⟨K, mg, fun _ => a, E⟩ F' H' σ' ρ fs' → Ext F H (M.one a) F' H' fs' → getS ρ 0 = .ol (some 0) us' →
      ∃ xs', Ext F H (M.one a) F' H' (M.one a) ∧ F' a = none ∧ H' a = some (.lst xs') ∧ xs'.length ≤ sizeLine ∧ DpAll K F' xs' us' := fun {σ' H' F' fs' ρ us'} r x e => by
    obtain ⟨b, xs', _, h2, h3, h4, h5, h6⟩ := r.slot 0 _ (getS_of e (by simp))
    have : b = a := h6 0 rfl
    subst this
    exact ⟨xs', ⟨x.fz, x.keep, fun i c hc => .inl ⟨i, hc⟩, x.dom, x.new⟩, r.out 0 b (by rw [h2]; simp), h3, h5, h4⟩
  unfold runR at out
  cases e : m (startE n (.ol (some 0) us :: ds.map .fz)) with
  | next ρ =>
    rw [e] at out
    intro σ' H' F' fs' r x
    cases e0 : getS ρ 0 with
    | un => simp only [e0] at out
    | fz d => simp only [e0] at out
    | ol o us' =>
      match o, e0, out with
      | none, e0, out => simp only [e0] at out
      | some 0, e0, out =>
        simp only [e0] at out
        obtain ⟨xs', x', q1, q2, q3, q4⟩ := fin r x e0
        exact out .non F' H' xs' x' r.sub r.sz q1 q2 q3 q4 .non
      | some (j + 1), e0, out => simp only [e0] at out
  | ret d ρ =>
    rw [e] at out
    intro v σ' H' F' fs' r x q
    cases e0 : getS ρ 0 with
    | un => simp only [e0] at out
    | fz d => simp only [e0] at out
    | ol o us' =>
      match o, e0, out with
      | none, e0, out => simp only [e0] at out
      | some 0, e0, out =>
        simp only [e0] at out
        obtain ⟨xs', x', q1, q2, q3, q4⟩ := fin r x e0
        exact out v F' H' xs' x' r.sub r.sz q1 q2 q3 q4 q
      | some (j + 1), e0, out => simp only [e0] at out
  | retO es ρ =>
    rw [e] at out
    intro v σ' H' F' fs' r x q
    cases e0 : getS ρ 0 with
    | un => simp only [e0] at out
    | fz d => simp only [e0] at out
    | ol o us' =>
      match o, e0, out with
      | none, e0, out => simp only [e0] at out
      | some 0, e0, out =>
        simp only [e0] at out
        obtain ⟨F2, fs2, r2, x2, d2⟩ := r.freezeJ q
        obtain ⟨xs', x', q1, q2, q3, q4⟩ := fin r2 (x.trans x2) e0
        exact out v F2 H' xs' x' r2.sub r2.sz q1 q2 q3 q4 d2
      | some (j + 1), e0, out => simp only [e0] at out
  | brk ρ => rw [e] at out; exact out.elim
  | cont ρ => rw [e] at out; exact out.elim
  | err c d => rw [e] at out; exact out.elim
  | fail => rw [e] at out; exact out.elim
/-! ### a def that hands back a new list -/
def runF (n : Nat) (m : SM) (ds : List PyData) : R (List PyData) := match m (startE n (ds.map .fz)) with
  | .retO es _ => .ok es
  | .err c d => .err c d
  | _ => .fail
def spF (K : PySem.W.Frag) (mg : Str → Option Value) (n : Nat) (g : List PyData → R (List PyData)) : Sp := fun vs H Q E => vs.length = n ∧ ∃ F ds, Sub F H ∧ SzOk K F ∧ DpAll K F vs ds ∧
  match g ds with
  | .ok es => ∀ p xs F' H', AExt K F H F' H' → H p = none → F' p = none → H' p = some (.lst xs) → DpAll K F' xs es → xs.length ≤ sizeLine → Q (.ref p) H'
  | .err c d => ∃ cl, mg c = some (.ref cl) ∧ ∀ dx H' F' v, AExt K F H F' H' → H' dx = some (.xd [("value", v)]) → H dx = none → F' dx = none → Dp K F' v d → E (.ref cl) (some dx) H'
  | .fail => False
theorem ok_F {n : Nat} {m : SM} (fu : Fun K x qual st f fd) (sc : FnScope N ps (defScope st)) (hN : N.length = n) (body : Body P w K mg base N qual st f k m) :
    FnG P w K mg base (k + 1) f fd ps (spF K mg ps.length (runF n m)) := by
  refine fn_body fu sc (fun vs H Q E h => h.1) fun cdv A frames s H vs Q E room gds ⟨hl, F, ds, hs, hz, hd, out⟩ => ?_
  refine ⟨_, body cdv A frames s H E (fun _ => 0) (gd_body sc room gds), F, _, noFs, rel_start (C := ⟨K, mg, fun _ => 0, E⟩) hN hs hz hd, ?_⟩
  unfold runF at out
  cases e : m (startE n (ds.map .fz)) with
  | next ρ => rw [e] at out; exact out.elim
  | ret d ρ => rw [e] at out; exact out.elim
  | retO d ρ =>
    rw [e] at out
    intro v σ' H' F' fs' r x q
    obtain ⟨p, xs, j, rfl, hf, hj, hp, hdd, hll⟩ := q
    have pj : p ∈ fs' j := by rw [hf]; simp
    refine out p xs F' H' (ext_aext x r.sub r.sz) ?_ (r.out j p pj) hp hdd hll
    rcases x.own j p pj with ⟨i, z⟩ | z
    · cases z
    · exact z
  | brk ρ => rw [e] at out; exact out.elim
  | cont ρ => rw [e] at out; exact out.elim
  | err c d =>
    rw [e] at out
    obtain ⟨cl, h1, h2⟩ := out
    exact ⟨cl, h1, fun dx H' F' fs' v x s' z hx hn hf hd => h2 dx H' F' v (ext_aext x s' z) hx hn hf hd⟩
  | fail => rw [e] at out; exact out.elim
end
section
variable {X : Cx} {C : Cc} {k j : Nat} {f : Addr} {fd : FuncData} {ps : List Str} {sp : Sp} {x : Str} {p pos : Pos} {e : Expr} {es : List Expr} {t : TA}
def callF (g : List PyData → R (List PyData)) (ms : List (ME PyData)) : ME (List PyData) := bnd (evs ms) fun ds => lft (g ds)
theorem df_callF {g : List PyData → R (List PyData)} {ms : List (ME PyData)} {n : Nat} {m : ME PyData} (G : Gd X C k) (hj : j ≤ k) (fn : FnG X.prog X.w X.K X.mg X.base j f fd ps (spF X.K X.mg n g)) (hg : Gl X x) (hm : X.mg x = some (.ref f)) (hk : PySem.W.keepIn X.K (.ref f) = true) (bd : Binds X.K fd ps [])
    (h : DL X C (e :: es) (m :: ms)) (hn : (e :: es).length = n := by rfl) (hlen : ms.length = es.length := by rfl)
    (hdb : (x == ("__debug__" : Str)) = false := by decide) (hst : starEach (e :: es) X.env = (false, eval e X.env) :: starEach es X.env := by rfl) (hpl : (backTo pos (starEach es X.env)).any (·.1) = false := by rfl) :
    DF X C (.Call (.Name x p) (e :: es) [] pos) (callF g (m :: ms)) := PE.imp (pe_callG G hj fn hg hm hk bd h hdb hst hpl) fun σ H Q ⟨F, ρ, fs, r, q⟩ => by
  obtain ⟨K, mg, pa, E⟩ := C
  obtain rfl : K = X.K := G.g.K
  obtain rfl : mg = X.mg := G.g.mg
  refine ⟨F, ρ, fs, r, ?_⟩
  unfold callF bnd at q
  cases e1 : evs (m :: ms) ρ with
  | err c d => rw [e1] at q; exact q
  | fail => rw [e1] at q; exact q
  | ok pq =>
    obtain ⟨ds, ρ1⟩ := pq
    rw [e1] at q
    intro vs H1 F1 fs1 r1 x1 rd
    have q : Res _ (rvF _ σ) σ F1 H1 fs1 Q (lft (g ds) ρ1) := Res.ext x1 q
    refine ⟨by rw [DpAll.length rd, evs_length _ e1, ← hn]; simp [hlen], F1, ds, r1.sub, r1.sz, rd, ?_⟩
    unfold lft at q
    cases eg : g ds with
    | ok d =>
      rw [eg] at q
      intro p xs F' H' a hp hF hx hd hl
      have r2 := r1.aext a
      obtain ⟨l, hl1, hl2⟩ := r2.index
      have np : ∀ i, p ∉ fs1 i := fun i hi => by
        obtain ⟨ys, z⟩ := r1.trk i p hi
        rw [hp] at z; cases z
      have ax := AExt.ext (C := ⟨X.K, X.mg, pa, E⟩) (fs := fs1) a
      refine q (.ref p) H' F' _ (r2.adopt hx np hF hl1 hl2) ⟨ax.fz, ax.keep, fun i b hb => ?_, ax.dom, ax.new⟩ ⟨p, xs, l, rfl, upF_same, hl1, hx, hd, hl⟩
      by_cases e : i = l
      · subst e
        rw [upF_same] at hb
        have : b = p := by simpa using hb
        subst this
        exact .inr hp
      · rw [upF_ne e] at hb; exact .inl ⟨i, hb⟩
    | err c d =>
      rw [eg] at q
      obtain ⟨cl, h1, h2⟩ := q
      exact ⟨cl, h1, fun dx H' F' v a hx hn hf hd => h2 dx H' F' fs1 v (AExt.ext (C := ⟨X.K, X.mg, pa, E⟩) a) a.sub a.sz hx hn hf hd⟩
    | fail => rw [eg] at q; exact q.elim
/-- a comprehension's block is a good context, too -/
theorem Gd.blk (G : Gd X C k) {s : Shared} {H : Hp} {scope : Scope} {cenv : Env} {fp : List Addr} : Gd (X.blk s H scope cenv fp) C.in0 k :=
  ⟨⟨G.g.K, G.g.mg, G.g.room, G.g.calm, G.g.nd, G.g.guards⟩, passL, .never⟩
end
end M
set_option Elab.async false
set_option linter.all false
set_option maxRecDepth 100000
set_option maxHeartbeats 4000000
namespace M
open PySem PySem.Spec PyProof.Rows L2

/-! ## operations on data -/
section
variable {X : Cx} {C : Cc} {k : Nat} {F H : Hp} {K : PySem.W.Frag}
theorem Wants.now {Q : VK} {z : PyData} {v : V} (hs : Sub F H) (hz : SzOk K F) (w : Wants K F H Q (some z)) (hv : Dp K F v z) : Q v H := by
  obtain ⟨y, e, w⟩ := w
  cases e
  exact w v F H (.refl hs hz) hv
theorem Wants.no {Q : VK} {P : Prop} (w : Wants K F H Q none) : P := by
  obtain ⟨y, e, w⟩ := w
  cases e
theorem Wants.ite {Q : VK} {c : Prop} [Decidable c] {o : Option PyData} (w : Wants K F H Q (if c then o else none)) : c ∧ Wants K F H Q o := by
  by_cases h : c
  · rw [if_pos h] at w; exact ⟨h, w⟩
  · rw [if_neg h] at w; exact w.no
/-! ### + -/
def addD (d e : PyData) : Option PyData := match d, e with
  | .int a, .int b => some (.int (a + b))
  | .str a, .str b => if a.length + b.length ≤ sizeLine then some (.str (a ++ b)) else none
  | .list a, .list b => if a.length + b.length ≤ sizeLine then some (.list (a ++ b)) else none
  | .tuple a, .tuple b => if a.length + b.length ≤ sizeLine then some (.tuple (a ++ b)) else none
  | _, _ => none
def rAddA (K : PySem.W.Frag) : R2 := fun x y H Q => rI0 (fun i j => .int (i + j)) x y H Q ∨ (fun x y H Q => ∃ i j, x = .str i ∧ y = .str j ∧ i.length + j.length ≤ sizeLine ∧ Q (.str (i ++ j)) H : R2) x y H Q ∨ rCat x y H Q ∨ rCatA K x y H Q
theorem op_addA : OpR X (binaryOp .Add) (rAddA X.K) := op_add.or (op_add_str.or (op_cat.or op_catA))
theorem v_add : VOp2 K (rAddA K) addD := by
  intro F H x y d e Q hs hz hx hy w
  cases d with
  | int a => cases e with
    | int b => rw [hx.int, hy.int]; exact .inl ⟨a, b, rfl, rfl, w.now hs hz (.int _)⟩
    | _ => exact w.no
  | str a => cases e with
    | str b =>
      rw [hx.str, hy.str]
      obtain ⟨hl, w⟩ := Wants.ite (c := a.length + b.length ≤ sizeLine) w
      exact .inr (.inl ⟨a, b, rfl, rfl, hl, w.now hs hz (.str _)⟩)
    | _ => exact w.no
  | list a => cases e with
    | list b =>
      obtain ⟨hl, w⟩ := Wants.ite (c := a.length + b.length ≤ sizeLine) w
      obtain ⟨p, xs, rfl, h1, h2, _⟩ := hx.list hs hz
      obtain ⟨q, ys, rfl, h3, h4, _⟩ := hy.list hs hz
      have e1 := DpAll.length h2
      have e2 := DpAll.length h4
      exact .inr (.inr (.inl ⟨p, q, xs, ys, rfl, rfl, h1, h3, by omega, w.newL hs hz (by rw [List.length_append]; omega) (DpAll.append h2 h4)⟩))
    | _ => exact w.no
  | tuple a => cases e with
    | tuple b =>
      obtain ⟨hl, w⟩ := Wants.ite (c := a.length + b.length ≤ sizeLine) w
      obtain ⟨p, xs, rfl, g1, h1, h2, _⟩ := hx.tuple hs hz
      obtain ⟨q, ys, rfl, g3, h3, h4, _⟩ := hy.tuple hs hz
      have e1 := DpAll.length h2
      have e2 := DpAll.length h4
      refine .inr (.inr (.inr ⟨p, q, xs, ys, rfl, rfl, h1, h3, by omega, fun e => ?_, fun _ e => ?_, fun _ _ => w.newT hs hz (by rw [List.length_append]; omega) (DpAll.append h2 h4)⟩))
      · subst e
        have : a = [] := List.length_eq_zero_iff.mp e1.symm
        subst this
        exact w.now hs hz (.tup g3 h4)
      · subst e
        have : b = [] := List.length_eq_zero_iff.mp e2.symm
        subst this
        rw [List.append_nil] at w
        exact w.now hs hz (.tup g1 h2)
    | _ => exact w.no
  | _ => exact w.no
/-! ### -, *, //, %, ** -/
def intD (f : Int → Int → Option PyData) (d e : PyData) : Option PyData := match d, e with
  | .int a, .int b => f a b
  | _, _ => none
theorem v_int {Cn : Int → Int → Prop} {g : Int → Int → V} {f : Int → Int → Option PyData} (h : ∀ i j z, f i j = some z → Cn i j ∧ ∀ F, Dp K F (g i j) z) : VOp2 K (rI Cn g) (intD f) := by
  intro F H x y d e Q hs hz hx hy w
  cases d with
  | int a => cases e with
    | int b =>
      rw [hx.int, hy.int]
      cases ef : f a b with
      | none => have w : Wants K F H Q (f a b) := w; rw [ef] at w; exact w.no
      | some z =>
        have w : Wants K F H Q (f a b) := w
        rw [ef] at w
        exact ⟨a, b, rfl, rfl, (h a b z ef).1, w.now hs hz ((h a b z ef).2 F)⟩
    | _ => exact w.no
  | _ => exact w.no
theorem v_int0 {g : Int → Int → V} {f : Int → Int → PyData} (h : ∀ i j F, Dp K F (g i j) (f i j)) : VOp2 K (rI0 g) (intD fun i j => some (f i j)) := by
  intro F H x y d e Q hs hz hx hy w
  cases d with
  | int a => cases e with
    | int b =>
      rw [hx.int, hy.int]
      exact ⟨a, b, rfl, rfl, w.now hs hz (h a b F)⟩
    | _ => exact w.no
  | _ => exact w.no
def subD : PyData → PyData → Option PyData := intD fun i j => some (.int (i - j))
theorem v_sub : VOp2 K (rI0 fun i j => .int (i - j)) subD := v_int0 fun i j F => .int _
/-- products are told below a million bits -/
def fits (i j : Int) : Bool := decide (i.natAbs.log2 + j.natAbs.log2 < 1000000)
def mulI (i j : Int) : Option PyData := if fits i j then some (.int (i * j)) else none
def repL (ds : List PyData) (n : Int) : Option PyData := if ds.length * n.toNat ≤ sizeLine ∧ n ≤ 16777216 ∧ -16777216 ≤ n then some (.list (List.replicate n.toNat ds).flatten) else none
def repT (ds : List PyData) (n : Int) : Option PyData := if 0 < ds.length ∧ 2 ≤ n ∧ n ≤ 1000 ∧ ds.length ≤ 1000 then some (.tuple (List.replicate n.toNat ds).flatten) else none
def mulD (d e : PyData) : Option PyData := match d, e with
  | .int a, .int b => mulI a b
  | .list ds, .int n => repL ds n
  | .tuple ds, .int n => repT ds n
  | _, _ => none
def subDiv (i j : Int) : Option PyData := if j ≠ 0 ∧ j.natAbs.log2 < 9000 then some (.int (i.fdiv j)) else none
def fdivD : PyData → PyData → Option PyData := intD subDiv
theorem op_fdivG : OpR X (binaryOp .FloorDiv) (rI (fun _ j => j ≠ 0 ∧ j.natAbs.log2 < 9000) fun i j => .int (i.fdiv j)) := opI fun i j _ _ _ _ _ hc q => floordiv_int hc.1 q (.inl (PyProof.noPylong_of_log2 hc.2))
theorem v_fdiv : VOp2 K (rI (fun _ j => j ≠ 0 ∧ j.natAbs.log2 < 9000) fun i j => .int (i.fdiv j)) fdivD := v_int fun i j z h => by
  unfold subDiv at h
  split at h
  · rename_i hc; cases h; exact ⟨hc, fun F => .int _⟩
  · cases h
def modD : PyData → PyData → Option PyData := intD fun i j => if j ≠ 0 then some (.int (i.fmod j)) else none
theorem v_mod : VOp2 K (rI (fun _ j => j ≠ 0) fun i j => .int (i.fmod j)) modD := v_int fun i j z h => by
  split at h
  · rename_i hc; cases h; exact ⟨hc, fun F => .int _⟩
  · cases h
def powOk (i j : Int) : Bool := decide (0 ≤ j ∧ ((i.natAbs.log2 : Int) + 1) * j ≤ 134217728)
def powD : PyData → PyData → Option PyData := intD fun i j => if powOk i j then some (.int (i ^ j.toNat)) else none
theorem op_powG : OpR X (binaryOp .Pow) (rI (fun i j => powOk i j = true) fun i j => .int (i ^ j.toNat)) := opI fun i j _ _ _ _ _ hc q => by
  have hc := of_decide_eq_true hc
  refine pow_int hc.1 ?_ q
  have hb : Builtin.Int.intBits i ≤ i.natAbs.log2 + 1 := by
    unfold Builtin.Int.intBits
    split <;> omega
  have h1 : (Builtin.Int.intBits i : Int) * j ≤ ((i.natAbs.log2 : Int) + 1) * j := Int.mul_le_mul_of_nonneg_right (by omega) hc.1
  have h2 := hc.2
  have h3 : (2 : Int) ^ 27 = 134217728 := by decide
  omega
theorem v_pow : VOp2 K (rI (fun i j => powOk i j = true) fun i j => .int (i ^ j.toNat)) powD := v_int fun i j z h => by
  split at h
  · rename_i hc; cases h; exact ⟨hc, fun F => .int _⟩
  · cases h
def andD : PyData → PyData → Option PyData := intD fun i j => some (.int (Builtin.bitAnd i j))
theorem v_and : VOp2 K (rI0 fun i j => .int (Builtin.bitAnd i j)) andD := v_int0 fun i j F => .int _
def orD : PyData → PyData → Option PyData := intD fun i j => some (.int (Builtin.bitOr i j))
theorem v_or : VOp2 K (rI0 fun i j => .int (Builtin.bitOr i j)) orD := v_int0 fun i j F => .int _
def shlD : PyData → PyData → Option PyData := intD fun i j => if 0 ≤ j ∧ j ≤ 1000000 ∧ i.natAbs < 18446744073709551616 then some (.int (i * 2 ^ j.toNat)) else none
theorem v_shl : VOp2 K (rI CPow fun i j => .int (i * 2 ^ j.toNat)) shlD := v_int fun i j z h => by
  split at h
  · rename_i hc; cases h; exact ⟨hc, fun F => .int _⟩
  · cases h
def shrD : PyData → PyData → Option PyData := intD fun i j => if 0 ≤ j then some (.int (i / 2 ^ j.toNat)) else none
theorem v_shr : VOp2 K (rI (fun _ j => 0 ≤ j) fun i j => .int (i / 2 ^ j.toNat)) shrD := v_int fun i j z h => by
  split at h
  · rename_i hc; cases h; exact ⟨hc, fun F => .int _⟩
  · cases h
/-! ### lists times ints: tracked or locked -/
def rMulA (K : PySem.W.Frag) : R2 := fun x y H Q => rI CMulW (fun i j => .int (i * j)) x y H Q ∨ rRep x y H Q ∨ rRepT K x y H Q
theorem op_mulA : OpR X (binaryOp .Mult) (rMulA X.K) := op_mulW.or (op_rep.or op_repT)
theorem DpAll.rep {ds : List PyData} {vs : List V} (h : DpAll K F vs ds) : ∀ n : Nat, DpAll K F (List.replicate n vs).flatten (List.replicate n ds).flatten
  | 0 => .nil
  | n + 1 => by
    rw [List.replicate_succ, List.replicate_succ, List.flatten_cons, List.flatten_cons]
    exact DpAll.append h (DpAll.rep h n)
theorem v_mul : VOp2 K (rMulA K) mulD := by
  intro F H x y d e Q hs hz hx hy w
  cases d with
  | int a => cases e with
    | int b =>
      rw [hx.int, hy.int]
      obtain ⟨h1, w⟩ := Wants.ite (c := fits a b = true) w
      exact .inl ⟨a, b, rfl, rfl, show a.natAbs.log2 + b.natAbs.log2 < 1000000 from of_decide_eq_true h1, w.now hs hz (.int _)⟩
    | _ => exact w.no
  | list ds => cases e with
    | int n =>
      obtain ⟨⟨h1, h2, h3⟩, w⟩ := Wants.ite (c := ds.length * n.toNat ≤ sizeLine ∧ n ≤ 16777216 ∧ -16777216 ≤ n) w
      obtain ⟨p, xs, rfl, g1, g2, g3⟩ := hx.list hs hz
      have e1 := DpAll.length g2
      rw [hy.int]
      exact .inr (.inl ⟨p, n, xs, rfl, rfl, g1, by omega, by omega, by rw [e1]; exact h1, w.newL hs hz (by rw [PyProof.Rows.lm_len_rep_flat, Nat.mul_comm, e1]; exact h1) (DpAll.rep g2 n.toNat)⟩)
    | _ => exact w.no
  | tuple ds => cases e with
    | int n =>
      have w : Wants K F H Q (repT ds n) := w
      unfold repT at w
      by_cases hc : 0 < ds.length ∧ 2 ≤ n ∧ n ≤ 1000 ∧ ds.length ≤ 1000
      · rw [if_pos hc] at w
        obtain ⟨h0, h1, h2, h3⟩ := hc
        obtain ⟨p, xs, rfl, g0, g1, g2, g3⟩ := hx.tuple hs hz
        have e1 := DpAll.length g2
        rw [hy.int]
        refine .inr (.inr ⟨p, n, xs, rfl, rfl, g1, fun z => by rw [z] at e1; simp at e1; omega, h1, h2, by omega, w.newT hs hz ?_ (DpAll.rep g2 n.toNat)⟩)
        rw [PyProof.Rows.lm_len_rep_flat, e1, sizeLine_eq]
        have h4 : n.toNat * ds.length ≤ 1000 * 1000 := Nat.mul_le_mul (by omega) h3
        omega
      · rw [if_neg hc] at w
        exact w.no
    | _ => exact w.no
  | _ => exact w.no
end
end M
set_option Elab.async false
set_option linter.all false
set_option maxRecDepth 100000
set_option maxHeartbeats 4000000
namespace M
open PySem PySem.Spec PyProof.Rows L2

section
variable {X : Cx} {C : Cc} {k : Nat} {F H : Hp} {K : PySem.W.Frag} {e a b : Expr} {es : List Expr} {pos p : Pos}
/-! ## comparisons -/
def eqD (d e : PyData) : Option PyData := match d, e with
  | .str a, .str b => some (.bool (decide (a = b)))
  | .int a, .int b => some (.bool (decide (a = b)))
  | _, _ => if SeqAt.shaped d = true ∧ SeqAt.shaped e = true then some (.bool (PyData.eqv d e)) else none
def neD (d e : PyData) : Option PyData := match d, e with
  | .str a, .str b => some (.bool (!decide (a = b)))
  | .int a, .int b => some (.bool (!decide (a = b)))
  | _, _ => if SeqAt.shaped d = true ∧ SeqAt.shaped e = true then some (.bool (!PyData.eqv d e)) else none
theorem Dt.up {v : V} {d : PyData} (hs : Sub F H) (c : d.canLay0 = true) (h : Dt K F H v d) : L2.Dp K H v d := by
  rcases h with h | ⟨a, vs, es, rfl, rfl, h3, h4, _⟩
  · exact Dp.up d c (Dp.mono hs d h)
  · exact .lst (.of h3) (DpAll.up es (by simpa only [PyData.canLay0] using c) (DpAll.mono hs es h4))
theorem canLay_shaped {d : PyData} (h : SeqAt.shaped d = true) : d.canLay0 = true := by
  unfold SeqAt.shaped at h
  rw [Bool.and_eq_true] at h
  exact h.1
def rEqA (K : PySem.W.Frag) : R2 := fun x y H Q => rEq x y H Q ∨ rEqD K x y H Q
def rNeA (K : PySem.W.Frag) : R2 := fun x y H Q => rNe x y H Q ∨ rNeD K x y H Q
theorem v_eq : VOp2 K (rEqA K) eqD := by
  intro F H x y d e Q hs hz hx hy w
  unfold eqD at w
  split at w
  · rename_i a b
    rw [hx.str, hy.str]
    refine .inl ⟨rfl, ?_⟩
    rw [show decide (V.str a = V.str b) = decide (a = b) by simp]
    exact w.now hs hz (.bl _)
  · rename_i a b
    rw [hx.int, hy.int]
    refine .inl ⟨rfl, ?_⟩
    rw [show decide (V.int a = V.int b) = decide (a = b) by simp]
    exact w.now hs hz (.bl _)
  · obtain ⟨⟨h1, h2⟩, w⟩ := Wants.ite (c := SeqAt.shaped d = true ∧ SeqAt.shaped e = true) w
    exact .inr ⟨d, e, hx.up hs (canLay_shaped h1), hy.up hs (canLay_shaped h2), h1, h2, w.now hs hz (.bl _)⟩
theorem v_ne : VOp2 K (rNeA K) neD := by
  intro F H x y d e Q hs hz hx hy w
  unfold neD at w
  split at w
  · rename_i a b
    rw [hx.str, hy.str]
    refine .inl ⟨rfl, ?_⟩
    rw [show decide (V.str a = V.str b) = decide (a = b) by simp]
    exact w.now hs hz (.bl _)
  · rename_i a b
    rw [hx.int, hy.int]
    refine .inl ⟨rfl, ?_⟩
    rw [show decide (V.int a = V.int b) = decide (a = b) by simp]
    exact w.now hs hz (.bl _)
  · obtain ⟨⟨h1, h2⟩, w⟩ := Wants.ite (c := SeqAt.shaped d = true ∧ SeqAt.shaped e = true) w
    exact .inr ⟨d, e, hx.up hs (canLay_shaped h1), hy.up hs (canLay_shaped h2), h1, h2, w.now hs hz (.bl _)⟩
def ltD : PyData → PyData → Option PyData := intD fun i j => some (.bool (decide (i < j)))
def leD : PyData → PyData → Option PyData := intD fun i j => some (.bool (decide (i ≤ j)))
def gtD : PyData → PyData → Option PyData := intD fun i j => some (.bool (decide (j < i)))
def geD : PyData → PyData → Option PyData := intD fun i j => some (.bool (decide (j ≤ i)))
theorem v_lt : VOp2 K (rI0 fun i j => .bl (decide (i < j))) ltD := v_int0 fun i j F => .bl _
theorem v_le : VOp2 K (rI0 fun i j => .bl (decide (i ≤ j))) leD := v_int0 fun i j F => .bl _
theorem v_gt : VOp2 K (rI0 fun i j => .bl (decide (j < i))) gtD := v_int0 fun i j F => .bl _
theorem v_ge : VOp2 K (rI0 fun i j => .bl (decide (j ≤ i))) geD := v_int0 fun i j F => .bl _
def isNone (d : PyData) : Bool := match d with | .none => true | _ => false
theorem Dt.isNone {v : V} {d : PyData} (h : Dt K F H v d) : decide (v = .non) = M.isNone d := by
  rcases h with h | ⟨a, vs, es, rfl, rfl, _⟩
  · cases h <;> rfl
  · rfl
def isND (d e : PyData) : Option PyData := match e with | .none => some (.bool (isNone d)) | _ => none
def notND (d e : PyData) : Option PyData := match e with | .none => some (.bool (!isNone d)) | _ => none
theorem v_isN : VOp2 K (fun x y H Q => y = .non ∧ Q (.bl (decide (x = .non))) H) isND := by
  intro F H x y d e Q hs hz hx hy w
  cases e with
  | none => exact ⟨hy.non, by rw [hx.isNone]; exact w.now hs hz (.bl _)⟩
  | _ => exact w.no
theorem v_notN : VOp2 K (fun x y H Q => y = .non ∧ Q (.bl (!decide (x = .non))) H) notND := by
  intro F H x y d e Q hs hz hx hy w
  cases e with
  | none => exact ⟨hy.non, by rw [hx.isNone]; exact w.now hs hz (.bl _)⟩
  | _ => exact w.no
def isBD (d e : PyData) : Option PyData := match d, e with | .bool a, .bool b => some (.bool (decide (a = b))) | _, _ => none
def notBD (d e : PyData) : Option PyData := match d, e with | .bool a, .bool b => some (.bool (!decide (a = b))) | _, _ => none
theorem v_isB : VOp2 K rIsB isBD := by
  intro F H x y d e Q hs hz hx hy w
  cases d with
  | bool a => cases e with
    | bool b => exact ⟨a, b, hx.bl, hy.bl, w.now hs hz (.bl _)⟩
    | _ => exact w.no
  | _ => exact w.no
theorem v_notB : VOp2 K rNotB notBD := by
  intro F H x y d e Q hs hz hx hy w
  cases d with
  | bool a => cases e with
    | bool b => exact ⟨a, b, hx.bl, hy.bl, w.now hs hz (.bl _)⟩
    | _ => exact w.no
  | _ => exact w.no
/-! ### the rules with their operators -/
variable {oa ob : Opd}
theorem de_eq (G : Gd X C k) (ha : DO X C a oa) (hb : DO X C b ob) : DE X C (.Compare a [.Eq] [b] pos) (op2 eqD oa ob) := de_cmp (r := rEqA X.K) (op_eq.or (op_eqD G.g.room.units)) (by rw [G.g.K]; exact v_eq) ha hb
theorem de_ne (G : Gd X C k) (ha : DO X C a oa) (hb : DO X C b ob) : DE X C (.Compare a [.NotEq] [b] pos) (op2 neD oa ob) := de_cmp (r := rNeA X.K) (op_ne.or (op_neD G.g.room.units)) (by rw [G.g.K]; exact v_ne) ha hb
theorem de_lt (ha : DO X C a oa) (hb : DO X C b ob) : DE X C (.Compare a [.Lt] [b] pos) (op2 ltD oa ob) := de_cmp op_lt v_lt ha hb
theorem de_le (ha : DO X C a oa) (hb : DO X C b ob) : DE X C (.Compare a [.LtE] [b] pos) (op2 leD oa ob) := de_cmp op_le v_le ha hb
theorem de_gt (ha : DO X C a oa) (hb : DO X C b ob) : DE X C (.Compare a [.Gt] [b] pos) (op2 gtD oa ob) := de_cmp op_gt v_gt ha hb
theorem de_ge (ha : DO X C a oa) (hb : DO X C b ob) : DE X C (.Compare a [.GtE] [b] pos) (op2 geD oa ob) := de_cmp op_ge v_ge ha hb
theorem de_isN (ha : DO X C a oa) (hb : DO X C b ob) : DE X C (.Compare a [.Is] [b] pos) (op2 isND oa ob) := de_cmp op_isN v_isN ha hb
theorem de_notN (ha : DO X C a oa) (hb : DO X C b ob) : DE X C (.Compare a [.IsNot] [b] pos) (op2 notND oa ob) := de_cmp op_notN v_notN ha hb
theorem de_isB (ha : DO X C a oa) (hb : DO X C b ob) : DE X C (.Compare a [.Is] [b] pos) (op2 isBD oa ob) := de_cmp op_isBl v_isB ha hb
theorem de_notB (ha : DO X C a oa) (hb : DO X C b ob) : DE X C (.Compare a [.IsNot] [b] pos) (op2 notBD oa ob) := de_cmp op_notBl v_notB ha hb
/-- a comparison's answer as a test -/
def tstD (m : ME PyData) : ME Bool := bnd m fun d => lfo (match d with | .bool k => some k | _ => none)
theorem dt_eq (G : Gd X C k) (ha : DO X C a oa) (hb : DO X C b ob) : DT X C (.Compare a [.Eq] [b] pos) (tstD (op2 eqD oa ob)) := dt_cmp (r := rEqA X.K) (op_eq.or (op_eqD G.g.room.units)) (by rw [G.g.K]; exact v_eq) ha hb
theorem dt_ne (G : Gd X C k) (ha : DO X C a oa) (hb : DO X C b ob) : DT X C (.Compare a [.NotEq] [b] pos) (tstD (op2 neD oa ob)) := dt_cmp (r := rNeA X.K) (op_ne.or (op_neD G.g.room.units)) (by rw [G.g.K]; exact v_ne) ha hb
theorem dt_lt (ha : DO X C a oa) (hb : DO X C b ob) : DT X C (.Compare a [.Lt] [b] pos) (tstD (op2 ltD oa ob)) := dt_cmp op_lt v_lt ha hb
theorem dt_le (ha : DO X C a oa) (hb : DO X C b ob) : DT X C (.Compare a [.LtE] [b] pos) (tstD (op2 leD oa ob)) := dt_cmp op_le v_le ha hb
theorem dt_gt (ha : DO X C a oa) (hb : DO X C b ob) : DT X C (.Compare a [.Gt] [b] pos) (tstD (op2 gtD oa ob)) := dt_cmp op_gt v_gt ha hb
theorem dt_ge (ha : DO X C a oa) (hb : DO X C b ob) : DT X C (.Compare a [.GtE] [b] pos) (tstD (op2 geD oa ob)) := dt_cmp op_ge v_ge ha hb
theorem dt_isN (ha : DO X C a oa) (hb : DO X C b ob) : DT X C (.Compare a [.Is] [b] pos) (tstD (op2 isND oa ob)) := dt_cmp op_isN v_isN ha hb
theorem dt_notN (ha : DO X C a oa) (hb : DO X C b ob) : DT X C (.Compare a [.IsNot] [b] pos) (tstD (op2 notND oa ob)) := dt_cmp op_notN v_notN ha hb
theorem dt_isB (ha : DO X C a oa) (hb : DO X C b ob) : DT X C (.Compare a [.Is] [b] pos) (tstD (op2 isBD oa ob)) := dt_cmp op_isBl v_isB ha hb
theorem dt_notB (ha : DO X C a oa) (hb : DO X C b ob) : DT X C (.Compare a [.IsNot] [b] pos) (tstD (op2 notBD oa ob)) := dt_cmp op_notBl v_notB ha hb
theorem de_add (G : Gd X C k) (ha : DO X C a oa) (hb : DO X C b ob) : DE X C (.BinOp a .Add b pos) (op2 addD oa ob) := de_op2 (r := rAddA X.K) op_addA (by rw [G.g.K]; exact v_add) ha hb
theorem de_mul (G : Gd X C k) (ha : DO X C a oa) (hb : DO X C b ob) : DE X C (.BinOp a .Mult b pos) (op2 mulD oa ob) := de_op2 (r := rMulA X.K) op_mulA (by rw [G.g.K]; exact v_mul) ha hb
theorem de_sub (ha : DO X C a oa) (hb : DO X C b ob) : DE X C (.BinOp a .Sub b pos) (op2 subD oa ob) := de_op2 op_sub v_sub ha hb
theorem de_fdiv (ha : DO X C a oa) (hb : DO X C b ob) : DE X C (.BinOp a .FloorDiv b pos) (op2 fdivD oa ob) := de_op2 op_fdivG v_fdiv ha hb
theorem de_mod (ha : DO X C a oa) (hb : DO X C b ob) : DE X C (.BinOp a .Mod b pos) (op2 modD oa ob) := de_op2 op_modN v_mod ha hb
theorem de_pow (ha : DO X C a oa) (hb : DO X C b ob) : DE X C (.BinOp a .Pow b pos) (op2 powD oa ob) := de_op2 op_powG v_pow ha hb
theorem de_band (ha : DO X C a oa) (hb : DO X C b ob) : DE X C (.BinOp a .BitAnd b pos) (op2 andD oa ob) := de_op2 op_and v_and ha hb
theorem de_bor (ha : DO X C a oa) (hb : DO X C b ob) : DE X C (.BinOp a .BitOr b pos) (op2 orD oa ob) := de_op2 op_or v_or ha hb
theorem de_shl (ha : DO X C a oa) (hb : DO X C b ob) : DE X C (.BinOp a .LShift b pos) (op2 shlD oa ob) := de_op2 op_shl v_shl ha hb
theorem de_shr (ha : DO X C a oa) (hb : DO X C b ob) : DE X C (.BinOp a .RShift b pos) (op2 shrD oa ob) := de_op2 op_shr v_shr ha hb
def negD (d : PyData) : Option PyData := match d with | .int i => some (.int (-i)) | _ => none
theorem v_neg : VOp1 K (rU fun i => .int (-i)) negD := by
  intro F H x d Q hs hz hx w
  cases d with
  | int i => exact ⟨i, hx.int, w.now hs hz (.int _)⟩
  | _ => exact w.no
theorem de_neg (ha : DO X C a oa) : DE X C (.UnaryOp .USub a pos) (op1 negD oa) := de_un un_neg v_neg ha
/-! ## items, slices -/
def ixD (d e : PyData) : Option PyData := match e with
  | .int i => (match d with
    | .list ds => atI ds i
    | .tuple ds => atI ds i
    | .dict [(.none, .list ds)] => atI ds i
    | .str z => if z.length ≤ sizeLine then (atI z.cps.toList i).map fun c => .str ⟨#[c]⟩ else none
    | _ => none)
  | _ => none
theorem DpAll.atI {xs : List V} {ds : List PyData} {i : Int} {d : PyData} (h : DpAll K F xs ds) (e : L2.atI ds i = some d) : ∃ v, L2.atI xs i = some v ∧ Dp K F v d := by
  unfold L2.atI at e ⊢
  rw [DpAll.length h]
  cases q : ixN ds.length i with
  | none => rw [q] at e; cases e
  | some j =>
    rw [q] at e
    exact DpAll.get h e
theorem v_ix : VOp2 K (rIx K) ixD := by
  intro F H x y d e Q hs hz hx hy w
  cases e with
  | int i =>
    rw [hy.int]
    cases d with
    | list ds =>
      obtain ⟨p, xs, rfl, g1, g2, _⟩ := hx.list hs hz
      have w : Wants K F H Q (L2.atI ds i) := w
      cases q : L2.atI ds i with
      | none => rw [q] at w; exact w.no
      | some z =>
        rw [q] at w
        obtain ⟨v, h1, h2⟩ := DpAll.atI g2 q
        exact .inl ⟨p, xs, i, v, rfl, rfl, .of g1, h1, w.now hs hz h2⟩
    | tuple ds =>
      obtain ⟨p, xs, rfl, g0, g1, g2, _⟩ := hx.tuple hs hz
      have w : Wants K F H Q (L2.atI ds i) := w
      cases q : L2.atI ds i with
      | none => rw [q] at w; exact w.no
      | some z =>
        rw [q] at w
        obtain ⟨v, h1, h2⟩ := DpAll.atI g2 q
        exact .inr (.inl ⟨p, xs, i, v, rfl, rfl, g1, h1, w.now hs hz h2⟩)
    | str z =>
      rw [hx.str]
      obtain ⟨hl, w⟩ := Wants.ite (c := z.length ≤ sizeLine) w
      cases q : L2.atI z.cps.toList i with
      | none => rw [q] at w; exact w.no
      | some c =>
        rw [q] at w
        exact .inr (.inr ⟨z, i, c, rfl, rfl, hl, q, w.now hs hz (.str _)⟩)
    | dict kvs =>
      unfold ixD at w
      simp only at w
      split at w
      · rename_i e
        cases e
      · rename_i e
        cases e
      · rename_i ds e
        injection e with e
        subst e
        obtain ⟨p, xs, rfl, g1, g2, _⟩ := hx.lck hs hz
        cases q : L2.atI ds i with
        | none => rw [q] at w; exact w.no
        | some z =>
          rw [q] at w
          obtain ⟨v, h1, h2⟩ := DpAll.atI g2 q
          exact .inl ⟨p, xs, i, v, rfl, rfl, g1, h1, w.now hs hz h2⟩
      · rename_i e
        cases e
      · exact w.no
    | _ => exact w.no
  | _ => exact w.no
theorem de_item (G : Gd X C k) (ha : DO X C a oa) (hb : DO X C b ob) (hp : PlainIx b := by intro _ _; rfl) : DE X C (.Subscript a b pos) (op2 ixD oa ob) := de_ix (r := rIx X.K) ix_seq (by rw [G.g.K]; exact v_ix) ha hb hp
/-- a part of a slice -/
def optM : Option (ME PyData) → ME (Option Int)
  | none => ret none
  | some m => bnd m fun d => lfo (match d with | .int i => some (some i) | _ => none)
def cutL (ds : List PyData) (lo hi : Option Int) : List PyData := (ds.drop (HT.sIx ds.length 0 lo)).take (HT.sIx ds.length ds.length hi - HT.sIx ds.length 0 lo)
def cutD (d : PyData) (lo hi : Option Int) : Option PyData := match d with
  | .list ds => some (.list (cutL ds lo hi))
  | .tuple ds => some (.tuple (cutL ds lo hi))
  | .dict [(.none, .list ds)] => some (.list (cutL ds lo hi))
  | .str z => if z.length ≤ sizeLine then some (.str (cutS z lo hi)) else none
  | _ => none
def sliceM (o : Opd) (lo hi : Option (ME PyData)) : ME PyData := bnd o.run fun x => bnd (optM lo) fun l => bnd (optM hi) fun h => bnd (fin x) fun d => lfo (cutD d l h)
abbrev DP (X : Cx) (C : Cc) (e : Option Expr) (m : Option (ME PyData)) : Prop := PO X e (tG C (fun _ _ _ b a => b = a) (optM m))
theorem dp_none : DP X C none none := ⟨fun pins s σ H Q I ⟨F, ρ, fs, r, q⟩ => po_none.run pins s σ H Q I (q none H F fs r .refl rfl)⟩
theorem dp_some {m : ME PyData} (h : DE X C e m) : DP X C (some e) (some m) := ⟨fun pins s σ H Q I ⟨F, ρ, fs, r, q⟩ => (po_some h).run pins s σ H Q I (by
  refine tG.mono (Res.bnd (rv := rvD C) r q) fun v H1 ⟨F1, ρ1, fs1, d, r1, x1, rd, q1⟩ => ?_
  cases d with
  | int i => cases rd; exact ⟨i, rfl, q1 _ H1 F1 fs1 r1 .refl rfl⟩
  | _ => exact q1.elim)⟩
def rSlAny (K : PySem.W.Frag) : V → Option Int → Option Int → Hp → VK → Prop := fun x lo hi H Q => rSlL K x lo hi H Q ∨ (fun x lo hi H Q => rSlA K x lo hi H Q ∨ rSlS x lo hi H Q : V → Option Int → Option Int → Hp → VK → Prop) x lo hi H Q
theorem sl_any : SlR X (rSlAny X.K) := sl_list.or (sl_tupA.or sl_str)
theorem cut_dp {xs : List V} {ds : List PyData} (h : DpAll K F xs ds) (lo hi : Option Int) : DpAll K F (cutV xs lo hi) (cutL ds lo hi) := by
  unfold cutV cutL
  rw [DpAll.length h]
  exact DpAll.take _ (DpAll.drop _ h)
theorem v_cut {x : V} {d : PyData} {lo hi : Option Int} {Q : VK} (hs : Sub F H) (hz : SzOk K F) (hx : Dt K F H x d) (w : Wants K F H Q (cutD d lo hi)) : rSlAny K x lo hi H Q := by
  cases d with
  | list ds =>
    obtain ⟨p, xs, rfl, g1, g2, g3⟩ := hx.list hs hz
    exact .inl ⟨p, xs, rfl, .of g1, w.newL hs hz (Nat.le_trans (cutV_length _ _ _) g3) (cut_dp g2 lo hi)⟩
  | tuple ds =>
    obtain ⟨p, xs, rfl, g0, g1, g2, g3⟩ := hx.tuple hs hz
    refine .inr (.inl ⟨p, xs, rfl, g1, fun hw => ?_, fun _ => w.newT hs hz (Nat.le_trans (cutV_length _ _ _) g3) (cut_dp g2 lo hi)⟩)
    have e : cutL ds lo hi = ds := by
      rw [DpAll.length g2] at hw
      unfold cutL
      rw [hw.1, hw.2]
      simp
    have w : Wants K F H Q (some (.tuple (cutL ds lo hi))) := w
    rw [e] at w
    exact w.now hs hz (.tup g0 g2)
  | str z =>
    obtain ⟨hl, w⟩ := Wants.ite (c := z.length ≤ sizeLine) w
    rw [hx.str]
    exact .inr (.inr ⟨z, rfl, hl, w.now hs hz (.str _)⟩)
  | dict kvs =>
    unfold cutD at w
    split at w
    · rename_i e
      cases e
    · rename_i e
      cases e
    · rename_i ds e
      injection e with e
      subst e
      obtain ⟨p, xs, rfl, g1, g2, g3⟩ := hx.lck hs hz
      exact .inl ⟨p, xs, rfl, g1, Wants.newL hs hz (Nat.le_trans (cutV_length _ _ _) g3) (cut_dp g2 lo hi) w⟩
    · rename_i e
      cases e
    · exact w.no
  | _ => exact w.no
theorem de_slice {lo hi : Option Expr} {ml mh : Option (ME PyData)} {p2 : Pos} (G : Gd X C k) (ha : DO X C e oa) (hl : DP X C lo ml) (hh : DP X C hi mh) : DE X C (.Subscript e (.Slice lo hi none p2) pos) (sliceM oa ml mh) :=
  PE.imp (pe_slice sl_any ha hl hh) fun σ H Q ⟨F, ρ, fs, r, q⟩ => by
    refine tG.mono (Res.bnd (rv := rvO C σ) r q) fun v H1 ⟨F1, ρ1, fs1, x, r1, x1, rd, q1⟩ => ?_
    refine tG.mono (Res.bnd (rv := fun _ _ _ b a => b = a) r1 q1) fun l H2 ⟨F2, ρ2, fs2, l', r2, x2, re, q2⟩ => ?_
    subst re
    refine tG.mono (Res.bnd (rv := fun _ _ _ b a => b = a) r2 q2) fun h H3 ⟨F3, ρ3, fs3, h', r3, x3, re, q3⟩ => ?_
    subst re
    obtain ⟨d, hd, q4⟩ := Res.fin r3 (rvO.ext (x2.trans x3) rd) q3
    have w := Res.lfo r3 q4
    have hK := G.g.K
    rw [← hK]
    exact v_cut r3.sub r3.sz hd w
/-! ## built-ins -/
def absL (ds : List PyData) : Option PyData := match ds with | [.int i] => some (.int (if i < 0 then -i else i)) | _ => none
theorem DtAll.one {vs : List V} {d : PyData} (h : DtAll K F H vs [d]) : ∃ v, vs = [v] ∧ Dt K F H v d := by
  cases h with
  | cons p t => cases t; exact ⟨_, rfl, p⟩
theorem DtAll.two {vs : List V} {d e : PyData} (h : DtAll K F H vs [d, e]) : ∃ v u, vs = [v, u] ∧ Dt K F H v d ∧ Dt K F H u e := by
  cases h with
  | cons p t => obtain ⟨u, rfl, q⟩ := t.one; exact ⟨_, u, rfl, p, q⟩
theorem v_abs : VOpL K (fun xs H Q => ∃ i, xs = [.int i] ∧ Q (.int (if i < 0 then -i else i)) H) absL := by
  intro F H xs ds Q hs hz hx w
  unfold absL at w
  split at w
  · rename_i i
    obtain ⟨v, rfl, h⟩ := hx.one
    exact ⟨i, by rw [h.int], Wants.now hs hz w (.int _)⟩
  · exact w.no
def on2 (f : Int → Int → PyData) (ds : List PyData) : Option PyData := match ds with | [.int i, .int j] => some (f i j) | _ => none
theorem v_on2 {f : Int → Int → PyData} {g : Int → Int → V} (hfg : ∀ i j F, Dp K F (g i j) (f i j)) : VOpL K (fun xs H Q => ∃ i j, xs = [.int i, .int j] ∧ Q (g i j) H) (on2 f) := by
  intro F H xs ds Q hs hz hx w
  unfold on2 at w
  split at w
  · rename_i i j
    obtain ⟨v, u, rfl, h1, h2⟩ := hx.two
    exact ⟨i, j, by rw [h1.int, h2.int], Wants.now hs hz w (hfg i j F)⟩
  · exact w.no
def maxL : List PyData → Option PyData := on2 fun i j => .int (if j > i then j else i)
def minL : List PyData → Option PyData := on2 fun i j => .int (if j < i then j else i)
def lenL (ds : List PyData) : Option PyData := match ds with
  | [.list es] => some (.int es.length)
  | [.tuple es] => some (.int es.length)
  | [.dict [(.none, .list es)]] => some (.int es.length)
  | [.str z] => if z.length ≤ sizeLine then some (.int z.length) else none
  | _ => none
theorem v_len : VOpL K (fun xs H Q => ∃ x n, xs = [x] ∧ LenV K x H n ∧ Q (.int n) H) lenL := by
  intro F H xs ds Q hs hz hx w
  unfold lenL at w
  split at w
  · rename_i es
    obtain ⟨v, rfl, h⟩ := hx.one
    obtain ⟨p, ys, rfl, g1, g2, g3⟩ := h.list hs hz
    exact ⟨_, es.length, rfl, .inl ⟨ys, .of g1, (DpAll.length g2).symm⟩, Wants.now hs hz w (.int _)⟩
  · rename_i es
    obtain ⟨v, rfl, h⟩ := hx.one
    obtain ⟨p, ys, rfl, g0, g1, g2, g3⟩ := h.tuple hs hz
    exact ⟨_, es.length, rfl, .inr ⟨ys, g1, (DpAll.length g2).symm⟩, Wants.now hs hz w (.int _)⟩
  · rename_i es
    obtain ⟨v, rfl, h⟩ := hx.one
    obtain ⟨p, ys, rfl, g1, g2, g3⟩ := h.lck hs hz
    exact ⟨_, es.length, rfl, .inl ⟨ys, g1, (DpAll.length g2).symm⟩, Wants.now hs hz w (.int _)⟩
  · rename_i z
    obtain ⟨v, rfl, h⟩ := hx.one
    rw [h.str]
    obtain ⟨hl, w⟩ := Wants.ite (c := z.length ≤ sizeLine) w
    exact ⟨_, z.length, rfl, ⟨hl, rfl⟩, Wants.now hs hz w (.int _)⟩
  · exact w.no
def intL (ds : List PyData) : Option PyData := match ds with
  | [.int i] => some (.int i)
  | [.bool b] => some (.int (if b then 1 else 0))
  | [.str z] => if z.length ≤ 640 then (PySem.intText? z).map .int else none
  | _ => none
theorem v_intT : VOpL K (fun xs H Q => ((∃ i, xs = [.int i] ∧ Q (.int i) H) ∨ ∃ k, xs = [.bl k] ∧ Q (.int (if k then 1 else 0)) H) ∨ ∃ a n, xs = [.str a] ∧ PySem.intText? a = some n ∧ a.length ≤ 640 ∧ Q (.int n) H) intL := by
  intro F H xs ds Q hs hz hx w
  unfold intL at w
  split at w
  · rename_i i
    obtain ⟨v, rfl, h⟩ := hx.one
    exact .inl (.inl ⟨i, by rw [h.int], Wants.now hs hz w (.int _)⟩)
  · rename_i b
    obtain ⟨v, rfl, h⟩ := hx.one
    exact .inl (.inr ⟨b, by rw [h.bl], Wants.now hs hz w (.int _)⟩)
  · rename_i z
    obtain ⟨v, rfl, h⟩ := hx.one
    obtain ⟨hl, w⟩ := Wants.ite (c := z.length ≤ 640) w
    cases e : PySem.intText? z with
    | none => rw [e] at w; exact w.no
    | some n =>
      rw [e] at w
      exact .inr ⟨z, n, by rw [h.str], e, hl, Wants.now hs hz w (.int _)⟩
  · exact w.no
def strL (ds : List PyData) : Option PyData := match ds with
  | [.int i] => if i.natAbs.log2 < 1920 then some (.str (toString i : String)) else none
  | [.str z] => some (.str z)
  | _ => none
theorem CallR.or {f : Value} {r r' : List V → Hp → VK → Prop} (h : CallR X f r) (h' : CallR X f r') : CallR X f (fun xs H Q => r xs H Q ∨ r' xs H Q) := by
  intro pins s σ H xs us Q I rv q
  exact q.elim (h pins s σ H xs us Q I rv) (h' pins s σ H xs us Q I rv)
theorem v_strT : VOpL K (fun xs H Q => (∃ i, xs = [.int i] ∧ i.natAbs.log2 < 1920 ∧ Q (.str (toString i : String)) H) ∨ ∃ a, xs = [.str a] ∧ Q (.str a) H) strL := by
  intro F H xs ds Q hs hz hx w
  unfold strL at w
  split at w
  · rename_i i
    obtain ⟨v, rfl, h⟩ := hx.one
    obtain ⟨hl, w⟩ := Wants.ite (c := i.natAbs.log2 < 1920) w
    exact .inl ⟨i, by rw [h.int], hl, Wants.now hs hz w (.str _)⟩
  · rename_i z
    obtain ⟨v, rfl, h⟩ := hx.one
    exact .inr ⟨z, by rw [h.str], Wants.now hs hz w (.str _)⟩
  · exact w.no
def tupL (ds : List PyData) : Option PyData := match ds with
  | [.list es] => some (.tuple es)
  | [.tuple es] => some (.tuple es)
  | _ => none
theorem v_tup : VOpL K (fun xs H Q => ∃ p ys, xs = [.ref p] ∧ ((SqL K H p ys ∧ ∀ l, H l = none → Q (.ref l) (upd H l (.tup ys))) ∨ (SqT K H p ys ∧ Q (.ref p) H))) tupL := by
  intro F H xs ds Q hs hz hx w
  unfold tupL at w
  split at w
  · rename_i es
    obtain ⟨v, rfl, h⟩ := hx.one
    obtain ⟨p, ys, rfl, g1, g2, g3⟩ := h.list hs hz
    exact ⟨p, ys, rfl, .inl ⟨.of g1, Wants.newT hs hz g3 g2 w⟩⟩
  · rename_i es
    obtain ⟨v, rfl, h⟩ := hx.one
    obtain ⟨p, ys, rfl, g0, g1, g2, g3⟩ := h.tuple hs hz
    exact ⟨p, ys, rfl, .inr ⟨g1, Wants.now hs hz w (.tup g0 g2)⟩⟩
  · exact w.no
def lstL (ds : List PyData) : Option PyData := match ds with
  | [.list es] => some (.list es)
  | [.tuple es] => some (.list es)
  | _ => none
theorem v_lst : VOpL K (fun xs H Q => ∃ p ys, xs = [.ref p] ∧ (SqL K H p ys ∨ SqT K H p ys) ∧ ∀ l, H l = none → Q (.ref l) (upd H l (.lst ys))) lstL := by
  intro F H xs ds Q hs hz hx w
  unfold lstL at w
  split at w
  · rename_i es
    obtain ⟨v, rfl, h⟩ := hx.one
    obtain ⟨p, ys, rfl, g1, g2, g3⟩ := h.list hs hz
    exact ⟨p, ys, rfl, .inl (.of g1), Wants.newL hs hz g3 g2 w⟩
  · rename_i es
    obtain ⟨v, rfl, h⟩ := hx.one
    obtain ⟨p, ys, rfl, g0, g1, g2, g3⟩ := h.tuple hs hz
    exact ⟨p, ys, rfl, .inr g1, Wants.newL hs hz g3 g2 w⟩
  · exact w.no
/-- the ints of data -/
def intsOf : List PyData → Option (List Int)
  | [] => some []
  | .int i :: r => (intsOf r).map (i :: ·)
  | _ :: _ => none
theorem intsOf_dp : ∀ {ds : List PyData} {xs : List V} {ns : List Int}, DpAll K F xs ds → intsOf ds = some ns → xs = ns.map V.int
  | [], _, ns, .nil, h => by cases h; rfl
  | d :: r, _, ns, .cons p t, h => by
    cases d with
    | int i =>
      unfold intsOf at h
      cases q : intsOf r with
      | none => rw [q] at h; cases h
      | some ms =>
        rw [q] at h
        cases h
        cases p
        rw [intsOf_dp t q]
        rfl
    | _ => cases h
def boolsOf : List PyData → Option (List Bool)
  | [] => some []
  | .bool i :: r => (boolsOf r).map (i :: ·)
  | _ :: _ => none
theorem boolsOf_dp : ∀ {ds : List PyData} {xs : List V} {ns : List Bool}, DpAll K F xs ds → boolsOf ds = some ns → xs = ns.map V.bl
  | [], _, ns, .nil, h => by cases h; rfl
  | d :: r, _, ns, .cons p t, h => by
    cases d with
    | bool i =>
      unfold boolsOf at h
      cases q : boolsOf r with
      | none => rw [q] at h; cases h
      | some ms =>
        rw [q] at h
        cases h
        cases p
        rw [boolsOf_dp t q]
        rfl
    | _ => cases h
def sumL (ds : List PyData) : Option PyData := match ds with
  | [.list es] => (intsOf es).map fun ns => .int ns.sum
  | _ => none
theorem v_sum : VOpL K (rSum K) sumL := by
  intro F H xs ds Q hs hz hx w
  unfold sumL at w
  split at w
  · rename_i es
    obtain ⟨v, rfl, h⟩ := hx.one
    obtain ⟨p, ys, rfl, g1, g2, g3⟩ := h.list hs hz
    cases q : intsOf es with
    | none => rw [q] at w; exact w.no
    | some ns =>
      rw [q] at w
      exact ⟨p, ns, rfl, intsOf_dp g2 q ▸ .of g1, Wants.now hs hz w (.int _)⟩
  · exact w.no
def allL (ds : List PyData) : Option PyData := match ds with
  | [.list es] => (boolsOf es).map fun ns => .bool (ns.all id)
  | _ => none
theorem v_all : VOpL K (rAll K) allL := by
  intro F H xs ds Q hs hz hx w
  unfold allL at w
  split at w
  · rename_i es
    obtain ⟨v, rfl, h⟩ := hx.one
    obtain ⟨p, ys, rfl, g1, g2, g3⟩ := h.list hs hz
    cases q : boolsOf es with
    | none => rw [q] at w; exact w.no
    | some ns =>
      rw [q] at w
      exact ⟨p, ns, rfl, boolsOf_dp g2 q ▸ .of g1, Wants.now hs hz w (.bl _)⟩
  · exact w.no
def anyL (ds : List PyData) : Option PyData := match ds with
  | [.list es] => (boolsOf es).map fun ns => .bool (ns.any id)
  | _ => none
theorem v_any : VOpL K (rAny K) anyL := by
  intro F H xs ds Q hs hz hx w
  unfold anyL at w
  split at w
  · rename_i es
    obtain ⟨v, rfl, h⟩ := hx.one
    obtain ⟨p, ys, rfl, g1, g2, g3⟩ := h.list hs hz
    cases q : boolsOf es with
    | none => rw [q] at w; exact w.no
    | some ns =>
      rw [q] at w
      exact ⟨p, ns, rfl, boolsOf_dp g2 q ▸ .of g1, Wants.now hs hz w (.bl _)⟩
  · exact w.no
/-! ### repr -/
def reprL (ds : List PyData) : Option PyData := match ds with
  | [d] => if d.showable = true ∧ d.canLay0 = true ∧ d.depth ≤ 60 ∧ d.shown.length ≤ sizeLine then some (.str d.shown) else none
  | _ => none
theorem noDict_canLay : ∀ d : PyData, d.canLay0 = true → d.hasDict = false := by
  intro d
  exact PyData.rec (motive_1 := fun d => d.canLay0 = true → d.hasDict = false) (motive_2 := fun ds => PyData.canLayAll0 ds = true → PyData.hasDictAll ds = false) (motive_3 := fun _ => True) (motive_4 := fun _ => True)
    (fun _ => by simp only [PyData.hasDict]) (fun _ _ => by simp only [PyData.hasDict]) (fun _ _ => by simp only [PyData.hasDict]) (fun _ _ => by simp only [PyData.hasDict])
    (fun xs ih h => by simp only [PyData.hasDict]; exact ih (by simpa only [PyData.canLay0] using h)) (fun xs ih h => by simp only [PyData.hasDict]; exact ih (by simpa only [PyData.canLay0] using h)) (fun _ _ h => by simp only [PyData.canLay0] at h; cases h)
    (fun _ => by simp only [PyData.hasDictAll]) (fun x xs h1 h2 h => by
      simp only [PyData.canLayAll0, Bool.and_eq_true] at h
      simp only [PyData.hasDictAll, h1 h.1, h2 h.2, Bool.or_false]) trivial (fun _ _ _ _ => trivial) (fun _ _ _ _ => trivial) d
def rRepr (K : PySem.W.Frag) : List V → Hp → VK → Prop := fun xs H Q => ∃ v d, xs = [v] ∧ L2.Dp K H v d ∧ d.showable = true ∧ d.canLay0 = true ∧ d.depth ≤ 60 ∧ d.shown.length ≤ sizeLine ∧ Q (.str d.shown) H
theorem call_repr (hg : X.A.guards = some []) (hu : X.A.units + 64 < cLine) : CallR X (.builtin "repr") (rRepr X.K) := by
  intro pins s σ H xs us Q I rv h
  obtain ⟨v, d, rfl, hd, h1, h2, h3, h4, q⟩ := h
  obtain ⟨u, rfl, ru⟩ := vals1 rv
  obtain ⟨as, rd⟩ := L2.Dp.reads I d v u hd ru
  have nd : d.hasDict = true → sysModules ∉ as := fun z => by rw [noDict_canLay d h2] at z; cases z
  cases hd with
  | non => cases ru; exact PySem.P.repr_of_none ⟨.str _, H, I.tok _, ⟨_, rfl⟩, by simpa only [PyData.shown] using q⟩
  | bl b => cases ru; exact PySem.P.repr_of_bool ⟨.str _, H, I.tok _, ⟨_, rfl⟩, by simpa only [PyData.shown] using q⟩
  | int i =>
    obtain ⟨t, rfl⟩ := ru
    exact PySem.P.repr_of_int (by simpa [PyData.showable] using h1) ⟨.str _, H, I.tok _, ⟨_, rfl⟩, by simpa only [PyData.shown] using q⟩
  | str x =>
    obtain ⟨t, rfl⟩ := ru
    exact PySem.P.repr_of_str ⟨.str _, H, I.tok _, ⟨_, rfl⟩, by simpa only [PyData.shown] using q⟩ (by simpa only [PyData.shown] using h4)
  | lst _ _ => cases ru; exact repr_of_reads' rd h1 nd hg (by omega) (fun _ _ z => z) (fun h' w tk hk => ⟨.str _, H, I.kept hk, ⟨w, rfl⟩, q⟩) h4
  | tup _ _ => cases ru; exact repr_of_reads' rd h1 nd hg (by omega) (fun _ _ z => z) (fun h' w tk hk => ⟨.str _, H, I.kept hk, ⟨w, rfl⟩, q⟩) h4
theorem v_repr : VOpL K (rRepr K) reprL := by
  intro F H xs ds Q hs hz hx w
  unfold reprL at w
  split at w
  · rename_i d
    obtain ⟨v, rfl, h⟩ := hx.one
    obtain ⟨⟨h1, h2, h3, h4⟩, w⟩ := Wants.ite (c := d.showable = true ∧ d.canLay0 = true ∧ d.depth ≤ 60 ∧ d.shown.length ≤ sizeLine) w
    exact ⟨v, d, rfl, h.up hs h2, h1, h2, h3, h4, Wants.now hs hz w (.str _)⟩
  · exact w.no
end
end M
set_option Elab.async false
set_option linter.all false
set_option maxRecDepth 100000
set_option maxHeartbeats 4000000
namespace M
open PySem PySem.Spec PyProof.Rows L2

section
variable {X : Cx} {C : Cc} {k : Nat} {F H : Hp} {K : PySem.W.Frag} {e a b : Expr} {es : List Expr} {pos p : Pos} {oa ob : Opd} {σ : L2.St} {ρ : MEnv} {fs : Fs}
/-! ## isinstance(x, T), T a built-in class -/
def tyD : PyData → String
  | .none => "NoneType"
  | .bool _ => "bool"
  | .int _ => "int"
  | .str _ => "str"
  | .list _ => "list"
  | .tuple _ => "tuple"
  | .dict _ => "list"
/-- the built-in classes asked about -/
def isD (T : String) (d : PyData) : Option PyData := match d with
  | .dict _ => none
  | _ => some (.bool (tyD d == T || (tyD d == "bool" && T == "int")))
def isTab : Bool := ["int", "bool", "str", "list", "tuple", "dict"].all fun T => ["NoneType", "bool", "int", "str", "list", "tuple"].all fun n => kitB n T == some (n == T || (n == "bool" && T == "int"))
theorem isTab_ok : isTab = true := by decide +kernel
theorem kit_is {T n : String} (hT : T ∈ ["int", "bool", "str", "list", "tuple", "dict"]) (hn : n ∈ ["NoneType", "bool", "int", "str", "list", "tuple"]) : PySem.W.kitOne K (.type n) (.type T) = some (n == T || (n == "bool" && T == "int")) := by
  have h := isTab_ok
  unfold isTab at h
  rw [List.all_eq_true] at h
  have h1 := h T hT
  rw [List.all_eq_true] at h1
  exact kit_ty (eq_of_beq (h1 n hn))
theorem tyX_dt {v : V} {d : PyData} (hs : Sub F H) (hz : SzOk K F) (h : Dt K F H v d) (hd : ∀ kvs, d ≠ .dict kvs) : TyX K H v (.type (tyD d)) := by
  cases d with
  | none => rw [h.non]; exact .base .non
  | bool b => rw [h.bl]; exact .base (.bl b)
  | int i => rw [h.int]; exact .base (.int i)
  | str x => rw [h.str]; exact .base (.str x)
  | list ds => obtain ⟨p, xs, rfl, g, _⟩ := h.list hs hz; exact .base (.lst g)
  | tuple ds =>
    obtain ⟨p, xs, rfl, _, g, _⟩ := h.tuple hs hz
    rcases g with (g | ⟨o, g⟩) | ⟨o, its, n, g1, g2, _⟩
    · exact .base (.tup g)
    · exact .fTuple g
    · exact .kTuple g1 g2
  | dict kvs => exact absurd rfl (hd kvs)
theorem tyD_mem (d : PyData) (hd : ∀ kvs, d ≠ .dict kvs) : tyD d ∈ ["NoneType", "bool", "int", "str", "list", "tuple"] := by
  cases d with
  | dict kvs => exact absurd rfl (hd kvs)
  | _ => simp [tyD]
theorem de_isi {x : Str} {T : String} {px pT : Pos} (G : Gd X C k) (hT : T ∈ ["int", "bool", "str", "list", "tuple", "dict"]) (hg : Gl X "isinstance") (hm : X.mg "isinstance" = none) (hgT : Gl X x) (hmT : X.mg x = none) (hb : bootBuiltins x = some (.type T))
    (h : DO X C e oa) (hbi : bootBuiltins "isinstance" = some (.builtin "isinstance") := by decide +kernel) (hn : x ≠ "__name__" := by decide) (hdb : (x == ("__debug__" : Str)) = false := by decide)
    (hst : starEach [e, .Name x pT] X.env = (false, eval e X.env) :: starEach [.Name x pT] X.env := by rfl) (hst2 : starEach [.Name x pT] X.env = (false, eval (.Name x pT) X.env) :: starEach [] X.env := by rfl) (hpl : (backTo pos (starEach [.Name x pT] X.env)).any (·.1) = false := by rfl) :
    DE X C (.Call (.Name "isinstance" px) [e, .Name x pT] [] pos) (op1 (isD T) oa) :=
  PE.imp (pe_callB (r := rIsi X.K) call_isi hg hm hbi (pa_cons h (pa_cons (pe_bltn (v := .ty T) hgT hmT hb rfl hn hdb) pa_nil hst2) hst) (by decide) (by decide) hst hpl) fun σ H Q ⟨F, ρ, fs, r, q⟩ => by
    refine tG.mono (Res.bnd (rv := rvO C σ) r q) fun v H1 ⟨F1, ρ1, fs1, x, r1, x1, rd, q1⟩ => ?_
    obtain ⟨d, hd, q2⟩ := Res.fin r1 rd q1
    have w := Res.lfo r1 q2
    have nd : ∀ kvs, d ≠ .dict kvs := fun kvs z => by rw [z] at w; exact w.no
    have e : isD T d = some (.bool (tyD d == T || (tyD d == "bool" && T == "int"))) := by
      cases d with
      | dict kvs => exact absurd rfl (nd kvs)
      | _ => rfl
    rw [e] at w
    have hK := G.g.K
    refine ⟨v, .ty T, .type (tyD d), .type T, _, rfl, .ty T, ?_, ?_, w.now r1.sub r1.sz (.bl _)⟩
    · rw [← hK]; exact tyX_dt r1.sub r1.sz hd nd
    · exact kit_is hT (tyD_mem d nd)
/-! ## list(range(..)) -/
def lrD1 (d : PyData) : Option (List PyData) := range1 d
def lrM1 (oa : Opd) : ME (List PyData) := bnd oa.run fun x => bnd (fin x) fun d => lfo (range1 d)
def lrM2 (oa ob : Opd) : ME (List PyData) := bnd oa.run fun x => bnd ob.run fun y => bnd (fin x) fun d => bnd (fin y) fun e => lfo (range2 d e)
theorem dp_rg (i j : Int) : DpAll K F (rgV i j) (upTo i (j - i).toNat) := by
  unfold rgV upTo
  generalize (j - i).toNat = n
  induction List.range n with
  | nil => exact .nil
  | cons a l ih => exact .cons (.int _) ih
theorem df_lrange1 {p2 pos2 : Pos} (G : Gd X C k) (hgl : Gl X "list") (hml : X.mg "list" = none) (hg : Gl X "range") (hm : X.mg "range" = none) (h : DO X C a oa) (na : starEach [a] X.env = (false, eval a X.env) :: starEach [] X.env := by rfl)
    (nr : starEach [.Call (.Name "range" p2) [a] [] pos2] X.env = (false, eval (.Call (.Name "range" p2) [a] [] pos2) X.env) :: starEach [] X.env := by rfl) : DF X C (.Call (.Name "list" p) [.Call (.Name "range" p2) [a] [] pos2] [] pos) (lrM1 oa) :=
  PE.imp (pe_listRg G.g.calm hgl hml (prg_1 hg hm h na) nr) fun σ H Q ⟨F, ρ, fs, r, q⟩ => by
    refine tG.mono (Res.bnd (rv := rvO C σ) r q) fun v H1 ⟨F1, ρ1, fs1, x, r1, x1, rd, q1⟩ => ?_
    obtain ⟨d, hd, q2⟩ := Res.fin r1 rd q1
    unfold M.lfo at q2
    cases d with
    | int n =>
      cases e : range1 (.int n) with
      | none => simp only [e] at q2; exact q2.elim
      | some out =>
        simp only [e] at q2
        unfold range1 at e
        simp only at e
        split at e
        · rename_i hb
          have hb := of_decide_eq_true hb
          cases e
          rw [hd.int]
          refine ⟨n, rfl, ⟨by omega, by omega, by omega, by omega, by omega⟩, Res.newO r1 (by have := dp_rg (K := C.K) (F := F1) 0 n; simpa using this) ?_ q2⟩
          rw [rgV_length, sizeLine_eq]; omega
        · cases e
    | _ => exact q2.elim
theorem df_lrange2 {p2 pos2 : Pos} (G : Gd X C k) (hgl : Gl X "list") (hml : X.mg "list" = none) (hg : Gl X "range") (hm : X.mg "range" = none) (h : DO X C a oa) (h' : DO X C b ob) (na : starEach [a, b] X.env = (false, eval a X.env) :: starEach [b] X.env := by rfl)
    (nb : starEach [b] X.env = (false, eval b X.env) :: starEach [] X.env := by rfl) (hp : (backTo pos2 (starEach [b] X.env)).any (·.1) = false := by rfl)
    (nr : starEach [.Call (.Name "range" p2) [a, b] [] pos2] X.env = (false, eval (.Call (.Name "range" p2) [a, b] [] pos2) X.env) :: starEach [] X.env := by rfl) : DF X C (.Call (.Name "list" p) [.Call (.Name "range" p2) [a, b] [] pos2] [] pos) (lrM2 oa ob) :=
  PE.imp (pe_listRg G.g.calm hgl hml (prg_2 hg hm h h' na nb hp) nr) fun σ H Q ⟨F, ρ, fs, r, q⟩ => by
    refine tG.mono (Res.bnd (rv := rvO C σ) r q) fun v H1 ⟨F1, ρ1, fs1, x, r1, x1, rd, q1⟩ => ?_
    refine tG.mono (Res.bnd (rv := rvO C σ) r1 q1) fun u H2 ⟨F2, ρ2, fs2, y, r2, x2, re, q2⟩ => ?_
    obtain ⟨d, hd, q3⟩ := Res.fin r2 (rvO.ext x2 rd) q2
    obtain ⟨e', he, q4⟩ := Res.fin r2 re q3
    unfold M.lfo at q4
    cases d with
    | int i => cases e' with
      | int j =>
        cases e : range2 (.int i) (.int j) with
        | none => simp only [e] at q4; exact q4.elim
        | some out =>
          simp only [e] at q4
          unfold range2 at e
          simp only at e
          split at e
          · rename_i hb
            rw [Bool.and_eq_true, Bool.and_eq_true] at hb
            have hb1 := of_decide_eq_true hb.1.1
            have hb2 := of_decide_eq_true hb.1.2
            have hb3 := of_decide_eq_true hb.2
            cases e
            rw [hd.int, he.int]
            refine ⟨i, j, rfl, rfl, ⟨by omega, by omega, by omega, by omega, by omega⟩, Res.newO r2 (dp_rg i j) ?_ q4⟩
            rw [rgV_length, sizeLine_eq]; omega
          · cases e
      | _ => exact q4.elim
    | _ => exact q4.elim
/-! ## list(xs), a slice, a sum of lists: as a list of one's own -/
def ownM (m : ME PyData) : ME (List PyData) := bnd m fun d => lfo (match d with | .list ds => some ds | _ => none)
/-! ## a list of one's own is changed -/
theorem Rel.write (r : Rel C F H σ ρ fs) {i : Nat} {n : Option Nat} {us us' : List PyData} (hi : getS ρ i = .ol n us) {a : Addr} (ha : σ[i]? = some (some (.ref a))) {xs' : List V} (hl : xs'.length ≤ sizeLine) (hd : DpAll C.K F xs' us') :
    Rel C F (upd H a (.lst xs')) σ (ρ.set i (.ol n us')) fs ∧ Ext F H fs F (upd H a (.lst xs')) fs := by
  obtain ⟨b, vs, h1, h2, h3, _⟩ := r.slot i _ (getS_of hi (by simp))
  rw [ha] at h1
  have : a = b := by simpa using h1
  subst this
  have hF : F a = none := r.out i a (by rw [h2]; simp)
  refine r.called hi ha ⟨fun _ _ z => z, fun x o z n => ?_, fun i b hb => .inl ⟨i, hb⟩, fun x z => ?_, fun x z => .inl z⟩ (fun x o z => ?_) r.sz hF upd_same hl hd
  · have : x ≠ a := fun e => n 0 (by rw [e]; exact one_self)
    rw [upd_ne this]; exact z
  · by_cases e : x = a
    · subst e; rw [upd_same] at z; cases z
    · rw [upd_ne e] at z; exact z
  · rw [upd_ne (ne_of_none z hF)]; exact r.sub x o z
/-- xs[i] = e -/
def setIx (i : Nat) (m ix : ME PyData) : SM := fun ρ0 => match getS ρ0 i with
  | .ol _ _ => bndS m (fun d => bndS ix fun kd ρ => match getS ρ i, kd with
    | .ol n us, .int j => (match ixN us.length j with
      | some l => .next (setS ρ i (.ol n (us.set l d)))
      | none => .fail)
    | _, _ => .fail) ρ0
  | _ => .fail
theorem ds_setIx {i : Nat} {x : Str} {px : Pos} {m ix : ME PyData} {sp : Pos} (hN : X.N[i]? = some x) (hv : Vis X.env.scope x) (he : DE X C e m) (hx : DE X C b ix) (hd : (x == ("__debug__" : Str)) = false := by decide) (hcd : (x == ("__classdict__" : Str)) = false := by decide)
    (ha : ∀ v, assign (.Subscript (.Name x px) b sp) X.env v = (do
      let ov ← holding [v] (eval (.Name x px) X.env)
      let iv ← holding [v, ov] (eval b X.env)
      standAt sp
      holding [v, ov, iv] (setItem ov iv v)
      release [v, ov, iv] []) := by intro _; rfl)
    (hs : swapsWithSole [.Subscript (.Name x px) b sp] e pos.line X.env = pure false := by rfl) (hw : swappedStores [.Subscript (.Name x px) b sp] e X.env = pure none := by rfl)
    (h1 : (assignEach [.Subscript (.Name x px) b sp] X.env).map (·.2) = [assign (.Subscript (.Name x px) b sp) X.env] := by rfl) : DS X C (.Assign [.Subscript (.Name x px) b sp] e pos) (setIx i m ix) :=
  PS.imp (ps_asg he (pg_sub (pe_var hN hv hd hcd) hx set_list ha) hs hw h1) fun D σ H ⟨F, ρ, fs, r, q⟩ => by
    unfold setIx at q
    cases e0 : getS ρ i with
    | un => rw [e0] at q; exact q.elim
    | fz d => rw [e0] at q; exact q.elim
    | ol m0 us0 =>
      rw [e0] at q
      simp only at q
      obtain ⟨p, _, hp, _⟩ := r.slot i _ (getS_of e0 (by simp))
      refine tG.mono (ResS.bnd (rv := rvD C) r q) fun v H1 ⟨F1, ρ1, fs1, d, r1, x1, rd, q1⟩ => ?_
      refine ⟨.ref p, hp, ?_⟩
      refine tG.mono (ResS.bnd (rv := rvD C) r1 q1) fun iv H2 ⟨F2, ρ2, fs2, kd, r2, x2, re, q2⟩ => ?_
      cases e2 : getS ρ2 i with
      | un => rw [e2] at q2; exact q2.elim
      | fz d => rw [e2] at q2; exact q2.elim
      | ol n us =>
        rw [e2] at q2
        cases kd with
        | int j =>
          simp only at q2
          cases e3 : ixN us.length j with
          | none => rw [e3] at q2; exact q2.elim
          | some l =>
            rw [e3] at q2
            simp only at q2
            obtain ⟨p', xs, g1, g2, g3, g4, g5, _⟩ := r2.slot i _ (getS_of e2 (by simp))
            rw [hp] at g1
            have : p = p' := by simpa using g1
            subst this
            cases re
            obtain ⟨r3, x3⟩ := r2.write e2 hp (xs' := xs.set l v) (us' := us.set l d) (by rw [List.length_set]; exact g5) (DpAll.set (Dp.mono x2.fz d rd) l g4)
            rw [← setS_eq] at r3
            exact ⟨p, xs, j, l, rfl, rfl, g3, by rw [DpAll.length g4]; exact e3, q2 σ _ F2 fs2 r3 x3⟩
        | _ => exact q2.elim
/-- a built-in method of a list of one's own: what it gives, what stands then -/
def VMt (K : PySem.W.Frag) (r : V → List V → Hp → VK → Prop) (f : List PyData → List PyData → Option (PyData × List PyData)) : Prop :=
  ∀ (F H : Hp) (a : Addr) (xs vs : List V) (us ds : List PyData) (Q : VK), Sub F H → SzOk K F → F a = none → H a = some (.lst xs) → xs.length ≤ sizeLine → DpAll K F xs us → DpAll K F vs ds →
    (∃ d us', f us ds = some (d, us') ∧ ∀ v xs', xs'.length ≤ sizeLine → DpAll K F xs' us' → Dp K F v d → Q v (upd H a (.lst xs'))) → r (.ref a) vs H Q
def methM (f : List PyData → List PyData → Option (PyData × List PyData)) (i : Nat) (ms : List (ME PyData)) : ME PyData := fun ρ0 => match getS ρ0 i with
  | .ol _ _ => bnd (evs ms) (fun ds ρ => match getS ρ i with
    | .ol n us => (match f us ds with
      | some (d, us') => .ok (d, setS ρ i (.ol n us'))
      | none => .fail)
    | _ => .fail) ρ0
  | _ => .fail
theorem Res.meth {r : V → List V → Hp → VK → Prop} {f : List PyData → List PyData → Option (PyData × List PyData)} {i : Nat} {p : Addr} {vs : List V} {ds : List PyData} {Q : VK} (hv : VMt C.K r f) (r1 : Rel C F H σ ρ fs) (hp : σ[i]? = some (some (.ref p))) (rd : DpAll C.K F vs ds)
    (q : Res C (rvD C) σ F H fs Q (match getS ρ i with
      | .ol n us => (match f us ds with
        | some (d, us') => .ok (d, setS ρ i (.ol n us'))
        | none => .fail)
      | _ => .fail)) : r (.ref p) vs H Q := by
  cases e2 : getS ρ i with
  | un => rw [e2] at q; exact q.elim
  | fz d => rw [e2] at q; exact q.elim
  | ol n us =>
    rw [e2] at q
    simp only at q
    obtain ⟨p', xs, g1, g2, g3, g4, g5, _⟩ := r1.slot i _ (getS_of e2 (by simp))
    rw [hp] at g1
    have : p = p' := by simpa using g1
    subst this
    cases ef : f us ds with
    | none => rw [ef] at q; exact q.elim
    | some z =>
      obtain ⟨d, us'⟩ := z
      rw [ef] at q
      refine hv F H p xs vs us ds Q r1.sub r1.sz (r1.out i p (by rw [g2]; simp)) g3 g5 g4 rd ⟨d, us', ef, fun v xs' hl hd hv' => ?_⟩
      obtain ⟨r3, x3⟩ := r1.write e2 hp hl hd
      rw [← setS_eq] at r3
      exact q v _ F fs r3 x3 hv'
theorem de_meth {name : Str} {id : String} {r : V → List V → Hp → VK → Prop} {f : List PyData → List PyData → Option (PyData × List PyData)} {i : Nat} {x : Str} {px apos cpos : Pos} {ms : List (ME PyData)} {m : ME PyData}
    (hv : VMt C.K r f) (pa : PlainAttrs "list") (slot : PySem.Slot "list" name id) (hty : typeOf (.builtin id) = pure (.type "method_descriptor")) (hm : MtR X id r) (hN : X.N[i]? = some x) (hvis : Vis X.env.scope x) (h : DL X C (e :: es) (m :: ms))
    (hd : (x == ("__debug__" : Str)) = false := by decide) (hcd : (x == ("__classdict__" : Str)) = false := by decide)
    (hbase : attributeBase (.Name x px) name X.env (eval (.Name x px) X.env) = eval (.Name x px) X.env := by rfl)
    (hfew : ((backTo cpos (starEach (e :: es) X.env)).all (fun x => !x.1) && (backToKw cpos (keywordEach [] X.env)).all (fun x => x.1.isSome)
      && decide ((e :: es).length + ([] : List Keyword).length + (if ([] : List Keyword).isEmpty then 0 else 1) < 30)) = true := by rfl)
    (hline : (apos.endLine == cpos.line) = true := by rfl) (hst : starEach (e :: es) X.env = (false, eval e X.env) :: starEach es X.env := by rfl) (hplain : (backTo cpos (starEach es X.env)).any (·.1) = false := by rfl) :
    DE X C (.Call (.Attribute (.Name x px) name apos) (e :: es) [] cpos) (methM f i (m :: ms)) := PE.imp (pe_bm pa slot hty hm (pe_var hN hvis hd hcd) h hbase hfew hline hst hplain) fun σ H Q ⟨F, ρ, fs, r, q⟩ => by
  unfold methM at q
  cases e0 : getS ρ i with
  | un => rw [e0] at q; exact q.elim
  | fz d => rw [e0] at q; exact q.elim
  | ol m0 us0 =>
    rw [e0] at q
    simp only at q
    obtain ⟨p, xs, hp, g2, g3, _⟩ := r.slot i _ (getS_of e0 (by simp))
    refine ⟨.ref p, hp, .inl ⟨rfl, xs, .of g3⟩, ?_⟩
    refine tG.mono (Res.bnd (rv := rvL C) r q) fun vs H1 ⟨F1, ρ1, fs1, ds, r1, x1, rd, q1⟩ => ?_
    exact Res.meth hv r1 hp rd q1
theorem de_meth0 {name : Str} {id : String} {r : V → List V → Hp → VK → Prop} {f : List PyData → List PyData → Option (PyData × List PyData)} {i : Nat} {x : Str} {px apos cpos : Pos}
    (hv : VMt C.K r f) (pa : PlainAttrs "list") (slot : PySem.Slot "list" name id) (hty : typeOf (.builtin id) = pure (.type "method_descriptor")) (hm : MtR X id r) (hN : X.N[i]? = some x) (hvis : Vis X.env.scope x)
    (hd : (x == ("__debug__" : Str)) = false := by decide) (hcd : (x == ("__classdict__" : Str)) = false := by decide)
    (hbase : attributeBase (.Name x px) name X.env (eval (.Name x px) X.env) = eval (.Name x px) X.env := by rfl) (hline : (apos.endLine == cpos.line) = true := by rfl) :
    DE X C (.Call (.Attribute (.Name x px) name apos) [] [] cpos) (methM f i []) := PE.imp (pe_bm0 pa slot hty hm (pe_var hN hvis hd hcd) hbase hline) fun σ H Q ⟨F, ρ, fs, r, q⟩ => by
  unfold methM at q
  cases e0 : getS ρ i with
  | un => rw [e0] at q; exact q.elim
  | fz d => rw [e0] at q; exact q.elim
  | ol m0 us0 =>
    rw [e0] at q
    simp only at q
    obtain ⟨p, xs, hp, g2, g3, _⟩ := r.slot i _ (getS_of e0 (by simp))
    refine ⟨.ref p, hp, .inl ⟨rfl, xs, .of g3⟩, ?_⟩
    exact Res.meth hv r hp .nil q
def appF (us ds : List PyData) : Option (PyData × List PyData) := match ds with
  | [d] => if us.length < sizeLine then some (.none, us ++ [d]) else none
  | _ => none
theorem v_append : VMt K rAppend appF := by
  intro F H a xs vs us ds Q hs hz hF ha hl hu hd ⟨d, us', e, q⟩
  unfold appF at e
  split at e
  · rename_i d'
    split at e
    · rename_i hlt
      cases e
      cases hd with
      | cons p t =>
        cases t
        have hlx : xs.length < sizeLine := by rw [DpAll.length hu]; exact hlt
        exact ⟨a, xs, _, rfl, rfl, ha, hlx, q _ _ (by rw [List.length_append]; exact hlx) (DpAll.append hu (.cons p .nil)) .non⟩
    · cases e
  · cases e
def popF (us ds : List PyData) : Option (PyData × List PyData) := match ds with
  | [.int i] => if -1000000 ≤ i ∧ i ≤ 1000000 then match seqIndex? i us.length with
    | some j => match us[j]? with
      | some d => some (d, us.eraseIdx j)
      | none => none
    | none => none
   else none
  | _ => none
theorem DpAll.erase : ∀ {ds : List PyData} {vs : List V} (i : Nat), DpAll K F vs ds → DpAll K F (vs.eraseIdx i) (ds.eraseIdx i)
  | [], _, _, .nil => by simpa using .nil
  | _ :: _, _, 0, .cons _ q => q
  | _ :: _, _, i + 1, .cons p q => .cons p (DpAll.erase i q)
theorem v_pop : VMt K rPopAt popF := by
  intro F H a xs vs us ds Q hs hz hF ha hl hu hd ⟨d, us', e, q⟩
  unfold popF at e
  split at e
  · rename_i i
    split at e
    · rename_i hb
      split at e
      · rename_i j ej
        split at e
        · rename_i d' ed
          cases e
          obtain ⟨v, h1, h2⟩ := DpAll.get hu ed
          cases hd with
          | cons p t =>
            cases t
            cases p
            refine ⟨a, xs, i, j, v, rfl, rfl, ha, by omega, by omega, by rw [DpAll.length hu]; exact ej, h1, q v _ ?_ (DpAll.erase j hu) h2⟩
            exact Nat.le_trans (List.length_eraseIdx_le ..) hl
        · cases e
      · cases e
    · cases e
  · cases e
def extF (us ds : List PyData) : Option (PyData × List PyData) := match ds with
  | [.list es] => if us.length + es.length ≤ sizeLine then some (.none, us ++ es) else none
  | _ => none
theorem v_extend : VMt K rExtend extF := by
  intro F H a xs vs us ds Q hs hz hF ha hl hu hd ⟨d, us', e, q⟩
  unfold extF at e
  split at e
  · rename_i es
    split at e
    · rename_i hlt
      cases e
      cases hd with
      | cons p t =>
        cases t
        cases p with
        | lst g1 g2 =>
          have e1 := DpAll.length hu
          have e2 := DpAll.length g2
          exact ⟨a, _, xs, _, rfl, rfl, ha, hs _ _ g1, by omega, q _ _ (by rw [List.length_append]; omega) (DpAll.append hu g2) .non⟩
    · cases e
  · cases e
end
end M
set_option Elab.async false
set_option linter.all false
set_option maxRecDepth 100000
set_option maxHeartbeats 4000000
namespace M
open PySem PySem.Spec PyProof.Rows L2

/-! ## the end of a law -/
/-- the script as data -/
def lck (ds : List PyData) : PyData := .dict [(.none, .list ds)]
theorem dp_ints {K : PySem.W.Frag} {F : Hp} : ∀ ns : List Int, DpAll K F (ns.map V.int) (ns.map .int)
  | [] => .nil
  | i :: r => .cons (.int i) (dp_ints r)
section
variable {P : Program} {w : World} {K : PySem.W.Frag} {mg mb : Str → Option Value} {k n : Nat} {fa a : Addr} {fd : FuncData} {s : Shared} {vs : List Value} {ns : List Int} {g : List PyData → R PyData}
/-- the script is locked, or one of the module's own -/
theorem run_law {H : Hp} (inK : K.In s.heap) (gl : s.heap.Ns mainGlobals mg) (bl : s.heap.Ns builtinsNs mb) (bb : ∀ x : Str, x ≠ "__name__" → mb x = bootBuiltins x) (nl : s.heap.NoLimit) (gens : s.gens = #[])
    (room : Room k callerA) (fn : ∀ base : Heap, K.In base → base.Ns mainGlobals mg → FnG P w K mg base k fa fd ["script"] (spP K mg 1 g)) (bd : ∀ (s : Shared) (u : Value), BindsTo s fd ⟨[u], []⟩ [("script", u)])
    (ans : g [lck (ns.map .int)] = .ok (.bool true)) (only : ∀ b o, H b = some o → b = a ∧ ∃ ob ys, o = .frz ob (.lst ys) ∧ ys.length ≤ sizeLine) (held : HOk P w H s.heap) (isl : ∃ m, s.heap.get? a = some { cls := .type "list", data := .seq vs.toArray m }) (there : SqL K H a (ns.map V.int)) (apart : ∀ o, H a = some o → K.lookup a = none) :
    codeAny (model P w) callerA (.call (.ref fa) ⟨[.ref a], []⟩) (fun r s' => r = .ok (.ret (.bool true)) ∧ OldK s.heap s'.heap ∧ s'.os = s.os ∧ AllBare s'.gens) s := by
  -- what the base bears
  have un : ∀ {b : Addr} {o : Obj}, s.heap.get? b = some o → H b = none → (hidT s.heap H).get? b = some o := fun h1 h2 => hidT_get h1 h2
  have away : ∀ {b : Addr} {o : Obj}, s.heap.get? b = some o → (∀ vs m, o.data ≠ .seq vs m) → H b = none := fun {b o} h1 h2 => by
    cases q : H b with
    | none => rfl
    | some u =>
      obtain ⟨rfl, _⟩ := only b u q
      obtain ⟨m, e⟩ := isl
      rw [e] at h1
      cases h1
      exact absurd rfl (h2 _ _)
  have names : ∀ {b : Addr} {m : Str → Option Value}, s.heap.Ns b m → (hidT s.heap H).Ns b m := fun {b m} ⟨o, es, ep, h1, h2, h3⟩ =>
    ⟨o, es, ep, un h1 (away h1 fun vs m z => by rw [h2] at z; cases z), h2, h3⟩
  have baseK : K.In (hidT s.heap H) := fun b o h => un (inK b o h) (by
    cases q : H b with
    | none => rfl
    | some u =>
      obtain ⟨rfl, _⟩ := only b u q
      rw [apart u q] at h
      cases h)
  have md : Mod K mg (hidT s.heap H) := ⟨baseK, names gl, ⟨mb, names bl, bb⟩, let ⟨m, h1, h2⟩ := nl; ⟨m, names h1, h2⟩⟩
  have env : Env0 P w K mg (hidT s.heap H) callerA [] s H := ⟨rfl, md, fun b o h => of_hidT h, Nat.le_of_eq (hidT_size _ _), trivial, fun b hb => absurd (show b ∈ ([] : List Addr) from hb) (by simp), held, .of_eq gens⟩
  have size : SzOk K H := by
    refine ⟨fun b xs h => ?_, fun b xs h => ?_⟩
    · rcases h with (h | ⟨ob, h⟩) | ⟨o, its, m, _, _, _, _, h5, h6⟩
      · obtain ⟨_, ob, ys, e, _⟩ := only b _ h
        cases e
      · obtain ⟨_, ob', ys, e, hl⟩ := only b _ h
        cases e
        exact hl
      · rw [h6.length]; simpa using h5
    · rcases h with (h | ⟨ob, h⟩) | ⟨o, its, m, _, _, _, h5, h6⟩
      · obtain ⟨_, ob, ys, e, _⟩ := only b _ h
        cases e
      · obtain ⟨_, ob', ys, e, _⟩ := only b _ h
        cases e
      · rw [h6.length]; simpa using h5
  refine codeAny_mono ((fn _ baseK (names gl)).go callerA [] s H ⟨[.ref a], []⟩ [.ref a] [.ref a] (fun v _ => v = .bl true) (fun _ _ _ => False) room rfl env (bd s (.ref a)) (.cons rfl .nil)
    ⟨rfl, H, [lck (ns.map .int)], fun _ _ h => h, size, .cons (.lck there (dp_ints ns)) .nil, by rw [ans]; exact fun v F' H' _ hv => by cases hv; rfl⟩) fun r s' z => ?_
  match r, z with
  | .error e, z => obtain ⟨_, _, _, _, _, _, _, _, _, _, _, _, no⟩ := z; exact no.elim
  | .ok (.ret u), ⟨v, H', o1, o2, o3, o4, rv, e⟩ =>
    cases e
    cases rv
    refine ⟨rfl, OldK.of_keep fun b o hb => ?_, o1, o2⟩
    cases q : H b with
    | none => exact o3.keep b o hb q (fun y => absurd (show b ∈ ([] : List Addr) from y) (by simp)) (fun y => absurd (show b ∈ ([] : List Addr) from y) (by simp))
    | some u =>
      obtain ⟨_, ob, ys, rfl, _⟩ := only b u q
      have h1 := (held b _ q).1
      have h2 := (o4 b _ (o3.frzs b ob _ q)).1
      rw [hb] at h1
      cases h1
      exact h2
theorem law_callG (inK : K.In s.heap) (gl : s.heap.Ns mainGlobals mg) (bl : s.heap.Ns builtinsNs mb) (bb : ∀ x : Str, x ≠ "__name__" → mb x = bootBuiltins x) (nl : s.heap.NoLimit) (gens : s.gens = #[])
    (at_a : s.heap.get? a = some { cls := .type "list", data := .seq vs.toArray }) (it : IntsAre vs ns) (len : ns.length ≤ sizeLine)
    (room : Room k callerA) (fn : ∀ base : Heap, K.In base → base.Ns mainGlobals mg → FnG P w K mg base k fa fd ["script"] (spP K mg 1 g)) (bd : ∀ (s : Shared) (u : Value), BindsTo s fd ⟨[u], []⟩ [("script", u)])
    (ans : g [lck (ns.map .int)] = .ok (.bool true)) :
    codeAny (model P w) callerA (.call (.ref fa) ⟨[.ref a], []⟩) (fun r s' => r = .ok (.ret (.bool true)) ∧ OldK s.heap s'.heap ∧ s'.os = s.os ∧ AllBare s'.gens) s := by
  have rv := vals_ints it
  have lv := it.length
  cases own : K.lookup a with
  | some o =>
    have e := inK a o own
    rw [at_a] at e
    cases e
    exact run_law (H := fun _ => none) inK gl bl bb nl gens room fn bd ans (fun b o h => by cases h) (fun b o h => by cases h) ⟨_, at_a⟩
      (.inr ⟨_, vs.toArray, _, own, rfl, rfl, rfl, by rw [List.size_toArray, lv]; exact len, by simpa using rv⟩) (fun o h => by cases h)
  | none =>
    have one : ∀ b o, (fun b => if b = a then some (HO.frz { cls := .type "list", data := .seq vs.toArray } (.lst (ns.map V.int))) else none) b = some o → b = a ∧ o = .frz { cls := .type "list", data := .seq vs.toArray } (.lst (ns.map V.int)) := fun b o h => by
      by_cases e : b = a
      · simp only [e, if_true] at h; exact ⟨e, (Option.some.inj h).symm⟩
      · simp only [e, if_false] at h; cases h
    refine run_law (H := fun b => if b = a then some (HO.frz { cls := .type "list", data := .seq vs.toArray } (.lst (ns.map V.int))) else none) inK gl bl bb nl gens room fn bd ans (fun b o h => ?_) (fun b o h => ?_) ⟨_, at_a⟩ (.inl (.inr ⟨_, if_pos rfl⟩)) (fun _ _ => own)
    · obtain ⟨h1, h2⟩ := one b o h
      exact ⟨h1, _, _, h2, by rw [List.length_map]; exact len⟩
    · obtain ⟨rfl, rfl⟩ := one b o h
      exact ⟨at_a, by rw [List.length_map]; exact len, vs, _, rv, at_a⟩
end
/-- the goal that the head leaves, from the mirror of the law -/
theorem walkG {l : PySem.W.OpenLaw} {n k : Nat} {q : Program} {loose : List Str} {XP : (Str → Option Value) → Heap → Prop} {YP : World → Heap → Prop} {d : DefRec} {K : Params → PySem.W.Frag} {g : List PyData → R PyData}
    (most : l.most = some n) (small : n ≤ sizeLine) (nodef : d.params.defaults = []) (room : Room k callerA) (hY : ∀ (w : World) (h : Heap), YP w h → (K w.params).In h)
    (ans : ∀ ns : List Int, ns.length ≤ n → g [lck (ns.map .int)] = .ok (.bool true))
    (F : ∀ (w : World) (mg : Str → Option Value) (fa : Addr) (h : Heap), (K w.params).In h → h.Ns mainGlobals mg → mg d.name = some (.ref fa) →
      ∃ fd : FuncData, (∀ (s : Shared) (u : Value), BindsTo s fd ⟨[u], []⟩ [("script", u)]) ∧
        ∀ base : Heap, (K w.params).In base → base.Ns mainGlobals mg → FnG l.prog w (K w.params) mg base k fa fd ["script"] (spP (K w.params) mg 1 g)) :
    PySem.W.WalkO q loose XP YP l.row.toRowW d [] (fun f vs => PySem.call f vs) := by
  refine Att.attach_call most nodef fun w s0 s1 mg mb fa o pm cd doc a vs ns G Y at_f isf code named at_a it len gens => ?_
  obtain ⟨fd, bd, fn⟩ := F w mg fa _ (hY w _ Y) G.T.g named
  exact law_callG (hY w _ Y) G.T.g G.T.b G.T.builtins G.T.nolimit gens at_a it (Nat.le_trans len small) room fn bd (ans ns len)
end M
set_option Elab.async false
set_option linter.all false
set_option maxRecDepth 100000
set_option maxHeartbeats 4000000
namespace M
open PySem PySem.Spec PyProof.Rows L2
/-! ## the mirror layer's names, applied -/
theorem bnd_a {α β : Type} (m : ME α) (k : α → ME β) (ρ : MEnv) : bnd m k ρ = (match m ρ with | .ok (a, ρ1) => k a ρ1 | .err c d => .err c d | .fail => .fail) := (rfl)
theorem ret_a {α : Type} (a : α) (ρ : MEnv) : M.ret a ρ = (.ok (a, ρ)) := (rfl)
theorem lft_ok {α : Type} (a : α) (ρ : MEnv) : lft (.ok a) ρ = (.ok (a, ρ)) := (rfl)
theorem lft_err {α : Type} (c : Str) (d : PyData) (ρ : MEnv) : lft (α := α) (.err c d) ρ = (.err c d) := (rfl)
theorem lfo_some {α : Type} (a : α) (ρ : MEnv) : lfo (some a) ρ = (.ok (a, ρ)) := (rfl)
theorem nameM_a (i : Nat) (ρ : MEnv) : nameM i ρ = (match getS ρ i with | .fz d => .ok (d, ρ) | .ol none ds => .ok (.list ds, setS ρ i (.fz (.list ds))) | .ol (some _) _ => .fail | .un => .fail) := (rfl)
theorem peek_a (i : Nat) (ρ : MEnv) : peek i ρ = (match getS ρ i with | .fz d => .ok (d, ρ) | .ol _ ds => .ok (.list ds, ρ) | .un => .fail) := (rfl)
theorem fin_l (d : PyData) (ρ : MEnv) : M.fin (.inl d) ρ = (.ok (d, ρ)) := (rfl)
theorem fin_r (i : Nat) (ρ : MEnv) : M.fin (.inr i) ρ = (peek i ρ) := (rfl)
theorem run_v (m : ME PyData) (ρ : MEnv) : Opd.run (.v m) ρ = (match m ρ with | .ok (a, ρ1) => .ok (.inl a, ρ1) | .err c d => .err c d | .fail => .fail) := by
  show bnd m (fun d => M.ret (Sum.inl d)) ρ = _
  unfold bnd
  cases m ρ <;> rfl
theorem run_n (i : Nat) (ρ : MEnv) : Opd.run (.n i) ρ = (match getS ρ i with | .un => .fail | .fz _ => .ok (.inr i, ρ) | .ol _ _ => .ok (.inr i, ρ)) := (rfl)
theorem op1_a (f : PyData → Option PyData) (a : Opd) (ρ : MEnv) : op1 f a ρ = ((bnd a.run fun x => bnd (M.fin x) fun d => lfo (f d)) ρ) := (rfl)
theorem op2_a (f : PyData → PyData → Option PyData) (a b : Opd) (ρ : MEnv) : op2 f a b ρ = ((bnd a.run fun x => bnd b.run fun y => bnd (M.fin x) fun d => bnd (M.fin y) fun e => lfo (f d e)) ρ) := (rfl)
theorem opL_a (f : List PyData → Option PyData) (os : List Opd) (ρ : MEnv) : opL f os ρ = ((bnd (runs os) fun xs => bnd (fins xs) fun ds => lfo (f ds)) ρ) := (rfl)
theorem runs_n (ρ : MEnv) : runs [] ρ = (.ok ([], ρ)) := (rfl)
theorem runs_c (o : Opd) (os : List Opd) (ρ : MEnv) : runs (o :: os) ρ = ((bnd o.run fun x => bnd (runs os) fun xs => M.ret (x :: xs)) ρ) := (rfl)
theorem fins_n (ρ : MEnv) : fins [] ρ = (.ok ([], ρ)) := (rfl)
theorem fins_c (x : PyData ⊕ Nat) (xs : List (PyData ⊕ Nat)) (ρ : MEnv) : fins (x :: xs) ρ = ((bnd (M.fin x) fun d => bnd (fins xs) fun ds => M.ret (d :: ds)) ρ) := (rfl)
theorem evs_n (ρ : MEnv) : evs [] ρ = (.ok ([], ρ)) := (rfl)
theorem evs_c (m : ME PyData) (ms : List (ME PyData)) (ρ : MEnv) : evs (m :: ms) ρ = ((bnd m fun d => bnd (evs ms) fun ds => M.ret (d :: ds)) ρ) := (rfl)
theorem tupM_a (ms : List (ME PyData)) (ρ : MEnv) : tupM ms ρ = ((bnd (evs ms) fun ds => lfo (if ds.length ≤ sizeLine then some (.tuple ds) else none)) ρ) := (rfl)
theorem lstM_a (ms : List (ME PyData)) (ρ : MEnv) : lstM ms ρ = ((bnd (evs ms) fun ds => lfo (if ds.length ≤ sizeLine then some (.list ds) else none)) ρ) := (rfl)
theorem lstO_a (ms : List (ME PyData)) (ρ : MEnv) : lstO ms ρ = ((bnd (evs ms) fun ds => lfo (if ds.length ≤ sizeLine then some ds else none)) ρ) := (rfl)
theorem andM_a (a b : ME Bool) (ρ : MEnv) : andM a b ρ = (match a ρ with | .ok (true, ρ1) => b ρ1 | .ok (false, ρ1) => .ok (false, ρ1) | .err c d => .err c d | .fail => .fail) := by
  unfold andM bnd
  cases a ρ with
  | ok p => obtain ⟨k, ρ1⟩ := p; cases k <;> rfl
  | err c d => rfl
  | fail => rfl
theorem orM_a (a b : ME Bool) (ρ : MEnv) : orM a b ρ = (match a ρ with | .ok (true, ρ1) => .ok (true, ρ1) | .ok (false, ρ1) => b ρ1 | .err c d => .err c d | .fail => .fail) := by
  unfold orM bnd
  cases a ρ with
  | ok p => obtain ⟨k, ρ1⟩ := p; cases k <;> rfl
  | err c d => rfl
  | fail => rfl
theorem notM_a (a : ME Bool) (ρ : MEnv) : notM a ρ = (match a ρ with | .ok (k, ρ1) => .ok (!k, ρ1) | .err c d => .err c d | .fail => .fail) := by
  unfold notM
  (try unfold bnd)
  (try unfold bndS)
  cases a ρ <;> rfl
theorem andV_a (a b : ME PyData) (ρ : MEnv) : andV a b ρ = ((bnd a fun d => bnd (lfo (asB d)) fun k => if k then b else M.ret (.bool false)) ρ) := (rfl)
theorem orV_a (a b : ME PyData) (ρ : MEnv) : orV a b ρ = ((bnd a fun d => bnd (lfo (asB d)) fun k => if k then M.ret (.bool true) else b) ρ) := (rfl)
theorem notV_a (a : ME PyData) (ρ : MEnv) : notV a ρ = ((bnd a fun d => bnd (lfo (asB d)) fun k => M.ret (.bool !k)) ρ) := (rfl)
theorem asB_b (k : Bool) : asB (.bool k) = (some k) := (rfl)
theorem ifM_a {α : Type} (t : ME Bool) (a b : ME α) (ρ : MEnv) : ifM t a b ρ = (match t ρ with | .ok (true, ρ1) => a ρ1 | .ok (false, ρ1) => b ρ1 | .err c d => .err c d | .fail => .fail) := by
  unfold ifM bnd
  cases t ρ with
  | ok p => obtain ⟨k, ρ1⟩ := p; cases k <;> rfl
  | err c d => rfl
  | fail => rfl
theorem tstM_a (o : Opd) (ρ : MEnv) : tstM o ρ = ((bnd o.run fun x => bnd (M.fin x) fun d => lfo (truth d)) ρ) := (rfl)
theorem tstD_a (m : ME PyData) (ρ : MEnv) : tstD m ρ = (match m ρ with | .ok (.bool k, ρ1) => .ok (k, ρ1) | .ok (_, _) => .fail | .err c d => .err c d | .fail => .fail) := by
  unfold tstD bnd
  cases m ρ with
  | ok p => obtain ⟨k, ρ1⟩ := p; cases k <;> rfl
  | err c d => rfl
  | fail => rfl
theorem truth_b (k : Bool) : truth (.bool k) = (some k) := (rfl)
theorem truth_i (k : Int) : truth (.int k) = (some (k != 0)) := (rfl)
theorem truth_n  : truth .none = (some false) := (rfl)
theorem bndS_a {α : Type} (m : ME α) (k : α → SM) (ρ : MEnv) : bndS m k ρ = (match m ρ with | .ok (a, ρ1) => k a ρ1 | .err c d => .err c d | .fail => .fail) := (rfl)
theorem retM_a (m : ME PyData) (ρ : MEnv) : retM m ρ = (match m ρ with | .ok (a, ρ1) => .ret a ρ1 | .err c d => .err c d | .fail => .fail) := by
  unfold retM
  (try unfold bnd)
  (try unfold bndS)
  cases m ρ <;> rfl
theorem retOM_a (m : ME (List PyData)) (ρ : MEnv) : retOM m ρ = (match m ρ with | .ok (a, ρ1) => .retO a ρ1 | .err c d => .err c d | .fail => .fail) := by
  unfold retOM
  (try unfold bnd)
  (try unfold bndS)
  cases m ρ <;> rfl
theorem dropM_a (m : ME PyData) (ρ : MEnv) : dropM m ρ = (match m ρ with | .ok (_, ρ1) => .next ρ1 | .err c d => .err c d | .fail => .fail) := by
  unfold dropM
  (try unfold bnd)
  (try unfold bndS)
  cases m ρ <;> rfl
theorem seqS_a (m1 m2 : SM) (ρ : MEnv) : seqS m1 m2 ρ = (match m1 ρ with | .next ρ1 => m2 ρ1 | r => r) := (rfl)
theorem nextM_a (ρ : MEnv) : nextM ρ = (.next ρ) := (rfl)
theorem failS_a (ρ : MEnv) : failS ρ = (.fail) := (rfl)
theorem ifS_a (c : ME Bool) (a b : SM) (ρ : MEnv) : ifS c a b ρ = (match c ρ with | .ok (true, ρ1) => a ρ1 | .ok (false, ρ1) => b ρ1 | .err c d => .err c d | .fail => .fail) := by
  unfold ifS bndS
  cases c ρ with
  | ok p => obtain ⟨k, ρ1⟩ := p; cases k <;> rfl
  | err c d => rfl
  | fail => rfl
theorem asgM_a (m : ME PyData) (g : TgM) (ρ : MEnv) : asgM m g ρ = (match m ρ with | .ok (d, ρ1) => (match g d ρ1 with | some ρ2 => .next ρ2 | none => .fail) | .err c d => .err c d | .fail => .fail) := by
  unfold asgM
  (try unfold bnd)
  (try unfold bndS)
  cases m ρ <;> rfl
theorem asgO_a (m : ME (List PyData)) (i : Nat) (ρ : MEnv) : asgO m i ρ = (match m ρ with | .ok (ds, ρ1) => (match putS i (.ol none ds) ρ1 with | some ρ2 => .next ρ2 | none => .fail) | .err c d => .err c d | .fail => .fail) := by
  unfold asgO
  (try unfold bnd)
  (try unfold bndS)
  cases m ρ <;> rfl
theorem tgN_a (i : Nat) (d : PyData) (ρ : MEnv) : tgN i d ρ = (putS i (.fz d) ρ) := (rfl)
theorem tgTup_t (n : Nat) (gs : TgsM) (ds : List PyData) (ρ : MEnv) : tgTup n gs (.tuple ds) ρ = (if ds.length = n then gs ds ρ else none) := (rfl)
theorem tgLst_t (n : Nat) (gs : TgsM) (ds : List PyData) (ρ : MEnv) : tgLst n gs (.list ds) ρ = (if ds.length = n then gs ds ρ else none) := (rfl)
theorem tgsNil_a (ρ : MEnv) : tgsNil [] ρ = (some ρ) := (rfl)
theorem tgsCons_a (g : TgM) (gs : TgsM) (d : PyData) (ds : List PyData) (ρ : MEnv) : tgsCons g gs (d :: ds) ρ = (match g d ρ with | some ρ1 => gs ds ρ1 | none => none) := (rfl)
theorem putS_a (i : Nat) (t : M.Slot) (ρ : MEnv) : putS i t ρ = (match getS ρ i with | .ol (some _) _ => none | _ => some (setS ρ i t)) := (rfl)
theorem setS_z (s t : M.Slot) (r : MEnv) : setS (s :: r) 0 t = (t :: r) := (rfl)
theorem setS_s (s t : M.Slot) (r : MEnv) (n : Nat) : setS (s :: r) (n + 1) t = (s :: setS r n t) := (rfl)
theorem getS_z (s : M.Slot) (r : MEnv) : getS (s :: r) 0 = (s) := (rfl)
theorem getS_s (s : M.Slot) (r : MEnv) (n : Nat) : getS (s :: r) (n + 1) = (getS r n) := (rfl)
theorem parM_a (i j : Nat) (ms : List (ME PyData)) (ρ : MEnv) : parM i j ms ρ = (match evs ms ρ with | .ok ([d, e], ρ1) => (match putS i (.fz d) ρ1 with | some ρ2 => (match putS j (.fz e) ρ2 with | some ρ3 => .next ρ3 | none => .fail) | none => .fail) | .ok (_, _) => .fail | .err c d => .err c d | .fail => .fail) := by
  unfold parM bndS
  cases evs ms ρ with
  | ok p =>
    obtain ⟨ds, ρ1⟩ := p
    match ds with
    | [] => rfl
    | [_] => rfl
    | [_, _] => rfl
    | _ :: _ :: _ :: _ => rfl
  | err c d => rfl
  | fail => rfl
theorem callP_a (g : List PyData → R PyData) (ms : List (ME PyData)) (ρ : MEnv) : callP g ms ρ = (match evs ms ρ with | .ok (ds, ρ1) => lft (g ds) ρ1 | .err c d => .err c d | .fail => .fail) := by
  unfold callP
  (try unfold bnd)
  (try unfold bndS)
  cases evs ms ρ <;> rfl
theorem callF_a (g : List PyData → R (List PyData)) (ms : List (ME PyData)) (ρ : MEnv) : callF g ms ρ = (match evs ms ρ with | .ok (ds, ρ1) => lft (g ds) ρ1 | .err c d => .err c d | .fail => .fail) := by
  unfold callF
  (try unfold bnd)
  (try unfold bndS)
  cases evs ms ρ <;> rfl
theorem callR_a (g : List PyData → List PyData → R (PyData × List PyData)) (i : Nat) (ms : List (ME PyData)) (ρ : MEnv) : callR g i ms ρ = (match getS ρ i with | .ol _ _ => (match evs ms ρ with | .ok (ds, ρ1) => (match getS ρ1 i with | .ol r us => (match g us ds with | .ok (d, us') => .ok (d, setS ρ1 i (.ol r us')) | _ => .fail) | _ => .fail) | .err c d => .err c d | .fail => .fail) | _ => .fail) := by
  unfold callR bnd
  cases getS ρ i with
  | ol r us => cases evs ms ρ <;> rfl
  | un => rfl
  | fz d => rfl
theorem frzM_a (m : ME (List PyData)) (ρ : MEnv) : frzM m ρ = (match m ρ with | .ok (ds, ρ1) => .ok (.list ds, ρ1) | .err c d => .err c d | .fail => .fail) := by
  unfold frzM
  (try unfold bnd)
  (try unfold bndS)
  cases m ρ <;> rfl
theorem setIx_a (i : Nat) (m ix : ME PyData) (ρ : MEnv) : setIx i m ix ρ = (match getS ρ i with | .ol _ _ => bndS m (fun d => bndS ix fun kd ρ => match getS ρ i, kd with | .ol n us, .int j => (match ixN us.length j with | some l => .next (setS ρ i (.ol n (us.set l d))) | none => .fail) | _, _ => .fail) ρ | _ => .fail) := (rfl)
theorem intD_i (f : Int → Int → Option PyData) (a b : Int) : intD f (.int a) (.int b) = (f a b) := (rfl)
theorem addD_i (a b : Int) : addD (.int a) (.int b) = (some (.int (a + b))) := (rfl)
theorem addD_t (a b : List PyData) : addD (.tuple a) (.tuple b) = (if a.length + b.length ≤ sizeLine then some (.tuple (a ++ b)) else none) := (rfl)
theorem addD_l (a b : List PyData) : addD (.list a) (.list b) = (if a.length + b.length ≤ sizeLine then some (.list (a ++ b)) else none) := (rfl)
theorem addD_s (a b : Str) : addD (.str a) (.str b) = (if a.length + b.length ≤ sizeLine then some (.str (a ++ b)) else none) := (rfl)
theorem subD_i (a b : Int) : subD (.int a) (.int b) = (some (.int (a - b))) := (rfl)
theorem mulD_i (a b : Int) : mulD (.int a) (.int b) = (if M.fits a b then some (.int (a * b)) else none) := (rfl)
theorem fdivD_i (a b : Int) : fdivD (.int a) (.int b) = (if b ≠ 0 ∧ b.natAbs.log2 < 9000 then some (.int (a.fdiv b)) else none) := (rfl)
theorem modD_i (a b : Int) : modD (.int a) (.int b) = (if b ≠ 0 then some (.int (a.fmod b)) else none) := (rfl)
theorem powD_i (a b : Int) : powD (.int a) (.int b) = (if powOk a b then some (.int (a ^ b.toNat)) else none) := (rfl)
theorem negD_i (a : Int) : negD (.int a) = (some (.int (-a))) := (rfl)
theorem eqD_i (a b : Int) : eqD (.int a) (.int b) = (some (.bool (decide (a = b)))) := (rfl)
theorem eqD_s (a b : Str) : eqD (.str a) (.str b) = (some (.bool (decide (a = b)))) := (rfl)
theorem neD_i (a b : Int) : neD (.int a) (.int b) = (some (.bool (!decide (a = b)))) := (rfl)
theorem neD_s (a b : Str) : neD (.str a) (.str b) = (some (.bool (!decide (a = b)))) := (rfl)
theorem ltD_i (a b : Int) : ltD (.int a) (.int b) = (some (.bool (decide (a < b)))) := (rfl)
theorem leD_i (a b : Int) : leD (.int a) (.int b) = (some (.bool (decide (a ≤ b)))) := (rfl)
theorem gtD_i (a b : Int) : gtD (.int a) (.int b) = (some (.bool (decide (b < a)))) := (rfl)
theorem geD_i (a b : Int) : geD (.int a) (.int b) = (some (.bool (decide (b ≤ a)))) := (rfl)
theorem isND_a (d : PyData) : isND d .none = (some (.bool (M.isNone d))) := (rfl)
theorem notND_a (d : PyData) : notND d .none = (some (.bool (!M.isNone d))) := (rfl)
theorem isBD_a (a b : Bool) : isBD (.bool a) (.bool b) = (some (.bool (decide (a = b)))) := (rfl)
theorem notBD_a (a b : Bool) : notBD (.bool a) (.bool b) = (some (.bool (!decide (a = b)))) := (rfl)
theorem ixD_l (ds : List PyData) (i : Int) : ixD (.list ds) (.int i) = (atI ds i) := (rfl)
theorem ixD_t (ds : List PyData) (i : Int) : ixD (.tuple ds) (.int i) = (atI ds i) := (rfl)
theorem ixD_k (ds : List PyData) (i : Int) : ixD (lck ds) (.int i) = (atI ds i) := (rfl)
theorem absL_i (a : Int) : absL [.int a] = (some (.int (if a < 0 then -a else a))) := (rfl)
theorem maxL_i (a b : Int) : maxL [.int a, .int b] = (some (.int (if b > a then b else a))) := (rfl)
theorem minL_i (a b : Int) : minL [.int a, .int b] = (some (.int (if b < a then b else a))) := (rfl)
theorem lenL_l (ds : List PyData) : lenL [.list ds] = (some (.int ds.length)) := (rfl)
theorem lenL_t (ds : List PyData) : lenL [.tuple ds] = (some (.int ds.length)) := (rfl)
theorem lenL_k (ds : List PyData) : lenL [lck ds] = (some (.int ds.length)) := (rfl)
theorem intL_i (a : Int) : intL [.int a] = (some (.int a)) := (rfl)
theorem intL_b (a : Bool) : intL [.bool a] = (some (.int (if a then 1 else 0))) := (rfl)
theorem tupL_l (ds : List PyData) : tupL [.list ds] = (some (.tuple ds)) := (rfl)
theorem lstL_l (ds : List PyData) : lstL [.list ds] = (some (.list ds)) := (rfl)
theorem lstL_t (ds : List PyData) : lstL [.tuple ds] = (some (.list ds)) := (rfl)
theorem items_l (ds : List PyData) : items (.list ds) = (some ds) := (rfl)
theorem items_t (ds : List PyData) : items (.tuple ds) = (some ds) := (rfl)
theorem itM_a (m : ME PyData) (ρ : MEnv) : itM m ρ = (match m ρ with | .ok (d, ρ1) => lfo (items d) ρ1 | .err c d => .err c d | .fail => .fail) := by
  unfold itM
  (try unfold bnd)
  (try unfold bndS)
  cases m ρ <;> rfl
theorem rngM1_a (o : Opd) (ρ : MEnv) : rngM1 o ρ = ((bnd (runs [o]) fun xs => bnd (fins xs) fun ds => lfo (match ds with | [d] => range1 d | _ => none)) ρ) := (rfl)
theorem rngM2_a (o o' : Opd) (ρ : MEnv) : rngM2 o o' ρ = ((bnd (runs [o, o']) fun xs => bnd (fins xs) fun ds => lfo (match ds with | [d, e] => range2 d e | _ => none)) ρ) := (rfl)
theorem range1_i (j : Int) : range1 (.int j) = (if in62 j then some (upTo 0 j.toNat) else none) := (rfl)
theorem forM_a (m : ME (List PyData)) (g : TgM) (b : SM) (ρ : MEnv) : forM m g b ρ = (match m ρ with | .ok (ds, ρ1) => forL g b ds ρ1 | .err c d => .err c d | .fail => .fail) := by
  unfold forM
  (try unfold bnd)
  (try unfold bndS)
  cases m ρ <;> rfl
theorem forL_n (g : TgM) (b : SM) (ρ : MEnv) : forL g b [] ρ = (.next ρ) := (rfl)
theorem sumL_l (es : List PyData) : sumL [.list es] = ((intsOf es).map fun ns => .int ns.sum) := (rfl)
theorem allL_l (es : List PyData) : allL [.list es] = ((boolsOf es).map fun ns => .bool (ns.all id)) := (rfl)
theorem anyL_l (es : List PyData) : anyL [.list es] = ((boolsOf es).map fun ns => .bool (ns.any id)) := (rfl)
theorem sliceM_a (o : Opd) (lo hi : Option (ME PyData)) (ρ : MEnv) : sliceM o lo hi ρ = ((bnd o.run fun x => bnd (optM lo) fun l => bnd (optM hi) fun h => bnd (M.fin x) fun d => lfo (cutD d l h)) ρ) := (rfl)
theorem optM_n (ρ : MEnv) : optM none ρ = (.ok (none, ρ)) := (rfl)
theorem optM_s (m : ME PyData) (ρ : MEnv) : optM (some m) ρ = (match m ρ with | .ok (.int i, ρ1) => .ok (some i, ρ1) | .ok (_, _) => .fail | .err c d => .err c d | .fail => .fail) := by
  show bnd m (fun d => lfo (match d with | .int i => some (some i) | _ => none)) ρ = _
  unfold bnd
  cases m ρ with
  | ok p => obtain ⟨k, ρ1⟩ := p; cases k <;> rfl
  | err c d => rfl
  | fail => rfl
theorem lrM1_a (o : Opd) (ρ : MEnv) : lrM1 o ρ = ((bnd o.run fun x => bnd (M.fin x) fun d => lfo (range1 d)) ρ) := (rfl)
theorem compM_a (w : ME (List PyData)) (vs : List Nat) (g : TgM) (t : ME Bool) (m : ME PyData) (ρ : MEnv) : compM w vs g t m ρ = (match w ρ with | .ok (ds, ρ1) => (if hidable ρ1 vs then (match compL vs g t m ds (wipeE vs ρ1) with | .ok (out, ρ2) => .ok (out, restE ρ1 vs ρ2) | _ => .fail) else .fail) | .err c d => .err c d | .fail => .fail) := by
  unfold compM bnd
  cases w ρ <;> rfl
theorem methM_a (f : List PyData → List PyData → Option (PyData × List PyData)) (i : Nat) (ms : List (ME PyData)) (ρ : MEnv) : methM f i ms ρ = (match getS ρ i with | .ol _ _ => (match evs ms ρ with | .ok (ds, ρ1) => (match getS ρ1 i with | .ol n us => (match f us ds with | some (d, us') => .ok (d, setS ρ1 i (.ol n us')) | none => .fail) | _ => .fail) | .err c d => .err c d | .fail => .fail) | _ => .fail) := by
  unfold methM bnd
  cases getS ρ i with
  | ol r us => cases evs ms ρ <;> rfl
  | un => rfl
  | fz d => rfl
end M
set_option Elab.async false
set_option linter.all false
set_option maxRecDepth 100000
set_option maxHeartbeats 4000000
namespace M
open PySem PySem.Spec PyProof.Rows L2
/-! ## data whose text is there -/
/-- a value of so many levels, whose text is so long at most -/
structure Rp (k N : Nat) (d : PyData) : Prop where
  shw : d.showable = true
  lay : d.canLay0 = true
  dep : d.depth ≤ k
  len : d.shown.length ≤ N
theorem Rp.le {k N k' N' : Nat} {d : PyData} (h : Rp k N d) (hk : k ≤ k') (hN : N ≤ N') : Rp k' N' d := ⟨h.shw, h.lay, Nat.le_trans h.dep hk, Nat.le_trans h.len hN⟩
theorem Rp.none : Rp 0 8 .none := ⟨by simp only [PyData.showable], by simp only [PyData.canLay0], by simp only [PyData.depth, Nat.le_refl], by simp only [PyData.shown]; decide⟩
theorem Rp.bool (b : Bool) : Rp 0 8 (.bool b) := ⟨by simp only [PyData.showable], by simp only [PyData.canLay0], by simp only [PyData.depth, Nat.le_refl], by simp only [PyData.shown]; cases b <;> decide⟩
theorem Rp.int {n : Int} (h : n.natAbs.log2 < 1920) : Rp 0 1921 (.int n) := ⟨by simp only [PyData.showable, decide_eq_true_eq]; exact h, by simp only [PyData.canLay0], by simp only [PyData.depth, Nat.le_refl], by simp only [PyData.shown]; rw [PySem.ofString_length]; exact int_text_length_le (by omega) h⟩
theorem Rp.all {k N : Nat} : ∀ {ds : List PyData}, (∀ d ∈ ds, Rp k N d) → PyData.showableAll ds = true ∧ PyData.canLayAll0 ds = true ∧ PyData.depthAll ds ≤ k ∧ ((PyData.shownAll ds).map (·.length)).sum ≤ ds.length * N
  | [], _ => ⟨by simp only [PyData.showableAll], by simp only [PyData.canLayAll0], by simp only [PyData.depthAll]; omega, by simp only [PyData.shownAll, List.map_nil, List.sum_nil]; omega⟩
  | d :: r, h => by
    obtain ⟨h1, h2, h3, h4⟩ := Rp.all (ds := r) fun d hd => h d (List.mem_cons_of_mem _ hd)
    have q := h d (List.mem_cons_self ..)
    have q3 := q.dep
    have q4 := q.len
    refine ⟨by simp only [PyData.showableAll, q.shw, h1, Bool.and_self], by simp only [PyData.canLayAll0, q.lay, h2, Bool.and_self], by simp only [PyData.depthAll]; omega, ?_⟩
    simp only [PyData.shownAll, List.map_cons, List.sum_cons, List.length_cons, Nat.add_mul]
    omega
theorem Rp.list {k N : Nat} {ds : List PyData} (h : ∀ d ∈ ds, Rp k N d) : Rp (k + 1) (ds.length * N + 2 * ds.length + 3) (.list ds) := by
  obtain ⟨h1, h2, h3, h4⟩ := Rp.all h
  refine ⟨by simp only [PyData.showable]; exact h1, by simp only [PyData.canLay0]; exact h2, by simp only [PyData.depth]; omega, ?_⟩
  have := listText_len_le (PyData.shownAll ds)
  rw [PyData.shownAll_length] at this
  simp only [PyData.shown]
  omega
theorem Rp.tuple {k N : Nat} {ds : List PyData} (h : ∀ d ∈ ds, Rp k N d) : Rp (k + 1) (ds.length * N + 2 * ds.length + 3) (.tuple ds) := by
  obtain ⟨h1, h2, h3, h4⟩ := Rp.all h
  refine ⟨by simp only [PyData.showable]; exact h1, by simp only [PyData.canLay0]; exact h2, by simp only [PyData.depth]; omega, ?_⟩
  have := tupleText_len_le (PyData.shownAll ds)
  rw [PyData.shownAll_length] at this
  simp only [PyData.shown]
  omega
theorem Rp.repr {k N : Nat} {d : PyData} (h : Rp k N d) (hk : k ≤ 60) (hN : N ≤ sizeLine) : reprL [d] = some (.str d.shown) := by
  have := h.dep
  have := h.len
  unfold reprL
  exact if_pos ⟨h.shw, h.lay, by omega, by omega⟩
end M
set_option Elab.async false
set_option linter.all false
set_option maxRecDepth 100000
set_option maxHeartbeats 4000000
namespace M
open PySem PySem.Spec PyProof.Rows L2
section
variable {X : Cx} {C : Cc} {k : Nat} {e a b c : Expr} {es : List Expr} {pos : Pos} {K : PySem.W.Frag}
/-! ## two comparisons in a row -/
def chM (f g : PyData → PyData → Option PyData) (oa ob oc : Opd) : ME PyData := bnd oa.run fun x => bnd ob.run fun y => bnd (fin x) fun d => bnd (fin y) fun e => bnd (lfo (f d e)) fun r => bnd (lfo (asB r)) fun k =>
  if k then bnd oc.run fun z => bnd (fin y) fun e2 => bnd (fin z) fun c => lfo (g e2 c) else ret (.bool false)
theorem dp_bool {F : Hp} {v : V} {b : Bool} (h : Dp K F v (.bool b)) : v = .bl b := by cases h; rfl
theorem Res.opt {α γ δ : Type} {rg : RV γ δ} {σ : L2.St} {F H : Hp} {ρ : MEnv} {fs : Fs} {Q : γ → Hp → Prop} {o : Option α} {kk : α → ME δ} (h : Res C rg σ F H fs Q (M.bnd (M.lfo o) kk ρ)) : ∃ z, o = some z ∧ Res C rg σ F H fs Q (kk z ρ) := by
  unfold M.bnd M.lfo at h
  cases o with
  | none => exact h.elim
  | some z => exact ⟨z, rfl, h⟩
theorem Res.opt0 {α γ : Type} {rg : RV γ α} {σ : L2.St} {F H : Hp} {ρ : MEnv} {fs : Fs} {Q : γ → Hp → Prop} {o : Option α} (h : Res C rg σ F H fs Q (M.lfo o ρ)) : ∃ z, o = some z ∧ Res C rg σ F H fs Q (M.ret z ρ) := by
  unfold M.lfo at h
  cases o with
  | none => exact h.elim
  | some z => exact ⟨z, rfl, h⟩
theorem asB_some {z : PyData} {k : Bool} (h : asB z = some k) : z = .bool k := by
  cases z <;> first | (cases h; rfl) | cases h
theorem de_chain {op op' : CmpOp} {r r' : R2} {f g : PyData → PyData → Option PyData} {oa ob oc : Opd} (ho : OpR X (compareOp op) r) (ho' : OpR X (compareOp op') r') (hv : VOp2 C.K r f) (hv' : VOp2 C.K r' g) (ha : DO X C a oa) (hb : DO X C b ob) (hc : DO X C c oc)
    (hm : lastMarks [op, op'] [b, c] = false := by with_unfolding_all rfl) : DE X C (.Compare a [op, op'] [b, c] pos) (chM f g oa ob oc) := PE.imp (pe_chain ho ho' ha hb hc hm) fun σ H Q ⟨F, ρ, fs, r, q⟩ => by
  refine tG.mono (Res.bnd (rv := rvO C σ) r q) fun v H1 ⟨F1, ρ1, fs1, x, r1, x1, rd, q1⟩ => ?_
  refine tG.mono (Res.bnd (rv := rvO C σ) r1 q1) fun u H2 ⟨F2, ρ2, fs2, y, r2, x2, re, q2⟩ => ?_
  obtain ⟨d, hd, q3⟩ := Res.fin r2 (rvO.ext x2 rd) q2
  obtain ⟨e', he, q4⟩ := Res.fin r2 re q3
  refine hv F2 H2 v u d e' _ r2.sub r2.sz hd he ?_
  obtain ⟨z, ez, q5⟩ := Res.opt q4
  obtain ⟨k, ek, q6⟩ := Res.opt q5
  refine ⟨z, ez, fun w F' H' x3 dz => ?_⟩
  have zk := asB_some ek
  subst zk
  cases dz
  refine ⟨k, rfl, ?_⟩
  have r3 : Rel C F' H' σ ρ2 fs2 := r2.aext x3
  cases k with
  | false =>
    simp only [Bool.false_eq_true, if_false] at q6 ⊢
    exact q6 _ H' F' fs2 r3 x3.ext (.bl _)
  | true =>
    simp only [if_true] at q6 ⊢
    have q7 := Res.ext x3.ext q6
    refine tG.mono (Res.bnd (rv := rvO C σ) r3 q7) fun w H4 ⟨F4, ρ4, fs4, z4, r4, x4, rw4, q8⟩ => ?_
    obtain ⟨d2, hd2, q9⟩ := Res.fin r4 (rvO.ext (x3.ext.trans x4) re) q8
    obtain ⟨d3, hd3, qa⟩ := Res.fin r4 rw4 q9
    exact hv' F4 H4 u w d2 d3 Q r4.sub r4.sz hd2 hd3 (Res.lfo r4 qa)
theorem dt_chain {op op' : CmpOp} {r r' : R2} {f g : PyData → PyData → Option PyData} {oa ob oc : Opd} (ho : OpR X (compareOp op) r) (ho' : OpR X (compareOp op') r') (hv : VOp2 C.K r f) (hv' : VOp2 C.K r' g) (ha : DO X C a oa) (hb : DO X C b ob) (hc : DO X C c oc)
    (hm : lastMarks [op, op'] [b, c] = false := by with_unfolding_all rfl) : DT X C (.Compare a [op, op'] [b, c] pos) (tstD (chM f g oa ob oc)) := PT.imp (pt_chain ho ho' ha hb hc hm) fun σ H Q ⟨F, ρ, fs, r, q⟩ => by
  unfold tstD chM at q
  simp only [bnd_assoc] at q
  refine tG.mono (Res.bnd (rv := rvO C σ) r q) fun v H1 ⟨F1, ρ1, fs1, x, r1, x1, rd, q1⟩ => ?_
  refine tG.mono (Res.bnd (rv := rvO C σ) r1 q1) fun u H2 ⟨F2, ρ2, fs2, y, r2, x2, re, q2⟩ => ?_
  obtain ⟨d, hd, q3⟩ := Res.fin r2 (rvO.ext x2 rd) q2
  obtain ⟨e', he, q4⟩ := Res.fin r2 re q3
  refine hv F2 H2 v u d e' _ r2.sub r2.sz hd he ?_
  obtain ⟨z, ez, q5⟩ := Res.opt q4
  obtain ⟨k, ek, q6⟩ := Res.opt q5
  refine ⟨z, ez, fun w F' H' x3 dz => ?_⟩
  have zk := asB_some ek
  subst zk
  cases dz
  refine ⟨k, rfl, ?_⟩
  have r3 : Rel C F' H' σ ρ2 fs2 := r2.aext x3
  cases k with
  | false =>
    simp only [Bool.false_eq_true, if_false] at q6 ⊢
    exact ⟨false, rfl, q6 _ H' F' fs2 r3 x3.ext rfl⟩
  | true =>
    simp only [if_true, bnd_assoc] at q6 ⊢
    have q7 := Res.ext x3.ext q6
    refine tG.mono (Res.bnd (rv := rvO C σ) r3 q7) fun w H4 ⟨F4, ρ4, fs4, z4, r4, x4, rw4, q8⟩ => ?_
    obtain ⟨d2, hd2, q9⟩ := Res.fin r4 (rvO.ext (x3.ext.trans x4) re) q8
    obtain ⟨d3, hd3, qa⟩ := Res.fin r4 rw4 q9
    exact hv' F4 H4 u w d2 d3 _ r4.sub r4.sz hd2 hd3 (by
      obtain ⟨z2, ez2, qb⟩ := Res.opt qa
      obtain ⟨k2, ek2, qc⟩ := Res.opt0 qb
      refine ⟨z2, ez2, fun w2 F5 H5 x5 dz2 => ?_⟩
      have zk2 := asB_some (z := z2) (k := k2) ek2
      subst zk2
      cases dz2
      exact ⟨k2, rfl, qc _ H5 F5 fs4 (r4.aext x5) x5.ext rfl⟩)
/-! ## x in xs -/
def rInT (K : PySem.W.Frag) : R2 := fun x y H Q => ∃ d ds, L2.Dp K H x d ∧ L2.Dp K H y (.tuple ds) ∧ SeqAt.shaped d = true ∧ SeqAt.shaped (.tuple ds) = true ∧ Q (.bl (ds.any fun z => PyData.eqv z d)) H
def rNotInT (K : PySem.W.Frag) : R2 := fun x y H Q => ∃ d ds, L2.Dp K H x d ∧ L2.Dp K H y (.tuple ds) ∧ SeqAt.shaped d = true ∧ SeqAt.shaped (.tuple ds) = true ∧ Q (.bl (!ds.any fun z => PyData.eqv z d)) H
theorem op_inT (hu : X.A.units + 65 < cLine) : OpR X (compareOp .In) (rInT X.K) := by
  intro pins s σ H x y v u Q I rx ry h
  obtain ⟨d, ds, hd, he, sd, se, q⟩ := h
  obtain ⟨as, r1⟩ := L2.Dp.reads I d x v hd rx
  obtain ⟨bs, r2⟩ := L2.Dp.reads I (.tuple ds) y u he ry
  exact SeqAt.in_tuple_reads r2 r1 (SeqAt.canLay_of_shaped se) (SeqAt.canLay_of_shaped sd) (room_in_shaped sd hu) ⟨.bl _, H, I, rfl, q⟩
theorem op_notInT (hu : X.A.units + 65 < cLine) : OpR X (compareOp .NotIn) (rNotInT X.K) := by
  intro pins s σ H x y v u Q I rx ry h
  obtain ⟨d, ds, hd, he, sd, se, q⟩ := h
  obtain ⟨as, r1⟩ := L2.Dp.reads I d x v hd rx
  obtain ⟨bs, r2⟩ := L2.Dp.reads I (.tuple ds) y u he ry
  exact SeqAt.notIn_tuple_reads r2 r1 (SeqAt.canLay_of_shaped se) (SeqAt.canLay_of_shaped sd) (room_in_shaped sd hu) ⟨.bl _, H, I, rfl, q⟩
def inB (d e : PyData) : Option Bool := match d, e with
  | .str ⟨⟨[c]⟩⟩, .str z => some (decide (c ∈ z.cps.toList))
  | d, .list ds => if SeqAt.shaped d = true ∧ SeqAt.shaped (.list ds) = true then some (ds.any fun z => PyData.eqv z d) else none
  | d, .tuple ds => if SeqAt.shaped d = true ∧ SeqAt.shaped (.tuple ds) = true then some (ds.any fun z => PyData.eqv z d) else none
  | _, _ => none
def inD (d e : PyData) : Option PyData := (inB d e).map fun k => .bool k
def ninD (d e : PyData) : Option PyData := (inB d e).map fun k => .bool !k
def rInA (K : PySem.W.Frag) : R2 := fun x y H Q => (∃ (c : Nat) (z : Str), x = .str ⟨#[c]⟩ ∧ y = .str z ∧ Q (.bl (decide (c ∈ z.cps.toList))) H) ∨ rInD K x y H Q ∨ rInT K x y H Q
def rNinA (K : PySem.W.Frag) : R2 := fun x y H Q => (∃ (c : Nat) (z : Str), x = .str ⟨#[c]⟩ ∧ y = .str z ∧ Q (.bl (!decide (c ∈ z.cps.toList))) H) ∨ rNotInD K x y H Q ∨ rNotInT K x y H Q
theorem Wants.some {F H : Hp} {Q : VK} {z : PyData} (hs : ∀ a o, F a = some o → H a = some o) (hz : SzOk K F) (w : Wants K F H Q (some z)) {v : V} (h : Dp K F v z) : Q v H := by
  obtain ⟨z', e, w⟩ := w
  cases e
  exact w v F H (.refl hs hz) h
theorem v_in : VOp2 K (rInA K) inD := by
  intro F H x y d e Q hs hz hx hy w
  unfold inD inB at w
  split at w
  · rename_i c z
    exact .inl ⟨c, z, hx.str, hy.str, Wants.some hs hz w (.bl _)⟩
  · split at w
    · rename_i ds h
      exact .inr (.inl ⟨d, ds, hx.up hs (canLay_shaped h.1), hy.up hs (canLay_shaped h.2), h.1, h.2, Wants.some hs hz w (.bl _)⟩)
    · obtain ⟨z, e, _⟩ := w; cases e
  · split at w
    · rename_i ds h
      exact .inr (.inr ⟨d, ds, hx.up hs (canLay_shaped h.1), hy.up hs (canLay_shaped h.2), h.1, h.2, Wants.some hs hz w (.bl _)⟩)
    · obtain ⟨z, e, _⟩ := w; cases e
  · obtain ⟨z, e, _⟩ := w; cases e
theorem v_nin : VOp2 K (rNinA K) ninD := by
  intro F H x y d e Q hs hz hx hy w
  unfold ninD inB at w
  split at w
  · rename_i c z
    exact .inl ⟨c, z, hx.str, hy.str, Wants.some hs hz w (.bl _)⟩
  · split at w
    · rename_i ds h
      exact .inr (.inl ⟨d, ds, hx.up hs (canLay_shaped h.1), hy.up hs (canLay_shaped h.2), h.1, h.2, Wants.some hs hz w (.bl _)⟩)
    · obtain ⟨z, e, _⟩ := w; cases e
  · split at w
    · rename_i ds h
      exact .inr (.inr ⟨d, ds, hx.up hs (canLay_shaped h.1), hy.up hs (canLay_shaped h.2), h.1, h.2, Wants.some hs hz w (.bl _)⟩)
    · obtain ⟨z, e, _⟩ := w; cases e
  · obtain ⟨z, e, _⟩ := w; cases e
theorem op_inA (hu : X.A.units + 65 < cLine) : OpR X (compareOp .In) (rInA X.K) := op_in_sign.or ((op_inD hu).or (op_inT hu))
theorem op_ninA (hu : X.A.units + 65 < cLine) : OpR X (compareOp .NotIn) (rNinA X.K) := op_notIn_sign.or ((op_notInD hu).or (op_notInT hu))
variable {oa ob : Opd}
theorem de_in (G : Gd X C k) (ha : DO X C a oa) (hb : DO X C b ob) (hm : behindInMarks .In b = false := by with_unfolding_all rfl) : DE X C (.Compare a [.In] [b] pos) (op2 inD oa ob) := de_cmp (r := rInA X.K) (op_inA (by have := G.g.room.un; omega)) (by rw [G.g.K]; exact v_in) ha hb hm
theorem dt_in (G : Gd X C k) (ha : DO X C a oa) (hb : DO X C b ob) (hm : behindInMarks .In b = false := by with_unfolding_all rfl) : DT X C (.Compare a [.In] [b] pos) (tstD (op2 inD oa ob)) := dt_cmp (r := rInA X.K) (op_inA (by have := G.g.room.un; omega)) (by rw [G.g.K]; exact v_in) ha hb hm
theorem de_nin (G : Gd X C k) (ha : DO X C a oa) (hb : DO X C b ob) (hm : behindInMarks .NotIn b = false := by with_unfolding_all rfl) : DE X C (.Compare a [.NotIn] [b] pos) (op2 ninD oa ob) := de_cmp (r := rNinA X.K) (op_ninA (by have := G.g.room.un; omega)) (by rw [G.g.K]; exact v_nin) ha hb hm
theorem dt_nin (G : Gd X C k) (ha : DO X C a oa) (hb : DO X C b ob) (hm : behindInMarks .NotIn b = false := by with_unfolding_all rfl) : DT X C (.Compare a [.NotIn] [b] pos) (tstD (op2 ninD oa ob)) := dt_cmp (r := rNinA X.K) (op_ninA (by have := G.g.room.un; omega)) (by rw [G.g.K]; exact v_nin) ha hb hm
/-! ## s.split(sep) -/
def asS (d : PyData) : Option Str := match d with | .str z => some z | _ => none
theorem asS_some {d : PyData} {z : Str} (h : asS d = some z) : d = .str z := by
  cases d <;> first | (cases h; rfl) | cases h
def splF (a : Str) (d : PyData) : Option PyData := match d with
  | .str b => if (b.length == 0) = false ∧ a.length + 2 ≤ sizeLine then some (.list ((Txt.split a b).map .str)) else none
  | _ => none
def splM (mo me : ME PyData) : ME PyData := bnd mo fun d => bnd (lfo (asS d)) fun a => bnd me fun e => lfo (splF a e)
theorem dp_strs {F : Hp} : ∀ ys : List Str, DpAll K F (ys.map V.str) (ys.map .str)
  | [] => .nil
  | y :: r => .cons (.str y) (dp_strs r)
theorem de_split {o : Expr} {mo me : ME PyData} {apos : Pos} (ho : DE X C o mo) (he : DE X C e me) (hs : starEach [e] X.env = [(false, eval e X.env)] := by rfl) (hbase : attributeBase o "split" X.env (eval o X.env) = eval o X.env := by rfl) (hline : (apos.endLine == pos.line) = true := by rfl) :
    DE X C (.Call (.Attribute o "split" apos) [e] [] pos) (splM mo me) := PE.imp (pe_split ho he hs hbase hline) fun σ H Q ⟨F, ρ, fs, r, q⟩ => by
  refine tG.mono (Res.bnd (rv := rvD C) r q) fun v H1 ⟨F1, ρ1, fs1, d, r1, x1, rd, q1⟩ => ?_
  obtain ⟨a, ea, q2⟩ := Res.opt q1
  have := asS_some ea
  subst this
  cases rd
  refine ⟨⟨a, rfl⟩, tG.mono (Res.bnd (rv := rvD C) r1 q2) fun u H2 ⟨F2, ρ2, fs2, e', r2, x2, re, q3⟩ => ?_⟩
  have w := Res.lfo r2 q3
  unfold splF at w
  split at w
  · rename_i b
    cases re
    split at w
    · rename_i h
      have hl : (Txt.split a b).length ≤ sizeLine := Nat.le_trans (PyProof.Rows.split_le a b) h.2
      exact ⟨a, b, rfl, rfl, h.1, h.2, w.newL r2.sub r2.sz (by rw [List.length_map]; exact hl) (dp_strs _)⟩
    · obtain ⟨z, e, _⟩ := w; cases e
  · obtain ⟨z, e, _⟩ := w; cases e
end
end M
set_option Elab.async false
set_option linter.all false
set_option maxRecDepth 100000
set_option maxHeartbeats 4000000
namespace M
open PySem PySem.Spec PyProof.Rows L2 PySem.NumText
/-! ## texts of whole numbers -/
/-- a text's signs -/
abbrev sg (z : Str) : List Nat := z.cps.toList
theorem sg_ext {a b : Str} (h : sg a = sg b) : a = b := by
  obtain ⟨⟨x⟩⟩ := a
  obtain ⟨⟨y⟩⟩ := b
  cases h
  rfl
theorem sg_app (a b : Str) : sg (a ++ b) = sg a ++ sg b := by
  show (a.cps ++ b.cps).toList = _
  simp
theorem sg_len (a : Str) : a.length = (sg a).length := by
  show a.cps.size = _
  simp
abbrev txt (n : Int) : Str := Str.ofString (toString n)
def dg (m : Nat) : List Nat := (Nat.toDigits 10 m).map Char.toNat
theorem txt_nat (m : Nat) : sg (txt (m : Int)) = dg m := PySem.W.KIN.signs_num m
theorem txt_neg (m : Nat) : sg (txt (-((m + 1 : Nat) : Int))) = 45 :: dg (m + 1) := by
  have e : (toString (-((m + 1 : Nat) : Int)) : String) = "-" ++ Nat.repr (m + 1) := rfl
  show (Str.ofString _).cps.toList = _
  rw [e, signs_ofString]
  unfold dg
  rw [← Nat.toList_repr]
  simp
theorem dg_digits (m : Nat) : AllDigits (dg m) := by
  intro c hc
  obtain ⟨ch, hch, e⟩ := List.mem_map.mp hc
  have r := digit_range (Nat.isDigit_of_mem_toDigits (by decide) (by decide) hch)
  rw [← e]
  exact r
theorem dg_ne (m : Nat) : dg m ≠ [] := by
  intro e
  have h := toDigits_len_ge 10 m
  rw [List.map_eq_nil_iff.mp e] at h
  exact absurd h (by decide)
theorem dg_val (m : Nat) : digitsVal (dg m) = m := PySem.W.KIN.val_back m
theorem val_cons0 (r : List Nat) : digitsVal (48 :: r) = digitsVal r := rfl
theorem val_lt : ∀ (n : Nat) (r : List Nat), r.length = n → AllDigits r → digitsVal r < 10 ^ n := by
  intro n
  induction n with
  | zero => intro r hr _; rw [List.length_eq_zero_iff.mp hr]; decide
  | succ n ih =>
    intro r hr hd
    have hne : r ≠ [] := fun z => by rw [z] at hr; cases hr
    have e := List.dropLast_concat_getLast hne
    rw [← e, digitsVal_snoc]
    have h1 := ih r.dropLast (by rw [List.length_dropLast]; omega) (fun c hc => hd c (List.dropLast_subset _ hc))
    have h2 := hd (r.getLast hne) (List.getLast_mem hne)
    rw [Nat.pow_succ]
    omega
theorem dg_len (m k : Nat) (hk : 0 < k) (h : m < 10 ^ k) : (dg m).length ≤ k := by
  have := (Nat.length_repr_le_iff (n := m) hk).mpr h
  rw [dg, List.length_map, ← Nat.toList_repr]
  exact this
theorem dg_head {m : Nat} {r : List Nat} (h : dg m = 48 :: r) : r = [] := by
  by_cases hr : r = []
  · exact hr
  · have hd : AllDigits r := fun c hc => dg_digits m c (by rw [h]; exact List.mem_cons_of_mem _ hc)
    have hv := dg_val m
    rw [h, val_cons0] at hv
    have hlt := val_lt r.length r rfl hd
    rw [hv] at hlt
    have := dg_len m r.length (List.length_pos_iff.mpr hr) hlt
    rw [h, List.length_cons] at this
    omega
theorem dg_not {m : Nat} {c : Nat} (h : c < 48 ∨ 57 < c) : c ∉ dg m := fun z => by
  have := dg_digits m c z
  omega
/-- signs: a number's text -/
def figs (cs : List Nat) : List Nat := match cs with
  | 45 :: r => r
  | _ => cs
def wVal (cs : List Nat) : Int := match cs with
  | 45 :: r => -((digitsVal r : Nat) : Int)
  | _ => ((digitsVal cs : Nat) : Int)
theorem figs_of {cs : List Nat} (h : ∀ r, cs ≠ 45 :: r) : figs cs = cs := by
  unfold figs
  split
  · exact absurd rfl (h _)
  · rfl
theorem wVal_of {cs : List Nat} (h : ∀ r, cs ≠ 45 :: r) : wVal cs = ((digitsVal cs : Nat) : Int) := by
  unfold wVal
  split
  · exact absurd rfl (h _)
  · rfl
theorem int_reads {z : Str} (hd : AllDigits (figs (sg z))) (hne : figs (sg z) ≠ []) (hl : z.length ≤ 640) : intL [.str z] = some (.int (wVal (sg z))) := by
  have e : intText? z = some (wVal (sg z)) := by
    by_cases h : ∃ r, sg z = 45 :: r
    · obtain ⟨r, hr⟩ := h
      rw [hr] at hd hne ⊢
      exact intText_neg hr hd hne (by omega)
    · have h' : ∀ r, sg z ≠ 45 :: r := fun r e => h ⟨r, e⟩
      rw [figs_of h'] at hd hne
      rw [wVal_of h']
      exact intText_digits hd hne (by omega)
  unfold intL
  simp only [hl, if_true, e, Option.map_some]
theorem txt_figs (n : Int) : figs (sg (txt n)) = dg n.natAbs ∧ wVal (sg (txt n)) = n := by
  cases n with
  | ofNat m =>
    have e := txt_nat m
    have h : ∀ r, sg (txt (m : Int)) ≠ 45 :: r := fun r z => by
      rw [e] at z
      have := dg_digits m 45 (by rw [z]; exact List.mem_cons_self ..)
      omega
    show figs (sg (txt (m : Int))) = _ ∧ wVal (sg (txt (m : Int))) = _
    rw [figs_of h, wVal_of h, e, dg_val]
    exact ⟨rfl, rfl⟩
  | negSucc m =>
    have e := txt_neg m
    show figs (sg (txt (-((m + 1 : Nat) : Int)))) = _ ∧ wVal (sg (txt (-((m + 1 : Nat) : Int)))) = _
    rw [e]
    exact ⟨rfl, by show -((digitsVal (dg (m + 1)) : Nat) : Int) = _; rw [dg_val]; rfl⟩
theorem txt_no {n : Int} {c : Nat} (h : c < 45 ∨ 57 < c ∨ c = 47 ∨ c = 46) : c ∉ sg (txt n) := by
  cases n with
  | ofNat m => exact fun z => dg_not (m := m) (c := c) (by omega) (by rw [← txt_nat m]; exact z)
  | negSucc m =>
    intro z
    have e := txt_neg m
    have z : c ∈ sg (txt (-((m + 1 : Nat) : Int))) := z
    rw [e] at z
    rcases List.mem_cons.mp z with z | z
    · omega
    · exact dg_not (by omega) z
theorem txt_len {n : Int} {k : Nat} (hk : 0 < k) (h : n.natAbs < 10 ^ k) : (sg (txt n)).length ≤ k + 1 := by
  have := dg_len n.natAbs k hk h
  cases n with
  | ofNat m =>
    have e := txt_nat m
    show (sg (txt (m : Int))).length ≤ _
    rw [e]
    have : (dg m).length ≤ k := this
    omega
  | negSucc m =>
    have e := txt_neg m
    show (sg (txt (-((m + 1 : Nat) : Int)))).length ≤ _
    rw [e, List.length_cons]
    have : (dg (m + 1)).length ≤ k := this
    omega
/-! ## split at one sign -/
theorem cut_at {c : Nat} : ∀ (a b : List Nat) (x y : List Nat), c ∉ a → c ∉ x → a ++ c :: b = x ++ c :: y → a = x ∧ b = y
  | [], b, [], y, _, _, h => by cases h; exact ⟨rfl, rfl⟩
  | [], b, z :: x, y, _, hx, h => by cases h; exact absurd (List.mem_cons_self ..) hx
  | z :: a, b, [], y, ha, _, h => by cases h; exact absurd (List.mem_cons_self ..) ha
  | z :: a, b, w :: x, y, ha, hx, h => by
    rw [List.cons_append, List.cons_append] at h
    injection h with h1 h2
    subst h1
    obtain ⟨e1, e2⟩ := cut_at a b x y (fun q => ha (List.mem_cons_of_mem _ q)) (fun q => hx (List.mem_cons_of_mem _ q)) h2
    subst e1
    exact ⟨rfl, e2⟩
theorem split_one {z : Str} {c : Nat} (h : c ∉ sg z) : Txt.split z ⟨#[c]⟩ = [z] := by
  have hl := split_len z c
  have hc : cnt c z.cps.toList = 0 := cnt_none c _ h
  rw [hc] at hl
  have hj := StrLaws.join_split z ⟨#[c]⟩
  match e : Txt.split z ⟨#[c]⟩ with
  | [] => rw [e] at hl; simp at hl
  | [w] => rw [e] at hj; rw [← hj]; rfl
  | _ :: _ :: _ => rw [e] at hl; simp at hl; omega
theorem split_two {z u v : Str} {c : Nat} (e : Txt.split z ⟨#[c]⟩ = [u, v]) : sg z = sg u ++ c :: sg v ∧ c ∉ sg u ∧ c ∉ sg v := by
  have hj := StrLaws.join_split z ⟨#[c]⟩
  have hf := StrLaws.split_free z c
  rw [e] at hj hf
  refine ⟨?_, hf u (by simp), hf v (by simp)⟩
  rw [← hj]
  show sg (u ++ ⟨#[c]⟩ ++ v) = _
  rw [sg_app, sg_app, List.append_assoc]
  rfl
theorem split_free1 {z u : Str} {c : Nat} (e : Txt.split z ⟨#[c]⟩ = [u]) : u = z ∧ c ∉ sg z := by
  have hj := StrLaws.join_split z ⟨#[c]⟩
  have hf := StrLaws.split_free z c
  rw [e] at hj hf
  have : u = z := hj
  subst this
  exact ⟨rfl, hf u (by simp)⟩
end M
set_option Elab.async false
set_option linter.all false
set_option maxRecDepth 100000
set_option maxHeartbeats 4000000
namespace M
open PySem PySem.Spec PyProof.Rows L2 PySem.NumText
/-! ## applied rules of M12 -/
theorem chM_a (f g : PyData → PyData → Option PyData) (oa ob oc : Opd) (ρ : MEnv) : chM f g oa ob oc ρ = ((bnd oa.run fun x => bnd ob.run fun y => bnd (M.fin x) fun d => bnd (M.fin y) fun e => bnd (lfo (f d e)) fun r => bnd (lfo (asB r)) fun k =>
  if k then bnd oc.run fun z => bnd (M.fin y) fun e2 => bnd (M.fin z) fun c => lfo (g e2 c) else M.ret (.bool false)) ρ) := (rfl)
theorem inD_s (c : Nat) (z : Str) : inD (.str ⟨#[c]⟩) (.str z) = some (.bool (decide (c ∈ sg z))) := (rfl)
theorem splM_a (mo me : ME PyData) (ρ : MEnv) : splM mo me ρ = ((bnd mo fun d => bnd (lfo (asS d)) fun a => bnd me fun e => lfo (splF a e)) ρ) := (rfl)
theorem asS_s (z : Str) : asS (.str z) = some z := (rfl)
theorem splF_s (a b : Str) : splF a (.str b) = if (b.length == 0) = false ∧ a.length + 2 ≤ sizeLine then some (.list ((Txt.split a b).map .str)) else none := (rfl)
theorem lenL_s (z : Str) : lenL [.str z] = if z.length ≤ sizeLine then some (.int z.length) else none := (rfl)
theorem cutD_s (z : Str) (lo hi : Option Int) : M.cutD (.str z) lo hi = if z.length ≤ sizeLine then some (.str (cutS z lo hi)) else none := (rfl)
theorem strL_i (i : Int) : strL [.int i] = if i.natAbs.log2 < 1920 then some (.str (txt i)) else none := (rfl)
theorem items_s (z : Str) : items (.str z) = if z.length ≤ sizeLine then some (signs z) else none := (rfl)
theorem signs_eq (z : Str) : signs z = (sg z).map fun c => .str ⟨#[c]⟩ := (rfl)
/-! ## signs of numbers -/
def dgs : List Nat := [48, 49, 50, 51, 52, 53, 54, 55, 56, 57]
theorem dgs_eq : sg ("0123456789" : Str) = dgs := by decide
def ad (cs : List Nat) : Bool := cs.all fun c => decide (c ∈ dgs)
theorem ad_iff {cs : List Nat} : ad cs = true ↔ AllDigits cs := by
  unfold ad AllDigits
  rw [List.all_eq_true]
  constructor
  · intro h c hc
    have := of_decide_eq_true (h c hc)
    simp only [dgs, List.mem_cons, List.not_mem_nil, or_false] at this
    omega
  · intro h c hc
    have := h c hc
    refine decide_eq_true ?_
    simp only [dgs, List.mem_cons, List.not_mem_nil, or_false]
    omega
theorem bools_ad (cs : List Nat) : (boolsOf (cs.map fun c => PyData.bool (decide (c ∈ dgs)))).map (fun ns => PyData.bool (ns.all id)) = some (.bool (ad cs)) := by
  have e : boolsOf (cs.map fun c => PyData.bool (decide (c ∈ dgs))) = some (cs.map fun c => decide (c ∈ dgs)) := by
    induction cs with
    | nil => rfl
    | cons c r ih => rw [List.map_cons]; unfold boolsOf; rw [ih]; rfl
  rw [e]
  simp only [Option.map_some, ad, List.all_map]
  rfl
theorem comp_ad1 (a : M.Slot) : ∀ cs : List Nat, compL [1] (tgN 1) (M.ret true) (op2 inD (.n 1) (.v (ret (.str "0123456789")))) (cs.map fun c => .str ⟨#[c]⟩) [a, .un] = .ok (cs.map fun c => .bool (decide (c ∈ dgs)), [a, .un]) := by
  intro cs
  induction cs with
  | nil => rfl
  | cons c r ih =>
    rw [List.map_cons]
    unfold compL compT
    simp [bnd_a, ret_a, lft_ok, lft_err, lfo_some, nameM_a, peek_a, fin_l, fin_r, run_v, run_n, op1_a, op2_a, opL_a, runs_n, runs_c, fins_n, fins_c, evs_n, evs_c, tupM_a, lstM_a, lstO_a, andM_a, orM_a, notM_a, andV_a, orV_a, notV_a, asB_b, ifM_a, tstM_a, tstD_a, truth_b, truth_i, truth_n, bndS_a, retM_a, retOM_a, dropM_a, seqS_a, nextM_a, failS_a, ifS_a, asgM_a, asgO_a, tgN_a, tgTup_t, tgLst_t, tgsNil_a, tgsCons_a, putS_a, setS_z, setS_s, getS_z, getS_s, parM_a, callP_a, callF_a, callR_a, frzM_a, setIx_a, intD_i, addD_i, addD_t, addD_l, addD_s, subD_i, mulD_i, fdivD_i, modD_i, powD_i, negD_i, eqD_i, eqD_s, neD_i, neD_s, ltD_i, leD_i, gtD_i, geD_i, isND_a, notND_a, isBD_a, notBD_a, ixD_l, ixD_t, ixD_k, absL_i, maxL_i, minL_i, lenL_l, lenL_t, lenL_k, intL_i, intL_b, tupL_l, lstL_l, lstL_t, items_l, items_t, itM_a, rngM1_a, rngM2_a, range1_i, forM_a, forL_n, sumL_l, allL_l, anyL_l, sliceM_a, optM_n, optM_s, lrM1_a, compM_a, methM_a, startE, List.map_cons, List.map_nil, List.length_cons, List.length_nil, List.cons_append, List.nil_append, if_true, if_false, Bool.not_true, Bool.not_false, Bool.false_eq_true, reduceCtorEq, decide_true, decide_false, Nat.reduceAdd, ite_true, ite_false, sizeLine, wipeE, ih, inD_s, dgs_eq]
theorem comp_ad2 (a b : M.Slot) : ∀ cs : List Nat, compL [2] (tgN 2) (M.ret true) (op2 inD (.n 2) (.v (ret (.str "0123456789")))) (cs.map fun c => .str ⟨#[c]⟩) [a, b, .un] = .ok (cs.map fun c => .bool (decide (c ∈ dgs)), [a, b, .un]) := by
  intro cs
  induction cs with
  | nil => rfl
  | cons c r ih =>
    rw [List.map_cons]
    unfold compL compT
    simp [bnd_a, ret_a, lft_ok, lft_err, lfo_some, nameM_a, peek_a, fin_l, fin_r, run_v, run_n, op1_a, op2_a, opL_a, runs_n, runs_c, fins_n, fins_c, evs_n, evs_c, tupM_a, lstM_a, lstO_a, andM_a, orM_a, notM_a, andV_a, orV_a, notV_a, asB_b, ifM_a, tstM_a, tstD_a, truth_b, truth_i, truth_n, bndS_a, retM_a, retOM_a, dropM_a, seqS_a, nextM_a, failS_a, ifS_a, asgM_a, asgO_a, tgN_a, tgTup_t, tgLst_t, tgsNil_a, tgsCons_a, putS_a, setS_z, setS_s, getS_z, getS_s, parM_a, callP_a, callF_a, callR_a, frzM_a, setIx_a, intD_i, addD_i, addD_t, addD_l, addD_s, subD_i, mulD_i, fdivD_i, modD_i, powD_i, negD_i, eqD_i, eqD_s, neD_i, neD_s, ltD_i, leD_i, gtD_i, geD_i, isND_a, notND_a, isBD_a, notBD_a, ixD_l, ixD_t, ixD_k, absL_i, maxL_i, minL_i, lenL_l, lenL_t, lenL_k, intL_i, intL_b, tupL_l, lstL_l, lstL_t, items_l, items_t, itM_a, rngM1_a, rngM2_a, range1_i, forM_a, forL_n, sumL_l, allL_l, anyL_l, sliceM_a, optM_n, optM_s, lrM1_a, compM_a, methM_a, startE, List.map_cons, List.map_nil, List.length_cons, List.length_nil, List.cons_append, List.nil_append, if_true, if_false, Bool.not_true, Bool.not_false, Bool.false_eq_true, reduceCtorEq, decide_true, decide_false, Nat.reduceAdd, ite_true, ite_false, sizeLine, wipeE, ih, inD_s, dgs_eq]
/-! ## a sign at the head -/
theorem toA (l : List Nat) : (l.toArray).toList = l := by simp
theorem cut1 (z : Str) : sg (cutS z none (some 1)) = (sg z).take 1 := by
  have h1 : HT.sIx z.length 0 none = 0 := rfl
  have h2 : HT.sIx z.length z.length (some 1) = min 1 z.length := HT.sIx_nat _ _ 1
  have e : sg (cutS z none (some 1)) = ((sg z).drop (HT.sIx z.length 0 none)).take (HT.sIx z.length z.length (some 1) - HT.sIx z.length 0 none) := toA _
  have key : ∀ l : List Nat, (l.drop 0).take (min 1 l.length - 0) = l.take 1 := fun l => by cases l <;> simp
  rw [e, h1, h2, sg_len]
  exact key _
theorem cut2 (z : Str) : sg (cutS z (some 1) none) = (sg z).drop 1 := by
  have h1 : HT.sIx z.length 0 (some 1) = min 1 z.length := HT.sIx_nat _ _ 1
  have h2 : HT.sIx z.length z.length none = z.length := rfl
  have e : sg (cutS z (some 1) none) = ((sg z).drop (HT.sIx z.length 0 (some 1))).take (HT.sIx z.length z.length none - HT.sIx z.length 0 (some 1)) := toA _
  have key : ∀ l : List Nat, (l.drop (min 1 l.length)).take (l.length - min 1 l.length) = l.drop 1 := fun l => by
    cases l with
    | nil => rfl
    | cons c r => simp
  rw [e, h1, h2, sg_len]
  exact key _
def figS (z : Str) : Str := if cutS z none (some 1) = ("-" : Str) then cutS z (some 1) none else z
theorem minus_eq : sg ("-" : Str) = [45] := by decide
theorem figS_sg (z : Str) : sg (figS z) = figs (sg z) := by
  unfold figS
  by_cases h : cutS z none (some 1) = ("-" : Str)
  · rw [if_pos h, cut2]
    have := congrArg sg h
    rw [cut1, minus_eq] at this
    match e : sg z with
    | [] => rw [e] at this; cases this
    | c :: r =>
      rw [e] at this
      have : c = 45 := by simpa using this
      subst this
      rfl
  · rw [if_neg h]
    refine (figs_of fun r e => h (sg_ext ?_)).symm
    rw [cut1, e, minus_eq]
    rfl
theorem figs_len (cs : List Nat) : (figs cs).length ≤ cs.length := by
  unfold figs
  split
  · simp
  · exact Nat.le_refl _
theorem figS_len (z : Str) : (figS z).length ≤ z.length := by
  rw [sg_len, sg_len, figS_sg]; exact figs_len _
end M
set_option Elab.async false
set_option linter.all false
set_option maxRecDepth 100000
set_option maxHeartbeats 4000000
namespace Lk01
open M PySem PySem.Spec PyProof.Rows L2
noncomputable def b__law_cells : SM := retM (frzM (lrM1 (.v (opL maxL [.v (ret (.int 1)), .v (opL minL [.n 1, .v (opL lenL [.n 0])])]))))
noncomputable def m__law_cells : List PyData → R PyData := runP 2 b__law_cells
noncomputable def b__law_pot : SM := seqS (asgM (ifM (tstD (op2 ltD (.n 1) (.v (opL lenL [.n 0])))) (op2 ixD (.n 0) (.n 1)) (op2 addD (.v (op2 addD (.v (op2 modD (.v (opL intL [.v (opL sumL [.v (sliceM (.n 0) (none) (some (ret (.int 1))))])])) (.v (ret (.int 1000003))))) (.v (op2 mulD (.v (ret (.int 24007))) (.n 1))))) (.v (ret (.int 8803))))) (tgN 2)) (seqS (asgM (op2 mulD (.v (op2 modD (.v (opL intL [.v (opL absL [.n 2])])) (.v (op2 powD (.v (op2 powD (.v (ret (.int 10))) (.v (ret (.int 60))))) (.v (ret (.int 5))))))) (.v (opL intL [.v (op2 geD (.v (opL absL [.n 2])) (.v (op2 powD (.v (ret (.int 10))) (.v (ret (.int 18))))))]))) (tgN 3)) (seqS (asgM (op2 modD (.v (opL intL [.n 2])) (.v (ret (.int 2305843009213693951)))) (tgN 4)) (retOM (lstO [nameM 3, op2 modD (.v (opL intL [.v (op2 addD (.v (op2 addD (.v (op2 mulD (.n 4) (.v (ret (.int 99529))))) (.v (op2 mulD (.v (op2 mulD (.v (ret (.int 14869))) (.n 1))) (.n 1))))) (.v (ret (.int 9803))))])) (.v (ret (.int 2305843009213693921))), ret (.int 0)]))))
noncomputable def m__law_pot : List PyData → R (List PyData) := runF 5 b__law_pot
noncomputable def b__law_shared : SM := seqS (parM 0 1 [opL absL [.n 0], opL absL [.n 1]]) (seqS (forM (rngM1 (.v (ret (.int 4000)))) (tgN 2) (seqS (ifS (tstD (op2 eqD (.n 1) (.v (ret (.int 0))))) (.brk) (nextM)) (parM 0 1 [nameM 1, op2 modD (.n 0) (.n 1)]))) (retM (nameM 0)))
noncomputable def m__law_shared : List PyData → R PyData := runP 3 b__law_shared
noncomputable def b__law_made : SM := seqS (asgM (ifM (tstD (op2 ltD (.n 1) (.v (ret (.int 0))))) (tupM [op2 subD (.v (ret (.int 0))) (.n 0), op2 subD (.v (ret (.int 0))) (.n 1)]) (tupM [nameM 0, nameM 1])) (tgTup 2 (tgsCons (tgN 0) (tgsCons (tgN 1) (tgsNil))))) (seqS (asgM (callP m__law_shared [nameM 0, nameM 1]) (tgN 2)) (retM (tupM [opL intL [.v (op2 fdivD (.n 0) (.n 2))], opL intL [.v (op2 fdivD (.n 1) (.n 2))]])))
noncomputable def m__law_made : List PyData → R PyData := runP 3 b__law_made
noncomputable def b__law_text : SM := retM (ifM (tstD (op2 eqD (.v (op2 ixD (.n 0) (.v (ret (.int 1))))) (.v (ret (.int 1))))) (opL strL [.v (op2 ixD (.n 0) (.v (ret (.int 0))))]) (op2 addD (.v (op2 addD (.v (opL strL [.v (op2 ixD (.n 0) (.v (ret (.int 0))))])) (.v (ret (.str "/"))))) (.v (opL strL [.v (op2 ixD (.n 0) (.v (ret (.int 1))))]))))
noncomputable def m__law_text : List PyData → R PyData := runP 1 b__law_text
noncomputable def b__law_take : SM := seqS (ifS (tstD (op2 gtD (.v (op2 ixD (.n 0) (.v (ret (.int 0))))) (.v (ret (.int 0))))) (seqS (asgM (op2 modD (.v (opL intL [.v (op2 ixD (.n 0) (.v (ret (.int 0))))])) (.n 1)) (tgN 2)) (seqS (setIx 0 (op2 fdivD (.v (op2 ixD (.n 0) (.v (ret (.int 0))))) (.n 1)) (ret (.int 0))) (retM (nameM 2)))) (nextM)) (seqS (setIx 0 (op2 addD (.v (op2 ixD (.n 0) (.v (ret (.int 2))))) (.v (ret (.int 1)))) (ret (.int 2))) (seqS (asgM (op2 ixD (.v (lstM [ret (.int 2147483647), ret (.int 2147483629), ret (.int 2147483587), ret (.int 2147483579)])) (.v (op2 modD (.v (opL intL [.v (op2 ixD (.n 0) (.v (ret (.int 2))))])) (.v (ret (.int 4)))))) (tgN 3)) (seqS (asgM (op2 modD (.v (opL intL [.v (op2 powD (.v (opL intL [.v (op2 addD (.v (op2 addD (.v (op2 ixD (.n 0) (.v (ret (.int 1))))) (.v (op2 mulD (.v (op2 mulD (.v (ret (.int 147487))) (.v (op2 ixD (.n 0) (.v (ret (.int 2))))))) (.v (op2 ixD (.n 0) (.v (ret (.int 2))))))))) (.v (ret (.int 4231))))])) (.v (ret (.int 3))))])) (.n 3)) (tgN 4)) (retM (op2 modD (.v (opL intL [.v (op2 fdivD (.v (op2 mulD (.n 4) (.v (op2 addD (.v (op2 modD (.v (opL intL [.n 4])) (.v (ret (.int 10007))))) (.v (op2 mulD (.v (ret (.int 3433))) (.v (op2 ixD (.n 0) (.v (ret (.int 2))))))))))) (.v (ret (.int 307))))])) (.n 1))))))
noncomputable def m__law_take : List PyData → List PyData → R (PyData × List PyData) := runR 5 b__law_take
noncomputable def b__law_of : SM := retM (op2 ixD (.n 1) (.v (callR m__law_take 0 [opL lenL [.n 1]])))
noncomputable def m__law_of : List PyData → List PyData → R (PyData × List PyData) := runR 2 b__law_of
noncomputable def b_read_whole : SM := seqS (asgM (ifM (tstD (op2 eqD (.v (sliceM (.n 0) (none) (some (ret (.int 1))))) (.v (ret (.str "-"))))) (sliceM (.n 0) (some (ret (.int 1))) (none)) (nameM 0)) (tgN 1)) (seqS (ifS (orM (notM (tstD (chM leD leD (.v (ret (.int 1))) (.v (opL lenL [.n 1])) (.v (ret (.int 4000)))))) (notM (tstM (.v (opL allL [.v (frzM (compM (itM (nameM 1)) [2] (tgN 2) (ret true) (op2 inD (.n 2) (.v (ret (.str "0123456789"))))))]))))) (retM (ret .none)) (nextM)) (retM (opL intL [.n 0])))
noncomputable def m_read_whole : List PyData → R PyData := runP 3 b_read_whole
noncomputable def b_common_divisor : SM := seqS (parM 0 1 [opL absL [.n 0], opL absL [.n 1]]) (seqS (whileM (tstD (op2 neD (.n 1) (.v (ret (.int 0))))) (parM 0 1 [nameM 1, op2 modD (.n 0) (.n 1)])) (retM (nameM 0)))
noncomputable def m_common_divisor : List PyData → R PyData := runP 2 b_common_divisor
noncomputable def b_is_pair : SM := retM (andV (op1 (isD "tuple") (.n 0)) (op2 eqD (.v (opL lenL [.n 0])) (.v (ret (.int 2)))))
noncomputable def m_is_pair : List PyData → R PyData := runP 1 b_is_pair
noncomputable def b_is_integer : SM := retM (andV (op1 (isD "int") (.n 0)) (notV (op1 (isD "bool") (.n 0))))
noncomputable def m_is_integer : List PyData → R PyData := runP 1 b_is_integer
noncomputable def b_is_fraction_value : SM := seqS (ifS (orM (notM (tstM (.v (callP m_is_pair [nameM 0])))) (orM (notM (tstM (.v (callP m_is_integer [op2 ixD (.n 0) (.v (ret (.int 0)))])))) (orM (notM (tstM (.v (callP m_is_integer [op2 ixD (.n 0) (.v (ret (.int 1)))])))) (tstD (op2 ltD (.v (op2 ixD (.n 0) (.v (ret (.int 1))))) (.v (ret (.int 1)))))))) (retM (ret (.bool false))) (nextM)) (retM (op2 eqD (.v (callP m_common_divisor [op2 ixD (.n 0) (.v (ret (.int 0))), op2 ixD (.n 0) (.v (ret (.int 1)))])) (.v (ret (.int 1)))))
noncomputable def m_is_fraction_value : List PyData → R PyData := runP 1 b_is_fraction_value
noncomputable def b_text_of : SM := retM (ifM (tstD (op2 eqD (.v (op2 ixD (.n 0) (.v (ret (.int 1))))) (.v (ret (.int 1))))) (opL strL [.v (op2 ixD (.n 0) (.v (ret (.int 0))))]) (op2 addD (.v (op2 addD (.v (opL strL [.v (op2 ixD (.n 0) (.v (ret (.int 0))))])) (.v (ret (.str "/"))))) (.v (opL strL [.v (op2 ixD (.n 0) (.v (ret (.int 1))))]))))
noncomputable def m_text_of : List PyData → R PyData := runP 1 b_text_of
noncomputable def b_read_fraction : SM := seqS (ifS (notM (tstM (.v (op1 (isD "str") (.n 0))))) (retM (ret .none)) (nextM)) (seqS (asgM (splM (nameM 0) (ret (.str "/"))) (tgN 1)) (seqS (asgM (frzM (compM (itM (nameM 1)) [4] (tgN 4) (ret true) (callP m_read_whole [nameM 4]))) (tgN 2)) (seqS (ifS (orM (tstD (op2 gtD (.v (opL lenL [.n 1])) (.v (ret (.int 2))))) (tstD (op2 inD (.v (ret .none)) (.n 2)))) (retM (ret .none)) (nextM)) (seqS (asgM (ifM (tstD (op2 eqD (.v (opL lenL [.n 1])) (.v (ret (.int 1))))) (tupM [op2 ixD (.n 2) (.v (ret (.int 0))), ret (.int 1)]) (tupM [op2 ixD (.n 2) (.v (ret (.int 0))), op2 ixD (.n 2) (.v (ret (.int 1)))])) (tgN 3)) (retM (ifM (andM (tstM (.v (callP m_is_fraction_value [nameM 3]))) (tstD (op2 eqD (.v (callP m_text_of [nameM 3])) (.n 0)))) (nameM 3) (ret .none)))))))
noncomputable def m_read_fraction : List PyData → R PyData := runP 5 b_read_fraction
noncomputable def b_check_number : SM := ifS (notM (tstM (.v (callP m_is_fraction_value [nameM 0])))) (failS) (nextM)
noncomputable def m_check_number : List PyData → R PyData := runP 1 b_check_number
noncomputable def b_fraction_text : SM := seqS (dropM (callP m_check_number [nameM 0])) (retM (callP m_text_of [nameM 0]))
noncomputable def m_fraction_text : List PyData → R PyData := runP 1 b_fraction_text
noncomputable def b__law_is_count : SM := retM (andV (op2 neD (.n 0) (.v (ret (.str "")))) (andV (opL allL [.v (frzM (compM (itM (nameM 0)) [1] (tgN 1) (ret true) (op2 inD (.n 1) (.v (ret (.str "0123456789"))))))]) (orV (op2 eqD (.n 0) (.v (ret (.str "0")))) (op2 neD (.v (op2 ixD (.n 0) (.v (ret (.int 0))))) (.v (ret (.str "0")))))))
noncomputable def m__law_is_count : List PyData → R PyData := runP 2 b__law_is_count
noncomputable def b__law_read : SM := seqS (asgM (splM (nameM 0) (ret (.str "/"))) (tgN 1)) (seqS (asgM (ifM (tstD (op2 eqD (.v (sliceM (.v (op2 ixD (.n 1) (.v (ret (.int 0))))) (none) (some (ret (.int 1))))) (.v (ret (.str "-"))))) (sliceM (.v (op2 ixD (.n 1) (.v (ret (.int 0))))) (some (ret (.int 1))) (none)) (op2 ixD (.n 1) (.v (ret (.int 0))))) (tgN 2)) (seqS (ifS (orM (tstD (op2 gtD (.v (opL lenL [.n 1])) (.v (ret (.int 2))))) (orM (notM (tstM (.v (callP m__law_is_count [nameM 2])))) (orM (andM (tstD (op2 eqD (.v (opL lenL [.n 1])) (.v (ret (.int 2))))) (notM (tstM (.v (callP m__law_is_count [op2 ixD (.n 1) (.v (ret (.int 1)))]))))) (tstD (op2 gtD (.v (opL lenL [.n 0])) (.v (ret (.int 30)))))))) (retM (ret .none)) (nextM)) (seqS (asgM (tupM [opL intL [.v (op2 ixD (.n 1) (.v (ret (.int 0))))], ifM (tstD (op2 eqD (.v (opL lenL [.n 1])) (.v (ret (.int 2))))) (opL intL [.v (op2 ixD (.n 1) (.v (ret (.int 1))))]) (ret (.int 1))]) (tgN 3)) (seqS (ifS (orM (tstD (op2 eqD (.v (op2 ixD (.n 3) (.v (ret (.int 1))))) (.v (ret (.int 0))))) (orM (tstD (op2 neD (.v (callP m__law_made [op2 ixD (.n 3) (.v (ret (.int 0))), op2 ixD (.n 3) (.v (ret (.int 1)))])) (.n 3))) (tstD (op2 neD (.v (callP m__law_text [nameM 3])) (.n 0))))) (retM (ret .none)) (nextM)) (retM (nameM 3))))))
noncomputable def m__law_read : List PyData → R PyData := runP 4 b__law_read
noncomputable def b__law_right : SM := seqS (asgM (callP m__law_made [op2 subD (.v (opL intL [.v (callR m__law_of 0 [lstM [callR m__law_take 0 [ret (.int 40)], callR m__law_take 0 [op2 powD (.v (ret (.int 10))) (.v (ret (.int 9)))]]])])) (.v (opL intL [.v (callR m__law_take 0 [ret (.int 20)])])), op2 addD (.v (ret (.int 1))) (.v (opL intL [.v (callR m__law_of 0 [lstM [ret (.int 0), ret (.int 0), callR m__law_take 0 [ret (.int 30)]]])]))]) (tgN 1)) (seqS (asgM (callP m__law_text [nameM 1]) (tgN 2)) (seqS (ifS (orM (tstD (op2 neD (.v (opL reprL [.v (callP m_fraction_text [nameM 1])])) (.v (opL reprL [.n 2])))) (tstD (op2 neD (.v (opL reprL [.v (callP m_read_fraction [nameM 2])])) (.v (opL reprL [.n 1]))))) (retM (ret (.bool false))) (nextM)) (seqS (forM (rngM1 (.v (ret (.int 8)))) (tgN 3) (seqS (asgM (callR m__law_take 0 [op2 addD (.v (opL lenL [.n 2])) (.v (ret (.int 1)))]) (tgN 4)) (seqS (parM 5 6 [callR m__law_take 0 [ret (.int 4)], callR m__law_of 0 [lstM [ret (.str "0"), ret (.str "1"), ret (.str "-"), ret (.str "/"), ret (.str " "), ret (.str "+"), ret (.str "2"), ret (.str "a"), ret (.str "6")]]]) (seqS (asgM (op2 addD (.v (op2 addD (.v (sliceM (.n 2) (none) (some (nameM 4)))) (.n 6))) (.v (sliceM (.n 2) (some (nameM 4)) (none)))) (tgN 7)) (seqS (ifS (tstD (op2 eqD (.n 5) (.v (ret (.int 1))))) (asgM (op2 addD (.v (op2 addD (.v (sliceM (.n 2) (none) (some (nameM 4)))) (.n 6))) (.v (sliceM (.n 2) (some (op2 addD (.n 4) (.v (ret (.int 1))))) (none)))) (tgN 7)) (ifS (tstD (op2 eqD (.n 5) (.v (ret (.int 2))))) (asgM (op2 addD (.v (sliceM (.n 2) (none) (some (nameM 4)))) (.v (sliceM (.n 2) (some (op2 addD (.n 4) (.v (ret (.int 1))))) (none)))) (tgN 7)) (ifS (tstD (op2 eqD (.n 5) (.v (ret (.int 3))))) (asgM (callR m__law_of 0 [lstM [ret (.str ""), ret (.str "-"), ret (.str "/"), ret (.str "1/"), ret (.str "/1"), ret (.str "2/4"), ret (.str "-0"), ret (.str "0/1"), ret (.str "1/1"), ret (.str "01"), ret (.str "1/-2"), ret (.str "--1"), ret (.str "1//2"), ret (.str "-1/2"), ret (.str " 1")]]) (tgN 7)) (nextM)))) (ifS (tstD (op2 neD (.v (opL reprL [.v (callP m_read_fraction [nameM 7])])) (.v (opL reprL [.v (callP m__law_read [nameM 7])])))) (retM (ret (.bool false))) (nextM))))))) (retM (op2 eqD (.v (frzM (compM (itM (tupM [ret .none, ret (.int 1), tupM [ret (.int 1), ret (.int 2)], lstM [ret (.str "1")], ret (.bool true), tupM [ret (.str "1")]])) [8] (tgN 8) (ret true) (callP m_read_fraction [nameM 8])))) (.v (op2 mulD (.v (lstM [ret .none])) (.v (ret (.int 6))))))))))
noncomputable def m__law_right : List PyData → List PyData → R (PyData × List PyData) := runR 9 b__law_right
noncomputable def b_law : SM := seqS (forM (itM (callP m__law_cells [nameM 0, ret (.int 2)])) (tgN 1) (seqS (asgO (callF m__law_pot [nameM 0, nameM 1]) 2) (forM (rngM1 (.v (ret (.int 8)))) (tgN 3) (ifS (notM (tstM (.v (callR m__law_right 2 [])))) (retM (ret (.bool false))) (nextM))))) (retM (ret (.bool true)))
noncomputable def m_law : List PyData → R PyData := runP 4 b_law
end Lk01
set_option Elab.async false
set_option linter.all false
set_option maxRecDepth 100000
set_option maxHeartbeats 4000000
namespace Lk01
open M PySem PySem.Spec PyProof.Rows L2
def topS (i : Nat) : Stmt := PySem.Challenge.pw_onlyonemore_k01_fractions_as_texts.main.body.getD i (.Pass ⟨0, 0, 0, 0⟩)
abbrev s__law_cells : Stmt := topS 18
abbrev s__law_pot : Stmt := topS 15
abbrev s__law_shared : Stmt := topS 19
abbrev s__law_made : Stmt := topS 20
abbrev s__law_text : Stmt := topS 21
abbrev s__law_take : Stmt := topS 16
abbrev s__law_of : Stmt := topS 17
abbrev s_read_whole : Stmt := topS 12
abbrev s_common_divisor : Stmt := topS 6
abbrev s_is_pair : Stmt := topS 5
abbrev s_is_integer : Stmt := topS 4
abbrev s_is_fraction_value : Stmt := topS 7
abbrev s_text_of : Stmt := topS 10
abbrev s_read_fraction : Stmt := topS 13
abbrev s_check_number : Stmt := topS 9
abbrev s_fraction_text : Stmt := topS 11
abbrev s__law_is_count : Stmt := topS 22
abbrev s__law_read : Stmt := topS 23
abbrev s__law_right : Stmt := topS 24
abbrev s_law : Stmt := topS 25
structure Txt (K : PySem.W.Frag) (mg : Str → Option Value) where
  f__law_cells : Addr
  d__law_cells : FuncData
  F__law_cells : Fun K "_law_cells" "_law_cells" s__law_cells f__law_cells d__law_cells
  g__law_cells : mg "_law_cells" = some (.ref f__law_cells)
  b__law_cells : Binds K d__law_cells ["script", "limit"] []
  f__law_pot : Addr
  d__law_pot : FuncData
  F__law_pot : Fun K "_law_pot" "_law_pot" s__law_pot f__law_pot d__law_pot
  g__law_pot : mg "_law_pot" = some (.ref f__law_pot)
  b__law_pot : Binds K d__law_pot ["script", "place"] []
  f__law_shared : Addr
  d__law_shared : FuncData
  F__law_shared : Fun K "_law_shared" "_law_shared" s__law_shared f__law_shared d__law_shared
  g__law_shared : mg "_law_shared" = some (.ref f__law_shared)
  b__law_shared : Binds K d__law_shared ["one", "other"] []
  f__law_made : Addr
  d__law_made : FuncData
  F__law_made : Fun K "_law_made" "_law_made" s__law_made f__law_made d__law_made
  g__law_made : mg "_law_made" = some (.ref f__law_made)
  b__law_made : Binds K d__law_made ["top", "low"] []
  f__law_text : Addr
  d__law_text : FuncData
  F__law_text : Fun K "_law_text" "_law_text" s__law_text f__law_text d__law_text
  g__law_text : mg "_law_text" = some (.ref f__law_text)
  b__law_text : Binds K d__law_text ["number"] []
  f__law_take : Addr
  d__law_take : FuncData
  F__law_take : Fun K "_law_take" "_law_take" s__law_take f__law_take d__law_take
  g__law_take : mg "_law_take" = some (.ref f__law_take)
  b__law_take : Binds K d__law_take ["pot", "upto"] []
  f__law_of : Addr
  d__law_of : FuncData
  F__law_of : Fun K "_law_of" "_law_of" s__law_of f__law_of d__law_of
  g__law_of : mg "_law_of" = some (.ref f__law_of)
  b__law_of : Binds K d__law_of ["pot", "some"] []
  f_read_whole : Addr
  d_read_whole : FuncData
  F_read_whole : Fun K "read_whole" "read_whole" s_read_whole f_read_whole d_read_whole
  g_read_whole : mg "read_whole" = some (.ref f_read_whole)
  b_read_whole : Binds K d_read_whole ["word"] []
  f_common_divisor : Addr
  d_common_divisor : FuncData
  F_common_divisor : Fun K "common_divisor" "common_divisor" s_common_divisor f_common_divisor d_common_divisor
  g_common_divisor : mg "common_divisor" = some (.ref f_common_divisor)
  b_common_divisor : Binds K d_common_divisor ["one", "other"] []
  f_is_pair : Addr
  d_is_pair : FuncData
  F_is_pair : Fun K "is_pair" "is_pair" s_is_pair f_is_pair d_is_pair
  g_is_pair : mg "is_pair" = some (.ref f_is_pair)
  b_is_pair : Binds K d_is_pair ["value"] []
  f_is_integer : Addr
  d_is_integer : FuncData
  F_is_integer : Fun K "is_integer" "is_integer" s_is_integer f_is_integer d_is_integer
  g_is_integer : mg "is_integer" = some (.ref f_is_integer)
  b_is_integer : Binds K d_is_integer ["value"] []
  f_is_fraction_value : Addr
  d_is_fraction_value : FuncData
  F_is_fraction_value : Fun K "is_fraction_value" "is_fraction_value" s_is_fraction_value f_is_fraction_value d_is_fraction_value
  g_is_fraction_value : mg "is_fraction_value" = some (.ref f_is_fraction_value)
  b_is_fraction_value : Binds K d_is_fraction_value ["value"] []
  f_text_of : Addr
  d_text_of : FuncData
  F_text_of : Fun K "text_of" "text_of" s_text_of f_text_of d_text_of
  g_text_of : mg "text_of" = some (.ref f_text_of)
  b_text_of : Binds K d_text_of ["number"] []
  f_read_fraction : Addr
  d_read_fraction : FuncData
  F_read_fraction : Fun K "read_fraction" "read_fraction" s_read_fraction f_read_fraction d_read_fraction
  g_read_fraction : mg "read_fraction" = some (.ref f_read_fraction)
  b_read_fraction : Binds K d_read_fraction ["text"] []
  f_check_number : Addr
  d_check_number : FuncData
  F_check_number : Fun K "check_number" "check_number" s_check_number f_check_number d_check_number
  g_check_number : mg "check_number" = some (.ref f_check_number)
  b_check_number : Binds K d_check_number ["value"] []
  f_fraction_text : Addr
  d_fraction_text : FuncData
  F_fraction_text : Fun K "fraction_text" "fraction_text" s_fraction_text f_fraction_text d_fraction_text
  g_fraction_text : mg "fraction_text" = some (.ref f_fraction_text)
  b_fraction_text : Binds K d_fraction_text ["number"] []
  f__law_is_count : Addr
  d__law_is_count : FuncData
  F__law_is_count : Fun K "_law_is_count" "_law_is_count" s__law_is_count f__law_is_count d__law_is_count
  g__law_is_count : mg "_law_is_count" = some (.ref f__law_is_count)
  b__law_is_count : Binds K d__law_is_count ["text"] []
  f__law_read : Addr
  d__law_read : FuncData
  F__law_read : Fun K "_law_read" "_law_read" s__law_read f__law_read d__law_read
  g__law_read : mg "_law_read" = some (.ref f__law_read)
  b__law_read : Binds K d__law_read ["text"] []
  f__law_right : Addr
  d__law_right : FuncData
  F__law_right : Fun K "_law_right" "_law_right" s__law_right f__law_right d__law_right
  g__law_right : mg "_law_right" = some (.ref f__law_right)
  b__law_right : Binds K d__law_right ["pot"] []
  f_law : Addr
  d_law : FuncData
  F_law : Fun K "law" "law" s_law f_law d_law
  g_law : mg "law" = some (.ref f_law)
  b_law : Binds K d_law ["script"] []
  z_abs : mg "abs" = none
  z_all : mg "all" = none
  z_bool : mg "bool" = none
  z_int : mg "int" = none
  z_isinstance : mg "isinstance" = none
  z_len : mg "len" = none
  z_list : mg "list" = none
  z_max : mg "max" = none
  z_min : mg "min" = none
  z_range : mg "range" = none
  z_repr : mg "repr" = none
  z_str : mg "str" = none
  z_sum : mg "sum" = none
  z_tuple : mg "tuple" = none
section
variable {P : Program} {w : World} {K : PySem.W.Frag} {mg : Str → Option Value} {base : Heap}
theorem sc__law_cells : FnScope ["script", "limit"] ["script", "limit"] (defScope s__law_cells) := ⟨rfl, rfl, rfl, by decide +kernel, rfl, by decide +kernel, by decide +kernel⟩
theorem ok__law_cells (T : Txt K mg) : FnG P w K mg base 1 T.f__law_cells T.d__law_cells ["script", "limit"] (spP K mg 2 m__law_cells) := ok_P (k := 0) T.F__law_cells sc__law_cells rfl fun cdv A fr s H E pa G => dss_one (ds_ret (de_frz (df_lrange1 G rfl T.z_list rfl T.z_range (do_v (de_callB (call_max2 G.g.calm) (v_on2 fun _ _ _ => .int _) rfl T.z_max (by decide +kernel) (do_v (de_int)) (dos_cons (do_v (de_callB (call_min2 G.g.calm) (v_on2 fun _ _ _ => .int _) rfl T.z_min (by decide +kernel) (do_n (i := 1) rfl (.inl rfl)) (dos_cons (do_v (de_callB call_len v_len rfl T.z_len (by decide +kernel) (do_n (i := 0) rfl (.inl rfl)) dos_nil)) dos_nil))) dos_nil))))))
theorem sc__law_pot : FnScope ["script", "place", "cell", "own", "small"] ["script", "place"] (defScope s__law_pot) := ⟨rfl, rfl, rfl, by decide +kernel, rfl, by decide +kernel, by decide +kernel⟩
theorem ok__law_pot (T : Txt K mg) : FnG P w K mg base 1 T.f__law_pot T.d__law_pot ["script", "place"] (spF K mg 2 m__law_pot) := ok_F (k := 0) T.F__law_pot sc__law_pot rfl fun cdv A fr s H E pa G => dss_cons (ds_set sc__law_pot.nd (i := 2) rfl (.inl rfl) (de_if (dt_lt (do_n (i := 1) rfl (.inl rfl)) (do_v (de_callB call_len v_len rfl T.z_len (by decide +kernel) (do_n (i := 0) rfl (.inl rfl)) dos_nil))) (de_item G (do_n (i := 0) rfl (.inl rfl)) (do_n (i := 1) rfl (.inl rfl))) (de_add G (do_v (de_add G (do_v (de_mod (do_v (de_callTy (L2.CallR.or call_int1 call_int_str) v_intT rfl T.z_int (by decide +kernel) (do_v (de_callB (cr_sum G.g.calm) v_sum rfl T.z_sum (by decide +kernel) (do_v (de_slice G (do_n (i := 0) rfl (.inl rfl)) (dp_none) (dp_some (de_int)))) dos_nil)) dos_nil)) (do_v (de_int)))) (do_v (de_mul G (do_v (de_int)) (do_n (i := 1) rfl (.inl rfl)))))) (do_v (de_int))))) (dss_cons (ds_set sc__law_pot.nd (i := 3) rfl (.inl rfl) (de_mul G (do_v (de_mod (do_v (de_callTy (L2.CallR.or call_int1 call_int_str) v_intT rfl T.z_int (by decide +kernel) (do_v (de_callB call_abs v_abs rfl T.z_abs (by decide +kernel) (do_n (i := 2) rfl (.inl rfl)) dos_nil)) dos_nil)) (do_v (de_pow (do_v (de_pow (do_v (de_int)) (do_v (de_int)))) (do_v (de_int)))))) (do_v (de_callTy (L2.CallR.or call_int1 call_int_str) v_intT rfl T.z_int (by decide +kernel) (do_v (de_ge (do_v (de_callB call_abs v_abs rfl T.z_abs (by decide +kernel) (do_n (i := 2) rfl (.inl rfl)) dos_nil)) (do_v (de_pow (do_v (de_int)) (do_v (de_int)))))) dos_nil)))) (dss_cons (ds_set sc__law_pot.nd (i := 4) rfl (.inl rfl) (de_mod (do_v (de_callTy (L2.CallR.or call_int1 call_int_str) v_intT rfl T.z_int (by decide +kernel) (do_n (i := 2) rfl (.inl rfl)) dos_nil)) (do_v (de_int)))) (dss_one (ds_retO (df_lst (dl_cons (de_name (i := 3) rfl (.inl rfl)) (dl_cons (de_mod (do_v (de_callTy (L2.CallR.or call_int1 call_int_str) v_intT rfl T.z_int (by decide +kernel) (do_v (de_add G (do_v (de_add G (do_v (de_mul G (do_n (i := 4) rfl (.inl rfl)) (do_v (de_int)))) (do_v (de_mul G (do_v (de_mul G (do_v (de_int)) (do_n (i := 1) rfl (.inl rfl)))) (do_n (i := 1) rfl (.inl rfl)))))) (do_v (de_int)))) dos_nil)) (do_v (de_int))) (dl_cons (de_int) dl_nil))))))))
theorem sc__law_shared : FnScope ["one", "other", "lap"] ["one", "other"] (defScope s__law_shared) := ⟨rfl, rfl, rfl, by decide +kernel, rfl, by decide +kernel, by decide +kernel⟩
theorem ok__law_shared (T : Txt K mg) : FnG P w K mg base 1 T.f__law_shared T.d__law_shared ["one", "other"] (spP K mg 2 m__law_shared) := ok_P (k := 0) T.F__law_shared sc__law_shared rfl fun cdv A fr s H E pa G => dss_cons (ds_par (i := 0) (j := 1) rfl sc__law_shared.nd rfl rfl (by decide) rfl rfl (dl_cons (de_callB call_abs v_abs rfl T.z_abs (by decide +kernel) (do_n (i := 0) rfl (.inl rfl)) dos_nil) (dl_cons (de_callB call_abs v_abs rfl T.z_abs (by decide +kernel) (do_n (i := 1) rfl (.inl rfl)) dos_nil) dl_nil))) (dss_cons (ds_for G.own G.g.calm (di_range1 rfl T.z_range (do_v (de_int))) (dg_name (i := 2) sc__law_shared.nd rfl (.inl rfl)) (dss_cons (ds_if (dt_eq G (do_n (i := 1) rfl (.inl rfl)) (do_v (de_int))) (dss_one (ds_break)) (dss_nil)) (dss_one (ds_par (i := 0) (j := 1) rfl sc__law_shared.nd rfl rfl (by decide) rfl rfl (dl_cons (de_name (i := 1) rfl (.inl rfl)) (dl_cons (de_mod (do_n (i := 0) rfl (.inl rfl)) (do_n (i := 1) rfl (.inl rfl))) dl_nil)))))) (dss_one (ds_ret (de_name (i := 0) rfl (.inl rfl)))))
theorem sc__law_made : FnScope ["top", "low", "both_of"] ["top", "low"] (defScope s__law_made) := ⟨rfl, rfl, rfl, by decide +kernel, rfl, by decide +kernel, by decide +kernel⟩
theorem ok__law_made (T : Txt K mg) : FnG P w K mg base 2 T.f__law_made T.d__law_made ["top", "low"] (spP K mg 2 m__law_made) := ok_P (k := 1) T.F__law_made sc__law_made rfl fun cdv A fr s H E pa G => dss_cons (ds_asg (de_if (dt_lt (do_n (i := 1) rfl (.inl rfl)) (do_v (de_int))) (de_tup (dl_cons (de_sub (do_v (de_int)) (do_n (i := 0) rfl (.inl rfl))) (dl_cons (de_sub (do_v (de_int)) (do_n (i := 1) rfl (.inl rfl))) dl_nil))) (de_tup (dl_cons (de_name (i := 0) rfl (.inl rfl)) (dl_cons (de_name (i := 1) rfl (.inl rfl)) dl_nil)))) (dg_tup G.g.K G.g.calm (dgs_cons (dg_name (i := 0) sc__law_made.nd rfl (.inl rfl)) (dgs_cons (dg_name (i := 1) sc__law_made.nd rfl (.inl rfl)) (dgs_nil))))) (dss_cons (ds_set sc__law_made.nd (i := 2) rfl (.inl rfl) (de_callP G (by decide) (ok__law_shared T) rfl T.g__law_shared T.F__law_shared.kp T.b__law_shared (dl_cons (de_name (i := 0) rfl (.inl rfl)) (dl_cons (de_name (i := 1) rfl (.inl rfl)) dl_nil)))) (dss_one (ds_ret (de_tup (dl_cons (de_callTy (L2.CallR.or call_int1 call_int_str) v_intT rfl T.z_int (by decide +kernel) (do_v (de_fdiv (do_n (i := 0) rfl (.inl rfl)) (do_n (i := 2) rfl (.inl rfl)))) dos_nil) (dl_cons (de_callTy (L2.CallR.or call_int1 call_int_str) v_intT rfl T.z_int (by decide +kernel) (do_v (de_fdiv (do_n (i := 1) rfl (.inl rfl)) (do_n (i := 2) rfl (.inl rfl)))) dos_nil) dl_nil))))))
theorem sc__law_text : FnScope ["number"] ["number"] (defScope s__law_text) := ⟨rfl, rfl, rfl, by decide +kernel, rfl, by decide +kernel, by decide +kernel⟩
theorem ok__law_text (T : Txt K mg) : FnG P w K mg base 1 T.f__law_text T.d__law_text ["number"] (spP K mg 1 m__law_text) := ok_P (k := 0) T.F__law_text sc__law_text rfl fun cdv A fr s H E pa G => dss_one (ds_ret (de_if (dt_eq G (do_v (de_item G (do_n (i := 0) rfl (.inl rfl)) (do_v (de_int)))) (do_v (de_int))) (de_callTy (L2.CallR.or call_str_int SkE.call_str_str) v_strT rfl T.z_str (by decide +kernel) (do_v (de_item G (do_n (i := 0) rfl (.inl rfl)) (do_v (de_int)))) dos_nil) (de_add G (do_v (de_add G (do_v (de_callTy (L2.CallR.or call_str_int SkE.call_str_str) v_strT rfl T.z_str (by decide +kernel) (do_v (de_item G (do_n (i := 0) rfl (.inl rfl)) (do_v (de_int)))) dos_nil)) (do_v (de_str)))) (do_v (de_callTy (L2.CallR.or call_str_int SkE.call_str_str) v_strT rfl T.z_str (by decide +kernel) (do_v (de_item G (do_n (i := 0) rfl (.inl rfl)) (do_v (de_int)))) dos_nil)))))
theorem sc__law_take : FnScope ["pot", "upto", "digit", "prime", "blend"] ["pot", "upto"] (defScope s__law_take) := ⟨rfl, rfl, rfl, by decide +kernel, rfl, by decide +kernel, by decide +kernel⟩
theorem ok__law_take (T : Txt K mg) : FnG P w K mg base 1 T.f__law_take T.d__law_take ["pot", "upto"] (spR K mg 2 m__law_take) := ok_R (k := 0) T.F__law_take sc__law_take rfl fun cdv A fr s H E pa G => dss_cons (ds_if (dt_gt (do_v (de_item G (do_n (i := 0) rfl (.inl rfl)) (do_v (de_int)))) (do_v (de_int))) (dss_cons (ds_set sc__law_take.nd (i := 2) rfl (.inl rfl) (de_mod (do_v (de_callTy (L2.CallR.or call_int1 call_int_str) v_intT rfl T.z_int (by decide +kernel) (do_v (de_item G (do_n (i := 0) rfl (.inl rfl)) (do_v (de_int)))) dos_nil)) (do_n (i := 1) rfl (.inl rfl)))) (dss_cons (ds_setIx (i := 0) rfl (.inl rfl) (de_fdiv (do_v (de_item G (do_n (i := 0) rfl (.inl rfl)) (do_v (de_int)))) (do_n (i := 1) rfl (.inl rfl))) (de_int)) (dss_one (ds_ret (de_name (i := 2) rfl (.inl rfl)))))) (dss_nil)) (dss_cons (ds_setIx (i := 0) rfl (.inl rfl) (de_add G (do_v (de_item G (do_n (i := 0) rfl (.inl rfl)) (do_v (de_int)))) (do_v (de_int))) (de_int)) (dss_cons (ds_set sc__law_take.nd (i := 3) rfl (.inl rfl) (de_item G (do_v (de_lst (dl_cons (de_int) (dl_cons (de_int) (dl_cons (de_int) (dl_cons (de_int) dl_nil)))))) (do_v (de_mod (do_v (de_callTy (L2.CallR.or call_int1 call_int_str) v_intT rfl T.z_int (by decide +kernel) (do_v (de_item G (do_n (i := 0) rfl (.inl rfl)) (do_v (de_int)))) dos_nil)) (do_v (de_int)))))) (dss_cons (ds_set sc__law_take.nd (i := 4) rfl (.inl rfl) (de_mod (do_v (de_callTy (L2.CallR.or call_int1 call_int_str) v_intT rfl T.z_int (by decide +kernel) (do_v (de_pow (do_v (de_callTy (L2.CallR.or call_int1 call_int_str) v_intT rfl T.z_int (by decide +kernel) (do_v (de_add G (do_v (de_add G (do_v (de_item G (do_n (i := 0) rfl (.inl rfl)) (do_v (de_int)))) (do_v (de_mul G (do_v (de_mul G (do_v (de_int)) (do_v (de_item G (do_n (i := 0) rfl (.inl rfl)) (do_v (de_int)))))) (do_v (de_item G (do_n (i := 0) rfl (.inl rfl)) (do_v (de_int)))))))) (do_v (de_int)))) dos_nil)) (do_v (de_int)))) dos_nil)) (do_n (i := 3) rfl (.inl rfl)))) (dss_one (ds_ret (de_mod (do_v (de_callTy (L2.CallR.or call_int1 call_int_str) v_intT rfl T.z_int (by decide +kernel) (do_v (de_fdiv (do_v (de_mul G (do_n (i := 4) rfl (.inl rfl)) (do_v (de_add G (do_v (de_mod (do_v (de_callTy (L2.CallR.or call_int1 call_int_str) v_intT rfl T.z_int (by decide +kernel) (do_n (i := 4) rfl (.inl rfl)) dos_nil)) (do_v (de_int)))) (do_v (de_mul G (do_v (de_int)) (do_v (de_item G (do_n (i := 0) rfl (.inl rfl)) (do_v (de_int)))))))))) (do_v (de_int)))) dos_nil)) (do_n (i := 1) rfl (.inl rfl))))))))
theorem sc__law_of : FnScope ["pot", "some"] ["pot", "some"] (defScope s__law_of) := ⟨rfl, rfl, rfl, by decide +kernel, rfl, by decide +kernel, by decide +kernel⟩
theorem ok__law_of (T : Txt K mg) : FnG P w K mg base 2 T.f__law_of T.d__law_of ["pot", "some"] (spR K mg 2 m__law_of) := ok_R (k := 1) T.F__law_of sc__law_of rfl fun cdv A fr s H E pa G => dss_one (ds_ret (de_item G (do_n (i := 1) rfl (.inl rfl)) (do_v (de_callR G (by decide) (ok__law_take T) rfl T.g__law_take T.F__law_take.kp T.b__law_take (i := 0) rfl (.inl rfl) (dl_cons (de_callB call_len v_len rfl T.z_len (by decide +kernel) (do_n (i := 1) rfl (.inl rfl)) dos_nil) dl_nil)))))
theorem sc_read_whole : FnScope ["word", "figures", "sign"] ["word"] (defScope s_read_whole) := ⟨rfl, rfl, rfl, by decide +kernel, rfl, by decide +kernel, by decide +kernel⟩
theorem ok_read_whole (T : Txt K mg) : FnG P w K mg base 1 T.f_read_whole T.d_read_whole ["word"] (spP K mg 1 m_read_whole) := ok_P (k := 0) T.F_read_whole sc_read_whole rfl fun cdv A fr s H E pa G => dss_cons (ds_set sc_read_whole.nd (i := 1) rfl (.inl rfl) (de_if (dt_eq G (do_v (de_slice G (do_n (i := 0) rfl (.inl rfl)) (dp_none) (dp_some (de_int)))) (do_v (de_str))) (de_slice G (do_n (i := 0) rfl (.inl rfl)) (dp_some (de_int)) (dp_none)) (de_name (i := 0) rfl (.inl rfl)))) (dss_cons (ds_if (dt_w (dw_or (dt_not (dt_chain op_le op_le v_le v_le (do_v (de_int)) (do_v (de_callB call_len v_len rfl T.z_len (by decide +kernel) (do_n (i := 1) rfl (.inl rfl)) dos_nil)) (do_v (de_int)))) (dw_or1 (dt_not (dt_val G.g (do_v (de_callB (cr_all G.g.calm) v_all rfl T.z_all (by decide +kernel) (do_v (de_frz (df_lc rfl sc_read_whole.nd (own := [("sign", 2)]) (di_seq G.g.K (de_name (i := 1) rfl (.inl rfl))) (blkOk_by (N := ["word", "figures", "sign"]) (sc := defScope s_read_whole) (by decide +kernel)) (fun _ _ _ _ _ => dg_name (i := 2) sc_read_whole.nd rfl (.inl rfl)) (fun _ _ _ _ _ => dts_nil) (fun _ _ _ _ _ => de_in (Gd.blk G) (do_n (i := 2) rfl (.inl rfl)) (do_v (de_str)))))) dos_nil))))))) (dss_one (ds_ret (de_non))) (dss_nil)) (dss_one (ds_ret (de_callTy (L2.CallR.or call_int1 call_int_str) v_intT rfl T.z_int (by decide +kernel) (do_n (i := 0) rfl (.inl rfl)) dos_nil))))
theorem sc_common_divisor : FnScope ["one", "other"] ["one", "other"] (defScope s_common_divisor) := ⟨rfl, rfl, rfl, by decide +kernel, rfl, by decide +kernel, by decide +kernel⟩
theorem ok_common_divisor (T : Txt K mg) : FnG P w K mg base 1 T.f_common_divisor T.d_common_divisor ["one", "other"] (spP K mg 2 m_common_divisor) := ok_P (k := 0) T.F_common_divisor sc_common_divisor rfl fun cdv A fr s H E pa G => dss_cons (ds_par (i := 0) (j := 1) rfl sc_common_divisor.nd rfl rfl (by decide) rfl rfl (dl_cons (de_callB call_abs v_abs rfl T.z_abs (by decide +kernel) (do_n (i := 0) rfl (.inl rfl)) dos_nil) (dl_cons (de_callB call_abs v_abs rfl T.z_abs (by decide +kernel) (do_n (i := 1) rfl (.inl rfl)) dos_nil) dl_nil))) (dss_cons (ds_while G.own (dt_ne G (do_n (i := 1) rfl (.inl rfl)) (do_v (de_int))) (dss_one (ds_par (i := 0) (j := 1) rfl sc_common_divisor.nd rfl rfl (by decide) rfl rfl (dl_cons (de_name (i := 1) rfl (.inl rfl)) (dl_cons (de_mod (do_n (i := 0) rfl (.inl rfl)) (do_n (i := 1) rfl (.inl rfl))) dl_nil))))) (dss_one (ds_ret (de_name (i := 0) rfl (.inl rfl)))))
theorem sc_is_pair : FnScope ["value"] ["value"] (defScope s_is_pair) := ⟨rfl, rfl, rfl, by decide +kernel, rfl, by decide +kernel, by decide +kernel⟩
theorem ok_is_pair (T : Txt K mg) : FnG P w K mg base 1 T.f_is_pair T.d_is_pair ["value"] (spP K mg 1 m_is_pair) := ok_P (k := 0) T.F_is_pair sc_is_pair rfl fun cdv A fr s H E pa G => dss_one (ds_ret (de_and (de_isi (T := "tuple") G (by decide) rfl T.z_isinstance rfl T.z_tuple (by decide +kernel) (do_n (i := 0) rfl (.inl rfl))) (de_one (de_eq G (do_v (de_callB call_len v_len rfl T.z_len (by decide +kernel) (do_n (i := 0) rfl (.inl rfl)) dos_nil)) (do_v (de_int))))))
theorem sc_is_integer : FnScope ["value"] ["value"] (defScope s_is_integer) := ⟨rfl, rfl, rfl, by decide +kernel, rfl, by decide +kernel, by decide +kernel⟩
theorem ok_is_integer (T : Txt K mg) : FnG P w K mg base 1 T.f_is_integer T.d_is_integer ["value"] (spP K mg 1 m_is_integer) := ok_P (k := 0) T.F_is_integer sc_is_integer rfl fun cdv A fr s H E pa G => dss_one (ds_ret (de_and (de_isi (T := "int") G (by decide) rfl T.z_isinstance rfl T.z_int (by decide +kernel) (do_n (i := 0) rfl (.inl rfl))) (de_one (de_not (de_isi (T := "bool") G (by decide) rfl T.z_isinstance rfl T.z_bool (by decide +kernel) (do_n (i := 0) rfl (.inl rfl)))))))
theorem sc_is_fraction_value : FnScope ["value"] ["value"] (defScope s_is_fraction_value) := ⟨rfl, rfl, rfl, by decide +kernel, rfl, by decide +kernel, by decide +kernel⟩
theorem ok_is_fraction_value (T : Txt K mg) : FnG P w K mg base 2 T.f_is_fraction_value T.d_is_fraction_value ["value"] (spP K mg 1 m_is_fraction_value) := ok_P (k := 1) T.F_is_fraction_value sc_is_fraction_value rfl fun cdv A fr s H E pa G => dss_cons (ds_if (dt_w (dw_or (dt_not (dt_val G.g (do_v (de_callP G (by decide) (ok_is_pair T) rfl T.g_is_pair T.F_is_pair.kp T.b_is_pair (dl_cons (de_name (i := 0) rfl (.inl rfl)) dl_nil))))) (dw_or (dt_not (dt_val G.g (do_v (de_callP G (by decide) (ok_is_integer T) rfl T.g_is_integer T.F_is_integer.kp T.b_is_integer (dl_cons (de_item G (do_n (i := 0) rfl (.inl rfl)) (do_v (de_int))) dl_nil))))) (dw_or (dt_not (dt_val G.g (do_v (de_callP G (by decide) (ok_is_integer T) rfl T.g_is_integer T.F_is_integer.kp T.b_is_integer (dl_cons (de_item G (do_n (i := 0) rfl (.inl rfl)) (do_v (de_int))) dl_nil))))) (dw_or1 (dt_lt (do_v (de_item G (do_n (i := 0) rfl (.inl rfl)) (do_v (de_int)))) (do_v (de_int)))))))) (dss_one (ds_ret (de_bl))) (dss_nil)) (dss_one (ds_ret (de_eq G (do_v (de_callP G (by decide) (ok_common_divisor T) rfl T.g_common_divisor T.F_common_divisor.kp T.b_common_divisor (dl_cons (de_item G (do_n (i := 0) rfl (.inl rfl)) (do_v (de_int))) (dl_cons (de_item G (do_n (i := 0) rfl (.inl rfl)) (do_v (de_int))) dl_nil)))) (do_v (de_int)))))
theorem sc_text_of : FnScope ["number"] ["number"] (defScope s_text_of) := ⟨rfl, rfl, rfl, by decide +kernel, rfl, by decide +kernel, by decide +kernel⟩
theorem ok_text_of (T : Txt K mg) : FnG P w K mg base 1 T.f_text_of T.d_text_of ["number"] (spP K mg 1 m_text_of) := ok_P (k := 0) T.F_text_of sc_text_of rfl fun cdv A fr s H E pa G => dss_one (ds_ret (de_if (dt_eq G (do_v (de_item G (do_n (i := 0) rfl (.inl rfl)) (do_v (de_int)))) (do_v (de_int))) (de_callTy (L2.CallR.or call_str_int SkE.call_str_str) v_strT rfl T.z_str (by decide +kernel) (do_v (de_item G (do_n (i := 0) rfl (.inl rfl)) (do_v (de_int)))) dos_nil) (de_add G (do_v (de_add G (do_v (de_callTy (L2.CallR.or call_str_int SkE.call_str_str) v_strT rfl T.z_str (by decide +kernel) (do_v (de_item G (do_n (i := 0) rfl (.inl rfl)) (do_v (de_int)))) dos_nil)) (do_v (de_str)))) (do_v (de_callTy (L2.CallR.or call_str_int SkE.call_str_str) v_strT rfl T.z_str (by decide +kernel) (do_v (de_item G (do_n (i := 0) rfl (.inl rfl)) (do_v (de_int)))) dos_nil)))))
theorem sc_read_fraction : FnScope ["text", "words", "numbers", "found", "word"] ["text"] (defScope s_read_fraction) := ⟨rfl, rfl, rfl, by decide +kernel, rfl, by decide +kernel, by decide +kernel⟩
theorem ok_read_fraction (T : Txt K mg) : FnG P w K mg base 3 T.f_read_fraction T.d_read_fraction ["text"] (spP K mg 1 m_read_fraction) := ok_P (k := 2) T.F_read_fraction sc_read_fraction rfl fun cdv A fr s H E pa G => dss_cons (ds_if (dt_not (dt_val G.g (do_v (de_isi (T := "str") G (by decide) rfl T.z_isinstance rfl T.z_str (by decide +kernel) (do_n (i := 0) rfl (.inl rfl)))))) (dss_one (ds_ret (de_non))) (dss_nil)) (dss_cons (ds_set sc_read_fraction.nd (i := 1) rfl (.inl rfl) (de_split (de_name (i := 0) rfl (.inl rfl)) (de_str))) (dss_cons (ds_setLc rfl sc_read_fraction.nd (i := 2) rfl rfl (sw_true rfl rfl rfl (by decide +kernel)) (own := [("word", 4)]) (di_seq G.g.K (de_name (i := 1) rfl (.inl rfl))) (blkOk_by (N := ["text", "words", "numbers", "found", "word"]) (sc := defScope s_read_fraction) (by decide +kernel)) (fun _ _ _ _ _ => dg_name (i := 4) sc_read_fraction.nd rfl (.inl rfl)) (fun _ _ _ _ _ => dts_nil) (fun _ _ _ _ _ => de_callP (Gd.blk G) (by decide) (ok_read_whole T) rfl T.g_read_whole T.F_read_whole.kp T.b_read_whole (dl_cons (de_name (i := 4) rfl (.inl rfl)) dl_nil))) (dss_cons (ds_if (dt_w (dw_or (dt_gt (do_v (de_callB call_len v_len rfl T.z_len (by decide +kernel) (do_n (i := 1) rfl (.inl rfl)) dos_nil)) (do_v (de_int))) (dw_or1 (dt_in G (do_v (de_non)) (do_n (i := 2) rfl (.inl rfl)))))) (dss_one (ds_ret (de_non))) (dss_nil)) (dss_cons (ds_set sc_read_fraction.nd (i := 3) rfl (.inl rfl) (de_if (dt_eq G (do_v (de_callB call_len v_len rfl T.z_len (by decide +kernel) (do_n (i := 1) rfl (.inl rfl)) dos_nil)) (do_v (de_int))) (de_tup (dl_cons (de_item G (do_n (i := 2) rfl (.inl rfl)) (do_v (de_int))) (dl_cons (de_int) dl_nil))) (de_tup (dl_cons (de_item G (do_n (i := 2) rfl (.inl rfl)) (do_v (de_int))) (dl_cons (de_item G (do_n (i := 2) rfl (.inl rfl)) (do_v (de_int))) dl_nil))))) (dss_one (ds_ret (de_if (dt_w (dw_and (dt_val G.g (do_v (de_callP G (by decide) (ok_is_fraction_value T) rfl T.g_is_fraction_value T.F_is_fraction_value.kp T.b_is_fraction_value (dl_cons (de_name (i := 3) rfl (.inl rfl)) dl_nil)))) (dw_and1 (dt_eq G (do_v (de_callP G (by decide) (ok_text_of T) rfl T.g_text_of T.F_text_of.kp T.b_text_of (dl_cons (de_name (i := 3) rfl (.inl rfl)) dl_nil))) (do_n (i := 0) rfl (.inl rfl)))))) (de_name (i := 3) rfl (.inl rfl)) (de_non))))))))
theorem sc_check_number : FnScope ["value"] ["value"] (defScope s_check_number) := ⟨rfl, rfl, rfl, by decide +kernel, rfl, by decide +kernel, by decide +kernel⟩
theorem ok_check_number (T : Txt K mg) : FnG P w K mg base 3 T.f_check_number T.d_check_number ["value"] (spP K mg 1 m_check_number) := ok_P (k := 2) T.F_check_number sc_check_number rfl fun cdv A fr s H E pa G => dss_one (ds_if (dt_not (dt_val G.g (do_v (de_callP G (by decide) (ok_is_fraction_value T) rfl T.g_is_fraction_value T.F_is_fraction_value.kp T.b_is_fraction_value (dl_cons (de_name (i := 0) rfl (.inl rfl)) dl_nil))))) (dss_one (ds_never)) (dss_nil))
theorem sc_fraction_text : FnScope ["number"] ["number"] (defScope s_fraction_text) := ⟨rfl, rfl, rfl, by decide +kernel, rfl, by decide +kernel, by decide +kernel⟩
theorem ok_fraction_text (T : Txt K mg) : FnG P w K mg base 4 T.f_fraction_text T.d_fraction_text ["number"] (spP K mg 1 m_fraction_text) := ok_P (k := 3) T.F_fraction_text sc_fraction_text rfl fun cdv A fr s H E pa G => dss_cons (ds_expr (de_callP G (by decide) (ok_check_number T) rfl T.g_check_number T.F_check_number.kp T.b_check_number (dl_cons (de_name (i := 0) rfl (.inl rfl)) dl_nil))) (dss_one (ds_ret (de_callP G (by decide) (ok_text_of T) rfl T.g_text_of T.F_text_of.kp T.b_text_of (dl_cons (de_name (i := 0) rfl (.inl rfl)) dl_nil))))
theorem sc__law_is_count : FnScope ["text", "sign"] ["text"] (defScope s__law_is_count) := ⟨rfl, rfl, rfl, by decide +kernel, rfl, by decide +kernel, by decide +kernel⟩
theorem ok__law_is_count (T : Txt K mg) : FnG P w K mg base 1 T.f__law_is_count T.d__law_is_count ["text"] (spP K mg 1 m__law_is_count) := ok_P (k := 0) T.F__law_is_count sc__law_is_count rfl fun cdv A fr s H E pa G => dss_one (ds_ret (de_and (de_ne G (do_n (i := 0) rfl (.inl rfl)) (do_v (de_str))) (de_and (de_callB (cr_all G.g.calm) v_all rfl T.z_all (by decide +kernel) (do_v (de_frz (df_lc rfl sc__law_is_count.nd (own := [("sign", 1)]) (di_seq G.g.K (de_name (i := 0) rfl (.inl rfl))) (blkOk_by (N := ["text", "sign"]) (sc := defScope s__law_is_count) (by decide +kernel)) (fun _ _ _ _ _ => dg_name (i := 1) sc__law_is_count.nd rfl (.inl rfl)) (fun _ _ _ _ _ => dts_nil) (fun _ _ _ _ _ => de_in (Gd.blk G) (do_n (i := 1) rfl (.inl rfl)) (do_v (de_str)))))) dos_nil) (de_one (de_or (de_eq G (do_n (i := 0) rfl (.inl rfl)) (do_v (de_str))) (de_one (de_ne G (do_v (de_item G (do_n (i := 0) rfl (.inl rfl)) (do_v (de_int)))) (do_v (de_str)))))))))
theorem sc__law_read : FnScope ["text", "head", "top", "found"] ["text"] (defScope s__law_read) := ⟨rfl, rfl, rfl, by decide +kernel, rfl, by decide +kernel, by decide +kernel⟩
theorem ok__law_read (T : Txt K mg) : FnG P w K mg base 3 T.f__law_read T.d__law_read ["text"] (spP K mg 1 m__law_read) := ok_P (k := 2) T.F__law_read sc__law_read rfl fun cdv A fr s H E pa G => dss_cons (ds_set sc__law_read.nd (i := 1) rfl (.inl rfl) (de_split (de_name (i := 0) rfl (.inl rfl)) (de_str))) (dss_cons (ds_set sc__law_read.nd (i := 2) rfl (.inl rfl) (de_if (dt_eq G (do_v (de_slice G (do_v (de_item G (do_n (i := 1) rfl (.inl rfl)) (do_v (de_int)))) (dp_none) (dp_some (de_int)))) (do_v (de_str))) (de_slice G (do_v (de_item G (do_n (i := 1) rfl (.inl rfl)) (do_v (de_int)))) (dp_some (de_int)) (dp_none)) (de_item G (do_n (i := 1) rfl (.inl rfl)) (do_v (de_int))))) (dss_cons (ds_if (dt_w (dw_or (dt_gt (do_v (de_callB call_len v_len rfl T.z_len (by decide +kernel) (do_n (i := 1) rfl (.inl rfl)) dos_nil)) (do_v (de_int))) (dw_or (dt_not (dt_val G.g (do_v (de_callP G (by decide) (ok__law_is_count T) rfl T.g__law_is_count T.F__law_is_count.kp T.b__law_is_count (dl_cons (de_name (i := 2) rfl (.inl rfl)) dl_nil))))) (dw_or (dt_w (dw_and (dt_eq G (do_v (de_callB call_len v_len rfl T.z_len (by decide +kernel) (do_n (i := 1) rfl (.inl rfl)) dos_nil)) (do_v (de_int))) (dw_and1 (dt_not (dt_val G.g (do_v (de_callP G (by decide) (ok__law_is_count T) rfl T.g__law_is_count T.F__law_is_count.kp T.b__law_is_count (dl_cons (de_item G (do_n (i := 1) rfl (.inl rfl)) (do_v (de_int))) dl_nil)))))))) (dw_or1 (dt_gt (do_v (de_callB call_len v_len rfl T.z_len (by decide +kernel) (do_n (i := 0) rfl (.inl rfl)) dos_nil)) (do_v (de_int)))))))) (dss_one (ds_ret (de_non))) (dss_nil)) (dss_cons (ds_set sc__law_read.nd (i := 3) rfl (.inl rfl) (de_tup (dl_cons (de_callTy (L2.CallR.or call_int1 call_int_str) v_intT rfl T.z_int (by decide +kernel) (do_v (de_item G (do_n (i := 1) rfl (.inl rfl)) (do_v (de_int)))) dos_nil) (dl_cons (de_if (dt_eq G (do_v (de_callB call_len v_len rfl T.z_len (by decide +kernel) (do_n (i := 1) rfl (.inl rfl)) dos_nil)) (do_v (de_int))) (de_callTy (L2.CallR.or call_int1 call_int_str) v_intT rfl T.z_int (by decide +kernel) (do_v (de_item G (do_n (i := 1) rfl (.inl rfl)) (do_v (de_int)))) dos_nil) (de_int)) dl_nil)))) (dss_cons (ds_if (dt_w (dw_or (dt_eq G (do_v (de_item G (do_n (i := 3) rfl (.inl rfl)) (do_v (de_int)))) (do_v (de_int))) (dw_or (dt_ne G (do_v (de_callP G (by decide) (ok__law_made T) rfl T.g__law_made T.F__law_made.kp T.b__law_made (dl_cons (de_item G (do_n (i := 3) rfl (.inl rfl)) (do_v (de_int))) (dl_cons (de_item G (do_n (i := 3) rfl (.inl rfl)) (do_v (de_int))) dl_nil)))) (do_n (i := 3) rfl (.inl rfl))) (dw_or1 (dt_ne G (do_v (de_callP G (by decide) (ok__law_text T) rfl T.g__law_text T.F__law_text.kp T.b__law_text (dl_cons (de_name (i := 3) rfl (.inl rfl)) dl_nil))) (do_n (i := 0) rfl (.inl rfl))))))) (dss_one (ds_ret (de_non))) (dss_nil)) (dss_one (ds_ret (de_name (i := 3) rfl (.inl rfl))))))))
theorem sc__law_right : FnScope ["pot", "number", "text", "lap", "spot", "pick", "sign", "bent", "value"] ["pot"] (defScope s__law_right) := ⟨rfl, rfl, rfl, by decide +kernel, rfl, by decide +kernel, by decide +kernel⟩
theorem ok__law_right (T : Txt K mg) : FnG P w K mg base 5 T.f__law_right T.d__law_right ["pot"] (spR K mg 1 m__law_right) := ok_R (k := 4) T.F__law_right sc__law_right rfl fun cdv A fr s H E pa G => dss_cons (ds_set sc__law_right.nd (i := 1) rfl (.inl rfl) (de_callP G (by decide) (ok__law_made T) rfl T.g__law_made T.F__law_made.kp T.b__law_made (dl_cons (de_sub (do_v (de_callTy (L2.CallR.or call_int1 call_int_str) v_intT rfl T.z_int (by decide +kernel) (do_v (de_callR G (by decide) (ok__law_of T) rfl T.g__law_of T.F__law_of.kp T.b__law_of (i := 0) rfl (.inl rfl) (dl_cons (de_lst (dl_cons (de_callR G (by decide) (ok__law_take T) rfl T.g__law_take T.F__law_take.kp T.b__law_take (i := 0) rfl (.inl rfl) (dl_cons (de_int) dl_nil)) (dl_cons (de_callR G (by decide) (ok__law_take T) rfl T.g__law_take T.F__law_take.kp T.b__law_take (i := 0) rfl (.inl rfl) (dl_cons (de_pow (do_v (de_int)) (do_v (de_int))) dl_nil)) dl_nil))) dl_nil))) dos_nil)) (do_v (de_callTy (L2.CallR.or call_int1 call_int_str) v_intT rfl T.z_int (by decide +kernel) (do_v (de_callR G (by decide) (ok__law_take T) rfl T.g__law_take T.F__law_take.kp T.b__law_take (i := 0) rfl (.inl rfl) (dl_cons (de_int) dl_nil))) dos_nil))) (dl_cons (de_add G (do_v (de_int)) (do_v (de_callTy (L2.CallR.or call_int1 call_int_str) v_intT rfl T.z_int (by decide +kernel) (do_v (de_callR G (by decide) (ok__law_of T) rfl T.g__law_of T.F__law_of.kp T.b__law_of (i := 0) rfl (.inl rfl) (dl_cons (de_lst (dl_cons (de_int) (dl_cons (de_int) (dl_cons (de_callR G (by decide) (ok__law_take T) rfl T.g__law_take T.F__law_take.kp T.b__law_take (i := 0) rfl (.inl rfl) (dl_cons (de_int) dl_nil)) dl_nil)))) dl_nil))) dos_nil))) dl_nil)))) (dss_cons (ds_set sc__law_right.nd (i := 2) rfl (.inl rfl) (de_callP G (by decide) (ok__law_text T) rfl T.g__law_text T.F__law_text.kp T.b__law_text (dl_cons (de_name (i := 1) rfl (.inl rfl)) dl_nil))) (dss_cons (ds_if (dt_w (dw_or (dt_ne G (do_v (de_callB (call_repr G.g.guards G.g.room.units) v_repr rfl T.z_repr (by decide +kernel) (do_v (de_callP G (by decide) (ok_fraction_text T) rfl T.g_fraction_text T.F_fraction_text.kp T.b_fraction_text (dl_cons (de_name (i := 1) rfl (.inl rfl)) dl_nil))) dos_nil)) (do_v (de_callB (call_repr G.g.guards G.g.room.units) v_repr rfl T.z_repr (by decide +kernel) (do_n (i := 2) rfl (.inl rfl)) dos_nil))) (dw_or1 (dt_ne G (do_v (de_callB (call_repr G.g.guards G.g.room.units) v_repr rfl T.z_repr (by decide +kernel) (do_v (de_callP G (by decide) (ok_read_fraction T) rfl T.g_read_fraction T.F_read_fraction.kp T.b_read_fraction (dl_cons (de_name (i := 2) rfl (.inl rfl)) dl_nil))) dos_nil)) (do_v (de_callB (call_repr G.g.guards G.g.room.units) v_repr rfl T.z_repr (by decide +kernel) (do_n (i := 1) rfl (.inl rfl)) dos_nil)))))) (dss_one (ds_ret (de_bl))) (dss_nil)) (dss_cons (ds_for G.own G.g.calm (di_range1 rfl T.z_range (do_v (de_int))) (dg_name (i := 3) sc__law_right.nd rfl (.inl rfl)) (dss_cons (ds_set sc__law_right.nd (i := 4) rfl (.inl rfl) (de_callR G (by decide) (ok__law_take T) rfl T.g__law_take T.F__law_take.kp T.b__law_take (i := 0) rfl (.inl rfl) (dl_cons (de_add G (do_v (de_callB call_len v_len rfl T.z_len (by decide +kernel) (do_n (i := 2) rfl (.inl rfl)) dos_nil)) (do_v (de_int))) dl_nil))) (dss_cons (ds_par (i := 5) (j := 6) rfl sc__law_right.nd rfl rfl (by decide) rfl rfl (dl_cons (de_callR G (by decide) (ok__law_take T) rfl T.g__law_take T.F__law_take.kp T.b__law_take (i := 0) rfl (.inl rfl) (dl_cons (de_int) dl_nil)) (dl_cons (de_callR G (by decide) (ok__law_of T) rfl T.g__law_of T.F__law_of.kp T.b__law_of (i := 0) rfl (.inl rfl) (dl_cons (de_lst (dl_cons (de_str) (dl_cons (de_str) (dl_cons (de_str) (dl_cons (de_str) (dl_cons (de_str) (dl_cons (de_str) (dl_cons (de_str) (dl_cons (de_str) (dl_cons (de_str) dl_nil)))))))))) dl_nil)) dl_nil))) (dss_cons (ds_set sc__law_right.nd (i := 7) rfl (.inl rfl) (de_add G (do_v (de_add G (do_v (de_slice G (do_n (i := 2) rfl (.inl rfl)) (dp_none) (dp_some (de_name (i := 4) rfl (.inl rfl))))) (do_n (i := 6) rfl (.inl rfl)))) (do_v (de_slice G (do_n (i := 2) rfl (.inl rfl)) (dp_some (de_name (i := 4) rfl (.inl rfl))) (dp_none))))) (dss_cons (ds_if (dt_eq G (do_n (i := 5) rfl (.inl rfl)) (do_v (de_int))) (dss_one (ds_set sc__law_right.nd (i := 7) rfl (.inl rfl) (de_add G (do_v (de_add G (do_v (de_slice G (do_n (i := 2) rfl (.inl rfl)) (dp_none) (dp_some (de_name (i := 4) rfl (.inl rfl))))) (do_n (i := 6) rfl (.inl rfl)))) (do_v (de_slice G (do_n (i := 2) rfl (.inl rfl)) (dp_some (de_add G (do_n (i := 4) rfl (.inl rfl)) (do_v (de_int)))) (dp_none)))))) (dss_one (ds_if (dt_eq G (do_n (i := 5) rfl (.inl rfl)) (do_v (de_int))) (dss_one (ds_set sc__law_right.nd (i := 7) rfl (.inl rfl) (de_add G (do_v (de_slice G (do_n (i := 2) rfl (.inl rfl)) (dp_none) (dp_some (de_name (i := 4) rfl (.inl rfl))))) (do_v (de_slice G (do_n (i := 2) rfl (.inl rfl)) (dp_some (de_add G (do_n (i := 4) rfl (.inl rfl)) (do_v (de_int)))) (dp_none)))))) (dss_one (ds_if (dt_eq G (do_n (i := 5) rfl (.inl rfl)) (do_v (de_int))) (dss_one (ds_set sc__law_right.nd (i := 7) rfl (.inl rfl) (de_callR G (by decide) (ok__law_of T) rfl T.g__law_of T.F__law_of.kp T.b__law_of (i := 0) rfl (.inl rfl) (dl_cons (de_lst (dl_cons (de_str) (dl_cons (de_str) (dl_cons (de_str) (dl_cons (de_str) (dl_cons (de_str) (dl_cons (de_str) (dl_cons (de_str) (dl_cons (de_str) (dl_cons (de_str) (dl_cons (de_str) (dl_cons (de_str) (dl_cons (de_str) (dl_cons (de_str) (dl_cons (de_str) (dl_cons (de_str) dl_nil)))))))))))))))) dl_nil)))) (dss_nil)))))) (dss_one (ds_if (dt_ne G (do_v (de_callB (call_repr G.g.guards G.g.room.units) v_repr rfl T.z_repr (by decide +kernel) (do_v (de_callP G (by decide) (ok_read_fraction T) rfl T.g_read_fraction T.F_read_fraction.kp T.b_read_fraction (dl_cons (de_name (i := 7) rfl (.inl rfl)) dl_nil))) dos_nil)) (do_v (de_callB (call_repr G.g.guards G.g.room.units) v_repr rfl T.z_repr (by decide +kernel) (do_v (de_callP G (by decide) (ok__law_read T) rfl T.g__law_read T.F__law_read.kp T.b__law_read (dl_cons (de_name (i := 7) rfl (.inl rfl)) dl_nil))) dos_nil))) (dss_one (ds_ret (de_bl))) (dss_nil)))))))) (dss_one (ds_ret (de_eq G (do_v (de_frz (df_lc rfl sc__law_right.nd (own := [("value", 8)]) (di_seq G.g.K (de_tup (dl_cons (de_non) (dl_cons (de_int) (dl_cons (de_tup (dl_cons (de_int) (dl_cons (de_int) dl_nil))) (dl_cons (de_lst (dl_cons (de_str) dl_nil)) (dl_cons (de_bl) (dl_cons (de_tup (dl_cons (de_str) dl_nil)) dl_nil)))))))) (blkOk_by (N := ["pot", "number", "text", "lap", "spot", "pick", "sign", "bent", "value"]) (sc := defScope s__law_right) (by decide +kernel)) (fun _ _ _ _ _ => dg_name (i := 8) sc__law_right.nd rfl (.inl rfl)) (fun _ _ _ _ _ => dts_nil) (fun _ _ _ _ _ => de_callP (Gd.blk G) (by decide) (ok_read_fraction T) rfl T.g_read_fraction T.F_read_fraction.kp T.b_read_fraction (dl_cons (de_name (i := 8) rfl (.inl rfl)) dl_nil))))) (do_v (de_mul G (do_v (de_lst (dl_cons (de_non) dl_nil))) (do_v (de_int))))))))))
theorem sc_law : FnScope ["script", "place", "pot", "lap"] ["script"] (defScope s_law) := ⟨rfl, rfl, rfl, by decide +kernel, rfl, by decide +kernel, by decide +kernel⟩
theorem ok_law (T : Txt K mg) : FnG P w K mg base 6 T.f_law T.d_law ["script"] (spP K mg 1 m_law) := ok_P (k := 5) T.F_law sc_law rfl fun cdv A fr s H E pa G => dss_cons (ds_for G.own G.g.calm (di_seq G.g.K (de_callP G (by decide) (ok__law_cells T) rfl T.g__law_cells T.F__law_cells.kp T.b__law_cells (dl_cons (de_name (i := 0) rfl (.inl rfl)) (dl_cons (de_int) dl_nil)))) (dg_name (i := 1) sc_law.nd rfl (.inl rfl)) (dss_cons (ds_setO sc_law.nd (i := 2) rfl (.inl rfl) (df_callF G (by decide) (ok__law_pot T) rfl T.g__law_pot T.F__law_pot.kp T.b__law_pot (dl_cons (de_name (i := 0) rfl (.inl rfl)) (dl_cons (de_name (i := 1) rfl (.inl rfl)) dl_nil)))) (dss_one (ds_for G.own G.g.calm (di_range1 rfl T.z_range (do_v (de_int))) (dg_name (i := 3) sc_law.nd rfl (.inl rfl)) (dss_one (ds_if (dt_not (dt_val G.g (do_v (de_callR G (by decide) (ok__law_right T) rfl T.g__law_right T.F__law_right.kp T.b__law_right (i := 2) rfl (.inl rfl) dl_nil)))) (dss_one (ds_ret (de_bl))) (dss_nil))))))) (dss_one (ds_ret (de_bl)))
end
end Lk01
set_option Elab.async false
set_option linter.all false
set_option maxRecDepth 100000
set_option maxHeartbeats 4000000
set_option exponentiation.threshold 2000
namespace Lk01
open M PySem PySem.Spec PyProof.Rows L2 PySem.NumText
/-! ## the greatest common divisor -/
theorem fmod_nat (x y : Nat) (hy : y ≠ 0) : Int.fmod (x : Int) (y : Int) = ((x % y : Nat) : Int) := by
  rw [Int.fmod_eq_emod_of_nonneg _ (by omega)]; rfl
theorem loop_gcd : ∀ (n x y : Nat), y ≤ n → whileM (tstD (op2 neD (.n 1) (.v (ret (.int 0))))) (parM 0 1 [nameM 1, op2 modD (.n 0) (.n 1)]) [.fz (.int x), .fz (.int y)] = .next [.fz (.int (Nat.gcd x y)), .fz (.int 0)] := by
  intro n
  induction n with
  | zero =>
    intro x y h
    have : y = 0 := by omega
    subst this
    rw [whileM_step]
    simp [bnd_a, ret_a, lft_ok, lft_err, lfo_some, nameM_a, peek_a, fin_l, fin_r, run_v, run_n, op1_a, op2_a, opL_a, runs_n, runs_c, fins_n, fins_c, evs_n, evs_c, tupM_a, lstM_a, lstO_a, andM_a, orM_a, notM_a, andV_a, orV_a, notV_a, asB_b, ifM_a, tstM_a, tstD_a, truth_b, truth_i, truth_n, bndS_a, retM_a, retOM_a, dropM_a, seqS_a, nextM_a, failS_a, ifS_a, asgM_a, asgO_a, tgN_a, tgTup_t, tgLst_t, tgsNil_a, tgsCons_a, putS_a, setS_z, setS_s, getS_z, getS_s, parM_a, callP_a, callF_a, callR_a, frzM_a, setIx_a, intD_i, addD_i, addD_t, addD_l, addD_s, subD_i, mulD_i, fdivD_i, modD_i, powD_i, negD_i, eqD_i, eqD_s, neD_i, neD_s, ltD_i, leD_i, gtD_i, geD_i, isND_a, notND_a, isBD_a, notBD_a, ixD_l, ixD_t, ixD_k, absL_i, maxL_i, minL_i, lenL_l, lenL_t, lenL_k, intL_i, intL_b, tupL_l, lstL_l, lstL_t, items_l, items_t, itM_a, rngM1_a, rngM2_a, range1_i, forM_a, forL_n, sumL_l, allL_l, anyL_l, sliceM_a, optM_n, optM_s, lrM1_a, compM_a, methM_a, startE, List.map_cons, List.map_nil, List.length_cons, List.length_nil, List.cons_append, List.nil_append, if_true, if_false, Bool.not_true, Bool.not_false, Bool.false_eq_true, reduceCtorEq, decide_true, decide_false, Nat.reduceAdd, ite_true, ite_false, sizeLine]
  | succ n ih =>
    intro x y h
    rw [whileM_step]
    by_cases hy : y = 0
    · subst hy
      simp [bnd_a, ret_a, lft_ok, lft_err, lfo_some, nameM_a, peek_a, fin_l, fin_r, run_v, run_n, op1_a, op2_a, opL_a, runs_n, runs_c, fins_n, fins_c, evs_n, evs_c, tupM_a, lstM_a, lstO_a, andM_a, orM_a, notM_a, andV_a, orV_a, notV_a, asB_b, ifM_a, tstM_a, tstD_a, truth_b, truth_i, truth_n, bndS_a, retM_a, retOM_a, dropM_a, seqS_a, nextM_a, failS_a, ifS_a, asgM_a, asgO_a, tgN_a, tgTup_t, tgLst_t, tgsNil_a, tgsCons_a, putS_a, setS_z, setS_s, getS_z, getS_s, parM_a, callP_a, callF_a, callR_a, frzM_a, setIx_a, intD_i, addD_i, addD_t, addD_l, addD_s, subD_i, mulD_i, fdivD_i, modD_i, powD_i, negD_i, eqD_i, eqD_s, neD_i, neD_s, ltD_i, leD_i, gtD_i, geD_i, isND_a, notND_a, isBD_a, notBD_a, ixD_l, ixD_t, ixD_k, absL_i, maxL_i, minL_i, lenL_l, lenL_t, lenL_k, intL_i, intL_b, tupL_l, lstL_l, lstL_t, items_l, items_t, itM_a, rngM1_a, rngM2_a, range1_i, forM_a, forL_n, sumL_l, allL_l, anyL_l, sliceM_a, optM_n, optM_s, lrM1_a, compM_a, methM_a, startE, List.map_cons, List.map_nil, List.length_cons, List.length_nil, List.cons_append, List.nil_append, if_true, if_false, Bool.not_true, Bool.not_false, Bool.false_eq_true, reduceCtorEq, decide_true, decide_false, Nat.reduceAdd, ite_true, ite_false, sizeLine]
    · have hy' : (y : Int) ≠ 0 := by omega
      have e := fmod_nat x y hy
      have hlt := Nat.mod_lt x (Nat.pos_of_ne_zero hy)
      simp [bnd_a, ret_a, lft_ok, lft_err, lfo_some, nameM_a, peek_a, fin_l, fin_r, run_v, run_n, op1_a, op2_a, opL_a, runs_n, runs_c, fins_n, fins_c, evs_n, evs_c, tupM_a, lstM_a, lstO_a, andM_a, orM_a, notM_a, andV_a, orV_a, notV_a, asB_b, ifM_a, tstM_a, tstD_a, truth_b, truth_i, truth_n, bndS_a, retM_a, retOM_a, dropM_a, seqS_a, nextM_a, failS_a, ifS_a, asgM_a, asgO_a, tgN_a, tgTup_t, tgLst_t, tgsNil_a, tgsCons_a, putS_a, setS_z, setS_s, getS_z, getS_s, parM_a, callP_a, callF_a, callR_a, frzM_a, setIx_a, intD_i, addD_i, addD_t, addD_l, addD_s, subD_i, mulD_i, fdivD_i, modD_i, powD_i, negD_i, eqD_i, eqD_s, neD_i, neD_s, ltD_i, leD_i, gtD_i, geD_i, isND_a, notND_a, isBD_a, notBD_a, ixD_l, ixD_t, ixD_k, absL_i, maxL_i, minL_i, lenL_l, lenL_t, lenL_k, intL_i, intL_b, tupL_l, lstL_l, lstL_t, items_l, items_t, itM_a, rngM1_a, rngM2_a, range1_i, forM_a, forL_n, sumL_l, allL_l, anyL_l, sliceM_a, optM_n, optM_s, lrM1_a, compM_a, methM_a, startE, List.map_cons, List.map_nil, List.length_cons, List.length_nil, List.cons_append, List.nil_append, if_true, if_false, Bool.not_true, Bool.not_false, Bool.false_eq_true, reduceCtorEq, decide_true, decide_false, Nat.reduceAdd, ite_true, ite_false, sizeLine, hy, hy', e]
      rw [show (x : Int) % (y : Int) = ((x % y : Nat) : Int) from rfl, ih y (x % y) (by omega), Nat.gcd_comm y, ← Nat.gcd_rec, Nat.gcd_comm]
theorem absI (a : Int) : (if a < 0 then -a else a) = (a.natAbs : Int) := by split <;> omega
theorem gcd_eq (a b : Int) : m_common_divisor [.int a, .int b] = .ok (.int (Int.gcd a b)) := by
  simp [m_common_divisor, runP, b_common_divisor, startE, bnd_a, ret_a, lft_ok, lft_err, lfo_some, nameM_a, peek_a, fin_l, fin_r, run_v, run_n, op1_a, op2_a, opL_a, runs_n, runs_c, fins_n, fins_c, evs_n, evs_c, tupM_a, lstM_a, lstO_a, andM_a, orM_a, notM_a, andV_a, orV_a, notV_a, asB_b, ifM_a, tstM_a, tstD_a, truth_b, truth_i, truth_n, bndS_a, retM_a, retOM_a, dropM_a, seqS_a, nextM_a, failS_a, ifS_a, asgM_a, asgO_a, tgN_a, tgTup_t, tgLst_t, tgsNil_a, tgsCons_a, putS_a, setS_z, setS_s, getS_z, getS_s, parM_a, callP_a, callF_a, callR_a, frzM_a, setIx_a, intD_i, addD_i, addD_t, addD_l, addD_s, subD_i, mulD_i, fdivD_i, modD_i, powD_i, negD_i, eqD_i, eqD_s, neD_i, neD_s, ltD_i, leD_i, gtD_i, geD_i, isND_a, notND_a, isBD_a, notBD_a, ixD_l, ixD_t, ixD_k, absL_i, maxL_i, minL_i, lenL_l, lenL_t, lenL_k, intL_i, intL_b, tupL_l, lstL_l, lstL_t, items_l, items_t, itM_a, rngM1_a, rngM2_a, range1_i, forM_a, forL_n, sumL_l, allL_l, anyL_l, sliceM_a, optM_n, optM_s, lrM1_a, compM_a, methM_a, startE, List.map_cons, List.map_nil, List.length_cons, List.length_nil, List.cons_append, List.nil_append, if_true, if_false, Bool.not_true, Bool.not_false, Bool.false_eq_true, reduceCtorEq, decide_true, decide_false, Nat.reduceAdd, ite_true, ite_false, sizeLine, absI, loop_gcd b.natAbs a.natAbs b.natAbs (Nat.le_refl _)]
  rfl
abbrev lapG : SM := seqS (ifS (tstD (op2 eqD (.n 1) (.v (ret (.int 0))))) (.brk) (nextM)) (parM 0 1 [nameM 1, op2 modD (.n 0) (.n 1)])
theorem lap_gcd : ∀ (m : Nat) (ds : List PyData) (x y : Nat) (t : M.Slot), (∀ r us, t ≠ .ol (some r) us) → m + 1 ≤ ds.length → y ≤ x → x * y < 2 ^ m → ∃ t', forL (tgN 2) lapG ds [.fz (.int x), .fz (.int y), t] = .next [.fz (.int (Nat.gcd x y)), .fz (.int 0), t'] := by
  intro m
  induction m with
  | zero =>
    intro ds x y t ht hl h1 h2
    match ds, hl with
    | d :: r, _ =>
      have : y = 0 := by
        rcases Nat.eq_zero_or_pos y with h | h
        · exact h
        · have := Nat.mul_pos (Nat.lt_of_lt_of_le h h1) h
          omega
      subst this
      have hp : putS 2 (.fz d) [.fz (.int x), .fz (.int ((0 : Nat) : Int)), t] = some [.fz (.int x), .fz (.int ((0 : Nat) : Int)), .fz d] := by
        match t, ht with
        | .un, _ => rfl
        | .fz _, _ => rfl
        | .ol none _, _ => rfl
        | .ol (some r) us, h => exact absurd rfl (h r us)
      refine ⟨.fz d, ?_⟩
      unfold forL
      rw [tgN_a, hp]
      simp [bnd_a, ret_a, lft_ok, lft_err, lfo_some, nameM_a, peek_a, fin_l, fin_r, run_v, run_n, op1_a, op2_a, opL_a, runs_n, runs_c, fins_n, fins_c, evs_n, evs_c, tupM_a, lstM_a, lstO_a, andM_a, orM_a, notM_a, andV_a, orV_a, notV_a, asB_b, ifM_a, tstM_a, tstD_a, truth_b, truth_i, truth_n, bndS_a, retM_a, retOM_a, dropM_a, seqS_a, nextM_a, failS_a, ifS_a, asgM_a, asgO_a, tgN_a, tgTup_t, tgLst_t, tgsNil_a, tgsCons_a, putS_a, setS_z, setS_s, getS_z, getS_s, parM_a, callP_a, callF_a, callR_a, frzM_a, setIx_a, intD_i, addD_i, addD_t, addD_l, addD_s, subD_i, mulD_i, fdivD_i, modD_i, powD_i, negD_i, eqD_i, eqD_s, neD_i, neD_s, ltD_i, leD_i, gtD_i, geD_i, isND_a, notND_a, isBD_a, notBD_a, ixD_l, ixD_t, ixD_k, absL_i, maxL_i, minL_i, lenL_l, lenL_t, lenL_k, intL_i, intL_b, tupL_l, lstL_l, lstL_t, items_l, items_t, itM_a, rngM1_a, rngM2_a, range1_i, forM_a, forL_n, sumL_l, allL_l, anyL_l, sliceM_a, optM_n, optM_s, lrM1_a, compM_a, methM_a, startE, List.map_cons, List.map_nil, List.length_cons, List.length_nil, List.cons_append, List.nil_append, if_true, if_false, Bool.not_true, Bool.not_false, Bool.false_eq_true, reduceCtorEq, decide_true, decide_false, Nat.reduceAdd, ite_true, ite_false, sizeLine, lapG]
  | succ m ih =>
    intro ds x y t ht hl h1 h2
    match ds, hl with
    | d :: r, hl =>
      have hp : putS 2 (.fz d) [.fz (.int x), .fz (.int (y : Int)), t] = some [.fz (.int x), .fz (.int (y : Int)), .fz d] := by
        match t, ht with
        | .un, _ => rfl
        | .fz _, _ => rfl
        | .ol none _, _ => rfl
        | .ol (some r) us, h => exact absurd rfl (h r us)
      unfold forL
      rw [tgN_a, hp]
      by_cases hy : y = 0
      · subst hy
        exact ⟨.fz d, by simp [bnd_a, ret_a, lft_ok, lft_err, lfo_some, nameM_a, peek_a, fin_l, fin_r, run_v, run_n, op1_a, op2_a, opL_a, runs_n, runs_c, fins_n, fins_c, evs_n, evs_c, tupM_a, lstM_a, lstO_a, andM_a, orM_a, notM_a, andV_a, orV_a, notV_a, asB_b, ifM_a, tstM_a, tstD_a, truth_b, truth_i, truth_n, bndS_a, retM_a, retOM_a, dropM_a, seqS_a, nextM_a, failS_a, ifS_a, asgM_a, asgO_a, tgN_a, tgTup_t, tgLst_t, tgsNil_a, tgsCons_a, putS_a, setS_z, setS_s, getS_z, getS_s, parM_a, callP_a, callF_a, callR_a, frzM_a, setIx_a, intD_i, addD_i, addD_t, addD_l, addD_s, subD_i, mulD_i, fdivD_i, modD_i, powD_i, negD_i, eqD_i, eqD_s, neD_i, neD_s, ltD_i, leD_i, gtD_i, geD_i, isND_a, notND_a, isBD_a, notBD_a, ixD_l, ixD_t, ixD_k, absL_i, maxL_i, minL_i, lenL_l, lenL_t, lenL_k, intL_i, intL_b, tupL_l, lstL_l, lstL_t, items_l, items_t, itM_a, rngM1_a, rngM2_a, range1_i, forM_a, forL_n, sumL_l, allL_l, anyL_l, sliceM_a, optM_n, optM_s, lrM1_a, compM_a, methM_a, startE, List.map_cons, List.map_nil, List.length_cons, List.length_nil, List.cons_append, List.nil_append, if_true, if_false, Bool.not_true, Bool.not_false, Bool.false_eq_true, reduceCtorEq, decide_true, decide_false, Nat.reduceAdd, ite_true, ite_false, sizeLine, lapG]⟩
      · have hy' : (y : Int) ≠ 0 := by omega
        have e := fmod_nat x y hy
        have hlt := Nat.mod_lt x (Nat.pos_of_ne_zero hy)
        have hdm := Nat.div_add_mod x y
        have hq : 1 ≤ x / y := Nat.div_pos h1 (Nat.pos_of_ne_zero hy)
        have hxy : 2 * (x % y) ≤ x := by
          have : y * 1 ≤ y * (x / y) := Nat.mul_le_mul_left _ hq
          omega
        have hbd : y * (x % y) < 2 ^ m := by
          have : y * (2 * (x % y)) ≤ y * x := Nat.mul_le_mul_left _ hxy
          rw [Nat.mul_left_comm, Nat.mul_comm y x] at this
          rw [Nat.pow_succ] at h2
          omega
        obtain ⟨t', ht'⟩ := ih r y (x % y) (.fz d) (fun _ _ z => by cases z) (by simpa using hl) (by omega) hbd
        refine ⟨t', ?_⟩
        simp [bnd_a, ret_a, lft_ok, lft_err, lfo_some, nameM_a, peek_a, fin_l, fin_r, run_v, run_n, op1_a, op2_a, opL_a, runs_n, runs_c, fins_n, fins_c, evs_n, evs_c, tupM_a, lstM_a, lstO_a, andM_a, orM_a, notM_a, andV_a, orV_a, notV_a, asB_b, ifM_a, tstM_a, tstD_a, truth_b, truth_i, truth_n, bndS_a, retM_a, retOM_a, dropM_a, seqS_a, nextM_a, failS_a, ifS_a, asgM_a, asgO_a, tgN_a, tgTup_t, tgLst_t, tgsNil_a, tgsCons_a, putS_a, setS_z, setS_s, getS_z, getS_s, parM_a, callP_a, callF_a, callR_a, frzM_a, setIx_a, intD_i, addD_i, addD_t, addD_l, addD_s, subD_i, mulD_i, fdivD_i, modD_i, powD_i, negD_i, eqD_i, eqD_s, neD_i, neD_s, ltD_i, leD_i, gtD_i, geD_i, isND_a, notND_a, isBD_a, notBD_a, ixD_l, ixD_t, ixD_k, absL_i, maxL_i, minL_i, lenL_l, lenL_t, lenL_k, intL_i, intL_b, tupL_l, lstL_l, lstL_t, items_l, items_t, itM_a, rngM1_a, rngM2_a, range1_i, forM_a, forL_n, sumL_l, allL_l, anyL_l, sliceM_a, optM_n, optM_s, lrM1_a, compM_a, methM_a, startE, List.map_cons, List.map_nil, List.length_cons, List.length_nil, List.cons_append, List.nil_append, if_true, if_false, Bool.not_true, Bool.not_false, Bool.false_eq_true, reduceCtorEq, decide_true, decide_false, Nat.reduceAdd, ite_true, ite_false, sizeLine, lapG, hy, hy', e]
        rw [show (x : Int) % (y : Int) = ((x % y : Nat) : Int) from rfl]
        rw [show Nat.gcd x y = Nat.gcd y (x % y) by rw [Nat.gcd_comm y, ← Nat.gcd_rec, Nat.gcd_comm]]
        exact ht'
theorem shared_eq (a b : Int) (hb : b.natAbs < 2 ^ 1900) : m__law_shared [.int a, .int b] = .ok (.int (Int.gcd a b)) := by
  have hup : M.upTo 0 4000 = .int 0 :: (M.upTo 0 4000).tail := rfl
  have hlen : (M.upTo 0 4000).tail.length = 3999 := by simp [M.upTo]
  generalize (M.upTo 0 4000).tail = tl at hup hlen
  have e62 : in62 4000 = true := rfl
  have key : ∃ t', forL (tgN 2) lapG (.int 0 :: tl) [.fz (.int a.natAbs), .fz (.int b.natAbs), .un] = .next [.fz (.int (Nat.gcd a.natAbs b.natAbs)), .fz (.int 0), t'] := by
    unfold forL
    by_cases hy : b.natAbs = 0
    · exact ⟨.fz (.int 0), by rw [hy]; simp [bnd_a, ret_a, lft_ok, lft_err, lfo_some, nameM_a, peek_a, fin_l, fin_r, run_v, run_n, op1_a, op2_a, opL_a, runs_n, runs_c, fins_n, fins_c, evs_n, evs_c, tupM_a, lstM_a, lstO_a, andM_a, orM_a, notM_a, andV_a, orV_a, notV_a, asB_b, ifM_a, tstM_a, tstD_a, truth_b, truth_i, truth_n, bndS_a, retM_a, retOM_a, dropM_a, seqS_a, nextM_a, failS_a, ifS_a, asgM_a, asgO_a, tgN_a, tgTup_t, tgLst_t, tgsNil_a, tgsCons_a, putS_a, setS_z, setS_s, getS_z, getS_s, parM_a, callP_a, callF_a, callR_a, frzM_a, setIx_a, intD_i, addD_i, addD_t, addD_l, addD_s, subD_i, mulD_i, fdivD_i, modD_i, powD_i, negD_i, eqD_i, eqD_s, neD_i, neD_s, ltD_i, leD_i, gtD_i, geD_i, isND_a, notND_a, isBD_a, notBD_a, ixD_l, ixD_t, ixD_k, absL_i, maxL_i, minL_i, lenL_l, lenL_t, lenL_k, intL_i, intL_b, tupL_l, lstL_l, lstL_t, items_l, items_t, itM_a, rngM1_a, rngM2_a, range1_i, forM_a, forL_n, sumL_l, allL_l, anyL_l, sliceM_a, optM_n, optM_s, lrM1_a, compM_a, methM_a, startE, List.map_cons, List.map_nil, List.length_cons, List.length_nil, List.cons_append, List.nil_append, if_true, if_false, Bool.not_true, Bool.not_false, Bool.false_eq_true, reduceCtorEq, decide_true, decide_false, Nat.reduceAdd, ite_true, ite_false, sizeLine, lapG]⟩
    · have hy' : (b.natAbs : Int) ≠ 0 := by omega
      have e := fmod_nat a.natAbs b.natAbs hy
      have hlt := Nat.mod_lt a.natAbs (Nat.pos_of_ne_zero hy)
      have hbd : b.natAbs * (a.natAbs % b.natAbs) < 2 ^ 3800 := by
        have h1 : b.natAbs * (a.natAbs % b.natAbs) < 2 ^ 1900 * 2 ^ 1900 := Nat.mul_lt_mul'' hb (by omega)
        rwa [← Nat.pow_add] at h1
      obtain ⟨t', ht'⟩ := lap_gcd 3800 tl b.natAbs (a.natAbs % b.natAbs) (.fz (.int 0)) (fun _ _ z => by cases z) (by omega) (by omega) hbd
      refine ⟨t', ?_⟩
      generalize a.natAbs = x at *
      generalize b.natAbs = y at *
      simp [bnd_a, ret_a, lft_ok, lft_err, lfo_some, nameM_a, peek_a, fin_l, fin_r, run_v, run_n, op1_a, op2_a, opL_a, runs_n, runs_c, fins_n, fins_c, evs_n, evs_c, tupM_a, lstM_a, lstO_a, andM_a, orM_a, notM_a, andV_a, orV_a, notV_a, asB_b, ifM_a, tstM_a, tstD_a, truth_b, truth_i, truth_n, bndS_a, retM_a, retOM_a, dropM_a, seqS_a, nextM_a, failS_a, ifS_a, asgM_a, asgO_a, tgN_a, tgTup_t, tgLst_t, tgsNil_a, tgsCons_a, putS_a, setS_z, setS_s, getS_z, getS_s, parM_a, callP_a, callF_a, callR_a, frzM_a, setIx_a, intD_i, addD_i, addD_t, addD_l, addD_s, subD_i, mulD_i, fdivD_i, modD_i, powD_i, negD_i, eqD_i, eqD_s, neD_i, neD_s, ltD_i, leD_i, gtD_i, geD_i, isND_a, notND_a, isBD_a, notBD_a, ixD_l, ixD_t, ixD_k, absL_i, maxL_i, minL_i, lenL_l, lenL_t, lenL_k, intL_i, intL_b, tupL_l, lstL_l, lstL_t, items_l, items_t, itM_a, rngM1_a, rngM2_a, range1_i, forM_a, forL_n, sumL_l, allL_l, anyL_l, sliceM_a, optM_n, optM_s, lrM1_a, compM_a, methM_a, startE, List.map_cons, List.map_nil, List.length_cons, List.length_nil, List.cons_append, List.nil_append, if_true, if_false, Bool.not_true, Bool.not_false, Bool.false_eq_true, reduceCtorEq, decide_true, decide_false, Nat.reduceAdd, ite_true, ite_false, sizeLine, lapG, hy, hy', e]
      rw [show (x : Int) % (y : Int) = ((x % y : Nat) : Int) from rfl]
      rw [show Nat.gcd x y = Nat.gcd y (x % y) by rw [Nat.gcd_comm y, ← Nat.gcd_rec, Nat.gcd_comm]]
      exact ht'
  obtain ⟨t', ht'⟩ := key
  simp [m__law_shared, runP, b__law_shared, bnd_a, ret_a, lft_ok, lft_err, lfo_some, nameM_a, peek_a, fin_l, fin_r, run_v, run_n, op1_a, op2_a, opL_a, runs_n, runs_c, fins_n, fins_c, evs_n, evs_c, tupM_a, lstM_a, lstO_a, andM_a, orM_a, notM_a, andV_a, orV_a, notV_a, asB_b, ifM_a, tstM_a, tstD_a, truth_b, truth_i, truth_n, bndS_a, retM_a, retOM_a, dropM_a, seqS_a, nextM_a, failS_a, ifS_a, asgM_a, asgO_a, tgN_a, tgTup_t, tgLst_t, tgsNil_a, tgsCons_a, putS_a, setS_z, setS_s, getS_z, getS_s, parM_a, callP_a, callF_a, callR_a, frzM_a, setIx_a, intD_i, addD_i, addD_t, addD_l, addD_s, subD_i, mulD_i, fdivD_i, modD_i, powD_i, negD_i, eqD_i, eqD_s, neD_i, neD_s, ltD_i, leD_i, gtD_i, geD_i, isND_a, notND_a, isBD_a, notBD_a, ixD_l, ixD_t, ixD_k, absL_i, maxL_i, minL_i, lenL_l, lenL_t, lenL_k, intL_i, intL_b, tupL_l, lstL_l, lstL_t, items_l, items_t, itM_a, rngM1_a, rngM2_a, range1_i, forM_a, forL_n, sumL_l, allL_l, anyL_l, sliceM_a, optM_n, optM_s, lrM1_a, compM_a, methM_a, startE, List.map_cons, List.map_nil, List.length_cons, List.length_nil, List.cons_append, List.nil_append, if_true, if_false, Bool.not_true, Bool.not_false, Bool.false_eq_true, reduceCtorEq, decide_true, decide_false, Nat.reduceAdd, ite_true, ite_false, sizeLine, absI, e62, hup, ht']
  rfl
abbrev big : Nat := 2 ^ 1900
theorem log_lt {a : Nat} (h : a < big) : a.log2 < 1900 := by
  rcases Nat.eq_zero_or_pos a with rfl | h0
  · decide
  · exact (Nat.log2_lt (by omega)).2 h
theorem fits_ok {a b : Int} (ha : a.natAbs < big) (hb : b.natAbs < big) : M.fits a b = true := by
  have := log_lt ha
  have := log_lt hb
  simp only [M.fits, decide_eq_true_eq]
  omega
theorem div_ok {b : Int} (h0 : b ≠ 0) (hb : b.natAbs < big) : (b ≠ 0 ∧ b.natAbs.log2 < 9000) = True := by
  have := log_lt hb
  simp [h0]; omega
abbrev fr (n d : Int) : PyData := .tuple [.int n, .int d]
def mkP (n d : Int) : PyData := fr (n.fdiv (Int.gcd n d)) (d.fdiv (Int.gcd n d))
def mkF (n d : Int) : PyData := if d < 0 then mkP (-n) (-d) else mkP n d
def Fr (B : Nat) (v : PyData) : Prop := ∃ n d : Int, v = fr n d ∧ n.natAbs ≤ B ∧ 0 < d ∧ d.natAbs ≤ B ∧ Int.gcd n d = 1
theorem gcd_pos {n d : Int} (h : d ≠ 0) : 0 < Int.gcd n d := Int.gcd_pos_of_ne_zero_right n h
theorem gcd_le {n d : Int} (h : d ≠ 0) : Int.gcd n d ≤ d.natAbs := Nat.le_of_dvd (by omega) (Int.gcd_dvd_natAbs_right n d)
theorem mkP_fr {B : Nat} {n d : Int} (hn : n.natAbs ≤ B) (h0 : 0 < d) (hd : d.natAbs ≤ B) : Fr B (mkP n d) := by
  have hg := gcd_pos (n := n) (d := d) (by omega)
  refine ⟨_, _, rfl, ?_, ?_, ?_, ?_⟩
  · rw [Int.fdiv_eq_ediv_of_nonneg _ (by omega)]
    have := Int.natAbs_ediv_le_natAbs n (Int.gcd n d)
    omega
  · rw [Int.fdiv_eq_ediv_of_nonneg _ (by omega)]
    exact Int.ediv_pos_of_pos_of_dvd h0 (by omega) (Int.gcd_dvd_right n d)
  · rw [Int.fdiv_eq_ediv_of_nonneg _ (by omega)]
    have := Int.natAbs_ediv_le_natAbs d (Int.gcd n d)
    omega
  · rw [Int.fdiv_eq_ediv_of_nonneg _ (by omega), Int.fdiv_eq_ediv_of_nonneg _ (by omega)]
    exact Int.gcd_ediv_gcd_ediv_gcd (by omega)
theorem mkF_fr {B : Nat} {n d : Int} (hn : n.natAbs ≤ B) (h0 : d ≠ 0) (hd : d.natAbs ≤ B) : Fr B (mkF n d) := by
  unfold mkF
  split
  · exact mkP_fr (by omega) (by omega) (by omega)
  · exact mkP_fr hn (by omega) hd
theorem gcd_nz {n d : Int} (h : d ≠ 0) : ((Int.gcd n d : Nat) : Int) ≠ 0 := by
  have := gcd_pos (n := n) h
  omega
theorem gcd_log {n d : Int} (h : d ≠ 0) (hb : d.natAbs < big) : (Int.gcd n d).log2 < 9000 := by
  have := log_lt (Nat.lt_of_le_of_lt (gcd_le (n := n) h) hb)
  omega
theorem gcd_nn (n d : Int) : Int.gcd (-n) (-d) = Int.gcd n d := by rw [Int.gcd_neg, Int.neg_gcd]
theorem lmade_eq {n d : Int} (h : d ≠ 0) (hb : d.natAbs < big) : m__law_made [.int n, .int d] = .ok (mkF n d) := by
  have g2 := gcd_log (n := n) h hb
  have g1 : Int.gcd n d ≠ 0 := by have := gcd_pos (n := n) h; omega
  have e1 := shared_eq n d hb
  have e2 := shared_eq (-n) (-d) (by rw [Int.natAbs_neg]; exact hb)
  unfold mkF mkP
  rw [gcd_nn] at *
  generalize Int.gcd n d = g at *
  by_cases hd : d < 0
  · simp [m__law_made, runP, b__law_made, bnd_a, ret_a, lft_ok, lft_err, lfo_some, nameM_a, peek_a, fin_l, fin_r, run_v, run_n, op1_a, op2_a, opL_a, runs_n, runs_c, fins_n, fins_c, evs_n, evs_c, tupM_a, lstM_a, lstO_a, andM_a, orM_a, notM_a, andV_a, orV_a, notV_a, asB_b, ifM_a, tstM_a, tstD_a, truth_b, truth_i, truth_n, bndS_a, retM_a, retOM_a, dropM_a, seqS_a, nextM_a, failS_a, ifS_a, asgM_a, asgO_a, tgN_a, tgTup_t, tgLst_t, tgsNil_a, tgsCons_a, putS_a, setS_z, setS_s, getS_z, getS_s, parM_a, callP_a, callF_a, callR_a, frzM_a, setIx_a, intD_i, addD_i, addD_t, addD_l, addD_s, subD_i, mulD_i, fdivD_i, modD_i, powD_i, negD_i, eqD_i, eqD_s, neD_i, neD_s, ltD_i, leD_i, gtD_i, geD_i, isND_a, notND_a, isBD_a, notBD_a, ixD_l, ixD_t, ixD_k, absL_i, maxL_i, minL_i, lenL_l, lenL_t, lenL_k, intL_i, intL_b, tupL_l, lstL_l, lstL_t, items_l, items_t, itM_a, rngM1_a, rngM2_a, range1_i, forM_a, forL_n, sumL_l, allL_l, anyL_l, sliceM_a, optM_n, optM_s, lrM1_a, compM_a, methM_a, startE, List.map_cons, List.map_nil, List.length_cons, List.length_nil, List.cons_append, List.nil_append, if_true, if_false, Bool.not_true, Bool.not_false, Bool.false_eq_true, reduceCtorEq, decide_true, decide_false, Nat.reduceAdd, ite_true, ite_false, sizeLine, e1, e2, hd, g1, g2]
  · simp [m__law_made, runP, b__law_made, bnd_a, ret_a, lft_ok, lft_err, lfo_some, nameM_a, peek_a, fin_l, fin_r, run_v, run_n, op1_a, op2_a, opL_a, runs_n, runs_c, fins_n, fins_c, evs_n, evs_c, tupM_a, lstM_a, lstO_a, andM_a, orM_a, notM_a, andV_a, orV_a, notV_a, asB_b, ifM_a, tstM_a, tstD_a, truth_b, truth_i, truth_n, bndS_a, retM_a, retOM_a, dropM_a, seqS_a, nextM_a, failS_a, ifS_a, asgM_a, asgO_a, tgN_a, tgTup_t, tgLst_t, tgsNil_a, tgsCons_a, putS_a, setS_z, setS_s, getS_z, getS_s, parM_a, callP_a, callF_a, callR_a, frzM_a, setIx_a, intD_i, addD_i, addD_t, addD_l, addD_s, subD_i, mulD_i, fdivD_i, modD_i, powD_i, negD_i, eqD_i, eqD_s, neD_i, neD_s, ltD_i, leD_i, gtD_i, geD_i, isND_a, notND_a, isBD_a, notBD_a, ixD_l, ixD_t, ixD_k, absL_i, maxL_i, minL_i, lenL_l, lenL_t, lenL_k, intL_i, intL_b, tupL_l, lstL_l, lstL_t, items_l, items_t, itM_a, rngM1_a, rngM2_a, range1_i, forM_a, forL_n, sumL_l, allL_l, anyL_l, sliceM_a, optM_n, optM_s, lrM1_a, compM_a, methM_a, startE, List.map_cons, List.map_nil, List.length_cons, List.length_nil, List.cons_append, List.nil_append, if_true, if_false, Bool.not_true, Bool.not_false, Bool.false_eq_true, reduceCtorEq, decide_true, decide_false, Nat.reduceAdd, ite_true, ite_false, sizeLine, e1, e2, hd, g1, g2]
theorem is_int (n : Int) : m_is_integer [.int n] = .ok (.bool true) := by
  simp [m_is_integer, runP, b_is_integer, bnd_a, ret_a, lft_ok, lft_err, lfo_some, nameM_a, peek_a, fin_l, fin_r, run_v, run_n, op1_a, op2_a, opL_a, runs_n, runs_c, fins_n, fins_c, evs_n, evs_c, tupM_a, lstM_a, lstO_a, andM_a, orM_a, notM_a, andV_a, orV_a, notV_a, asB_b, ifM_a, tstM_a, tstD_a, truth_b, truth_i, truth_n, bndS_a, retM_a, retOM_a, dropM_a, seqS_a, nextM_a, failS_a, ifS_a, asgM_a, asgO_a, tgN_a, tgTup_t, tgLst_t, tgsNil_a, tgsCons_a, putS_a, setS_z, setS_s, getS_z, getS_s, parM_a, callP_a, callF_a, callR_a, frzM_a, setIx_a, intD_i, addD_i, addD_t, addD_l, addD_s, subD_i, mulD_i, fdivD_i, modD_i, powD_i, negD_i, eqD_i, eqD_s, neD_i, neD_s, ltD_i, leD_i, gtD_i, geD_i, isND_a, notND_a, isBD_a, notBD_a, ixD_l, ixD_t, ixD_k, absL_i, maxL_i, minL_i, lenL_l, lenL_t, lenL_k, intL_i, intL_b, tupL_l, lstL_l, lstL_t, items_l, items_t, itM_a, rngM1_a, rngM2_a, range1_i, forM_a, forL_n, sumL_l, allL_l, anyL_l, sliceM_a, optM_n, optM_s, lrM1_a, compM_a, methM_a, startE, List.map_cons, List.map_nil, List.length_cons, List.length_nil, List.cons_append, List.nil_append, if_true, if_false, Bool.not_true, Bool.not_false, Bool.false_eq_true, reduceCtorEq, decide_true, decide_false, Nat.reduceAdd, ite_true, ite_false, sizeLine, isD, tyD]
theorem is_pair2 (a b : PyData) : m_is_pair [.tuple [a, b]] = .ok (.bool true) := by
  simp [m_is_pair, runP, b_is_pair, bnd_a, ret_a, lft_ok, lft_err, lfo_some, nameM_a, peek_a, fin_l, fin_r, run_v, run_n, op1_a, op2_a, opL_a, runs_n, runs_c, fins_n, fins_c, evs_n, evs_c, tupM_a, lstM_a, lstO_a, andM_a, orM_a, notM_a, andV_a, orV_a, notV_a, asB_b, ifM_a, tstM_a, tstD_a, truth_b, truth_i, truth_n, bndS_a, retM_a, retOM_a, dropM_a, seqS_a, nextM_a, failS_a, ifS_a, asgM_a, asgO_a, tgN_a, tgTup_t, tgLst_t, tgsNil_a, tgsCons_a, putS_a, setS_z, setS_s, getS_z, getS_s, parM_a, callP_a, callF_a, callR_a, frzM_a, setIx_a, intD_i, addD_i, addD_t, addD_l, addD_s, subD_i, mulD_i, fdivD_i, modD_i, powD_i, negD_i, eqD_i, eqD_s, neD_i, neD_s, ltD_i, leD_i, gtD_i, geD_i, isND_a, notND_a, isBD_a, notBD_a, ixD_l, ixD_t, ixD_k, absL_i, maxL_i, minL_i, lenL_l, lenL_t, lenL_k, intL_i, intL_b, tupL_l, lstL_l, lstL_t, items_l, items_t, itM_a, rngM1_a, rngM2_a, range1_i, forM_a, forL_n, sumL_l, allL_l, anyL_l, sliceM_a, optM_n, optM_s, lrM1_a, compM_a, methM_a, startE, List.map_cons, List.map_nil, List.length_cons, List.length_nil, List.cons_append, List.nil_append, if_true, if_false, Bool.not_true, Bool.not_false, Bool.false_eq_true, reduceCtorEq, decide_true, decide_false, Nat.reduceAdd, ite_true, ite_false, sizeLine, isD, tyD]
theorem isfr {B : Nat} {v : PyData} (h : Fr B v) : m_is_fraction_value [v] = .ok (.bool true) := by
  obtain ⟨n, d, rfl, _, h1, _, h2⟩ := h
  have h3 : ¬ d < 1 := by omega
  simp [m_is_fraction_value, runP, b_is_fraction_value, bnd_a, ret_a, lft_ok, lft_err, lfo_some, nameM_a, peek_a, fin_l, fin_r, run_v, run_n, op1_a, op2_a, opL_a, runs_n, runs_c, fins_n, fins_c, evs_n, evs_c, tupM_a, lstM_a, lstO_a, andM_a, orM_a, notM_a, andV_a, orV_a, notV_a, asB_b, ifM_a, tstM_a, tstD_a, truth_b, truth_i, truth_n, bndS_a, retM_a, retOM_a, dropM_a, seqS_a, nextM_a, failS_a, ifS_a, asgM_a, asgO_a, tgN_a, tgTup_t, tgLst_t, tgsNil_a, tgsCons_a, putS_a, setS_z, setS_s, getS_z, getS_s, parM_a, callP_a, callF_a, callR_a, frzM_a, setIx_a, intD_i, addD_i, addD_t, addD_l, addD_s, subD_i, mulD_i, fdivD_i, modD_i, powD_i, negD_i, eqD_i, eqD_s, neD_i, neD_s, ltD_i, leD_i, gtD_i, geD_i, isND_a, notND_a, isBD_a, notBD_a, ixD_l, ixD_t, ixD_k, absL_i, maxL_i, minL_i, lenL_l, lenL_t, lenL_k, intL_i, intL_b, tupL_l, lstL_l, lstL_t, items_l, items_t, itM_a, rngM1_a, rngM2_a, range1_i, forM_a, forL_n, sumL_l, allL_l, anyL_l, sliceM_a, optM_n, optM_s, lrM1_a, compM_a, methM_a, startE, List.map_cons, List.map_nil, List.length_cons, List.length_nil, List.cons_append, List.nil_append, if_true, if_false, Bool.not_true, Bool.not_false, Bool.false_eq_true, reduceCtorEq, decide_true, decide_false, Nat.reduceAdd, ite_true, ite_false, sizeLine, is_int, is_pair2, gcd_eq, atI, ixN, h3, h2]
def PotOk (K : Nat) (us : List PyData) : Prop := ∃ a b c : Int, us = [.int a, .int b, .int c] ∧ b.natAbs < 2 ^ 62 ∧ 0 ≤ c ∧ c ≤ K
theorem fits_lt {a b : Int} (ha : a.natAbs < 2 ^ 400) (hb : b.natAbs < 2 ^ 400) : M.fits a b = true := by
  have q : (2 : Nat) ^ 400 < big := by decide
  exact fits_ok (by omega) (by omega)
theorem pow3_ok {a : Int} (ha : a.natAbs < 2 ^ 400) : powOk a 3 = true := by
  have q : (2 : Nat) ^ 400 < big := by decide
  have := log_lt (a := a.natAbs) (by omega)
  simp only [powOk, decide_eq_true_eq]
  omega
theorem prime_at {c : Int} (h : 0 ≤ c) : ∃ k : Int, atI (α := PyData) [.int 2147483647, .int 2147483629, .int 2147483587, .int 2147483579] (c.fmod 4) = some (.int k) ∧ 0 < k ∧ k < 2 ^ 31 := by
  have h1 := Int.fmod_nonneg h (show (0 : Int) ≤ 4 by decide)
  have h2 := Int.fmod_lt_of_pos c (show (0 : Int) < 4 by decide)
  have : c.fmod 4 = 0 ∨ c.fmod 4 = 1 ∨ c.fmod 4 = 2 ∨ c.fmod 4 = 3 := by omega
  rcases this with e | e | e | e <;> rw [e]
  · exact ⟨2147483647, rfl, by decide, by decide⟩
  · exact ⟨2147483629, rfl, by decide, by decide⟩
  · exact ⟨2147483587, rfl, by decide, by decide⟩
  · exact ⟨2147483579, rfl, by decide, by decide⟩
theorem take_eq {K : Nat} {us : List PyData} {n : Int} (h : PotOk K us) (hK : K < 1000000) (h0 : 0 < n) (hn : n < 2 ^ 62) : ∃ d us', m__law_take us [.int n] = .ok (.int d, us') ∧ 0 ≤ d ∧ d < n ∧ PotOk (K + 1) us' := by
  obtain ⟨a, b, c, rfl, hb, hc, hk⟩ := h
  have n0 : n ≠ 0 := by omega
  have nl : n.natAbs.log2 < 9000 := by
    have q : (2 : Nat) ^ 62 < big := by decide
    have := log_lt (a := n.natAbs) (by omega)
    omega
  by_cases ha : 0 < a
  · refine ⟨a.fmod n, [.int (a.fdiv n), .int b, .int c], ?_, Int.fmod_nonneg (by omega) (by omega), Int.fmod_lt_of_pos _ h0, _, _, _, rfl, hb, hc, by omega⟩
    simp [m__law_take, runR, b__law_take, bnd_a, ret_a, lft_ok, lft_err, lfo_some, nameM_a, peek_a, fin_l, fin_r, run_v, run_n, op1_a, op2_a, opL_a, runs_n, runs_c, fins_n, fins_c, evs_n, evs_c, tupM_a, lstM_a, lstO_a, andM_a, orM_a, notM_a, andV_a, orV_a, notV_a, asB_b, ifM_a, tstM_a, tstD_a, truth_b, truth_i, truth_n, bndS_a, retM_a, retOM_a, dropM_a, seqS_a, nextM_a, failS_a, ifS_a, asgM_a, asgO_a, tgN_a, tgTup_t, tgLst_t, tgsNil_a, tgsCons_a, putS_a, setS_z, setS_s, getS_z, getS_s, parM_a, callP_a, callF_a, callR_a, frzM_a, setIx_a, intD_i, addD_i, addD_t, addD_l, addD_s, subD_i, mulD_i, fdivD_i, modD_i, powD_i, negD_i, eqD_i, eqD_s, neD_i, neD_s, ltD_i, leD_i, gtD_i, geD_i, isND_a, notND_a, isBD_a, notBD_a, ixD_l, ixD_t, ixD_k, absL_i, maxL_i, minL_i, lenL_l, lenL_t, lenL_k, intL_i, intL_b, tupL_l, lstL_l, lstL_t, items_l, items_t, itM_a, rngM1_a, rngM2_a, range1_i, forM_a, forL_n, sumL_l, allL_l, anyL_l, sliceM_a, optM_n, optM_s, lrM1_a, compM_a, methM_a, startE, List.map_cons, List.map_nil, List.length_cons, List.length_nil, List.cons_append, List.nil_append, if_true, if_false, Bool.not_true, Bool.not_false, Bool.false_eq_true, reduceCtorEq, decide_true, decide_false, Nat.reduceAdd, ite_true, ite_false, sizeLine, atI, ixN, ha, n0, nl]
  · obtain ⟨k, hk1, hk2, hk3⟩ := prime_at (c := c + 1) (by omega)
    have k0 : k ≠ 0 := by omega
    generalize hx : (c + 1) = e at *
    have e1 : e.natAbs < 2 ^ 30 := by omega
    have f1 : M.fits 147487 e = true := fits_lt (by decide) (Nat.lt_trans e1 (by decide))
    have f1' : (147487 * e).natAbs < 2 ^ 50 := by omega
    have f2 : M.fits (147487 * e) e = true := fits_lt (Nat.lt_trans f1' (by decide)) (Nat.lt_trans e1 (by decide))
    have f2' : (147487 * e * e).natAbs < 2 ^ 50 * 2 ^ 30 := by rw [Int.natAbs_mul]; exact Nat.mul_lt_mul'' f1' e1
    have f3 : powOk (b + 147487 * e * e + 4231) 3 = true := pow3_ok (by
      generalize 147487 * e * e = z at *
      have : (2 : Nat) ^ 50 * 2 ^ 30 + 2 ^ 62 + 4231 < 2 ^ 400 := by decide
      omega)
    generalize hy : ((b + 147487 * e * e + 4231) ^ 3).fmod k = y
    have y1 : 0 ≤ y := by rw [← hy]; exact Int.fmod_nonneg_of_pos _ hk2
    have y2 : y < k := by rw [← hy]; exact Int.fmod_lt_of_pos _ hk2
    have f4 : M.fits 3433 e = true := fits_lt (by decide) (Nat.lt_trans e1 (by decide))
    have z1 := Int.fmod_nonneg y1 (show (0 : Int) ≤ 10007 by decide)
    have z2 := Int.fmod_lt_of_pos y (show (0 : Int) < 10007 by decide)
    have f5 : M.fits y (y.fmod 10007 + 3433 * e) = true := fits_lt (Nat.lt_trans (show y.natAbs < 2 ^ 31 by omega) (by decide)) (Nat.lt_trans (show (y.fmod 10007 + 3433 * e).natAbs < 2 ^ 50 by omega) (by decide))
    have fd307 : ∀ a : Int, fdivD (.int a) (.int 307) = some (.int (a.fdiv 307)) := fun a => by rw [fdivD_i, if_pos ⟨by decide, by decide⟩]
    refine ⟨((y * (y.fmod 10007 + 3433 * e)).fdiv 307).fmod n, [.int a, .int b, .int e], ?_, Int.fmod_nonneg_of_pos _ h0, Int.fmod_lt_of_pos _ h0, _, _, _, rfl, hb, by omega, by omega⟩
    have hk1' : atI (α := PyData) [.int 2147483647, .int 2147483629, .int 2147483587, .int 2147483579] (e.fmod 4) = some (.int k) := hk1
    have at0 : ∀ x y z : PyData, atI [x, y, z] 0 = some x := fun _ _ _ => rfl
    have at1 : ∀ x y z : PyData, atI [x, y, z] 1 = some y := fun _ _ _ => rfl
    have at2 : ∀ x y z : PyData, atI [x, y, z] 2 = some z := fun _ _ _ => rfl
    have ix2 : ixN 3 2 = some 2 := rfl
    simp [m__law_take, runR, b__law_take, bnd_a, ret_a, lft_ok, lft_err, lfo_some, nameM_a, peek_a, fin_l, fin_r, run_v, run_n, op1_a, op2_a, opL_a, runs_n, runs_c, fins_n, fins_c, evs_n, evs_c, tupM_a, lstM_a, lstO_a, andM_a, orM_a, notM_a, andV_a, orV_a, notV_a, asB_b, ifM_a, tstM_a, tstD_a, truth_b, truth_i, truth_n, bndS_a, retM_a, retOM_a, dropM_a, seqS_a, nextM_a, failS_a, ifS_a, asgM_a, asgO_a, tgN_a, tgTup_t, tgLst_t, tgsNil_a, tgsCons_a, putS_a, setS_z, setS_s, getS_z, getS_s, parM_a, callP_a, callF_a, callR_a, frzM_a, setIx_a, intD_i, addD_i, addD_t, addD_l, addD_s, subD_i, mulD_i, fdivD_i, modD_i, powD_i, negD_i, eqD_i, eqD_s, neD_i, neD_s, ltD_i, leD_i, gtD_i, geD_i, isND_a, notND_a, isBD_a, notBD_a, ixD_l, ixD_t, ixD_k, absL_i, maxL_i, minL_i, lenL_l, lenL_t, lenL_k, intL_i, intL_b, tupL_l, lstL_l, lstL_t, items_l, items_t, itM_a, rngM1_a, rngM2_a, range1_i, forM_a, forL_n, sumL_l, allL_l, anyL_l, sliceM_a, optM_n, optM_s, lrM1_a, compM_a, methM_a, startE, List.map_cons, List.map_nil, List.length_cons, List.length_nil, List.cons_append, List.nil_append, if_true, if_false, Bool.not_true, Bool.not_false, Bool.false_eq_true, reduceCtorEq, decide_true, decide_false, Nat.reduceAdd, ite_true, ite_false, sizeLine, at0, at1, at2, ix2, ha, hx, hk1', k0, f1, f2, f3, hy, f4, f5, n0, fd307, -fdivD_i]
theorem of_eq {K : Nat} {us : List PyData} {ds : List PyData} (h : PotOk K us) (hK : K < 1000000) (h0 : 0 < ds.length) (hn : ds.length ≤ 100) : ∃ d us', m__law_of us [.list ds] = .ok (d, us') ∧ d ∈ ds ∧ PotOk (K + 1) us' := by
  obtain ⟨i, us', e1, e2, e3, e4⟩ := take_eq (n := ds.length) h hK (by omega) (by omega)
  have hi : i.toNat < ds.length := by omega
  have ha : atI ds i = some (ds[i.toNat]) := by
    unfold atI ixN
    simp [e2, e3, hi]
  refine ⟨ds[i.toNat], us', ?_, List.getElem_mem _, e4⟩
  simp [m__law_of, runR, b__law_of, bnd_a, ret_a, lft_ok, lft_err, lfo_some, nameM_a, peek_a, fin_l, fin_r, run_v, run_n, op1_a, op2_a, opL_a, runs_n, runs_c, fins_n, fins_c, evs_n, evs_c, tupM_a, lstM_a, lstO_a, andM_a, orM_a, notM_a, andV_a, orV_a, notV_a, asB_b, ifM_a, tstM_a, tstD_a, truth_b, truth_i, truth_n, bndS_a, retM_a, retOM_a, dropM_a, seqS_a, nextM_a, failS_a, ifS_a, asgM_a, asgO_a, tgN_a, tgTup_t, tgLst_t, tgsNil_a, tgsCons_a, putS_a, setS_z, setS_s, getS_z, getS_s, parM_a, callP_a, callF_a, callR_a, frzM_a, setIx_a, intD_i, addD_i, addD_t, addD_l, addD_s, subD_i, mulD_i, fdivD_i, modD_i, powD_i, negD_i, eqD_i, eqD_s, neD_i, neD_s, ltD_i, leD_i, gtD_i, geD_i, isND_a, notND_a, isBD_a, notBD_a, ixD_l, ixD_t, ixD_k, absL_i, maxL_i, minL_i, lenL_l, lenL_t, lenL_k, intL_i, intL_b, tupL_l, lstL_l, lstL_t, items_l, items_t, itM_a, rngM1_a, rngM2_a, range1_i, forM_a, forL_n, sumL_l, allL_l, anyL_l, sliceM_a, optM_n, optM_s, lrM1_a, compM_a, methM_a, startE, List.map_cons, List.map_nil, List.length_cons, List.length_nil, List.cons_append, List.nil_append, if_true, if_false, Bool.not_true, Bool.not_false, Bool.false_eq_true, reduceCtorEq, decide_true, decide_false, Nat.reduceAdd, ite_true, ite_false, sizeLine, e1, ha]
theorem pw10 : powD (.int 10) (.int 9) = some (.int 1000000000) := by rw [powD_i, if_pos (by decide)]; rfl
theorem rp_int {n : Int} (h : n.natAbs < big) : Rp 1 4000 (.int n) := (Rp.int (Nat.lt_trans (log_lt h) (by decide))).le (by omega) (by omega)
theorem eq_fr (n d m e : Int) : eqD (fr n d) (fr m e) = some (.bool (decide (n = m ∧ d = e))) := by
  simp [eqD, SeqAt.shaped, PyData.eqv, PyData.canLay0, PyData.canLayAll0, PyData.depth, PyData.depthAll, PyData.eqvAll]
  rfl
def loose (t : M.Slot) : Prop := ∀ r us, t ≠ .ol (some r) us
theorem up2 : range1 (.int 2) = some [.int 0, .int 1] := rfl
theorem ints_map (ns : List Int) : intsOf (ns.map PyData.int) = some ns := by
  induction ns with
  | nil => rfl
  | cons n r ih => rw [List.map_cons]; unfold intsOf; rw [ih]; rfl
theorem cut_map (ns : List Int) (lo hi : Option Int) : ∃ ms : List Int, cutL (ns.map PyData.int) lo hi = ms.map PyData.int := by
  unfold cutL
  rw [← List.map_drop, ← List.map_take]
  exact ⟨_, rfl⟩
theorem cut_k (ds : List PyData) (lo hi : Option Int) : M.cutD (lck ds) lo hi = some (.list (cutL ds lo hi)) := rfl
theorem at_ints {ns : List Int} {i : Int} (h0 : 0 ≤ i) (h1 : i < ns.length) : ∃ z : Int, atI (ns.map PyData.int) i = some (.int z) := by
  have hi : i.toNat < ns.length := by omega
  refine ⟨ns[i.toNat], ?_⟩
  unfold atI ixN
  simp [h0, h1, hi]
theorem pw60 : powD (.int 10) (.int 60) = some (.int 1000000000000000000000000000000000000000000000000000000000000) := by rw [powD_i, if_pos (by decide)]; rfl
theorem pw18 : powD (.int 10) (.int 18) = some (.int 1000000000000000000) := by rw [powD_i, if_pos (by decide)]; rfl
theorem pw300 : powD (.int 1000000000000000000000000000000000000000000000000000000000000) (.int 5) = some (.int (10 ^ 300)) := by rw [powD_i, if_pos (by decide)]; rfl
noncomputable def P1 : SM := asgM (ifM (tstD (op2 ltD (.n 1) (.v (opL lenL [.n 0])))) (op2 ixD (.n 0) (.n 1)) (op2 addD (.v (op2 addD (.v (op2 modD (.v (opL intL [.v (opL sumL [.v (sliceM (.n 0) (none) (some (ret (.int 1))))])])) (.v (ret (.int 1000003))))) (.v (op2 mulD (.v (ret (.int 24007))) (.n 1))))) (.v (ret (.int 8803))))) (tgN 2)
noncomputable def P2 : SM := asgM (op2 mulD (.v (op2 modD (.v (opL intL [.v (opL absL [.n 2])])) (.v (op2 powD (.v (op2 powD (.v (ret (.int 10))) (.v (ret (.int 60))))) (.v (ret (.int 5))))))) (.v (opL intL [.v (op2 geD (.v (opL absL [.n 2])) (.v (op2 powD (.v (ret (.int 10))) (.v (ret (.int 18))))))]))) (tgN 3)
noncomputable def P3 : SM := asgM (op2 modD (.v (opL intL [.n 2])) (.v (ret (.int 2305843009213693951)))) (tgN 4)
noncomputable def P4 : SM := retOM (lstO [nameM 3, op2 modD (.v (opL intL [.v (op2 addD (.v (op2 addD (.v (op2 mulD (.n 4) (.v (ret (.int 99529))))) (.v (op2 mulD (.v (op2 mulD (.v (ret (.int 14869))) (.n 1))) (.n 1))))) (.v (ret (.int 9803))))])) (.v (ret (.int 2305843009213693921))), ret (.int 0)])
theorem P_all : b__law_pot = seqS P1 (seqS P2 (seqS P3 (P4))) := rfl
theorem potIf_eq (ns : List Int) {i : Int} (hi : i = 0 ∨ i = 1) : ∃ z : Int, P1 [.fz (lck (ns.map .int)), .fz (.int i), .un, .un, .un] = .next [.fz (lck (ns.map .int)), .fz (.int i), .fz (.int z), .un, .un] := by
  have f : M.fits 24007 i = true := fits_lt (by decide) (Nat.lt_of_le_of_lt (show i.natAbs ≤ 1 by omega) (by decide))
  by_cases c : i < ns.length
  · obtain ⟨z, hz⟩ := at_ints (ns := ns) (i := i) (by omega) c
    exact ⟨z, by simp [bnd_a, ret_a, lft_ok, lft_err, lfo_some, nameM_a, peek_a, fin_l, fin_r, run_v, run_n, op1_a, op2_a, opL_a, runs_n, runs_c, fins_n, fins_c, evs_n, evs_c, tupM_a, lstM_a, lstO_a, andM_a, orM_a, notM_a, andV_a, orV_a, notV_a, asB_b, ifM_a, tstM_a, tstD_a, truth_b, truth_i, truth_n, bndS_a, retM_a, retOM_a, dropM_a, seqS_a, nextM_a, failS_a, ifS_a, asgM_a, asgO_a, tgN_a, tgTup_t, tgLst_t, tgsNil_a, tgsCons_a, putS_a, setS_z, setS_s, getS_z, getS_s, parM_a, callP_a, callF_a, callR_a, frzM_a, setIx_a, intD_i, addD_i, addD_t, addD_l, addD_s, subD_i, mulD_i, fdivD_i, modD_i, powD_i, negD_i, eqD_i, eqD_s, neD_i, neD_s, ltD_i, leD_i, gtD_i, geD_i, isND_a, notND_a, isBD_a, notBD_a, ixD_l, ixD_t, ixD_k, absL_i, maxL_i, minL_i, lenL_l, lenL_t, lenL_k, intL_i, intL_b, tupL_l, lstL_l, lstL_t, items_l, items_t, itM_a, rngM1_a, rngM2_a, range1_i, forM_a, forL_n, sumL_l, allL_l, anyL_l, sliceM_a, optM_n, optM_s, lrM1_a, compM_a, methM_a, startE, List.map_cons, List.map_nil, List.length_cons, List.length_nil, List.cons_append, List.nil_append, if_true, if_false, Bool.not_true, Bool.not_false, Bool.false_eq_true, reduceCtorEq, decide_true, decide_false, Nat.reduceAdd, ite_true, ite_false, sizeLine, P1, c, hz]⟩
  · obtain ⟨ms, hm⟩ := cut_map ns none (some 1)
    exact ⟨_, by simp [bnd_a, ret_a, lft_ok, lft_err, lfo_some, nameM_a, peek_a, fin_l, fin_r, run_v, run_n, op1_a, op2_a, opL_a, runs_n, runs_c, fins_n, fins_c, evs_n, evs_c, tupM_a, lstM_a, lstO_a, andM_a, orM_a, notM_a, andV_a, orV_a, notV_a, asB_b, ifM_a, tstM_a, tstD_a, truth_b, truth_i, truth_n, bndS_a, retM_a, retOM_a, dropM_a, seqS_a, nextM_a, failS_a, ifS_a, asgM_a, asgO_a, tgN_a, tgTup_t, tgLst_t, tgsNil_a, tgsCons_a, putS_a, setS_z, setS_s, getS_z, getS_s, parM_a, callP_a, callF_a, callR_a, frzM_a, setIx_a, intD_i, addD_i, addD_t, addD_l, addD_s, subD_i, mulD_i, fdivD_i, modD_i, powD_i, negD_i, eqD_i, eqD_s, neD_i, neD_s, ltD_i, leD_i, gtD_i, geD_i, isND_a, notND_a, isBD_a, notBD_a, ixD_l, ixD_t, ixD_k, absL_i, maxL_i, minL_i, lenL_l, lenL_t, lenL_k, intL_i, intL_b, tupL_l, lstL_l, lstL_t, items_l, items_t, itM_a, rngM1_a, rngM2_a, range1_i, forM_a, forL_n, sumL_l, allL_l, anyL_l, sliceM_a, optM_n, optM_s, lrM1_a, compM_a, methM_a, startE, List.map_cons, List.map_nil, List.length_cons, List.length_nil, List.cons_append, List.nil_append, if_true, if_false, Bool.not_true, Bool.not_false, Bool.false_eq_true, reduceCtorEq, decide_true, decide_false, Nat.reduceAdd, ite_true, ite_false, sizeLine, P1, c, cut_k, hm, ints_map, f]; rfl⟩
theorem pot_eq (ns : List Int) {i : Int} (hi : i = 0 ∨ i = 1) : ∃ us, m__law_pot [lck (ns.map .int), .int i] = .ok us ∧ PotOk 0 us := by
  obtain ⟨z, hz⟩ := potIf_eq ns hi
  have h300 : ((10 : Int) ^ 300) ≠ 0 := by decide
  generalize hp : ((10 : Int) ^ 300) = p at *
  have p1 : 0 < p := by rw [← hp]; decide
  have p2 : p.natAbs < 2 ^ 1200 := by rw [← hp]; decide
  have w1 := Int.fmod_nonneg_of_pos (if z < 0 then -z else z) p1
  have w2 := Int.fmod_lt_of_pos (if z < 0 then -z else z) p1
  have f0 : ∀ k : Int, (k = 0 ∨ k = 1) → M.fits ((if z < 0 then -z else z).fmod p) k = true := fun k hk => fits_ok (by
    have : (2 : Nat) ^ 1200 < big := by decide
    omega) (Nat.lt_of_le_of_lt (show k.natAbs ≤ 1 by omega) (by decide))
  have v1 := Int.fmod_nonneg_of_pos z (show (0 : Int) < 2305843009213693951 by decide)
  have v2 := Int.fmod_lt_of_pos z (show (0 : Int) < 2305843009213693951 by decide)
  have f1 : M.fits (z.fmod 2305843009213693951) 99529 = true := fits_lt (Nat.lt_trans (show _ < 2 ^ 62 by omega) (by decide)) (by decide)
  have f2 : M.fits 14869 i = true := fits_lt (by decide) (Nat.lt_of_le_of_lt (show i.natAbs ≤ 1 by omega) (by decide))
  have f3 : M.fits (14869 * i) i = true := fits_lt (Nat.lt_of_le_of_lt (show (14869 * i).natAbs ≤ 14869 by omega) (by decide)) (Nat.lt_of_le_of_lt (show i.natAbs ≤ 1 by omega) (by decide))
  have x1 := Int.fmod_nonneg_of_pos (z.fmod 2305843009213693951 * 99529 + 14869 * i * i + 9803) (show (0 : Int) < 2305843009213693921 by decide)
  have x2 := Int.fmod_lt_of_pos (z.fmod 2305843009213693951 * 99529 + 14869 * i * i + 9803) (show (0 : Int) < 2305843009213693921 by decide)
  refine ⟨[.int ((if z < 0 then -z else z).fmod p * (if (1000000000000000000 : Int) ≤ (if z < 0 then -z else z) then 1 else 0)), .int ((z.fmod 2305843009213693951 * 99529 + 14869 * i * i + 9803).fmod 2305843009213693921), .int 0], ?_, _, _, _, rfl, ?_, by decide, by decide⟩
  · have st : startE 5 ([lck (ns.map .int), .int i].map .fz) = [.fz (lck (ns.map .int)), .fz (.int i), .un, .un, .un] := rfl
    unfold m__law_pot runF
    rw [P_all, st, seqS_a, hz]
    generalize hyz : (if z < 0 then -z else z) = y at *
    by_cases hy : (1000000000000000000 : Int) ≤ y
    · have f0' := f0 1 (by omega)
      simp [bnd_a, ret_a, lft_ok, lft_err, lfo_some, nameM_a, peek_a, fin_l, fin_r, run_v, run_n, op1_a, op2_a, opL_a, runs_n, runs_c, fins_n, fins_c, evs_n, evs_c, tupM_a, lstM_a, lstO_a, andM_a, orM_a, notM_a, andV_a, orV_a, notV_a, asB_b, ifM_a, tstM_a, tstD_a, truth_b, truth_i, truth_n, bndS_a, retM_a, retOM_a, dropM_a, seqS_a, nextM_a, failS_a, ifS_a, asgM_a, asgO_a, tgN_a, tgTup_t, tgLst_t, tgsNil_a, tgsCons_a, putS_a, setS_z, setS_s, getS_z, getS_s, parM_a, callP_a, callF_a, callR_a, frzM_a, setIx_a, intD_i, addD_i, addD_t, addD_l, addD_s, subD_i, mulD_i, fdivD_i, modD_i, powD_i, negD_i, eqD_i, eqD_s, neD_i, neD_s, ltD_i, leD_i, gtD_i, geD_i, isND_a, notND_a, isBD_a, notBD_a, ixD_l, ixD_t, ixD_k, absL_i, maxL_i, minL_i, lenL_l, lenL_t, lenL_k, intL_i, intL_b, tupL_l, lstL_l, lstL_t, items_l, items_t, itM_a, rngM1_a, rngM2_a, range1_i, forM_a, forL_n, sumL_l, allL_l, anyL_l, sliceM_a, optM_n, optM_s, lrM1_a, compM_a, methM_a, startE, List.map_cons, List.map_nil, List.length_cons, List.length_nil, List.cons_append, List.nil_append, if_true, if_false, Bool.not_true, Bool.not_false, Bool.false_eq_true, reduceCtorEq, decide_true, decide_false, Nat.reduceAdd, ite_true, ite_false, sizeLine, P2, P3, P4, pw60, pw18, pw300, -powD_i, hp, hyz, h300, f0', hy, f1, f2, f3]
    · have f0' := f0 0 (by omega)
      simp [bnd_a, ret_a, lft_ok, lft_err, lfo_some, nameM_a, peek_a, fin_l, fin_r, run_v, run_n, op1_a, op2_a, opL_a, runs_n, runs_c, fins_n, fins_c, evs_n, evs_c, tupM_a, lstM_a, lstO_a, andM_a, orM_a, notM_a, andV_a, orV_a, notV_a, asB_b, ifM_a, tstM_a, tstD_a, truth_b, truth_i, truth_n, bndS_a, retM_a, retOM_a, dropM_a, seqS_a, nextM_a, failS_a, ifS_a, asgM_a, asgO_a, tgN_a, tgTup_t, tgLst_t, tgsNil_a, tgsCons_a, putS_a, setS_z, setS_s, getS_z, getS_s, parM_a, callP_a, callF_a, callR_a, frzM_a, setIx_a, intD_i, addD_i, addD_t, addD_l, addD_s, subD_i, mulD_i, fdivD_i, modD_i, powD_i, negD_i, eqD_i, eqD_s, neD_i, neD_s, ltD_i, leD_i, gtD_i, geD_i, isND_a, notND_a, isBD_a, notBD_a, ixD_l, ixD_t, ixD_k, absL_i, maxL_i, minL_i, lenL_l, lenL_t, lenL_k, intL_i, intL_b, tupL_l, lstL_l, lstL_t, items_l, items_t, itM_a, rngM1_a, rngM2_a, range1_i, forM_a, forL_n, sumL_l, allL_l, anyL_l, sliceM_a, optM_n, optM_s, lrM1_a, compM_a, methM_a, startE, List.map_cons, List.map_nil, List.length_cons, List.length_nil, List.cons_append, List.nil_append, if_true, if_false, Bool.not_true, Bool.not_false, Bool.false_eq_true, reduceCtorEq, decide_true, decide_false, Nat.reduceAdd, ite_true, ite_false, sizeLine, P2, P3, P4, pw60, pw18, pw300, -powD_i, hp, hyz, h300, f0', hy, f1, f2, f3]
  · generalize (z.fmod 2305843009213693951 * 99529 + 14869 * i * i + 9803).fmod 2305843009213693921 = q at *
    omega
theorem cells_eq (ds : List PyData) : m__law_cells [lck ds, .int 2] = .ok (.list [.int 0]) ∨ m__law_cells [lck ds, .int 2] = .ok (.list [.int 0, .int 1]) := by
  have r1 : range1 (.int 1) = some [.int 0] := rfl
  by_cases c : (ds.length : Int) < 2
  · left
    have : ¬ (1 : Int) < ds.length := by omega
    simp [m__law_cells, runP, b__law_cells, bnd_a, ret_a, lft_ok, lft_err, lfo_some, nameM_a, peek_a, fin_l, fin_r, run_v, run_n, op1_a, op2_a, opL_a, runs_n, runs_c, fins_n, fins_c, evs_n, evs_c, tupM_a, lstM_a, lstO_a, andM_a, orM_a, notM_a, andV_a, orV_a, notV_a, asB_b, ifM_a, tstM_a, tstD_a, truth_b, truth_i, truth_n, bndS_a, retM_a, retOM_a, dropM_a, seqS_a, nextM_a, failS_a, ifS_a, asgM_a, asgO_a, tgN_a, tgTup_t, tgLst_t, tgsNil_a, tgsCons_a, putS_a, setS_z, setS_s, getS_z, getS_s, parM_a, callP_a, callF_a, callR_a, frzM_a, setIx_a, intD_i, addD_i, addD_t, addD_l, addD_s, subD_i, mulD_i, fdivD_i, modD_i, powD_i, negD_i, eqD_i, eqD_s, neD_i, neD_s, ltD_i, leD_i, gtD_i, geD_i, isND_a, notND_a, isBD_a, notBD_a, ixD_l, ixD_t, ixD_k, absL_i, maxL_i, minL_i, lenL_l, lenL_t, lenL_k, intL_i, intL_b, tupL_l, lstL_l, lstL_t, items_l, items_t, itM_a, rngM1_a, rngM2_a, range1_i, forM_a, forL_n, sumL_l, allL_l, anyL_l, sliceM_a, optM_n, optM_s, lrM1_a, compM_a, methM_a, startE, List.map_cons, List.map_nil, List.length_cons, List.length_nil, List.cons_append, List.nil_append, if_true, if_false, Bool.not_true, Bool.not_false, Bool.false_eq_true, reduceCtorEq, decide_true, decide_false, Nat.reduceAdd, ite_true, ite_false, sizeLine, c, this, r1, -range1_i]
  · right
    simp [m__law_cells, runP, b__law_cells, bnd_a, ret_a, lft_ok, lft_err, lfo_some, nameM_a, peek_a, fin_l, fin_r, run_v, run_n, op1_a, op2_a, opL_a, runs_n, runs_c, fins_n, fins_c, evs_n, evs_c, tupM_a, lstM_a, lstO_a, andM_a, orM_a, notM_a, andV_a, orV_a, notV_a, asB_b, ifM_a, tstM_a, tstD_a, truth_b, truth_i, truth_n, bndS_a, retM_a, retOM_a, dropM_a, seqS_a, nextM_a, failS_a, ifS_a, asgM_a, asgO_a, tgN_a, tgTup_t, tgLst_t, tgsNil_a, tgsCons_a, putS_a, setS_z, setS_s, getS_z, getS_s, parM_a, callP_a, callF_a, callR_a, frzM_a, setIx_a, intD_i, addD_i, addD_t, addD_l, addD_s, subD_i, mulD_i, fdivD_i, modD_i, powD_i, negD_i, eqD_i, eqD_s, neD_i, neD_s, ltD_i, leD_i, gtD_i, geD_i, isND_a, notND_a, isBD_a, notBD_a, ixD_l, ixD_t, ixD_k, absL_i, maxL_i, minL_i, lenL_l, lenL_t, lenL_k, intL_i, intL_b, tupL_l, lstL_l, lstL_t, items_l, items_t, itM_a, rngM1_a, rngM2_a, range1_i, forM_a, forL_n, sumL_l, allL_l, anyL_l, sliceM_a, optM_n, optM_s, lrM1_a, compM_a, methM_a, startE, List.map_cons, List.map_nil, List.length_cons, List.length_nil, List.cons_append, List.nil_append, if_true, if_false, Bool.not_true, Bool.not_false, Bool.false_eq_true, reduceCtorEq, decide_true, decide_false, Nat.reduceAdd, ite_true, ite_false, sizeLine, c, up2, -range1_i]
end Lk01
set_option Elab.async false
set_option linter.all false
set_option maxRecDepth 100000
set_option maxHeartbeats 4000000
set_option exponentiation.threshold 2000
namespace Lk01
open M PySem PySem.Spec PyProof.Rows L2 PySem.NumText
abbrev num40 : Nat := 10 ^ 40
theorem log40 {n : Int} (h : n.natAbs < num40) : n.natAbs.log2 < 1920 := by
  have : num40 < big := by decide
  have := log_lt (a := n.natAbs) (by omega)
  omega
theorem big40 {n : Int} (h : n.natAbs < num40) : n.natAbs < big := by
  have : num40 < big := by decide
  omega
def tx (n d : Int) : Str := if d = 1 then txt n else txt n ++ ("/" : Str) ++ txt d
theorem slash_eq : ("/" : Str) = ⟨#[47]⟩ := by decide
theorem len_app (a b : Str) : (a ++ b).length = a.length + b.length := by rw [sg_len, sg_app, List.length_append, ← sg_len, ← sg_len]
theorem txt_len40 {n : Int} (h : n.natAbs < num40) : (txt n).length ≤ 41 := by rw [sg_len]; exact txt_len (k := 40) (by omega) h
theorem slash_len : ("/" : Str).length = 1 := by decide
theorem text_eq {n d : Int} (hn : n.natAbs < num40) (hd : d.natAbs < num40) : m_text_of [fr n d] = .ok (.str (tx n d)) ∧ m__law_text [fr n d] = .ok (.str (tx n d)) := by
  have l1 := log40 hn
  have l2 := log40 hd
  have q1 := txt_len40 hn
  have q2 := txt_len40 hd
  have s1 : (txt n).length + ("/" : Str).length ≤ sizeLine := by rw [slash_len]; show _ ≤ 16777216; omega
  have s2 : (txt n ++ ("/" : Str)).length + (txt d).length ≤ sizeLine := by rw [len_app, slash_len]; show _ ≤ 16777216; omega
  have a1 : addD (.str (txt n)) (.str "/") = some (.str (txt n ++ ("/" : Str))) := by rw [addD_s, if_pos s1]
  have a2 : addD (.str (txt n ++ ("/" : Str))) (.str (txt d)) = some (.str (txt n ++ ("/" : Str) ++ txt d)) := by rw [addD_s, if_pos s2]
  unfold tx
  by_cases c : d = 1
  · constructor
    · simp [m_text_of, runP, b_text_of, bnd_a, ret_a, lft_ok, lft_err, lfo_some, nameM_a, peek_a, fin_l, fin_r, run_v, run_n, op1_a, op2_a, opL_a, runs_n, runs_c, fins_n, fins_c, evs_n, evs_c, tupM_a, lstM_a, lstO_a, andM_a, orM_a, notM_a, andV_a, orV_a, notV_a, asB_b, ifM_a, tstM_a, tstD_a, truth_b, truth_i, truth_n, bndS_a, retM_a, retOM_a, dropM_a, seqS_a, nextM_a, failS_a, ifS_a, asgM_a, asgO_a, tgN_a, tgTup_t, tgLst_t, tgsNil_a, tgsCons_a, putS_a, setS_z, setS_s, getS_z, getS_s, parM_a, callP_a, callF_a, callR_a, frzM_a, setIx_a, intD_i, addD_i, addD_t, addD_l, addD_s, subD_i, mulD_i, fdivD_i, modD_i, powD_i, negD_i, eqD_i, eqD_s, neD_i, neD_s, ltD_i, leD_i, gtD_i, geD_i, isND_a, notND_a, isBD_a, notBD_a, ixD_l, ixD_t, ixD_k, absL_i, maxL_i, minL_i, lenL_l, lenL_t, lenL_k, intL_i, intL_b, tupL_l, lstL_l, lstL_t, items_l, items_t, itM_a, rngM1_a, rngM2_a, range1_i, forM_a, forL_n, sumL_l, allL_l, anyL_l, sliceM_a, optM_n, optM_s, lrM1_a, compM_a, methM_a, startE, List.map_cons, List.map_nil, List.length_cons, List.length_nil, List.cons_append, List.nil_append, if_true, if_false, Bool.not_true, Bool.not_false, Bool.false_eq_true, reduceCtorEq, decide_true, decide_false, Nat.reduceAdd, ite_true, ite_false, sizeLine, atI, ixN, c, strL_i, l1]
    · simp [m__law_text, runP, b__law_text, bnd_a, ret_a, lft_ok, lft_err, lfo_some, nameM_a, peek_a, fin_l, fin_r, run_v, run_n, op1_a, op2_a, opL_a, runs_n, runs_c, fins_n, fins_c, evs_n, evs_c, tupM_a, lstM_a, lstO_a, andM_a, orM_a, notM_a, andV_a, orV_a, notV_a, asB_b, ifM_a, tstM_a, tstD_a, truth_b, truth_i, truth_n, bndS_a, retM_a, retOM_a, dropM_a, seqS_a, nextM_a, failS_a, ifS_a, asgM_a, asgO_a, tgN_a, tgTup_t, tgLst_t, tgsNil_a, tgsCons_a, putS_a, setS_z, setS_s, getS_z, getS_s, parM_a, callP_a, callF_a, callR_a, frzM_a, setIx_a, intD_i, addD_i, addD_t, addD_l, addD_s, subD_i, mulD_i, fdivD_i, modD_i, powD_i, negD_i, eqD_i, eqD_s, neD_i, neD_s, ltD_i, leD_i, gtD_i, geD_i, isND_a, notND_a, isBD_a, notBD_a, ixD_l, ixD_t, ixD_k, absL_i, maxL_i, minL_i, lenL_l, lenL_t, lenL_k, intL_i, intL_b, tupL_l, lstL_l, lstL_t, items_l, items_t, itM_a, rngM1_a, rngM2_a, range1_i, forM_a, forL_n, sumL_l, allL_l, anyL_l, sliceM_a, optM_n, optM_s, lrM1_a, compM_a, methM_a, startE, List.map_cons, List.map_nil, List.length_cons, List.length_nil, List.cons_append, List.nil_append, if_true, if_false, Bool.not_true, Bool.not_false, Bool.false_eq_true, reduceCtorEq, decide_true, decide_false, Nat.reduceAdd, ite_true, ite_false, sizeLine, atI, ixN, c, strL_i, l1]
  · constructor
    · simp [m_text_of, runP, b_text_of, bnd_a, ret_a, lft_ok, lft_err, lfo_some, nameM_a, peek_a, fin_l, fin_r, run_v, run_n, op1_a, op2_a, opL_a, runs_n, runs_c, fins_n, fins_c, evs_n, evs_c, tupM_a, lstM_a, lstO_a, andM_a, orM_a, notM_a, andV_a, orV_a, notV_a, asB_b, ifM_a, tstM_a, tstD_a, truth_b, truth_i, truth_n, bndS_a, retM_a, retOM_a, dropM_a, seqS_a, nextM_a, failS_a, ifS_a, asgM_a, asgO_a, tgN_a, tgTup_t, tgLst_t, tgsNil_a, tgsCons_a, putS_a, setS_z, setS_s, getS_z, getS_s, parM_a, callP_a, callF_a, callR_a, frzM_a, setIx_a, intD_i, addD_i, addD_t, addD_l, addD_s, subD_i, mulD_i, fdivD_i, modD_i, powD_i, negD_i, eqD_i, eqD_s, neD_i, neD_s, ltD_i, leD_i, gtD_i, geD_i, isND_a, notND_a, isBD_a, notBD_a, ixD_l, ixD_t, ixD_k, absL_i, maxL_i, minL_i, lenL_l, lenL_t, lenL_k, intL_i, intL_b, tupL_l, lstL_l, lstL_t, items_l, items_t, itM_a, rngM1_a, rngM2_a, range1_i, forM_a, forL_n, sumL_l, allL_l, anyL_l, sliceM_a, optM_n, optM_s, lrM1_a, compM_a, methM_a, startE, List.map_cons, List.map_nil, List.length_cons, List.length_nil, List.cons_append, List.nil_append, if_true, if_false, Bool.not_true, Bool.not_false, Bool.false_eq_true, reduceCtorEq, decide_true, decide_false, Nat.reduceAdd, ite_true, ite_false, sizeLine, -addD_s, atI, ixN, c, strL_i, l1, l2, a1, a2]
    · simp [m__law_text, runP, b__law_text, bnd_a, ret_a, lft_ok, lft_err, lfo_some, nameM_a, peek_a, fin_l, fin_r, run_v, run_n, op1_a, op2_a, opL_a, runs_n, runs_c, fins_n, fins_c, evs_n, evs_c, tupM_a, lstM_a, lstO_a, andM_a, orM_a, notM_a, andV_a, orV_a, notV_a, asB_b, ifM_a, tstM_a, tstD_a, truth_b, truth_i, truth_n, bndS_a, retM_a, retOM_a, dropM_a, seqS_a, nextM_a, failS_a, ifS_a, asgM_a, asgO_a, tgN_a, tgTup_t, tgLst_t, tgsNil_a, tgsCons_a, putS_a, setS_z, setS_s, getS_z, getS_s, parM_a, callP_a, callF_a, callR_a, frzM_a, setIx_a, intD_i, addD_i, addD_t, addD_l, addD_s, subD_i, mulD_i, fdivD_i, modD_i, powD_i, negD_i, eqD_i, eqD_s, neD_i, neD_s, ltD_i, leD_i, gtD_i, geD_i, isND_a, notND_a, isBD_a, notBD_a, ixD_l, ixD_t, ixD_k, absL_i, maxL_i, minL_i, lenL_l, lenL_t, lenL_k, intL_i, intL_b, tupL_l, lstL_l, lstL_t, items_l, items_t, itM_a, rngM1_a, rngM2_a, range1_i, forM_a, forL_n, sumL_l, allL_l, anyL_l, sliceM_a, optM_n, optM_s, lrM1_a, compM_a, methM_a, startE, List.map_cons, List.map_nil, List.length_cons, List.length_nil, List.cons_append, List.nil_append, if_true, if_false, Bool.not_true, Bool.not_false, Bool.false_eq_true, reduceCtorEq, decide_true, decide_false, Nat.reduceAdd, ite_true, ite_false, sizeLine, -addD_s, atI, ixN, c, strL_i, l1, l2, a1, a2]
/-! ## a count -/
def canon (cs : List Nat) : Bool := !decide (cs = []) && ad cs && (decide (cs = [48]) || !decide (cs.head? = some 48))
theorem str_eq0 {w : Str} : (w = ("" : Str)) ↔ sg w = [] := by
  have e : sg ("" : Str) = [] := by decide
  exact ⟨fun h => by rw [h, e], fun h => sg_ext (by rw [h, e])⟩
theorem str_eq48 {w : Str} : (w = ("0" : Str)) ↔ sg w = [48] := by
  have e : sg ("0" : Str) = [48] := by decide
  exact ⟨fun h => by rw [h, e], fun h => sg_ext (by rw [h, e])⟩
theorem one48 {c : Nat} : ((⟨#[c]⟩ : Str) = ("0" : Str)) ↔ c = 48 := by
  rw [str_eq48]
  show [c] = [48] ↔ _
  simp
theorem at_head {c : Nat} {r : List Nat} : atI (c :: r) 0 = some c := by simp [atI, ixN]
theorem ix_head {w : Str} {c : Nat} {r : List Nat} (hl : w.length ≤ 40) (e : sg w = c :: r) : ixD (.str w) (.int 0) = some (.str ⟨#[c]⟩) := by
  have hz : w.length ≤ sizeLine := by show _ ≤ 16777216; omega
  show (if w.length ≤ sizeLine then (atI (sg w) 0).map fun c => PyData.str ⟨#[c]⟩ else none) = _
  rw [if_pos hz, e, at_head]
  rfl
theorem count_eq {w : Str} (hl : w.length ≤ 40) : m__law_is_count [.str w] = .ok (.bool (canon (sg w))) := by
  have hz : w.length ≤ 16777216 := by omega
  have hc := comp_ad1 (.fz (.str w)) (sg w)
  have hb := bools_ad (sg w)
  by_cases h0 : w = ("" : Str)
  · have hk : canon (sg w) = false := by rw [str_eq0.1 h0]; rfl
    rw [hk]
    simp [m__law_is_count, runP, b__law_is_count, bnd_a, ret_a, lft_ok, lft_err, lfo_some, nameM_a, peek_a, fin_l, fin_r, run_v, run_n, op1_a, op2_a, opL_a, runs_n, runs_c, fins_n, fins_c, evs_n, evs_c, tupM_a, lstM_a, lstO_a, andM_a, orM_a, notM_a, andV_a, orV_a, notV_a, asB_b, ifM_a, tstM_a, tstD_a, truth_b, truth_i, truth_n, bndS_a, retM_a, retOM_a, dropM_a, seqS_a, nextM_a, failS_a, ifS_a, asgM_a, asgO_a, tgN_a, tgTup_t, tgLst_t, tgsNil_a, tgsCons_a, putS_a, setS_z, setS_s, getS_z, getS_s, parM_a, callP_a, callF_a, callR_a, frzM_a, setIx_a, intD_i, addD_i, addD_t, addD_l, addD_s, subD_i, mulD_i, fdivD_i, modD_i, powD_i, negD_i, eqD_i, eqD_s, neD_i, neD_s, ltD_i, leD_i, gtD_i, geD_i, isND_a, notND_a, isBD_a, notBD_a, ixD_l, ixD_t, ixD_k, absL_i, maxL_i, minL_i, lenL_l, lenL_t, lenL_k, intL_i, intL_b, tupL_l, lstL_l, lstL_t, items_l, items_t, itM_a, rngM1_a, rngM2_a, range1_i, forM_a, forL_n, sumL_l, allL_l, anyL_l, sliceM_a, optM_n, optM_s, lrM1_a, compM_a, methM_a, startE, List.map_cons, List.map_nil, List.length_cons, List.length_nil, List.cons_append, List.nil_append, if_true, if_false, Bool.not_true, Bool.not_false, Bool.false_eq_true, reduceCtorEq, decide_true, decide_false, Nat.reduceAdd, ite_true, ite_false, sizeLine, h0]
  · have h0' : sg w ≠ [] := fun e => h0 (str_eq0.2 e)
    cases had : ad (sg w) with
    | false =>
      rw [had] at hb
      have hk : canon (sg w) = false := by unfold canon; rw [had]; simp
      rw [hk]
      simp [m__law_is_count, runP, b__law_is_count, bnd_a, ret_a, lft_ok, lft_err, lfo_some, nameM_a, peek_a, fin_l, fin_r, run_v, run_n, op1_a, op2_a, opL_a, runs_n, runs_c, fins_n, fins_c, evs_n, evs_c, tupM_a, lstM_a, lstO_a, andM_a, orM_a, notM_a, andV_a, orV_a, notV_a, asB_b, ifM_a, tstM_a, tstD_a, truth_b, truth_i, truth_n, bndS_a, retM_a, retOM_a, dropM_a, seqS_a, nextM_a, failS_a, ifS_a, asgM_a, asgO_a, tgN_a, tgTup_t, tgLst_t, tgsNil_a, tgsCons_a, putS_a, setS_z, setS_s, getS_z, getS_s, parM_a, callP_a, callF_a, callR_a, frzM_a, setIx_a, intD_i, addD_i, addD_t, addD_l, addD_s, subD_i, mulD_i, fdivD_i, modD_i, powD_i, negD_i, eqD_i, eqD_s, neD_i, neD_s, ltD_i, leD_i, gtD_i, geD_i, isND_a, notND_a, isBD_a, notBD_a, ixD_l, ixD_t, ixD_k, absL_i, maxL_i, minL_i, lenL_l, lenL_t, lenL_k, intL_i, intL_b, tupL_l, lstL_l, lstL_t, items_l, items_t, itM_a, rngM1_a, rngM2_a, range1_i, forM_a, forL_n, sumL_l, allL_l, anyL_l, sliceM_a, optM_n, optM_s, lrM1_a, compM_a, methM_a, startE, List.map_cons, List.map_nil, List.length_cons, List.length_nil, List.cons_append, List.nil_append, if_true, if_false, Bool.not_true, Bool.not_false, Bool.false_eq_true, reduceCtorEq, decide_true, decide_false, Nat.reduceAdd, ite_true, ite_false, sizeLine, h0, items_s, hz, signs_eq, hidable, wipeE, restE, hc, hb]
    | true =>
      rw [had] at hb
      by_cases h1 : w = ("0" : Str)
      · have hk : canon (sg w) = true := by rw [str_eq48.1 h1]; rfl
        rw [hk]
        simp [m__law_is_count, runP, b__law_is_count, bnd_a, ret_a, lft_ok, lft_err, lfo_some, nameM_a, peek_a, fin_l, fin_r, run_v, run_n, op1_a, op2_a, opL_a, runs_n, runs_c, fins_n, fins_c, evs_n, evs_c, tupM_a, lstM_a, lstO_a, andM_a, orM_a, notM_a, andV_a, orV_a, notV_a, asB_b, ifM_a, tstM_a, tstD_a, truth_b, truth_i, truth_n, bndS_a, retM_a, retOM_a, dropM_a, seqS_a, nextM_a, failS_a, ifS_a, asgM_a, asgO_a, tgN_a, tgTup_t, tgLst_t, tgsNil_a, tgsCons_a, putS_a, setS_z, setS_s, getS_z, getS_s, parM_a, callP_a, callF_a, callR_a, frzM_a, setIx_a, intD_i, addD_i, addD_t, addD_l, addD_s, subD_i, mulD_i, fdivD_i, modD_i, powD_i, negD_i, eqD_i, eqD_s, neD_i, neD_s, ltD_i, leD_i, gtD_i, geD_i, isND_a, notND_a, isBD_a, notBD_a, ixD_l, ixD_t, ixD_k, absL_i, maxL_i, minL_i, lenL_l, lenL_t, lenL_k, intL_i, intL_b, tupL_l, lstL_l, lstL_t, items_l, items_t, itM_a, rngM1_a, rngM2_a, range1_i, forM_a, forL_n, sumL_l, allL_l, anyL_l, sliceM_a, optM_n, optM_s, lrM1_a, compM_a, methM_a, startE, List.map_cons, List.map_nil, List.length_cons, List.length_nil, List.cons_append, List.nil_append, if_true, if_false, Bool.not_true, Bool.not_false, Bool.false_eq_true, reduceCtorEq, decide_true, decide_false, Nat.reduceAdd, ite_true, ite_false, sizeLine, h0, items_s, hz, signs_eq, hidable, wipeE, restE, hc, hb]
        rw [if_pos h1]
        rfl
      · have h1' : sg w ≠ [48] := fun e => h1 (str_eq48.2 e)
        obtain ⟨c, r, e⟩ : ∃ c r, sg w = c :: r := by
          match e : sg w with
          | [] => exact absurd e h0'
          | c :: r => exact ⟨c, r, rfl⟩
        have hix := ix_head hl e
        have hk : canon (sg w) = !decide (c = 48) := by
          unfold canon
          rw [had, decide_eq_false h0', decide_eq_false h1', e]
          simp
        rw [hk]
        simp [m__law_is_count, runP, b__law_is_count, bnd_a, ret_a, lft_ok, lft_err, lfo_some, nameM_a, peek_a, fin_l, fin_r, run_v, run_n, op1_a, op2_a, opL_a, runs_n, runs_c, fins_n, fins_c, evs_n, evs_c, tupM_a, lstM_a, lstO_a, andM_a, orM_a, notM_a, andV_a, orV_a, notV_a, asB_b, ifM_a, tstM_a, tstD_a, truth_b, truth_i, truth_n, bndS_a, retM_a, retOM_a, dropM_a, seqS_a, nextM_a, failS_a, ifS_a, asgM_a, asgO_a, tgN_a, tgTup_t, tgLst_t, tgsNil_a, tgsCons_a, putS_a, setS_z, setS_s, getS_z, getS_s, parM_a, callP_a, callF_a, callR_a, frzM_a, setIx_a, intD_i, addD_i, addD_t, addD_l, addD_s, subD_i, mulD_i, fdivD_i, modD_i, powD_i, negD_i, eqD_i, eqD_s, neD_i, neD_s, ltD_i, leD_i, gtD_i, geD_i, isND_a, notND_a, isBD_a, notBD_a, ixD_l, ixD_t, ixD_k, absL_i, maxL_i, minL_i, lenL_l, lenL_t, lenL_k, intL_i, intL_b, tupL_l, lstL_l, lstL_t, items_l, items_t, itM_a, rngM1_a, rngM2_a, range1_i, forM_a, forL_n, sumL_l, allL_l, anyL_l, sliceM_a, optM_n, optM_s, lrM1_a, compM_a, methM_a, startE, List.map_cons, List.map_nil, List.length_cons, List.length_nil, List.cons_append, List.nil_append, if_true, if_false, Bool.not_true, Bool.not_false, Bool.false_eq_true, reduceCtorEq, decide_true, decide_false, Nat.reduceAdd, ite_true, ite_false, sizeLine, h0, items_s, hz, signs_eq, hidable, wipeE, restE, hc, hb, h1, hix, one48]
/-! ## a whole number read -/
def wok (cs : List Nat) : Bool := !decide (figs cs = []) && ad (figs cs)
def whole (cs : List Nat) : PyData := if wok cs = true then .int (wVal cs) else .none
theorem whole_eq {w : Str} (hl : w.length ≤ 40) : m_read_whole [.str w] = .ok (whole (sg w)) := by
  have hz : w.length ≤ 16777216 := by omega
  have hfl := figS_len w
  have hz2 : (figS w).length ≤ 16777216 := by omega
  have hc := comp_ad2 (.fz (.str w)) (.fz (.str (figS w))) (sg (figS w))
  have hb := bools_ad (sg (figS w))
  have q1 : asgM (ifM (tstD (op2 eqD (.v (sliceM (.n 0) (none) (some (ret (.int 1))))) (.v (ret (.str "-"))))) (sliceM (.n 0) (some (ret (.int 1))) (none)) (nameM 0)) (tgN 1) [.fz (.str w), .un, .un] = .next [.fz (.str w), .fz (.str (figS w)), .un] := by
    unfold figS
    by_cases h : cutS w none (some 1) = ("-" : Str)
    · simp [bnd_a, ret_a, lft_ok, lft_err, lfo_some, nameM_a, peek_a, fin_l, fin_r, run_v, run_n, op1_a, op2_a, opL_a, runs_n, runs_c, fins_n, fins_c, evs_n, evs_c, tupM_a, lstM_a, lstO_a, andM_a, orM_a, notM_a, andV_a, orV_a, notV_a, asB_b, ifM_a, tstM_a, tstD_a, truth_b, truth_i, truth_n, bndS_a, retM_a, retOM_a, dropM_a, seqS_a, nextM_a, failS_a, ifS_a, asgM_a, asgO_a, tgN_a, tgTup_t, tgLst_t, tgsNil_a, tgsCons_a, putS_a, setS_z, setS_s, getS_z, getS_s, parM_a, callP_a, callF_a, callR_a, frzM_a, setIx_a, intD_i, addD_i, addD_t, addD_l, addD_s, subD_i, mulD_i, fdivD_i, modD_i, powD_i, negD_i, eqD_i, eqD_s, neD_i, neD_s, ltD_i, leD_i, gtD_i, geD_i, isND_a, notND_a, isBD_a, notBD_a, ixD_l, ixD_t, ixD_k, absL_i, maxL_i, minL_i, lenL_l, lenL_t, lenL_k, intL_i, intL_b, tupL_l, lstL_l, lstL_t, items_l, items_t, itM_a, rngM1_a, rngM2_a, range1_i, forM_a, forL_n, sumL_l, allL_l, anyL_l, sliceM_a, optM_n, optM_s, lrM1_a, compM_a, methM_a, startE, List.map_cons, List.map_nil, List.length_cons, List.length_nil, List.cons_append, List.nil_append, if_true, if_false, Bool.not_true, Bool.not_false, Bool.false_eq_true, reduceCtorEq, decide_true, decide_false, Nat.reduceAdd, ite_true, ite_false, sizeLine, cutD_s, hz, h]
    · simp [bnd_a, ret_a, lft_ok, lft_err, lfo_some, nameM_a, peek_a, fin_l, fin_r, run_v, run_n, op1_a, op2_a, opL_a, runs_n, runs_c, fins_n, fins_c, evs_n, evs_c, tupM_a, lstM_a, lstO_a, andM_a, orM_a, notM_a, andV_a, orV_a, notV_a, asB_b, ifM_a, tstM_a, tstD_a, truth_b, truth_i, truth_n, bndS_a, retM_a, retOM_a, dropM_a, seqS_a, nextM_a, failS_a, ifS_a, asgM_a, asgO_a, tgN_a, tgTup_t, tgLst_t, tgsNil_a, tgsCons_a, putS_a, setS_z, setS_s, getS_z, getS_s, parM_a, callP_a, callF_a, callR_a, frzM_a, setIx_a, intD_i, addD_i, addD_t, addD_l, addD_s, subD_i, mulD_i, fdivD_i, modD_i, powD_i, negD_i, eqD_i, eqD_s, neD_i, neD_s, ltD_i, leD_i, gtD_i, geD_i, isND_a, notND_a, isBD_a, notBD_a, ixD_l, ixD_t, ixD_k, absL_i, maxL_i, minL_i, lenL_l, lenL_t, lenL_k, intL_i, intL_b, tupL_l, lstL_l, lstL_t, items_l, items_t, itM_a, rngM1_a, rngM2_a, range1_i, forM_a, forL_n, sumL_l, allL_l, anyL_l, sliceM_a, optM_n, optM_s, lrM1_a, compM_a, methM_a, startE, List.map_cons, List.map_nil, List.length_cons, List.length_nil, List.cons_append, List.nil_append, if_true, if_false, Bool.not_true, Bool.not_false, Bool.false_eq_true, reduceCtorEq, decide_true, decide_false, Nat.reduceAdd, ite_true, ite_false, sizeLine, cutD_s, hz, h]
  have hlen : (figS w).length = 0 ↔ figs (sg w) = [] := by
    rw [sg_len, figS_sg]; exact List.length_eq_zero_iff
  have hsz : (figS w).length = (figs (sg w)).length := by rw [sg_len, figS_sg]
  unfold m_read_whole runP b_read_whole
  rw [seqS_a, show startE 3 ([PyData.str w].map .fz) = [.fz (.str w), .un, .un] from rfl, q1]
  rw [figS_sg] at hc hb
  by_cases h0 : figs (sg w) = []
  · have hk : whole (sg w) = .none := by unfold whole wok; rw [decide_eq_true h0]; rfl
    have h1 : ¬ (1 : Int) ≤ (figS w).length := by rw [hlen.2 h0]; decide
    rw [hk]
    simp [bnd_a, ret_a, lft_ok, lft_err, lfo_some, nameM_a, peek_a, fin_l, fin_r, run_v, run_n, op1_a, op2_a, opL_a, runs_n, runs_c, fins_n, fins_c, evs_n, evs_c, tupM_a, lstM_a, lstO_a, andM_a, orM_a, notM_a, andV_a, orV_a, notV_a, asB_b, ifM_a, tstM_a, tstD_a, truth_b, truth_i, truth_n, bndS_a, retM_a, retOM_a, dropM_a, seqS_a, nextM_a, failS_a, ifS_a, asgM_a, asgO_a, tgN_a, tgTup_t, tgLst_t, tgsNil_a, tgsCons_a, putS_a, setS_z, setS_s, getS_z, getS_s, parM_a, callP_a, callF_a, callR_a, frzM_a, setIx_a, intD_i, addD_i, addD_t, addD_l, addD_s, subD_i, mulD_i, fdivD_i, modD_i, powD_i, negD_i, eqD_i, eqD_s, neD_i, neD_s, ltD_i, leD_i, gtD_i, geD_i, isND_a, notND_a, isBD_a, notBD_a, ixD_l, ixD_t, ixD_k, absL_i, maxL_i, minL_i, lenL_l, lenL_t, lenL_k, intL_i, intL_b, tupL_l, lstL_l, lstL_t, items_l, items_t, itM_a, rngM1_a, rngM2_a, range1_i, forM_a, forL_n, sumL_l, allL_l, anyL_l, sliceM_a, optM_n, optM_s, lrM1_a, compM_a, methM_a, startE, List.map_cons, List.map_nil, List.length_cons, List.length_nil, List.cons_append, List.nil_append, if_true, if_false, Bool.not_true, Bool.not_false, Bool.false_eq_true, reduceCtorEq, decide_true, decide_false, Nat.reduceAdd, ite_true, ite_false, sizeLine, chM_a, lenL_s, hz2, h1]
  · have h1 : (1 : Int) ≤ (figS w).length := by
      have : (figS w).length ≠ 0 := fun z => h0 (hlen.1 z)
      omega
    have h2 : ((figS w).length : Int) ≤ 4000 := by omega
    cases had : ad (figs (sg w)) with
    | false =>
      rw [had] at hb
      have hk : whole (sg w) = .none := by unfold whole wok; rw [had]; simp
      rw [hk]
      simp [bnd_a, ret_a, lft_ok, lft_err, lfo_some, nameM_a, peek_a, fin_l, fin_r, run_v, run_n, op1_a, op2_a, opL_a, runs_n, runs_c, fins_n, fins_c, evs_n, evs_c, tupM_a, lstM_a, lstO_a, andM_a, orM_a, notM_a, andV_a, orV_a, notV_a, asB_b, ifM_a, tstM_a, tstD_a, truth_b, truth_i, truth_n, bndS_a, retM_a, retOM_a, dropM_a, seqS_a, nextM_a, failS_a, ifS_a, asgM_a, asgO_a, tgN_a, tgTup_t, tgLst_t, tgsNil_a, tgsCons_a, putS_a, setS_z, setS_s, getS_z, getS_s, parM_a, callP_a, callF_a, callR_a, frzM_a, setIx_a, intD_i, addD_i, addD_t, addD_l, addD_s, subD_i, mulD_i, fdivD_i, modD_i, powD_i, negD_i, eqD_i, eqD_s, neD_i, neD_s, ltD_i, leD_i, gtD_i, geD_i, isND_a, notND_a, isBD_a, notBD_a, ixD_l, ixD_t, ixD_k, absL_i, maxL_i, minL_i, lenL_l, lenL_t, lenL_k, intL_i, intL_b, tupL_l, lstL_l, lstL_t, items_l, items_t, itM_a, rngM1_a, rngM2_a, range1_i, forM_a, forL_n, sumL_l, allL_l, anyL_l, sliceM_a, optM_n, optM_s, lrM1_a, compM_a, methM_a, startE, List.map_cons, List.map_nil, List.length_cons, List.length_nil, List.cons_append, List.nil_append, if_true, if_false, Bool.not_true, Bool.not_false, Bool.false_eq_true, reduceCtorEq, decide_true, decide_false, Nat.reduceAdd, ite_true, ite_false, sizeLine, chM_a, lenL_s, hz2, h1, h2, items_s, signs_eq, figS_sg, hidable, wipeE, restE, hc, hb]
    | true =>
      rw [had] at hb
      have hk : whole (sg w) = .int (wVal (sg w)) := by unfold whole wok; rw [had, decide_eq_false h0]; rfl
      have hi := int_reads (z := w) (ad_iff.1 had) h0 (by omega)
      rw [hk]
      simp [bnd_a, ret_a, lft_ok, lft_err, lfo_some, nameM_a, peek_a, fin_l, fin_r, run_v, run_n, op1_a, op2_a, opL_a, runs_n, runs_c, fins_n, fins_c, evs_n, evs_c, tupM_a, lstM_a, lstO_a, andM_a, orM_a, notM_a, andV_a, orV_a, notV_a, asB_b, ifM_a, tstM_a, tstD_a, truth_b, truth_i, truth_n, bndS_a, retM_a, retOM_a, dropM_a, seqS_a, nextM_a, failS_a, ifS_a, asgM_a, asgO_a, tgN_a, tgTup_t, tgLst_t, tgsNil_a, tgsCons_a, putS_a, setS_z, setS_s, getS_z, getS_s, parM_a, callP_a, callF_a, callR_a, frzM_a, setIx_a, intD_i, addD_i, addD_t, addD_l, addD_s, subD_i, mulD_i, fdivD_i, modD_i, powD_i, negD_i, eqD_i, eqD_s, neD_i, neD_s, ltD_i, leD_i, gtD_i, geD_i, isND_a, notND_a, isBD_a, notBD_a, ixD_l, ixD_t, ixD_k, absL_i, maxL_i, minL_i, lenL_l, lenL_t, lenL_k, intL_i, intL_b, tupL_l, lstL_l, lstL_t, items_l, items_t, itM_a, rngM1_a, rngM2_a, range1_i, forM_a, forL_n, sumL_l, allL_l, anyL_l, sliceM_a, optM_n, optM_s, lrM1_a, compM_a, methM_a, startE, List.map_cons, List.map_nil, List.length_cons, List.length_nil, List.cons_append, List.nil_append, if_true, if_false, Bool.not_true, Bool.not_false, Bool.false_eq_true, reduceCtorEq, decide_true, decide_false, Nat.reduceAdd, ite_true, ite_false, sizeLine, chM_a, lenL_s, hz2, h1, h2, items_s, signs_eq, figS_sg, hidable, wipeE, restE, hc, hb, hi]
end Lk01
set_option Elab.async false
set_option linter.all false
set_option maxRecDepth 100000
set_option maxHeartbeats 4000000
set_option exponentiation.threshold 2000
namespace Lk01
open M PySem PySem.Spec PyProof.Rows L2 PySem.NumText
theorem comp_whole (a b c e : M.Slot) : ∀ ws : List Str, (∀ w ∈ ws, w.length ≤ 40) → compL [4] (tgN 4) (M.ret true) (callP m_read_whole [nameM 4]) (ws.map .str) [a, b, c, e, .un] = .ok (ws.map fun w => whole (sg w), [a, b, c, e, .un]) := by
  intro ws
  induction ws with
  | nil => intro _; rfl
  | cons w r ih =>
    intro h
    have hw := whole_eq (h w (List.mem_cons_self ..))
    have := ih fun v hv => h v (List.mem_cons_of_mem _ hv)
    rw [List.map_cons]
    unfold compL compT
    simp [bnd_a, ret_a, lft_ok, lft_err, lfo_some, nameM_a, peek_a, fin_l, fin_r, run_v, run_n, op1_a, op2_a, opL_a, runs_n, runs_c, fins_n, fins_c, evs_n, evs_c, tupM_a, lstM_a, lstO_a, andM_a, orM_a, notM_a, andV_a, orV_a, notV_a, asB_b, ifM_a, tstM_a, tstD_a, truth_b, truth_i, truth_n, bndS_a, retM_a, retOM_a, dropM_a, seqS_a, nextM_a, failS_a, ifS_a, asgM_a, asgO_a, tgN_a, tgTup_t, tgLst_t, tgsNil_a, tgsCons_a, putS_a, setS_z, setS_s, getS_z, getS_s, parM_a, callP_a, callF_a, callR_a, frzM_a, setIx_a, intD_i, addD_i, addD_t, addD_l, addD_s, subD_i, mulD_i, fdivD_i, modD_i, powD_i, negD_i, eqD_i, eqD_s, neD_i, neD_s, ltD_i, leD_i, gtD_i, geD_i, isND_a, notND_a, isBD_a, notBD_a, ixD_l, ixD_t, ixD_k, absL_i, maxL_i, minL_i, lenL_l, lenL_t, lenL_k, intL_i, intL_b, tupL_l, lstL_l, lstL_t, items_l, items_t, itM_a, rngM1_a, rngM2_a, range1_i, forM_a, forL_n, sumL_l, allL_l, anyL_l, sliceM_a, optM_n, optM_s, lrM1_a, compM_a, methM_a, startE, List.map_cons, List.map_nil, List.length_cons, List.length_nil, List.cons_append, List.nil_append, if_true, if_false, Bool.not_true, Bool.not_false, Bool.false_eq_true, reduceCtorEq, decide_true, decide_false, Nat.reduceAdd, ite_true, ite_false, sizeLine, hw, wipeE, this]
theorem split_slash (z : Str) (hl : z.length ≤ 40) : splF z (.str "/") = some (.list ((Txt.split z ⟨#[47]⟩).map .str)) := by
  rw [slash_eq, splF_s, if_pos]
  refine ⟨rfl, ?_⟩
  show _ ≤ 16777216
  omega
theorem word_len {z w : Str} (hl : z.length ≤ 40) (h : w ∈ Txt.split z ⟨#[47]⟩) : w.length ≤ 40 := Nat.le_trans (part_short h) hl
/-- what a fraction read is -/
def frOf (n m : Int) (z : Str) : PyData := if 0 < m ∧ Int.gcd n m = 1 ∧ tx n m = z then fr n m else .none
theorem isfr_any (n m : Int) : m_is_fraction_value [fr n m] = .ok (.bool (decide (0 < m ∧ Int.gcd n m = 1))) := by
  by_cases h : m < 1
  · have h2 : ¬ (0 < m ∧ Int.gcd n m = 1) := fun z => by omega
    rw [decide_eq_false h2]
    simp [m_is_fraction_value, runP, b_is_fraction_value, bnd_a, ret_a, lft_ok, lft_err, lfo_some, nameM_a, peek_a, fin_l, fin_r, run_v, run_n, op1_a, op2_a, opL_a, runs_n, runs_c, fins_n, fins_c, evs_n, evs_c, tupM_a, lstM_a, lstO_a, andM_a, orM_a, notM_a, andV_a, orV_a, notV_a, asB_b, ifM_a, tstM_a, tstD_a, truth_b, truth_i, truth_n, bndS_a, retM_a, retOM_a, dropM_a, seqS_a, nextM_a, failS_a, ifS_a, asgM_a, asgO_a, tgN_a, tgTup_t, tgLst_t, tgsNil_a, tgsCons_a, putS_a, setS_z, setS_s, getS_z, getS_s, parM_a, callP_a, callF_a, callR_a, frzM_a, setIx_a, intD_i, addD_i, addD_t, addD_l, addD_s, subD_i, mulD_i, fdivD_i, modD_i, powD_i, negD_i, eqD_i, eqD_s, neD_i, neD_s, ltD_i, leD_i, gtD_i, geD_i, isND_a, notND_a, isBD_a, notBD_a, ixD_l, ixD_t, ixD_k, absL_i, maxL_i, minL_i, lenL_l, lenL_t, lenL_k, intL_i, intL_b, tupL_l, lstL_l, lstL_t, items_l, items_t, itM_a, rngM1_a, rngM2_a, range1_i, forM_a, forL_n, sumL_l, allL_l, anyL_l, sliceM_a, optM_n, optM_s, lrM1_a, compM_a, methM_a, startE, List.map_cons, List.map_nil, List.length_cons, List.length_nil, List.cons_append, List.nil_append, if_true, if_false, Bool.not_true, Bool.not_false, Bool.false_eq_true, reduceCtorEq, decide_true, decide_false, Nat.reduceAdd, ite_true, ite_false, sizeLine, is_int, is_pair2, atI, ixN, h]
  · have h2 : (0 < m ∧ Int.gcd n m = 1) ↔ Int.gcd n m = 1 := ⟨fun z => z.2, fun z => ⟨by omega, z⟩⟩
    have h3 : decide (0 < m ∧ Int.gcd n m = 1) = decide (Int.gcd n m = 1) := by simp only [h2]
    rw [h3]
    have : (((Int.gcd n m : Nat) : Int) = 1) ↔ Int.gcd n m = 1 := by omega
    simp [m_is_fraction_value, runP, b_is_fraction_value, bnd_a, ret_a, lft_ok, lft_err, lfo_some, nameM_a, peek_a, fin_l, fin_r, run_v, run_n, op1_a, op2_a, opL_a, runs_n, runs_c, fins_n, fins_c, evs_n, evs_c, tupM_a, lstM_a, lstO_a, andM_a, orM_a, notM_a, andV_a, orV_a, notV_a, asB_b, ifM_a, tstM_a, tstD_a, truth_b, truth_i, truth_n, bndS_a, retM_a, retOM_a, dropM_a, seqS_a, nextM_a, failS_a, ifS_a, asgM_a, asgO_a, tgN_a, tgTup_t, tgLst_t, tgsNil_a, tgsCons_a, putS_a, setS_z, setS_s, getS_z, getS_s, parM_a, callP_a, callF_a, callR_a, frzM_a, setIx_a, intD_i, addD_i, addD_t, addD_l, addD_s, subD_i, mulD_i, fdivD_i, modD_i, powD_i, negD_i, eqD_i, eqD_s, neD_i, neD_s, ltD_i, leD_i, gtD_i, geD_i, isND_a, notND_a, isBD_a, notBD_a, ixD_l, ixD_t, ixD_k, absL_i, maxL_i, minL_i, lenL_l, lenL_t, lenL_k, intL_i, intL_b, tupL_l, lstL_l, lstL_t, items_l, items_t, itM_a, rngM1_a, rngM2_a, range1_i, forM_a, forL_n, sumL_l, allL_l, anyL_l, sliceM_a, optM_n, optM_s, lrM1_a, compM_a, methM_a, startE, List.map_cons, List.map_nil, List.length_cons, List.length_nil, List.cons_append, List.nil_append, if_true, if_false, Bool.not_true, Bool.not_false, Bool.false_eq_true, reduceCtorEq, decide_true, decide_false, Nat.reduceAdd, ite_true, ite_false, sizeLine, is_int, is_pair2, gcd_eq, atI, ixN, h, this]
theorem wval_small {cs : List Nat} (h : wok cs = true) (hl : cs.length ≤ 40) : (wVal cs).natAbs < num40 := by
  unfold wok at h
  rw [Bool.and_eq_true] at h
  have hd := ad_iff.1 h.2
  have hf := Nat.le_trans (figs_len cs) hl
  have hv := val_lt _ _ rfl hd
  have hp : 10 ^ (figs cs).length ≤ 10 ^ 40 := Nat.pow_le_pow_right (by decide) hf
  have : (wVal cs).natAbs = digitsVal (figs cs) := by
    by_cases q : ∃ r, cs = 45 :: r
    · obtain ⟨r, rfl⟩ := q
      show (-((digitsVal r : Nat) : Int)).natAbs = digitsVal r
      omega
    · have q' : ∀ r, cs ≠ 45 :: r := fun r e => q ⟨r, e⟩
      rw [wVal_of q', figs_of q']
      omega
  rw [this]
  show _ < 10 ^ 40
  omega
theorem readP1 {z u : Str} (hl : z.length ≤ 40) (e : Txt.split z ⟨#[47]⟩ = [u]) : m_read_fraction [.str z] = .ok (if wok (sg u) = true then frOf (wVal (sg u)) 1 z else .none) := by
  have hu : u.length ≤ 40 := word_len hl (by rw [e]; exact List.mem_cons_self ..)
  have hs := split_slash z hl
  rw [e] at hs
  have hc := comp_whole (.fz (.str z)) (.fz (.list [.str u])) .un .un [u] (fun w hw => by rw [List.mem_singleton.1 hw]; exact hu)
  rw [List.map_cons, List.map_nil, List.map_cons, List.map_nil] at hc
  cases hk : wok (sg u) with
  | false =>
    have hw : whole (sg u) = .none := by unfold whole; rw [hk]; rfl
    rw [hw] at hc
    have hin : inD .none (.list [.none]) = some (.bool true) := rfl
    simp [m_read_fraction, runP, b_read_fraction, bnd_a, ret_a, lft_ok, lft_err, lfo_some, nameM_a, peek_a, fin_l, fin_r, run_v, run_n, op1_a, op2_a, opL_a, runs_n, runs_c, fins_n, fins_c, evs_n, evs_c, tupM_a, lstM_a, lstO_a, andM_a, orM_a, notM_a, andV_a, orV_a, notV_a, asB_b, ifM_a, tstM_a, tstD_a, truth_b, truth_i, truth_n, bndS_a, retM_a, retOM_a, dropM_a, seqS_a, nextM_a, failS_a, ifS_a, asgM_a, asgO_a, tgN_a, tgTup_t, tgLst_t, tgsNil_a, tgsCons_a, putS_a, setS_z, setS_s, getS_z, getS_s, parM_a, callP_a, callF_a, callR_a, frzM_a, setIx_a, intD_i, addD_i, addD_t, addD_l, addD_s, subD_i, mulD_i, fdivD_i, modD_i, powD_i, negD_i, eqD_i, eqD_s, neD_i, neD_s, ltD_i, leD_i, gtD_i, geD_i, isND_a, notND_a, isBD_a, notBD_a, ixD_l, ixD_t, ixD_k, absL_i, maxL_i, minL_i, lenL_l, lenL_t, lenL_k, intL_i, intL_b, tupL_l, lstL_l, lstL_t, items_l, items_t, itM_a, rngM1_a, rngM2_a, range1_i, forM_a, forL_n, sumL_l, allL_l, anyL_l, sliceM_a, optM_n, optM_s, lrM1_a, compM_a, methM_a, startE, List.map_cons, List.map_nil, List.length_cons, List.length_nil, List.cons_append, List.nil_append, if_true, if_false, Bool.not_true, Bool.not_false, Bool.false_eq_true, reduceCtorEq, decide_true, decide_false, Nat.reduceAdd, ite_true, ite_false, sizeLine, isD, tyD, splM_a, asS_s, hs, hidable, wipeE, restE, hc, hin]
  | true =>
    have hw : whole (sg u) = .int (wVal (sg u)) := by unfold whole; rw [hk]; rfl
    rw [hw] at hc
    have hsm := wval_small hk (by rw [← sg_len]; exact hu)
    generalize wVal (sg u) = n at *
    have hin : inD .none (.list [.int n]) = some (.bool false) := rfl
    have ht := (text_eq (n := n) (d := 1) hsm (by decide)).1
    have hi := isfr_any n 1
    have hg : (0 < (1 : Int) ∧ Int.gcd n 1 = 1) = True := by simp
    rw [decide_eq_true (of_eq_true hg)] at hi
    have hf : frOf n 1 z = if tx n 1 = z then fr n 1 else .none := by unfold frOf; simp
    rw [if_pos rfl, hf]
    by_cases c : tx n 1 = z
    · rw [if_pos c]
      simp [m_read_fraction, runP, b_read_fraction, bnd_a, ret_a, lft_ok, lft_err, lfo_some, nameM_a, peek_a, fin_l, fin_r, run_v, run_n, op1_a, op2_a, opL_a, runs_n, runs_c, fins_n, fins_c, evs_n, evs_c, tupM_a, lstM_a, lstO_a, andM_a, orM_a, notM_a, andV_a, orV_a, notV_a, asB_b, ifM_a, tstM_a, tstD_a, truth_b, truth_i, truth_n, bndS_a, retM_a, retOM_a, dropM_a, seqS_a, nextM_a, failS_a, ifS_a, asgM_a, asgO_a, tgN_a, tgTup_t, tgLst_t, tgsNil_a, tgsCons_a, putS_a, setS_z, setS_s, getS_z, getS_s, parM_a, callP_a, callF_a, callR_a, frzM_a, setIx_a, intD_i, addD_i, addD_t, addD_l, addD_s, subD_i, mulD_i, fdivD_i, modD_i, powD_i, negD_i, eqD_i, eqD_s, neD_i, neD_s, ltD_i, leD_i, gtD_i, geD_i, isND_a, notND_a, isBD_a, notBD_a, ixD_l, ixD_t, ixD_k, absL_i, maxL_i, minL_i, lenL_l, lenL_t, lenL_k, intL_i, intL_b, tupL_l, lstL_l, lstL_t, items_l, items_t, itM_a, rngM1_a, rngM2_a, range1_i, forM_a, forL_n, sumL_l, allL_l, anyL_l, sliceM_a, optM_n, optM_s, lrM1_a, compM_a, methM_a, startE, List.map_cons, List.map_nil, List.length_cons, List.length_nil, List.cons_append, List.nil_append, if_true, if_false, Bool.not_true, Bool.not_false, Bool.false_eq_true, reduceCtorEq, decide_true, decide_false, Nat.reduceAdd, ite_true, ite_false, sizeLine, isD, tyD, splM_a, asS_s, hs, hidable, wipeE, restE, hc, hin, atI, ixN, hi, ht, c]
    · rw [if_neg c]
      simp [m_read_fraction, runP, b_read_fraction, bnd_a, ret_a, lft_ok, lft_err, lfo_some, nameM_a, peek_a, fin_l, fin_r, run_v, run_n, op1_a, op2_a, opL_a, runs_n, runs_c, fins_n, fins_c, evs_n, evs_c, tupM_a, lstM_a, lstO_a, andM_a, orM_a, notM_a, andV_a, orV_a, notV_a, asB_b, ifM_a, tstM_a, tstD_a, truth_b, truth_i, truth_n, bndS_a, retM_a, retOM_a, dropM_a, seqS_a, nextM_a, failS_a, ifS_a, asgM_a, asgO_a, tgN_a, tgTup_t, tgLst_t, tgsNil_a, tgsCons_a, putS_a, setS_z, setS_s, getS_z, getS_s, parM_a, callP_a, callF_a, callR_a, frzM_a, setIx_a, intD_i, addD_i, addD_t, addD_l, addD_s, subD_i, mulD_i, fdivD_i, modD_i, powD_i, negD_i, eqD_i, eqD_s, neD_i, neD_s, ltD_i, leD_i, gtD_i, geD_i, isND_a, notND_a, isBD_a, notBD_a, ixD_l, ixD_t, ixD_k, absL_i, maxL_i, minL_i, lenL_l, lenL_t, lenL_k, intL_i, intL_b, tupL_l, lstL_l, lstL_t, items_l, items_t, itM_a, rngM1_a, rngM2_a, range1_i, forM_a, forL_n, sumL_l, allL_l, anyL_l, sliceM_a, optM_n, optM_s, lrM1_a, compM_a, methM_a, startE, List.map_cons, List.map_nil, List.length_cons, List.length_nil, List.cons_append, List.nil_append, if_true, if_false, Bool.not_true, Bool.not_false, Bool.false_eq_true, reduceCtorEq, decide_true, decide_false, Nat.reduceAdd, ite_true, ite_false, sizeLine, isD, tyD, splM_a, asS_s, hs, hidable, wipeE, restE, hc, hin, atI, ixN, hi, ht, c]
theorem readP2 {z u v : Str} (hl : z.length ≤ 40) (e : Txt.split z ⟨#[47]⟩ = [u, v]) : m_read_fraction [.str z] = .ok (if wok (sg u) = true ∧ wok (sg v) = true then frOf (wVal (sg u)) (wVal (sg v)) z else .none) := by
  have hu : u.length ≤ 40 := word_len hl (by rw [e]; exact List.mem_cons_self ..)
  have hv : v.length ≤ 40 := word_len hl (by rw [e]; exact List.mem_cons_of_mem _ (List.mem_cons_self ..))
  have hs := split_slash z hl
  rw [e] at hs
  have hc := comp_whole (.fz (.str z)) (.fz (.list [.str u, .str v])) .un .un [u, v] (fun w hw => by
    rcases List.mem_cons.1 hw with rfl | hw
    · exact hu
    · rw [List.mem_singleton.1 hw]; exact hv)
  simp only [List.map_cons, List.map_nil] at hc
  cases hk : wok (sg u) with
  | false =>
    have hw : whole (sg u) = .none := by unfold whole; rw [hk]; rfl
    rw [hw] at hc
    have hin : inD .none (.list [.none, whole (sg v)]) = some (.bool true) := by
      unfold whole
      cases wok (sg v) <;> rfl
    simp [m_read_fraction, runP, b_read_fraction, bnd_a, ret_a, lft_ok, lft_err, lfo_some, nameM_a, peek_a, fin_l, fin_r, run_v, run_n, op1_a, op2_a, opL_a, runs_n, runs_c, fins_n, fins_c, evs_n, evs_c, tupM_a, lstM_a, lstO_a, andM_a, orM_a, notM_a, andV_a, orV_a, notV_a, asB_b, ifM_a, tstM_a, tstD_a, truth_b, truth_i, truth_n, bndS_a, retM_a, retOM_a, dropM_a, seqS_a, nextM_a, failS_a, ifS_a, asgM_a, asgO_a, tgN_a, tgTup_t, tgLst_t, tgsNil_a, tgsCons_a, putS_a, setS_z, setS_s, getS_z, getS_s, parM_a, callP_a, callF_a, callR_a, frzM_a, setIx_a, intD_i, addD_i, addD_t, addD_l, addD_s, subD_i, mulD_i, fdivD_i, modD_i, powD_i, negD_i, eqD_i, eqD_s, neD_i, neD_s, ltD_i, leD_i, gtD_i, geD_i, isND_a, notND_a, isBD_a, notBD_a, ixD_l, ixD_t, ixD_k, absL_i, maxL_i, minL_i, lenL_l, lenL_t, lenL_k, intL_i, intL_b, tupL_l, lstL_l, lstL_t, items_l, items_t, itM_a, rngM1_a, rngM2_a, range1_i, forM_a, forL_n, sumL_l, allL_l, anyL_l, sliceM_a, optM_n, optM_s, lrM1_a, compM_a, methM_a, startE, List.map_cons, List.map_nil, List.length_cons, List.length_nil, List.cons_append, List.nil_append, if_true, if_false, Bool.not_true, Bool.not_false, Bool.false_eq_true, reduceCtorEq, decide_true, decide_false, Nat.reduceAdd, ite_true, ite_false, sizeLine, isD, tyD, splM_a, asS_s, hs, hidable, wipeE, restE, hc, hin]
  | true =>
    have hw : whole (sg u) = .int (wVal (sg u)) := by unfold whole; rw [hk]; rfl
    rw [hw] at hc
    have hsm := wval_small hk (by rw [← sg_len]; exact hu)
    generalize wVal (sg u) = n at *
    cases hk2 : wok (sg v) with
    | false =>
      have hw : whole (sg v) = .none := by unfold whole; rw [hk2]; rfl
      rw [hw] at hc
      have hin : inD .none (.list [.int n, .none]) = some (.bool true) := rfl
      simp [m_read_fraction, runP, b_read_fraction, bnd_a, ret_a, lft_ok, lft_err, lfo_some, nameM_a, peek_a, fin_l, fin_r, run_v, run_n, op1_a, op2_a, opL_a, runs_n, runs_c, fins_n, fins_c, evs_n, evs_c, tupM_a, lstM_a, lstO_a, andM_a, orM_a, notM_a, andV_a, orV_a, notV_a, asB_b, ifM_a, tstM_a, tstD_a, truth_b, truth_i, truth_n, bndS_a, retM_a, retOM_a, dropM_a, seqS_a, nextM_a, failS_a, ifS_a, asgM_a, asgO_a, tgN_a, tgTup_t, tgLst_t, tgsNil_a, tgsCons_a, putS_a, setS_z, setS_s, getS_z, getS_s, parM_a, callP_a, callF_a, callR_a, frzM_a, setIx_a, intD_i, addD_i, addD_t, addD_l, addD_s, subD_i, mulD_i, fdivD_i, modD_i, powD_i, negD_i, eqD_i, eqD_s, neD_i, neD_s, ltD_i, leD_i, gtD_i, geD_i, isND_a, notND_a, isBD_a, notBD_a, ixD_l, ixD_t, ixD_k, absL_i, maxL_i, minL_i, lenL_l, lenL_t, lenL_k, intL_i, intL_b, tupL_l, lstL_l, lstL_t, items_l, items_t, itM_a, rngM1_a, rngM2_a, range1_i, forM_a, forL_n, sumL_l, allL_l, anyL_l, sliceM_a, optM_n, optM_s, lrM1_a, compM_a, methM_a, startE, List.map_cons, List.map_nil, List.length_cons, List.length_nil, List.cons_append, List.nil_append, if_true, if_false, Bool.not_true, Bool.not_false, Bool.false_eq_true, reduceCtorEq, decide_true, decide_false, Nat.reduceAdd, ite_true, ite_false, sizeLine, isD, tyD, splM_a, asS_s, hs, hidable, wipeE, restE, hc, hin]
    | true =>
      have hw : whole (sg v) = .int (wVal (sg v)) := by unfold whole; rw [hk2]; rfl
      rw [hw] at hc
      have hsm2 := wval_small hk2 (by rw [← sg_len]; exact hv)
      generalize wVal (sg v) = m at *
      have hin : inD .none (.list [.int n, .int m]) = some (.bool false) := rfl
      have ht := (text_eq hsm hsm2).1
      have hi := isfr_any n m
      rw [if_pos ⟨rfl, rfl⟩]
      unfold frOf
      by_cases hg : 0 < m ∧ Int.gcd n m = 1
      · rw [decide_eq_true hg] at hi
        by_cases c : tx n m = z
        · rw [if_pos ⟨hg.1, hg.2, c⟩]
          simp [m_read_fraction, runP, b_read_fraction, bnd_a, ret_a, lft_ok, lft_err, lfo_some, nameM_a, peek_a, fin_l, fin_r, run_v, run_n, op1_a, op2_a, opL_a, runs_n, runs_c, fins_n, fins_c, evs_n, evs_c, tupM_a, lstM_a, lstO_a, andM_a, orM_a, notM_a, andV_a, orV_a, notV_a, asB_b, ifM_a, tstM_a, tstD_a, truth_b, truth_i, truth_n, bndS_a, retM_a, retOM_a, dropM_a, seqS_a, nextM_a, failS_a, ifS_a, asgM_a, asgO_a, tgN_a, tgTup_t, tgLst_t, tgsNil_a, tgsCons_a, putS_a, setS_z, setS_s, getS_z, getS_s, parM_a, callP_a, callF_a, callR_a, frzM_a, setIx_a, intD_i, addD_i, addD_t, addD_l, addD_s, subD_i, mulD_i, fdivD_i, modD_i, powD_i, negD_i, eqD_i, eqD_s, neD_i, neD_s, ltD_i, leD_i, gtD_i, geD_i, isND_a, notND_a, isBD_a, notBD_a, ixD_l, ixD_t, ixD_k, absL_i, maxL_i, minL_i, lenL_l, lenL_t, lenL_k, intL_i, intL_b, tupL_l, lstL_l, lstL_t, items_l, items_t, itM_a, rngM1_a, rngM2_a, range1_i, forM_a, forL_n, sumL_l, allL_l, anyL_l, sliceM_a, optM_n, optM_s, lrM1_a, compM_a, methM_a, startE, List.map_cons, List.map_nil, List.length_cons, List.length_nil, List.cons_append, List.nil_append, if_true, if_false, Bool.not_true, Bool.not_false, Bool.false_eq_true, reduceCtorEq, decide_true, decide_false, Nat.reduceAdd, ite_true, ite_false, sizeLine, isD, tyD, splM_a, asS_s, hs, hidable, wipeE, restE, hc, hin, atI, ixN, hi, ht, c]
        · rw [if_neg (fun q => c q.2.2)]
          simp [m_read_fraction, runP, b_read_fraction, bnd_a, ret_a, lft_ok, lft_err, lfo_some, nameM_a, peek_a, fin_l, fin_r, run_v, run_n, op1_a, op2_a, opL_a, runs_n, runs_c, fins_n, fins_c, evs_n, evs_c, tupM_a, lstM_a, lstO_a, andM_a, orM_a, notM_a, andV_a, orV_a, notV_a, asB_b, ifM_a, tstM_a, tstD_a, truth_b, truth_i, truth_n, bndS_a, retM_a, retOM_a, dropM_a, seqS_a, nextM_a, failS_a, ifS_a, asgM_a, asgO_a, tgN_a, tgTup_t, tgLst_t, tgsNil_a, tgsCons_a, putS_a, setS_z, setS_s, getS_z, getS_s, parM_a, callP_a, callF_a, callR_a, frzM_a, setIx_a, intD_i, addD_i, addD_t, addD_l, addD_s, subD_i, mulD_i, fdivD_i, modD_i, powD_i, negD_i, eqD_i, eqD_s, neD_i, neD_s, ltD_i, leD_i, gtD_i, geD_i, isND_a, notND_a, isBD_a, notBD_a, ixD_l, ixD_t, ixD_k, absL_i, maxL_i, minL_i, lenL_l, lenL_t, lenL_k, intL_i, intL_b, tupL_l, lstL_l, lstL_t, items_l, items_t, itM_a, rngM1_a, rngM2_a, range1_i, forM_a, forL_n, sumL_l, allL_l, anyL_l, sliceM_a, optM_n, optM_s, lrM1_a, compM_a, methM_a, startE, List.map_cons, List.map_nil, List.length_cons, List.length_nil, List.cons_append, List.nil_append, if_true, if_false, Bool.not_true, Bool.not_false, Bool.false_eq_true, reduceCtorEq, decide_true, decide_false, Nat.reduceAdd, ite_true, ite_false, sizeLine, isD, tyD, splM_a, asS_s, hs, hidable, wipeE, restE, hc, hin, atI, ixN, hi, ht, c]
      · rw [decide_eq_false hg] at hi
        rw [if_neg (fun q => hg ⟨q.1, q.2.1⟩)]
        simp [m_read_fraction, runP, b_read_fraction, bnd_a, ret_a, lft_ok, lft_err, lfo_some, nameM_a, peek_a, fin_l, fin_r, run_v, run_n, op1_a, op2_a, opL_a, runs_n, runs_c, fins_n, fins_c, evs_n, evs_c, tupM_a, lstM_a, lstO_a, andM_a, orM_a, notM_a, andV_a, orV_a, notV_a, asB_b, ifM_a, tstM_a, tstD_a, truth_b, truth_i, truth_n, bndS_a, retM_a, retOM_a, dropM_a, seqS_a, nextM_a, failS_a, ifS_a, asgM_a, asgO_a, tgN_a, tgTup_t, tgLst_t, tgsNil_a, tgsCons_a, putS_a, setS_z, setS_s, getS_z, getS_s, parM_a, callP_a, callF_a, callR_a, frzM_a, setIx_a, intD_i, addD_i, addD_t, addD_l, addD_s, subD_i, mulD_i, fdivD_i, modD_i, powD_i, negD_i, eqD_i, eqD_s, neD_i, neD_s, ltD_i, leD_i, gtD_i, geD_i, isND_a, notND_a, isBD_a, notBD_a, ixD_l, ixD_t, ixD_k, absL_i, maxL_i, minL_i, lenL_l, lenL_t, lenL_k, intL_i, intL_b, tupL_l, lstL_l, lstL_t, items_l, items_t, itM_a, rngM1_a, rngM2_a, range1_i, forM_a, forL_n, sumL_l, allL_l, anyL_l, sliceM_a, optM_n, optM_s, lrM1_a, compM_a, methM_a, startE, List.map_cons, List.map_nil, List.length_cons, List.length_nil, List.cons_append, List.nil_append, if_true, if_false, Bool.not_true, Bool.not_false, Bool.false_eq_true, reduceCtorEq, decide_true, decide_false, Nat.reduceAdd, ite_true, ite_false, sizeLine, isD, tyD, splM_a, asS_s, hs, hidable, wipeE, restE, hc, hin, atI, ixN, hi]
theorem readP3 {z : Str} (hl : z.length ≤ 40) (e : 2 < (Txt.split z ⟨#[47]⟩).length) : m_read_fraction [.str z] = .ok .none := by
  have hs := split_slash z hl
  have hc := comp_whole (.fz (.str z)) (.fz (.list ((Txt.split z ⟨#[47]⟩).map .str))) .un .un (Txt.split z ⟨#[47]⟩) (fun w hw => word_len hl hw)
  generalize Txt.split z ⟨#[47]⟩ = ws at *
  have h2 : (2 : Int) < ws.length := by omega
  simp [m_read_fraction, runP, b_read_fraction, bnd_a, ret_a, lft_ok, lft_err, lfo_some, nameM_a, peek_a, fin_l, fin_r, run_v, run_n, op1_a, op2_a, opL_a, runs_n, runs_c, fins_n, fins_c, evs_n, evs_c, tupM_a, lstM_a, lstO_a, andM_a, orM_a, notM_a, andV_a, orV_a, notV_a, asB_b, ifM_a, tstM_a, tstD_a, truth_b, truth_i, truth_n, bndS_a, retM_a, retOM_a, dropM_a, seqS_a, nextM_a, failS_a, ifS_a, asgM_a, asgO_a, tgN_a, tgTup_t, tgLst_t, tgsNil_a, tgsCons_a, putS_a, setS_z, setS_s, getS_z, getS_s, parM_a, callP_a, callF_a, callR_a, frzM_a, setIx_a, intD_i, addD_i, addD_t, addD_l, addD_s, subD_i, mulD_i, fdivD_i, modD_i, powD_i, negD_i, eqD_i, eqD_s, neD_i, neD_s, ltD_i, leD_i, gtD_i, geD_i, isND_a, notND_a, isBD_a, notBD_a, ixD_l, ixD_t, ixD_k, absL_i, maxL_i, minL_i, lenL_l, lenL_t, lenL_k, intL_i, intL_b, tupL_l, lstL_l, lstL_t, items_l, items_t, itM_a, rngM1_a, rngM2_a, range1_i, forM_a, forL_n, sumL_l, allL_l, anyL_l, sliceM_a, optM_n, optM_s, lrM1_a, compM_a, methM_a, startE, List.map_cons, List.map_nil, List.length_cons, List.length_nil, List.cons_append, List.nil_append, if_true, if_false, Bool.not_true, Bool.not_false, Bool.false_eq_true, reduceCtorEq, decide_true, decide_false, Nat.reduceAdd, ite_true, ite_false, sizeLine, isD, tyD, splM_a, asS_s, hs, hidable, wipeE, restE, hc, h2]
end Lk01
set_option Elab.async false
set_option linter.all false
set_option maxRecDepth 100000
set_option maxHeartbeats 4000000
set_option exponentiation.threshold 2000
namespace Lk01
open M PySem PySem.Spec PyProof.Rows L2 PySem.NumText
theorem ne_fr (n d m e : Int) : neD (fr n d) (fr m e) = some (.bool (!decide (n = m ∧ d = e))) := by
  simp [neD, SeqAt.shaped, PyData.eqv, PyData.canLay0, PyData.canLayAll0, PyData.depth, PyData.depthAll, PyData.eqvAll]
  rfl
theorem mk_ne {n m : Int} (hm : 0 < m) : neD (mkF n m) (fr n m) = some (.bool (!decide (Int.gcd n m = 1))) := by
  unfold mkF mkP
  rw [if_neg (by omega), ne_fr]
  have : (n.fdiv (Int.gcd n m : Int) = n ∧ m.fdiv (Int.gcd n m : Int) = m) ↔ Int.gcd n m = 1 := by
    constructor
    · intro h
      have hd : ((Int.gcd n m : Nat) : Int) ∣ m := Int.gcd_dvd_right n m
      have h2 := h.2
      rw [Int.fdiv_eq_ediv_of_nonneg _ (by omega)] at h2
      have h3 := Int.ediv_mul_cancel hd
      rw [h2] at h3
      have : ((Int.gcd n m : Nat) : Int) = 1 := Int.eq_of_mul_eq_mul_left (a := m) (by omega) (by rw [h3, Int.mul_one])
      omega
    · intro h
      rw [h]
      simp
  simp only [this]
theorem canon_ad {cs : List Nat} (h : canon cs = true) : AllDigits cs ∧ cs ≠ [] ∧ (cs = [48] ∨ cs.head? ≠ some 48) := by
  unfold canon at h
  rw [Bool.and_eq_true, Bool.and_eq_true, Bool.or_eq_true, Bool.not_eq_true', Bool.not_eq_true', decide_eq_false_iff_not, decide_eq_false_iff_not, decide_eq_true_eq] at h
  exact ⟨ad_iff.1 h.1.2, h.1.1, h.2⟩
theorem canon_of {cs : List Nat} (h1 : AllDigits cs) (h2 : cs ≠ []) (h3 : cs = [48] ∨ cs.head? ≠ some 48) : canon cs = true := by
  unfold canon
  rw [Bool.and_eq_true, Bool.and_eq_true, Bool.or_eq_true, Bool.not_eq_true', Bool.not_eq_true', decide_eq_false_iff_not, decide_eq_false_iff_not, decide_eq_true_eq]
  exact ⟨⟨h2, ad_iff.2 h1⟩, h3⟩
theorem canon_dg (m : Nat) : canon (dg m) = true := canon_of (dg_digits m) (dg_ne m) (by
  match e : dg m with
  | [] => exact absurd e (dg_ne m)
  | c :: r =>
    by_cases h : c = 48
    · subst h
      left
      rw [dg_head e]
    · right
      simp [h])
theorem wok_of {cs : List Nat} (h : canon (figs cs) = true) : wok cs = true := by
  obtain ⟨h1, h2, _⟩ := canon_ad h
  unfold wok
  rw [Bool.and_eq_true, Bool.not_eq_true', decide_eq_false_iff_not]
  exact ⟨h2, ad_iff.2 h1⟩
theorem figs_ad {cs : List Nat} (h : AllDigits cs) : figs cs = cs := figs_of fun r e => by
  have := h 45 (by rw [e]; exact List.mem_cons_self ..)
  omega
noncomputable def R1 : SM := asgM (splM (nameM 0) (ret (.str "/"))) (tgN 1)
noncomputable def R2 : SM := asgM (ifM (tstD (op2 eqD (.v (sliceM (.v (op2 ixD (.n 1) (.v (ret (.int 0))))) (none) (some (ret (.int 1))))) (.v (ret (.str "-"))))) (sliceM (.v (op2 ixD (.n 1) (.v (ret (.int 0))))) (some (ret (.int 1))) (none)) (op2 ixD (.n 1) (.v (ret (.int 0))))) (tgN 2)
noncomputable def R3 : SM := ifS (orM (tstD (op2 gtD (.v (opL lenL [.n 1])) (.v (ret (.int 2))))) (orM (notM (tstM (.v (callP m__law_is_count [nameM 2])))) (orM (andM (tstD (op2 eqD (.v (opL lenL [.n 1])) (.v (ret (.int 2))))) (notM (tstM (.v (callP m__law_is_count [op2 ixD (.n 1) (.v (ret (.int 1)))]))))) (tstD (op2 gtD (.v (opL lenL [.n 0])) (.v (ret (.int 30)))))))) (retM (ret .none)) (nextM)
noncomputable def R4 : SM := asgM (tupM [opL intL [.v (op2 ixD (.n 1) (.v (ret (.int 0))))], ifM (tstD (op2 eqD (.v (opL lenL [.n 1])) (.v (ret (.int 2))))) (opL intL [.v (op2 ixD (.n 1) (.v (ret (.int 1))))]) (ret (.int 1))]) (tgN 3)
noncomputable def R5 : SM := ifS (orM (tstD (op2 eqD (.v (op2 ixD (.n 3) (.v (ret (.int 1))))) (.v (ret (.int 0))))) (orM (tstD (op2 neD (.v (callP m__law_made [op2 ixD (.n 3) (.v (ret (.int 0))), op2 ixD (.n 3) (.v (ret (.int 1)))])) (.n 3))) (tstD (op2 neD (.v (callP m__law_text [nameM 3])) (.n 0))))) (retM (ret .none)) (nextM)
noncomputable def R6 : SM := retM (nameM 3)
theorem R_all : b__law_read = seqS R1 (seqS R2 (seqS R3 (seqS R4 (seqS R5 (R6))))) := rfl
theorem r1_eq {z : Str} {ws : List PyData} (h : splF z (.str "/") = some (.list ws)) : R1 [.fz (.str z), .un, .un, .un] = .next [.fz (.str z), .fz (.list ws), .un, .un] := by
  simp [R1, bnd_a, ret_a, lft_ok, lft_err, lfo_some, nameM_a, peek_a, fin_l, fin_r, run_v, run_n, op1_a, op2_a, opL_a, runs_n, runs_c, fins_n, fins_c, evs_n, evs_c, tupM_a, lstM_a, lstO_a, andM_a, orM_a, notM_a, andV_a, orV_a, notV_a, asB_b, ifM_a, tstM_a, tstD_a, truth_b, truth_i, truth_n, bndS_a, retM_a, retOM_a, dropM_a, seqS_a, nextM_a, failS_a, ifS_a, asgM_a, asgO_a, tgN_a, tgTup_t, tgLst_t, tgsNil_a, tgsCons_a, putS_a, setS_z, setS_s, getS_z, getS_s, parM_a, callP_a, callF_a, callR_a, frzM_a, setIx_a, intD_i, addD_i, addD_t, addD_l, addD_s, subD_i, mulD_i, fdivD_i, modD_i, powD_i, negD_i, eqD_i, eqD_s, neD_i, neD_s, ltD_i, leD_i, gtD_i, geD_i, isND_a, notND_a, isBD_a, notBD_a, ixD_l, ixD_t, ixD_k, absL_i, maxL_i, minL_i, lenL_l, lenL_t, lenL_k, intL_i, intL_b, tupL_l, lstL_l, lstL_t, items_l, items_t, itM_a, rngM1_a, rngM2_a, range1_i, forM_a, forL_n, sumL_l, allL_l, anyL_l, sliceM_a, optM_n, optM_s, lrM1_a, compM_a, methM_a, startE, List.map_cons, List.map_nil, List.length_cons, List.length_nil, List.cons_append, List.nil_append, if_true, if_false, Bool.not_true, Bool.not_false, Bool.false_eq_true, reduceCtorEq, decide_true, decide_false, Nat.reduceAdd, ite_true, ite_false, sizeLine, splM_a, asS_s, h]
theorem r2_eq (z : Str) (ws : List PyData) (u : Str) (hu : u.length ≤ 40) : R2 [.fz (.str z), .fz (.list (.str u :: ws)), .un, .un] = .next [.fz (.str z), .fz (.list (.str u :: ws)), .fz (.str (figS u)), .un] := by
  have hz : u.length ≤ 16777216 := by omega
  have ha : atI (.str u :: ws) 0 = some (.str u) := by simp [atI, ixN]
  unfold figS
  by_cases h : cutS u none (some 1) = ("-" : Str)
  · simp [R2, bnd_a, ret_a, lft_ok, lft_err, lfo_some, nameM_a, peek_a, fin_l, fin_r, run_v, run_n, op1_a, op2_a, opL_a, runs_n, runs_c, fins_n, fins_c, evs_n, evs_c, tupM_a, lstM_a, lstO_a, andM_a, orM_a, notM_a, andV_a, orV_a, notV_a, asB_b, ifM_a, tstM_a, tstD_a, truth_b, truth_i, truth_n, bndS_a, retM_a, retOM_a, dropM_a, seqS_a, nextM_a, failS_a, ifS_a, asgM_a, asgO_a, tgN_a, tgTup_t, tgLst_t, tgsNil_a, tgsCons_a, putS_a, setS_z, setS_s, getS_z, getS_s, parM_a, callP_a, callF_a, callR_a, frzM_a, setIx_a, intD_i, addD_i, addD_t, addD_l, addD_s, subD_i, mulD_i, fdivD_i, modD_i, powD_i, negD_i, eqD_i, eqD_s, neD_i, neD_s, ltD_i, leD_i, gtD_i, geD_i, isND_a, notND_a, isBD_a, notBD_a, ixD_l, ixD_t, ixD_k, absL_i, maxL_i, minL_i, lenL_l, lenL_t, lenL_k, intL_i, intL_b, tupL_l, lstL_l, lstL_t, items_l, items_t, itM_a, rngM1_a, rngM2_a, range1_i, forM_a, forL_n, sumL_l, allL_l, anyL_l, sliceM_a, optM_n, optM_s, lrM1_a, compM_a, methM_a, startE, List.map_cons, List.map_nil, List.length_cons, List.length_nil, List.cons_append, List.nil_append, if_true, if_false, Bool.not_true, Bool.not_false, Bool.false_eq_true, reduceCtorEq, decide_true, decide_false, Nat.reduceAdd, ite_true, ite_false, sizeLine, cutD_s, hz, h, ha]
  · simp [R2, bnd_a, ret_a, lft_ok, lft_err, lfo_some, nameM_a, peek_a, fin_l, fin_r, run_v, run_n, op1_a, op2_a, opL_a, runs_n, runs_c, fins_n, fins_c, evs_n, evs_c, tupM_a, lstM_a, lstO_a, andM_a, orM_a, notM_a, andV_a, orV_a, notV_a, asB_b, ifM_a, tstM_a, tstD_a, truth_b, truth_i, truth_n, bndS_a, retM_a, retOM_a, dropM_a, seqS_a, nextM_a, failS_a, ifS_a, asgM_a, asgO_a, tgN_a, tgTup_t, tgLst_t, tgsNil_a, tgsCons_a, putS_a, setS_z, setS_s, getS_z, getS_s, parM_a, callP_a, callF_a, callR_a, frzM_a, setIx_a, intD_i, addD_i, addD_t, addD_l, addD_s, subD_i, mulD_i, fdivD_i, modD_i, powD_i, negD_i, eqD_i, eqD_s, neD_i, neD_s, ltD_i, leD_i, gtD_i, geD_i, isND_a, notND_a, isBD_a, notBD_a, ixD_l, ixD_t, ixD_k, absL_i, maxL_i, minL_i, lenL_l, lenL_t, lenL_k, intL_i, intL_b, tupL_l, lstL_l, lstL_t, items_l, items_t, itM_a, rngM1_a, rngM2_a, range1_i, forM_a, forL_n, sumL_l, allL_l, anyL_l, sliceM_a, optM_n, optM_s, lrM1_a, compM_a, methM_a, startE, List.map_cons, List.map_nil, List.length_cons, List.length_nil, List.cons_append, List.nil_append, if_true, if_false, Bool.not_true, Bool.not_false, Bool.false_eq_true, reduceCtorEq, decide_true, decide_false, Nat.reduceAdd, ite_true, ite_false, sizeLine, cutD_s, hz, h, ha]
theorem st4 (d : PyData) : startE 4 ([d].map .fz) = [.fz d, .un, .un, .un] := rfl
theorem readL3 {z : Str} (hl : z.length ≤ 30) (e : 2 < (Txt.split z ⟨#[47]⟩).length) : m__law_read [.str z] = .ok .none := by
  have hs := split_slash z (by omega)
  match e2 : Txt.split z ⟨#[47]⟩ with
  | [] => rw [e2] at e; simp at e
  | u :: ws =>
    have hu : u.length ≤ 40 := word_len (z := z) (by omega) (by rw [e2]; exact List.mem_cons_self ..)
    rw [e2] at hs e
    have h2 : (2 : Int) < (ws.length : Int) + 1 := by simp at e; omega
    rw [List.map_cons] at hs
    have q1 := r1_eq hs
    have q2 := r2_eq z (ws.map .str) u hu
    unfold m__law_read runP
    rw [R_all, st4]
    simp only [seqS_a, q1, q2]
    simp [R3, bnd_a, ret_a, lft_ok, lft_err, lfo_some, nameM_a, peek_a, fin_l, fin_r, run_v, run_n, op1_a, op2_a, opL_a, runs_n, runs_c, fins_n, fins_c, evs_n, evs_c, tupM_a, lstM_a, lstO_a, andM_a, orM_a, notM_a, andV_a, orV_a, notV_a, asB_b, ifM_a, tstM_a, tstD_a, truth_b, truth_i, truth_n, bndS_a, retM_a, retOM_a, dropM_a, seqS_a, nextM_a, failS_a, ifS_a, asgM_a, asgO_a, tgN_a, tgTup_t, tgLst_t, tgsNil_a, tgsCons_a, putS_a, setS_z, setS_s, getS_z, getS_s, parM_a, callP_a, callF_a, callR_a, frzM_a, setIx_a, intD_i, addD_i, addD_t, addD_l, addD_s, subD_i, mulD_i, fdivD_i, modD_i, powD_i, negD_i, eqD_i, eqD_s, neD_i, neD_s, ltD_i, leD_i, gtD_i, geD_i, isND_a, notND_a, isBD_a, notBD_a, ixD_l, ixD_t, ixD_k, absL_i, maxL_i, minL_i, lenL_l, lenL_t, lenL_k, intL_i, intL_b, tupL_l, lstL_l, lstL_t, items_l, items_t, itM_a, rngM1_a, rngM2_a, range1_i, forM_a, forL_n, sumL_l, allL_l, anyL_l, sliceM_a, optM_n, optM_s, lrM1_a, compM_a, methM_a, startE, List.map_cons, List.map_nil, List.length_cons, List.length_nil, List.cons_append, List.nil_append, if_true, if_false, Bool.not_true, Bool.not_false, Bool.false_eq_true, reduceCtorEq, decide_true, decide_false, Nat.reduceAdd, ite_true, ite_false, sizeLine, h2]
theorem tail_eq {z : Str} {n m : Int} {ws : List PyData} {t : M.Slot} (hn : n.natAbs < num40) (hm : m.natAbs < num40) (h0 : 0 ≤ m) : (match seqS R5 R6 [.fz (.str z), .fz (.list ws), t, .fz (fr n m)] with
    | .ret d ρ => R.ok d
    | .retO ds ρ => R.ok (.list ds)
    | .next ρ => R.ok .none
    | .err c d => R.err c d
    | x => R.fail) = .ok (frOf n m z) := by
  by_cases c0 : m = 0
  · have hf : frOf n m z = .none := by unfold frOf; rw [if_neg (by omega)]
    rw [hf]
    subst c0
    simp [R5, R6, bnd_a, ret_a, lft_ok, lft_err, lfo_some, nameM_a, peek_a, fin_l, fin_r, run_v, run_n, op1_a, op2_a, opL_a, runs_n, runs_c, fins_n, fins_c, evs_n, evs_c, tupM_a, lstM_a, lstO_a, andM_a, orM_a, notM_a, andV_a, orV_a, notV_a, asB_b, ifM_a, tstM_a, tstD_a, truth_b, truth_i, truth_n, bndS_a, retM_a, retOM_a, dropM_a, seqS_a, nextM_a, failS_a, ifS_a, asgM_a, asgO_a, tgN_a, tgTup_t, tgLst_t, tgsNil_a, tgsCons_a, putS_a, setS_z, setS_s, getS_z, getS_s, parM_a, callP_a, callF_a, callR_a, frzM_a, setIx_a, intD_i, addD_i, addD_t, addD_l, addD_s, subD_i, mulD_i, fdivD_i, modD_i, powD_i, negD_i, eqD_i, eqD_s, neD_i, neD_s, ltD_i, leD_i, gtD_i, geD_i, isND_a, notND_a, isBD_a, notBD_a, ixD_l, ixD_t, ixD_k, absL_i, maxL_i, minL_i, lenL_l, lenL_t, lenL_k, intL_i, intL_b, tupL_l, lstL_l, lstL_t, items_l, items_t, itM_a, rngM1_a, rngM2_a, range1_i, forM_a, forL_n, sumL_l, allL_l, anyL_l, sliceM_a, optM_n, optM_s, lrM1_a, compM_a, methM_a, startE, List.map_cons, List.map_nil, List.length_cons, List.length_nil, List.cons_append, List.nil_append, if_true, if_false, Bool.not_true, Bool.not_false, Bool.false_eq_true, reduceCtorEq, decide_true, decide_false, Nat.reduceAdd, ite_true, ite_false, sizeLine, atI, ixN]
  · have g := lmade_eq (n := n) c0 (big40 hm)
    have hne := mk_ne (n := n) (m := m) (by omega)
    have ht := (text_eq hn hm).2
    generalize mkF n m = v at *
    unfold frOf
    by_cases c1 : Int.gcd n m = 1
    · by_cases c2 : tx n m = z
      · rw [if_pos ⟨by omega, c1, c2⟩]
        simp [R5, R6, bnd_a, ret_a, lft_ok, lft_err, lfo_some, nameM_a, peek_a, fin_l, fin_r, run_v, run_n, op1_a, op2_a, opL_a, runs_n, runs_c, fins_n, fins_c, evs_n, evs_c, tupM_a, lstM_a, lstO_a, andM_a, orM_a, notM_a, andV_a, orV_a, notV_a, asB_b, ifM_a, tstM_a, tstD_a, truth_b, truth_i, truth_n, bndS_a, retM_a, retOM_a, dropM_a, seqS_a, nextM_a, failS_a, ifS_a, asgM_a, asgO_a, tgN_a, tgTup_t, tgLst_t, tgsNil_a, tgsCons_a, putS_a, setS_z, setS_s, getS_z, getS_s, parM_a, callP_a, callF_a, callR_a, frzM_a, setIx_a, intD_i, addD_i, addD_t, addD_l, addD_s, subD_i, mulD_i, fdivD_i, modD_i, powD_i, negD_i, eqD_i, eqD_s, neD_i, neD_s, ltD_i, leD_i, gtD_i, geD_i, isND_a, notND_a, isBD_a, notBD_a, ixD_l, ixD_t, ixD_k, absL_i, maxL_i, minL_i, lenL_l, lenL_t, lenL_k, intL_i, intL_b, tupL_l, lstL_l, lstL_t, items_l, items_t, itM_a, rngM1_a, rngM2_a, range1_i, forM_a, forL_n, sumL_l, allL_l, anyL_l, sliceM_a, optM_n, optM_s, lrM1_a, compM_a, methM_a, startE, List.map_cons, List.map_nil, List.length_cons, List.length_nil, List.cons_append, List.nil_append, if_true, if_false, Bool.not_true, Bool.not_false, Bool.false_eq_true, reduceCtorEq, decide_true, decide_false, Nat.reduceAdd, ite_true, ite_false, sizeLine, -neD_i, atI, ixN, c0, g, hne, c1, ht, c2]
      · rw [if_neg (fun q => c2 q.2.2)]
        simp [R5, R6, bnd_a, ret_a, lft_ok, lft_err, lfo_some, nameM_a, peek_a, fin_l, fin_r, run_v, run_n, op1_a, op2_a, opL_a, runs_n, runs_c, fins_n, fins_c, evs_n, evs_c, tupM_a, lstM_a, lstO_a, andM_a, orM_a, notM_a, andV_a, orV_a, notV_a, asB_b, ifM_a, tstM_a, tstD_a, truth_b, truth_i, truth_n, bndS_a, retM_a, retOM_a, dropM_a, seqS_a, nextM_a, failS_a, ifS_a, asgM_a, asgO_a, tgN_a, tgTup_t, tgLst_t, tgsNil_a, tgsCons_a, putS_a, setS_z, setS_s, getS_z, getS_s, parM_a, callP_a, callF_a, callR_a, frzM_a, setIx_a, intD_i, addD_i, addD_t, addD_l, addD_s, subD_i, mulD_i, fdivD_i, modD_i, powD_i, negD_i, eqD_i, eqD_s, neD_i, neD_s, ltD_i, leD_i, gtD_i, geD_i, isND_a, notND_a, isBD_a, notBD_a, ixD_l, ixD_t, ixD_k, absL_i, maxL_i, minL_i, lenL_l, lenL_t, lenL_k, intL_i, intL_b, tupL_l, lstL_l, lstL_t, items_l, items_t, itM_a, rngM1_a, rngM2_a, range1_i, forM_a, forL_n, sumL_l, allL_l, anyL_l, sliceM_a, optM_n, optM_s, lrM1_a, compM_a, methM_a, startE, List.map_cons, List.map_nil, List.length_cons, List.length_nil, List.cons_append, List.nil_append, if_true, if_false, Bool.not_true, Bool.not_false, Bool.false_eq_true, reduceCtorEq, decide_true, decide_false, Nat.reduceAdd, ite_true, ite_false, sizeLine, -neD_i, atI, ixN, c0, g, hne, c1, ht, c2]
    · rw [if_neg (fun q => c1 q.2.1)]
      simp [R5, R6, bnd_a, ret_a, lft_ok, lft_err, lfo_some, nameM_a, peek_a, fin_l, fin_r, run_v, run_n, op1_a, op2_a, opL_a, runs_n, runs_c, fins_n, fins_c, evs_n, evs_c, tupM_a, lstM_a, lstO_a, andM_a, orM_a, notM_a, andV_a, orV_a, notV_a, asB_b, ifM_a, tstM_a, tstD_a, truth_b, truth_i, truth_n, bndS_a, retM_a, retOM_a, dropM_a, seqS_a, nextM_a, failS_a, ifS_a, asgM_a, asgO_a, tgN_a, tgTup_t, tgLst_t, tgsNil_a, tgsCons_a, putS_a, setS_z, setS_s, getS_z, getS_s, parM_a, callP_a, callF_a, callR_a, frzM_a, setIx_a, intD_i, addD_i, addD_t, addD_l, addD_s, subD_i, mulD_i, fdivD_i, modD_i, powD_i, negD_i, eqD_i, eqD_s, neD_i, neD_s, ltD_i, leD_i, gtD_i, geD_i, isND_a, notND_a, isBD_a, notBD_a, ixD_l, ixD_t, ixD_k, absL_i, maxL_i, minL_i, lenL_l, lenL_t, lenL_k, intL_i, intL_b, tupL_l, lstL_l, lstL_t, items_l, items_t, itM_a, rngM1_a, rngM2_a, range1_i, forM_a, forL_n, sumL_l, allL_l, anyL_l, sliceM_a, optM_n, optM_s, lrM1_a, compM_a, methM_a, startE, List.map_cons, List.map_nil, List.length_cons, List.length_nil, List.cons_append, List.nil_append, if_true, if_false, Bool.not_true, Bool.not_false, Bool.false_eq_true, reduceCtorEq, decide_true, decide_false, Nat.reduceAdd, ite_true, ite_false, sizeLine, -neD_i, atI, ixN, c0, g, hne, c1]
theorem readL1 {z u : Str} (hl : z.length ≤ 30) (e : Txt.split z ⟨#[47]⟩ = [u]) : m__law_read [.str z] = .ok (if canon (figs (sg u)) = true then frOf (wVal (sg u)) 1 z else .none) := by
  have hu : u.length ≤ 40 := word_len (z := z) (by omega) (by rw [e]; exact List.mem_cons_self ..)
  have hs := split_slash z (by omega)
  rw [e, List.map_cons, List.map_nil] at hs
  have q1 := r1_eq hs
  have q2 := r2_eq z [] u hu
  have hc := count_eq (w := figS u) (Nat.le_trans (figS_len u) hu)
  rw [figS_sg] at hc
  have hz : z.length ≤ 16777216 := by omega
  have h30 : ¬ (30 : Int) < z.length := by omega
  unfold m__law_read runP
  rw [R_all, st4]
  simp only [seqS_a, q1, q2]
  cases hk : canon (figs (sg u)) with
  | false =>
    rw [hk] at hc
    simp [R3, bnd_a, ret_a, lft_ok, lft_err, lfo_some, nameM_a, peek_a, fin_l, fin_r, run_v, run_n, op1_a, op2_a, opL_a, runs_n, runs_c, fins_n, fins_c, evs_n, evs_c, tupM_a, lstM_a, lstO_a, andM_a, orM_a, notM_a, andV_a, orV_a, notV_a, asB_b, ifM_a, tstM_a, tstD_a, truth_b, truth_i, truth_n, bndS_a, retM_a, retOM_a, dropM_a, seqS_a, nextM_a, failS_a, ifS_a, asgM_a, asgO_a, tgN_a, tgTup_t, tgLst_t, tgsNil_a, tgsCons_a, putS_a, setS_z, setS_s, getS_z, getS_s, parM_a, callP_a, callF_a, callR_a, frzM_a, setIx_a, intD_i, addD_i, addD_t, addD_l, addD_s, subD_i, mulD_i, fdivD_i, modD_i, powD_i, negD_i, eqD_i, eqD_s, neD_i, neD_s, ltD_i, leD_i, gtD_i, geD_i, isND_a, notND_a, isBD_a, notBD_a, ixD_l, ixD_t, ixD_k, absL_i, maxL_i, minL_i, lenL_l, lenL_t, lenL_k, intL_i, intL_b, tupL_l, lstL_l, lstL_t, items_l, items_t, itM_a, rngM1_a, rngM2_a, range1_i, forM_a, forL_n, sumL_l, allL_l, anyL_l, sliceM_a, optM_n, optM_s, lrM1_a, compM_a, methM_a, startE, List.map_cons, List.map_nil, List.length_cons, List.length_nil, List.cons_append, List.nil_append, if_true, if_false, Bool.not_true, Bool.not_false, Bool.false_eq_true, reduceCtorEq, decide_true, decide_false, Nat.reduceAdd, ite_true, ite_false, sizeLine, hc]
  | true =>
    rw [hk] at hc
    obtain ⟨k1, k2, k3⟩ := canon_ad hk
    have hi := int_reads (z := u) k1 k2 (by omega)
    have hsm := wval_small (wok_of hk) (by rw [← sg_len]; exact hu)
    generalize wVal (sg u) = n at *
    have tl := tail_eq (z := z) (n := n) (m := 1) (ws := [.str u]) (t := .fz (.str (figS u))) hsm (by decide) (by decide)
    rw [if_pos rfl]
    have q3 : R3 [.fz (.str z), .fz (.list [.str u]), .fz (.str (figS u)), .un] = .next [.fz (.str z), .fz (.list [.str u]), .fz (.str (figS u)), .un] := by
      simp [R3, bnd_a, ret_a, lft_ok, lft_err, lfo_some, nameM_a, peek_a, fin_l, fin_r, run_v, run_n, op1_a, op2_a, opL_a, runs_n, runs_c, fins_n, fins_c, evs_n, evs_c, tupM_a, lstM_a, lstO_a, andM_a, orM_a, notM_a, andV_a, orV_a, notV_a, asB_b, ifM_a, tstM_a, tstD_a, truth_b, truth_i, truth_n, bndS_a, retM_a, retOM_a, dropM_a, seqS_a, nextM_a, failS_a, ifS_a, asgM_a, asgO_a, tgN_a, tgTup_t, tgLst_t, tgsNil_a, tgsCons_a, putS_a, setS_z, setS_s, getS_z, getS_s, parM_a, callP_a, callF_a, callR_a, frzM_a, setIx_a, intD_i, addD_i, addD_t, addD_l, addD_s, subD_i, mulD_i, fdivD_i, modD_i, powD_i, negD_i, eqD_i, eqD_s, neD_i, neD_s, ltD_i, leD_i, gtD_i, geD_i, isND_a, notND_a, isBD_a, notBD_a, ixD_l, ixD_t, ixD_k, absL_i, maxL_i, minL_i, lenL_l, lenL_t, lenL_k, intL_i, intL_b, tupL_l, lstL_l, lstL_t, items_l, items_t, itM_a, rngM1_a, rngM2_a, range1_i, forM_a, forL_n, sumL_l, allL_l, anyL_l, sliceM_a, optM_n, optM_s, lrM1_a, compM_a, methM_a, startE, List.map_cons, List.map_nil, List.length_cons, List.length_nil, List.cons_append, List.nil_append, if_true, if_false, Bool.not_true, Bool.not_false, Bool.false_eq_true, reduceCtorEq, decide_true, decide_false, Nat.reduceAdd, ite_true, ite_false, sizeLine, hc, lenL_s, hz, h30]
    have q4 : R4 [.fz (.str z), .fz (.list [.str u]), .fz (.str (figS u)), .un] = .next [.fz (.str z), .fz (.list [.str u]), .fz (.str (figS u)), .fz (fr n 1)] := by
      simp [R4, bnd_a, ret_a, lft_ok, lft_err, lfo_some, nameM_a, peek_a, fin_l, fin_r, run_v, run_n, op1_a, op2_a, opL_a, runs_n, runs_c, fins_n, fins_c, evs_n, evs_c, tupM_a, lstM_a, lstO_a, andM_a, orM_a, notM_a, andV_a, orV_a, notV_a, asB_b, ifM_a, tstM_a, tstD_a, truth_b, truth_i, truth_n, bndS_a, retM_a, retOM_a, dropM_a, seqS_a, nextM_a, failS_a, ifS_a, asgM_a, asgO_a, tgN_a, tgTup_t, tgLst_t, tgsNil_a, tgsCons_a, putS_a, setS_z, setS_s, getS_z, getS_s, parM_a, callP_a, callF_a, callR_a, frzM_a, setIx_a, intD_i, addD_i, addD_t, addD_l, addD_s, subD_i, mulD_i, fdivD_i, modD_i, powD_i, negD_i, eqD_i, eqD_s, neD_i, neD_s, ltD_i, leD_i, gtD_i, geD_i, isND_a, notND_a, isBD_a, notBD_a, ixD_l, ixD_t, ixD_k, absL_i, maxL_i, minL_i, lenL_l, lenL_t, lenL_k, intL_i, intL_b, tupL_l, lstL_l, lstL_t, items_l, items_t, itM_a, rngM1_a, rngM2_a, range1_i, forM_a, forL_n, sumL_l, allL_l, anyL_l, sliceM_a, optM_n, optM_s, lrM1_a, compM_a, methM_a, startE, List.map_cons, List.map_nil, List.length_cons, List.length_nil, List.cons_append, List.nil_append, if_true, if_false, Bool.not_true, Bool.not_false, Bool.false_eq_true, reduceCtorEq, decide_true, decide_false, Nat.reduceAdd, ite_true, ite_false, sizeLine, atI, ixN, hi]
    simp only [q3, q4]
    simp only [seqS_a] at tl
    exact tl
theorem readL2 {z u v : Str} (hl : z.length ≤ 30) (e : Txt.split z ⟨#[47]⟩ = [u, v]) : m__law_read [.str z] = .ok (if canon (figs (sg u)) = true ∧ canon (sg v) = true then frOf (wVal (sg u)) (wVal (sg v)) z else .none) := by
  have hu : u.length ≤ 40 := word_len (z := z) (by omega) (by rw [e]; exact List.mem_cons_self ..)
  have hv : v.length ≤ 40 := word_len (z := z) (by omega) (by rw [e]; exact List.mem_cons_of_mem _ (List.mem_cons_self ..))
  have hs := split_slash z (by omega)
  rw [e, List.map_cons, List.map_cons, List.map_nil] at hs
  have q1 := r1_eq hs
  have q2 := r2_eq z [.str v] u hu
  have hc := count_eq (w := figS u) (Nat.le_trans (figS_len u) hu)
  have hc2 := count_eq (w := v) hv
  rw [figS_sg] at hc
  have hz : z.length ≤ 16777216 := by omega
  have h30 : ¬ (30 : Int) < z.length := by omega
  unfold m__law_read runP
  rw [R_all, st4]
  simp only [seqS_a, q1, q2]
  cases hk : canon (figs (sg u)) with
  | false =>
    rw [hk] at hc
    simp [R3, bnd_a, ret_a, lft_ok, lft_err, lfo_some, nameM_a, peek_a, fin_l, fin_r, run_v, run_n, op1_a, op2_a, opL_a, runs_n, runs_c, fins_n, fins_c, evs_n, evs_c, tupM_a, lstM_a, lstO_a, andM_a, orM_a, notM_a, andV_a, orV_a, notV_a, asB_b, ifM_a, tstM_a, tstD_a, truth_b, truth_i, truth_n, bndS_a, retM_a, retOM_a, dropM_a, seqS_a, nextM_a, failS_a, ifS_a, asgM_a, asgO_a, tgN_a, tgTup_t, tgLst_t, tgsNil_a, tgsCons_a, putS_a, setS_z, setS_s, getS_z, getS_s, parM_a, callP_a, callF_a, callR_a, frzM_a, setIx_a, intD_i, addD_i, addD_t, addD_l, addD_s, subD_i, mulD_i, fdivD_i, modD_i, powD_i, negD_i, eqD_i, eqD_s, neD_i, neD_s, ltD_i, leD_i, gtD_i, geD_i, isND_a, notND_a, isBD_a, notBD_a, ixD_l, ixD_t, ixD_k, absL_i, maxL_i, minL_i, lenL_l, lenL_t, lenL_k, intL_i, intL_b, tupL_l, lstL_l, lstL_t, items_l, items_t, itM_a, rngM1_a, rngM2_a, range1_i, forM_a, forL_n, sumL_l, allL_l, anyL_l, sliceM_a, optM_n, optM_s, lrM1_a, compM_a, methM_a, startE, List.map_cons, List.map_nil, List.length_cons, List.length_nil, List.cons_append, List.nil_append, if_true, if_false, Bool.not_true, Bool.not_false, Bool.false_eq_true, reduceCtorEq, decide_true, decide_false, Nat.reduceAdd, ite_true, ite_false, sizeLine, hc]
  | true =>
    rw [hk] at hc
    cases hk2 : canon (sg v) with
    | false =>
      rw [hk2] at hc2
      simp [R3, bnd_a, ret_a, lft_ok, lft_err, lfo_some, nameM_a, peek_a, fin_l, fin_r, run_v, run_n, op1_a, op2_a, opL_a, runs_n, runs_c, fins_n, fins_c, evs_n, evs_c, tupM_a, lstM_a, lstO_a, andM_a, orM_a, notM_a, andV_a, orV_a, notV_a, asB_b, ifM_a, tstM_a, tstD_a, truth_b, truth_i, truth_n, bndS_a, retM_a, retOM_a, dropM_a, seqS_a, nextM_a, failS_a, ifS_a, asgM_a, asgO_a, tgN_a, tgTup_t, tgLst_t, tgsNil_a, tgsCons_a, putS_a, setS_z, setS_s, getS_z, getS_s, parM_a, callP_a, callF_a, callR_a, frzM_a, setIx_a, intD_i, addD_i, addD_t, addD_l, addD_s, subD_i, mulD_i, fdivD_i, modD_i, powD_i, negD_i, eqD_i, eqD_s, neD_i, neD_s, ltD_i, leD_i, gtD_i, geD_i, isND_a, notND_a, isBD_a, notBD_a, ixD_l, ixD_t, ixD_k, absL_i, maxL_i, minL_i, lenL_l, lenL_t, lenL_k, intL_i, intL_b, tupL_l, lstL_l, lstL_t, items_l, items_t, itM_a, rngM1_a, rngM2_a, range1_i, forM_a, forL_n, sumL_l, allL_l, anyL_l, sliceM_a, optM_n, optM_s, lrM1_a, compM_a, methM_a, startE, List.map_cons, List.map_nil, List.length_cons, List.length_nil, List.cons_append, List.nil_append, if_true, if_false, Bool.not_true, Bool.not_false, Bool.false_eq_true, reduceCtorEq, decide_true, decide_false, Nat.reduceAdd, ite_true, ite_false, sizeLine, atI, ixN, hc, hc2]
    | true =>
      rw [hk2] at hc2
      obtain ⟨k1, k2, k3⟩ := canon_ad hk
      obtain ⟨j1, j2, j3⟩ := canon_ad hk2
      have hfv := figs_ad j1
      have hi := int_reads (z := u) k1 k2 (by omega)
      have hi2 := int_reads (z := v) (by rw [hfv]; exact j1) (by rw [hfv]; exact j2) (by omega)
      have hsm := wval_small (wok_of hk) (by rw [← sg_len]; exact hu)
      have hsm2 := wval_small (cs := sg v) (wok_of (by rw [hfv]; exact hk2)) (by rw [← sg_len]; exact hv)
      have h0 : 0 ≤ wVal (sg v) := by
        rw [wVal_of fun r e => by
          have := j1 45 (by rw [e]; exact List.mem_cons_self ..)
          omega]
        omega
      generalize wVal (sg u) = n at *
      generalize wVal (sg v) = m at *
      have tl := tail_eq (z := z) (n := n) (m := m) (ws := [.str u, .str v]) (t := .fz (.str (figS u))) hsm hsm2 h0
      rw [if_pos ⟨rfl, rfl⟩]
      have q3 : R3 [.fz (.str z), .fz (.list [.str u, .str v]), .fz (.str (figS u)), .un] = .next [.fz (.str z), .fz (.list [.str u, .str v]), .fz (.str (figS u)), .un] := by
        simp [R3, bnd_a, ret_a, lft_ok, lft_err, lfo_some, nameM_a, peek_a, fin_l, fin_r, run_v, run_n, op1_a, op2_a, opL_a, runs_n, runs_c, fins_n, fins_c, evs_n, evs_c, tupM_a, lstM_a, lstO_a, andM_a, orM_a, notM_a, andV_a, orV_a, notV_a, asB_b, ifM_a, tstM_a, tstD_a, truth_b, truth_i, truth_n, bndS_a, retM_a, retOM_a, dropM_a, seqS_a, nextM_a, failS_a, ifS_a, asgM_a, asgO_a, tgN_a, tgTup_t, tgLst_t, tgsNil_a, tgsCons_a, putS_a, setS_z, setS_s, getS_z, getS_s, parM_a, callP_a, callF_a, callR_a, frzM_a, setIx_a, intD_i, addD_i, addD_t, addD_l, addD_s, subD_i, mulD_i, fdivD_i, modD_i, powD_i, negD_i, eqD_i, eqD_s, neD_i, neD_s, ltD_i, leD_i, gtD_i, geD_i, isND_a, notND_a, isBD_a, notBD_a, ixD_l, ixD_t, ixD_k, absL_i, maxL_i, minL_i, lenL_l, lenL_t, lenL_k, intL_i, intL_b, tupL_l, lstL_l, lstL_t, items_l, items_t, itM_a, rngM1_a, rngM2_a, range1_i, forM_a, forL_n, sumL_l, allL_l, anyL_l, sliceM_a, optM_n, optM_s, lrM1_a, compM_a, methM_a, startE, List.map_cons, List.map_nil, List.length_cons, List.length_nil, List.cons_append, List.nil_append, if_true, if_false, Bool.not_true, Bool.not_false, Bool.false_eq_true, reduceCtorEq, decide_true, decide_false, Nat.reduceAdd, ite_true, ite_false, sizeLine, atI, ixN, hc, hc2, lenL_s, hz, h30]
      have q4 : R4 [.fz (.str z), .fz (.list [.str u, .str v]), .fz (.str (figS u)), .un] = .next [.fz (.str z), .fz (.list [.str u, .str v]), .fz (.str (figS u)), .fz (fr n m)] := by
        simp [R4, bnd_a, ret_a, lft_ok, lft_err, lfo_some, nameM_a, peek_a, fin_l, fin_r, run_v, run_n, op1_a, op2_a, opL_a, runs_n, runs_c, fins_n, fins_c, evs_n, evs_c, tupM_a, lstM_a, lstO_a, andM_a, orM_a, notM_a, andV_a, orV_a, notV_a, asB_b, ifM_a, tstM_a, tstD_a, truth_b, truth_i, truth_n, bndS_a, retM_a, retOM_a, dropM_a, seqS_a, nextM_a, failS_a, ifS_a, asgM_a, asgO_a, tgN_a, tgTup_t, tgLst_t, tgsNil_a, tgsCons_a, putS_a, setS_z, setS_s, getS_z, getS_s, parM_a, callP_a, callF_a, callR_a, frzM_a, setIx_a, intD_i, addD_i, addD_t, addD_l, addD_s, subD_i, mulD_i, fdivD_i, modD_i, powD_i, negD_i, eqD_i, eqD_s, neD_i, neD_s, ltD_i, leD_i, gtD_i, geD_i, isND_a, notND_a, isBD_a, notBD_a, ixD_l, ixD_t, ixD_k, absL_i, maxL_i, minL_i, lenL_l, lenL_t, lenL_k, intL_i, intL_b, tupL_l, lstL_l, lstL_t, items_l, items_t, itM_a, rngM1_a, rngM2_a, range1_i, forM_a, forL_n, sumL_l, allL_l, anyL_l, sliceM_a, optM_n, optM_s, lrM1_a, compM_a, methM_a, startE, List.map_cons, List.map_nil, List.length_cons, List.length_nil, List.cons_append, List.nil_append, if_true, if_false, Bool.not_true, Bool.not_false, Bool.false_eq_true, reduceCtorEq, decide_true, decide_false, Nat.reduceAdd, ite_true, ite_false, sizeLine, atI, ixN, hi, hi2]
      simp only [q3, q4]
      simp only [seqS_a] at tl
      exact tl
/-! ## both read the same -/
theorem frOf_none {n m : Int} {z : Str} (h : 0 < m → Int.gcd n m = 1 → tx n m = z → False) : frOf n m z = .none := by
  unfold frOf
  rw [if_neg fun q => h q.1 q.2.1 q.2.2]
def same (z : Str) : Prop := ∃ d, m_read_fraction [.str z] = .ok d ∧ m__law_read [.str z] = .ok d ∧ (d = .none ∨ ∃ n m : Int, d = fr n m ∧ n.natAbs < num40 ∧ m.natAbs < num40)
theorem frOf_small {n m : Int} {z : Str} (hn : n.natAbs < num40) (hm : m.natAbs < num40) : frOf n m z = .none ∨ ∃ a b : Int, frOf n m z = fr a b ∧ a.natAbs < num40 ∧ b.natAbs < num40 := by
  unfold frOf
  by_cases h : 0 < m ∧ Int.gcd n m = 1 ∧ tx n m = z
  · rw [if_pos h]; exact .inr ⟨n, m, rfl, hn, hm⟩
  · rw [if_neg h]; exact .inl rfl
theorem read_same (z : Str) (hl : z.length ≤ 30) : same z := by
  have hp := split_pos z ⟨#[47]⟩
  match e : Txt.split z ⟨#[47]⟩ with
  | [] => rw [e] at hp; simp at hp
  | [u] =>
    have p := readP1 (z := z) (by omega) e
    have l := readL1 hl e
    have hu : u.length ≤ 40 := word_len (z := z) (by omega) (by rw [e]; exact List.mem_cons_self ..)
    obtain ⟨huz, hns⟩ := split_free1 e
    by_cases hk : canon (figs (sg u)) = true
    · rw [if_pos hk] at l
      rw [if_pos (wok_of hk)] at p
      exact ⟨_, p, l, frOf_small (wval_small (wok_of hk) (by rw [← sg_len]; exact hu)) (by decide)⟩
    · rw [if_neg hk] at l
      refine ⟨.none, ?_, l, .inl rfl⟩
      rw [p]
      split
      · rw [frOf_none]
        intro _ _ ht
        refine hk ?_
        have : txt (wVal (sg u)) = u := by
          unfold tx at ht
          rw [if_pos rfl] at ht
          exact ht.trans huz.symm
        rw [← this]
        have := (txt_figs (wVal (sg u))).1
        rw [this]
        exact canon_dg _
      · rfl
  | [u, v] =>
    have p := readP2 (z := z) (by omega) e
    have l := readL2 hl e
    have hu : u.length ≤ 40 := word_len (z := z) (by omega) (by rw [e]; exact List.mem_cons_self ..)
    have hv : v.length ≤ 40 := word_len (z := z) (by omega) (by rw [e]; exact List.mem_cons_of_mem _ (List.mem_cons_self ..))
    obtain ⟨hz, hu47, hv47⟩ := split_two e
    by_cases hk : canon (figs (sg u)) = true ∧ canon (sg v) = true
    · have hfv := figs_ad (canon_ad hk.2).1
      have k2 : wok (sg v) = true := wok_of (by rw [hfv]; exact hk.2)
      rw [if_pos hk] at l
      rw [if_pos ⟨wok_of hk.1, k2⟩] at p
      exact ⟨_, p, l, frOf_small (wval_small (wok_of hk.1) (by rw [← sg_len]; exact hu)) (wval_small k2 (by rw [← sg_len]; exact hv))⟩
    · rw [if_neg hk] at l
      refine ⟨.none, ?_, l, .inl rfl⟩
      rw [p]
      split
      · rw [frOf_none]
        intro hm _ ht
        refine hk ?_
        have hts : sg (tx (wVal (sg u)) (wVal (sg v))) = sg u ++ 47 :: sg v := by rw [ht, hz]
        unfold tx at hts
        split at hts
        · have : 47 ∈ sg (txt (wVal (sg u))) := by rw [hts]; simp
          exact absurd this (txt_no (by omega))
        · rw [sg_app, sg_app, show sg ("/" : Str) = [47] by decide, List.append_assoc, List.cons_append, List.nil_append] at hts
          obtain ⟨e1, e2⟩ := cut_at _ _ _ _ (txt_no (by omega)) hu47 hts
          constructor
          · rw [← e1]
            rw [(txt_figs _).1]
            exact canon_dg _
          · rw [← e2]
            have h1 := (txt_figs (wVal (sg v))).1
            obtain ⟨m, hmm⟩ := Int.eq_ofNat_of_zero_le (show 0 ≤ wVal (sg v) by omega)
            rw [hmm, txt_nat]
            exact canon_dg _
      · rfl
  | u :: v :: w :: ws =>
    exact ⟨.none, readP3 (by omega) (by rw [e]; simp), readL3 hl (by rw [e]; simp), .inl rfl⟩
end Lk01
set_option Elab.async false
set_option linter.all false
set_option maxRecDepth 100000
set_option maxHeartbeats 4000000
set_option exponentiation.threshold 2000
namespace Lk01
open M PySem PySem.Spec PyProof.Rows L2 PySem.NumText
noncomputable def S1 : SM := asgM (callP m__law_made [op2 subD (.v (opL intL [.v (callR m__law_of 0 [lstM [callR m__law_take 0 [ret (.int 40)], callR m__law_take 0 [op2 powD (.v (ret (.int 10))) (.v (ret (.int 9)))]]])])) (.v (opL intL [.v (callR m__law_take 0 [ret (.int 20)])])), op2 addD (.v (ret (.int 1))) (.v (opL intL [.v (callR m__law_of 0 [lstM [ret (.int 0), ret (.int 0), callR m__law_take 0 [ret (.int 30)]]])]))]) (tgN 1)
noncomputable def S2 : SM := asgM (callP m__law_text [nameM 1]) (tgN 2)
noncomputable def S3 : SM := ifS (orM (tstD (op2 neD (.v (opL reprL [.v (callP m_fraction_text [nameM 1])])) (.v (opL reprL [.n 2])))) (tstD (op2 neD (.v (opL reprL [.v (callP m_read_fraction [nameM 2])])) (.v (opL reprL [.n 1]))))) (retM (ret (.bool false))) (nextM)
noncomputable def S4 : SM := forM (rngM1 (.v (ret (.int 8)))) (tgN 3) (seqS (asgM (callR m__law_take 0 [op2 addD (.v (opL lenL [.n 2])) (.v (ret (.int 1)))]) (tgN 4)) (seqS (parM 5 6 [callR m__law_take 0 [ret (.int 4)], callR m__law_of 0 [lstM [ret (.str "0"), ret (.str "1"), ret (.str "-"), ret (.str "/"), ret (.str " "), ret (.str "+"), ret (.str "2"), ret (.str "a"), ret (.str "6")]]]) (seqS (asgM (op2 addD (.v (op2 addD (.v (sliceM (.n 2) (none) (some (nameM 4)))) (.n 6))) (.v (sliceM (.n 2) (some (nameM 4)) (none)))) (tgN 7)) (seqS (ifS (tstD (op2 eqD (.n 5) (.v (ret (.int 1))))) (asgM (op2 addD (.v (op2 addD (.v (sliceM (.n 2) (none) (some (nameM 4)))) (.n 6))) (.v (sliceM (.n 2) (some (op2 addD (.n 4) (.v (ret (.int 1))))) (none)))) (tgN 7)) (ifS (tstD (op2 eqD (.n 5) (.v (ret (.int 2))))) (asgM (op2 addD (.v (sliceM (.n 2) (none) (some (nameM 4)))) (.v (sliceM (.n 2) (some (op2 addD (.n 4) (.v (ret (.int 1))))) (none)))) (tgN 7)) (ifS (tstD (op2 eqD (.n 5) (.v (ret (.int 3))))) (asgM (callR m__law_of 0 [lstM [ret (.str ""), ret (.str "-"), ret (.str "/"), ret (.str "1/"), ret (.str "/1"), ret (.str "2/4"), ret (.str "-0"), ret (.str "0/1"), ret (.str "1/1"), ret (.str "01"), ret (.str "1/-2"), ret (.str "--1"), ret (.str "1//2"), ret (.str "-1/2"), ret (.str " 1")]]) (tgN 7)) (nextM)))) (ifS (tstD (op2 neD (.v (opL reprL [.v (callP m_read_fraction [nameM 7])])) (.v (opL reprL [.v (callP m__law_read [nameM 7])])))) (retM (ret (.bool false))) (nextM))))))
noncomputable def S5 : SM := retM (op2 eqD (.v (frzM (compM (itM (tupM [ret .none, ret (.int 1), tupM [ret (.int 1), ret (.int 2)], lstM [ret (.str "1")], ret (.bool true), tupM [ret (.str "1")]])) [8] (tgN 8) (ret true) (callP m_read_fraction [nameM 8])))) (.v (op2 mulD (.v (lstM [ret .none])) (.v (ret (.int 6))))))
theorem S_all : b__law_right = seqS S1 (seqS S2 (seqS S3 (seqS S4 (S5)))) := rfl
noncomputable def V1 : SM := asgM (callR m__law_take 0 [op2 addD (.v (opL lenL [.n 2])) (.v (ret (.int 1)))]) (tgN 4)
noncomputable def V2 : SM := parM 5 6 [callR m__law_take 0 [ret (.int 4)], callR m__law_of 0 [lstM [ret (.str "0"), ret (.str "1"), ret (.str "-"), ret (.str "/"), ret (.str " "), ret (.str "+"), ret (.str "2"), ret (.str "a"), ret (.str "6")]]]
noncomputable def V3 : SM := asgM (op2 addD (.v (op2 addD (.v (sliceM (.n 2) (none) (some (nameM 4)))) (.n 6))) (.v (sliceM (.n 2) (some (nameM 4)) (none)))) (tgN 7)
noncomputable def V4 : SM := ifS (tstD (op2 eqD (.n 5) (.v (ret (.int 1))))) (asgM (op2 addD (.v (op2 addD (.v (sliceM (.n 2) (none) (some (nameM 4)))) (.n 6))) (.v (sliceM (.n 2) (some (op2 addD (.n 4) (.v (ret (.int 1))))) (none)))) (tgN 7)) (ifS (tstD (op2 eqD (.n 5) (.v (ret (.int 2))))) (asgM (op2 addD (.v (sliceM (.n 2) (none) (some (nameM 4)))) (.v (sliceM (.n 2) (some (op2 addD (.n 4) (.v (ret (.int 1))))) (none)))) (tgN 7)) (ifS (tstD (op2 eqD (.n 5) (.v (ret (.int 3))))) (asgM (callR m__law_of 0 [lstM [ret (.str ""), ret (.str "-"), ret (.str "/"), ret (.str "1/"), ret (.str "/1"), ret (.str "2/4"), ret (.str "-0"), ret (.str "0/1"), ret (.str "1/1"), ret (.str "01"), ret (.str "1/-2"), ret (.str "--1"), ret (.str "1//2"), ret (.str "-1/2"), ret (.str " 1")]]) (tgN 7)) (nextM)))
noncomputable def V5 : SM := ifS (tstD (op2 neD (.v (opL reprL [.v (callP m_read_fraction [nameM 7])])) (.v (opL reprL [.v (callP m__law_read [nameM 7])])))) (retM (ret (.bool false))) (nextM)
noncomputable abbrev lapS : SM := seqS V1 (seqS V2 (seqS V3 (seqS V4 (V5))))
theorem S4_lap : S4 = forM (rngM1 (.v (ret (.int 8)))) (tgN 3) lapS := rfl

/-! ## the text of a fraction is read back -/
structure Fr2 (n d : Int) : Prop where
  n9 : n.natAbs < 10 ^ 9
  d0 : 0 < d
  d2 : d.natAbs < 10 ^ 2
  g : Int.gcd n d = 1
theorem Fr2.n40 {n d : Int} (h : Fr2 n d) : n.natAbs < num40 := Nat.lt_trans h.n9 (by decide)
theorem Fr2.d40 {n d : Int} (h : Fr2 n d) : d.natAbs < num40 := Nat.lt_trans h.d2 (by decide)
theorem tx_len {n d : Int} (h : Fr2 n d) : (tx n d).length ≤ 14 := by
  have h1 : (txt n).length ≤ 10 := by rw [sg_len]; exact txt_len (k := 9) (by omega) h.n9
  have h2 : (txt d).length ≤ 3 := by rw [sg_len]; exact txt_len (k := 2) (by omega) h.d2
  unfold tx
  split
  · omega
  · rw [len_app, len_app, slash_len]; omega
theorem tx_ok {n d : Int} : ∀ c ∈ sg (tx n d), c < 58 := by
  have one : ∀ n : Int, ∀ c ∈ sg (txt n), c < 58 := fun n c hc => by
    by_cases h : 57 < c
    · exact absurd hc (txt_no (by omega))
    · omega
  intro c hc
  unfold tx at hc
  split at hc
  · exact one _ c hc
  · rw [sg_app, sg_app, show sg ("/" : Str) = [47] by decide] at hc
    rcases List.mem_append.1 hc with hc | hc
    · rcases List.mem_append.1 hc with hc | hc
      · exact one _ c hc
      · have : c = 47 := by simpa using hc
        omega
    · exact one _ c hc
theorem wok_txt (n : Int) : wok (sg (txt n)) = true := by
  unfold wok
  rw [(txt_figs n).1, Bool.and_eq_true, Bool.not_eq_true', decide_eq_false_iff_not]
  exact ⟨dg_ne _, ad_iff.2 (dg_digits _)⟩
theorem split_app {u v : Str} (hu : 47 ∉ sg u) (hv : 47 ∉ sg v) : Txt.split (u ++ ("/" : Str) ++ v) ⟨#[47]⟩ = [u, v] := by
  have hl := split_len (u ++ ("/" : Str) ++ v) 47
  have hs : sg (u ++ ("/" : Str) ++ v) = sg u ++ 47 :: sg v := by
    rw [sg_app, sg_app, show sg ("/" : Str) = [47] by decide, List.append_assoc]; rfl
  have hc : cnt 47 (u ++ ("/" : Str) ++ v).cps.toList = 1 := by
    rw [show (u ++ ("/" : Str) ++ v).cps.toList = sg u ++ 47 :: sg v from hs, cnt_append, cnt_cons, cnt_none 47 _ hu, cnt_none 47 _ hv]
    rfl
  rw [hc] at hl
  match e : Txt.split (u ++ ("/" : Str) ++ v) ⟨#[47]⟩ with
  | [] => rw [e] at hl; simp at hl
  | [_] => rw [e] at hl; simp at hl
  | [x, y] =>
    obtain ⟨h1, h2, h3⟩ := split_two e
    rw [hs] at h1
    obtain ⟨e1, e2⟩ := cut_at _ _ _ _ hu h2 h1
    rw [sg_ext e1, sg_ext e2]
  | _ :: _ :: _ :: _ => rw [e] at hl; simp at hl; omega
theorem read_back {n d : Int} (h : Fr2 n d) : m_read_fraction [.str (tx n d)] = .ok (fr n d) := by
  have hl := tx_len h
  have fo : frOf n d (tx n d) = fr n d := by unfold frOf; rw [if_pos ⟨h.d0, h.g, rfl⟩]
  by_cases c : d = 1
  · subst c
    have ht : tx n 1 = txt n := by unfold tx; rw [if_pos rfl]
    have e := split_one (z := tx n 1) (c := 47) (by rw [ht]; exact txt_no (by omega))
    have p := readP1 (by omega) e
    rw [ht] at p fo ⊢
    rw [if_pos (wok_txt n), (txt_figs n).2, fo] at p
    exact p
  · have ht : tx n d = txt n ++ ("/" : Str) ++ txt d := by unfold tx; rw [if_neg c]
    have e := split_app (u := txt n) (v := txt d) (txt_no (by omega)) (txt_no (by omega))
    rw [← ht] at e
    have p := readP2 (by omega) e
    rw [if_pos ⟨wok_txt n, wok_txt d⟩, (txt_figs n).2, (txt_figs d).2, fo] at p
    exact p
theorem mk_small {n d : Int} (hn : n.natAbs < 10 ^ 9) (h0 : 0 < d) (hd : d.natAbs < 10 ^ 2) : ∃ a b, mkF n d = fr a b ∧ Fr2 a b := by
  have hg := gcd_pos (n := n) (d := d) (by omega)
  have h1 := Int.natAbs_ediv_le_natAbs n (Int.gcd n d)
  have h2 := Int.natAbs_ediv_le_natAbs d (Int.gcd n d)
  unfold mkF mkP
  rw [if_neg (by omega), Int.fdiv_eq_ediv_of_nonneg _ (by omega), Int.fdiv_eq_ediv_of_nonneg _ (by omega)]
  exact ⟨_, _, rfl, by omega, Int.ediv_pos_of_pos_of_dvd h0 (by omega) (Int.gcd_dvd_right n d), by omega, Int.gcd_ediv_gcd_ediv_gcd (by omega)⟩
abbrev en (us : List PyData) (a b c d e f g : M.Slot) : MEnv := [.ol (some 0) us, a, b, c, d, e, f, g, .un]
theorem s1_eq {K : Nat} {us : List PyData} (h : PotOk K us) (hK : K < 800000) : ∃ us' n d, S1 (en us .un .un .un .un .un .un .un) = .next (en us' (.fz (fr n d)) .un .un .un .un .un .un) ∧ Fr2 n d ∧ PotOk (K + 6) us' := by
  obtain ⟨t1, u1, a1, b1, c1, p1⟩ := take_eq (n := 40) h (by omega) (by decide) (by decide)
  obtain ⟨t2, u2, a2, b2, c2, p2⟩ := take_eq (n := 1000000000) p1 (by omega) (by decide) (by decide)
  obtain ⟨e3, u3, a3, m3, p3⟩ := of_eq (ds := [.int t1, .int t2]) p2 (by omega) (by simp) (by simp)
  obtain ⟨x3, rfl, l3, r3⟩ : ∃ x : Int, e3 = .int x ∧ 0 ≤ x ∧ x < 1000000000 := by
    simp only [List.mem_cons, List.not_mem_nil, or_false] at m3
    rcases m3 with rfl | rfl
    all_goals exact ⟨_, rfl, by omega, by omega⟩
  obtain ⟨t4, u4, a4, b4, c4, p4⟩ := take_eq (n := 20) p3 (by omega) (by decide) (by decide)
  obtain ⟨t5, u5, a5, b5, c5, p5⟩ := take_eq (n := 30) p4 (by omega) (by decide) (by decide)
  obtain ⟨e6, u6, a6, m6, p6⟩ := of_eq (ds := [.int 0, .int 0, .int t5]) p5 (by omega) (by simp) (by simp)
  obtain ⟨x6, rfl, l6, r6⟩ : ∃ x : Int, e6 = .int x ∧ 0 ≤ x ∧ x < 30 := by
    simp only [List.mem_cons, List.not_mem_nil, or_false] at m6
    rcases m6 with rfl | rfl | rfl
    all_goals exact ⟨_, rfl, by omega, by omega⟩
  obtain ⟨n, d, e, f⟩ := mk_small (n := x3 - t4) (d := 1 + x6) (by omega) (by omega) (by omega)
  have g := lmade_eq (n := x3 - t4) (d := 1 + x6) (by omega) (Nat.lt_of_le_of_lt (show (1 + x6).natAbs ≤ 100 by omega) (by decide))
  rw [e] at g
  refine ⟨u6, n, d, ?_, f, p6⟩
  simp [S1, bnd_a, ret_a, lft_ok, lft_err, lfo_some, nameM_a, peek_a, fin_l, fin_r, run_v, run_n, op1_a, op2_a, opL_a, runs_n, runs_c, fins_n, fins_c, evs_n, evs_c, tupM_a, lstM_a, lstO_a, andM_a, orM_a, notM_a, andV_a, orV_a, notV_a, asB_b, ifM_a, tstM_a, tstD_a, truth_b, truth_i, truth_n, bndS_a, retM_a, retOM_a, dropM_a, seqS_a, nextM_a, failS_a, ifS_a, asgM_a, asgO_a, tgN_a, tgTup_t, tgLst_t, tgsNil_a, tgsCons_a, putS_a, setS_z, setS_s, getS_z, getS_s, parM_a, callP_a, callF_a, callR_a, frzM_a, setIx_a, intD_i, addD_i, addD_t, addD_l, addD_s, subD_i, mulD_i, fdivD_i, modD_i, powD_i, negD_i, eqD_i, eqD_s, neD_i, neD_s, ltD_i, leD_i, gtD_i, geD_i, isND_a, notND_a, isBD_a, notBD_a, ixD_l, ixD_t, ixD_k, absL_i, maxL_i, minL_i, lenL_l, lenL_t, lenL_k, intL_i, intL_b, tupL_l, lstL_l, lstL_t, items_l, items_t, itM_a, rngM1_a, rngM2_a, range1_i, forM_a, forL_n, sumL_l, allL_l, anyL_l, sliceM_a, optM_n, optM_s, lrM1_a, compM_a, methM_a, startE, List.map_cons, List.map_nil, List.length_cons, List.length_nil, List.cons_append, List.nil_append, if_true, if_false, Bool.not_true, Bool.not_false, Bool.false_eq_true, reduceCtorEq, decide_true, decide_false, Nat.reduceAdd, ite_true, ite_false, sizeLine, en, pw10, -powD_i, a1, a2, a3, a4, a5, a6, g]
theorem s2_eq {us : List PyData} {n d : Int} (f : Fr2 n d) : S2 (en us (.fz (fr n d)) .un .un .un .un .un .un) = .next (en us (.fz (fr n d)) (.fz (.str (tx n d))) .un .un .un .un .un) := by
  have t := (text_eq f.n40 f.d40).2
  simp [S2, bnd_a, ret_a, lft_ok, lft_err, lfo_some, nameM_a, peek_a, fin_l, fin_r, run_v, run_n, op1_a, op2_a, opL_a, runs_n, runs_c, fins_n, fins_c, evs_n, evs_c, tupM_a, lstM_a, lstO_a, andM_a, orM_a, notM_a, andV_a, orV_a, notV_a, asB_b, ifM_a, tstM_a, tstD_a, truth_b, truth_i, truth_n, bndS_a, retM_a, retOM_a, dropM_a, seqS_a, nextM_a, failS_a, ifS_a, asgM_a, asgO_a, tgN_a, tgTup_t, tgLst_t, tgsNil_a, tgsCons_a, putS_a, setS_z, setS_s, getS_z, getS_s, parM_a, callP_a, callF_a, callR_a, frzM_a, setIx_a, intD_i, addD_i, addD_t, addD_l, addD_s, subD_i, mulD_i, fdivD_i, modD_i, powD_i, negD_i, eqD_i, eqD_s, neD_i, neD_s, ltD_i, leD_i, gtD_i, geD_i, isND_a, notND_a, isBD_a, notBD_a, ixD_l, ixD_t, ixD_k, absL_i, maxL_i, minL_i, lenL_l, lenL_t, lenL_k, intL_i, intL_b, tupL_l, lstL_l, lstL_t, items_l, items_t, itM_a, rngM1_a, rngM2_a, range1_i, forM_a, forL_n, sumL_l, allL_l, anyL_l, sliceM_a, optM_n, optM_s, lrM1_a, compM_a, methM_a, startE, List.map_cons, List.map_nil, List.length_cons, List.length_nil, List.cons_append, List.nil_append, if_true, if_false, Bool.not_true, Bool.not_false, Bool.false_eq_true, reduceCtorEq, decide_true, decide_false, Nat.reduceAdd, ite_true, ite_false, sizeLine, en, t]
theorem rp_str {z : Str} (h : ∀ c ∈ sg z, c < 58) (hl : z.length ≤ 100) : Rp 0 4000 (.str z) := by
  have hk : PyData.strOk z = true := by
    unfold PyData.strOk
    rw [← Array.all_toList, List.all_eq_true]
    intro c hc
    have := h c hc
    exact decide_eq_true (by omega)
  have := StrLaws.reprText_len z (fun c hc => by have := h c hc; omega)
  exact ⟨by simp only [PyData.showable], by simp only [PyData.canLay0]; exact hk, by simp only [PyData.depth]; omega, by simp only [PyData.shown]; omega⟩
theorem rp_fr2 {n d : Int} (hn : n.natAbs < num40) (hd : d.natAbs < num40) : Rp 1 4000 (fr n d) := by
  refine (Rp.tuple (k := 0) (N := 1921) fun x hx => ?_).le (by omega) (by simp)
  simp only [List.mem_cons, List.not_mem_nil, or_false] at hx
  rcases hx with rfl | rfl
  · exact Rp.int (log40 hn)
  · exact Rp.int (log40 hd)
theorem s3_eq {us : List PyData} {n d : Int} (f : Fr2 n d) : S3 (en us (.fz (fr n d)) (.fz (.str (tx n d))) .un .un .un .un .un) = .next (en us (.fz (fr n d)) (.fz (.str (tx n d))) .un .un .un .un .un) := by
  have t := (text_eq f.n40 f.d40).1
  have i := isfr_any n d
  rw [decide_eq_true ⟨f.d0, f.g⟩] at i
  have r := read_back f
  have q1 := (rp_str (tx_ok (n := n) (d := d)) (by have := tx_len f; omega)).repr (by omega) (by show _ ≤ 16777216; omega)
  have q2 := (rp_fr2 f.n40 f.d40).repr (by omega) (by show _ ≤ 16777216; omega)
  have ft : m_fraction_text [fr n d] = .ok (.str (tx n d)) := by
    simp [m_fraction_text, b_fraction_text, m_check_number, b_check_number, runP, bnd_a, ret_a, lft_ok, lft_err, lfo_some, nameM_a, peek_a, fin_l, fin_r, run_v, run_n, op1_a, op2_a, opL_a, runs_n, runs_c, fins_n, fins_c, evs_n, evs_c, tupM_a, lstM_a, lstO_a, andM_a, orM_a, notM_a, andV_a, orV_a, notV_a, asB_b, ifM_a, tstM_a, tstD_a, truth_b, truth_i, truth_n, bndS_a, retM_a, retOM_a, dropM_a, seqS_a, nextM_a, failS_a, ifS_a, asgM_a, asgO_a, tgN_a, tgTup_t, tgLst_t, tgsNil_a, tgsCons_a, putS_a, setS_z, setS_s, getS_z, getS_s, parM_a, callP_a, callF_a, callR_a, frzM_a, setIx_a, intD_i, addD_i, addD_t, addD_l, addD_s, subD_i, mulD_i, fdivD_i, modD_i, powD_i, negD_i, eqD_i, eqD_s, neD_i, neD_s, ltD_i, leD_i, gtD_i, geD_i, isND_a, notND_a, isBD_a, notBD_a, ixD_l, ixD_t, ixD_k, absL_i, maxL_i, minL_i, lenL_l, lenL_t, lenL_k, intL_i, intL_b, tupL_l, lstL_l, lstL_t, items_l, items_t, itM_a, rngM1_a, rngM2_a, range1_i, forM_a, forL_n, sumL_l, allL_l, anyL_l, sliceM_a, optM_n, optM_s, lrM1_a, compM_a, methM_a, startE, List.map_cons, List.map_nil, List.length_cons, List.length_nil, List.cons_append, List.nil_append, if_true, if_false, Bool.not_true, Bool.not_false, Bool.false_eq_true, reduceCtorEq, decide_true, decide_false, Nat.reduceAdd, ite_true, ite_false, sizeLine, i, t]
  simp [S3, bnd_a, ret_a, lft_ok, lft_err, lfo_some, nameM_a, peek_a, fin_l, fin_r, run_v, run_n, op1_a, op2_a, opL_a, runs_n, runs_c, fins_n, fins_c, evs_n, evs_c, tupM_a, lstM_a, lstO_a, andM_a, orM_a, notM_a, andV_a, orV_a, notV_a, asB_b, ifM_a, tstM_a, tstD_a, truth_b, truth_i, truth_n, bndS_a, retM_a, retOM_a, dropM_a, seqS_a, nextM_a, failS_a, ifS_a, asgM_a, asgO_a, tgN_a, tgTup_t, tgLst_t, tgsNil_a, tgsCons_a, putS_a, setS_z, setS_s, getS_z, getS_s, parM_a, callP_a, callF_a, callR_a, frzM_a, setIx_a, intD_i, addD_i, addD_t, addD_l, addD_s, subD_i, mulD_i, fdivD_i, modD_i, powD_i, negD_i, eqD_i, eqD_s, neD_i, neD_s, ltD_i, leD_i, gtD_i, geD_i, isND_a, notND_a, isBD_a, notBD_a, ixD_l, ixD_t, ixD_k, absL_i, maxL_i, minL_i, lenL_l, lenL_t, lenL_k, intL_i, intL_b, tupL_l, lstL_l, lstL_t, items_l, items_t, itM_a, rngM1_a, rngM2_a, range1_i, forM_a, forL_n, sumL_l, allL_l, anyL_l, sliceM_a, optM_n, optM_s, lrM1_a, compM_a, methM_a, startE, List.map_cons, List.map_nil, List.length_cons, List.length_nil, List.cons_append, List.nil_append, if_true, if_false, Bool.not_true, Bool.not_false, Bool.false_eq_true, reduceCtorEq, decide_true, decide_false, Nat.reduceAdd, ite_true, ite_false, sizeLine, en, ft, r, q1, q2]
end Lk01
set_option Elab.async false
set_option linter.all false
set_option maxRecDepth 100000
set_option maxHeartbeats 4000000
set_option exponentiation.threshold 2000
namespace Lk01
open M PySem PySem.Spec PyProof.Rows L2 PySem.NumText
theorem put_l {i : Nat} {t : M.Slot} {ρ : MEnv} (h : loose (getS ρ i)) : putS i t ρ = some (setS ρ i t) := by
  unfold putS
  match e : getS ρ i, h with
  | .un, _ => rfl
  | .fz _, _ => rfl
  | .ol none _, _ => rfl
  | .ol (some r) us, h => exact absurd rfl (h r us)
theorem loose_fz (d : PyData) : loose (.fz d) = True := eq_true fun _ _ z => by cases z
theorem loose_un : loose .un = True := eq_true fun _ _ z => by cases z
theorem v1_eq {K : Nat} {us : List PyData} {p b c d e f : M.Slot} {z : Str} (h : PotOk K us) (hK : K < 800000) (hz : z.length ≤ 14) (hc : loose c) : ∃ (us' : List PyData) (i : Int), V1 (en us p (.fz (.str z)) b c d e f) = .next (en us' p (.fz (.str z)) b (.fz (.int i)) d e f) ∧ PotOk (K + 1) us' := by
  obtain ⟨t1, u1, a1, b1, c1, p1⟩ := take_eq (n := (z.length : Int) + 1) h (by omega) (by omega) (by omega)
  have hz' : z.length ≤ 16777216 := by omega
  refine ⟨u1, t1, ?_, p1⟩
  simp [V1, bnd_a, ret_a, lft_ok, lft_err, lfo_some, nameM_a, peek_a, fin_l, fin_r, run_v, run_n, op1_a, op2_a, opL_a, runs_n, runs_c, fins_n, fins_c, evs_n, evs_c, tupM_a, lstM_a, lstO_a, andM_a, orM_a, notM_a, andV_a, orV_a, notV_a, asB_b, ifM_a, tstM_a, tstD_a, truth_b, truth_i, truth_n, bndS_a, retM_a, retOM_a, dropM_a, seqS_a, nextM_a, failS_a, ifS_a, asgM_a, asgO_a, tgN_a, tgTup_t, tgLst_t, tgsNil_a, tgsCons_a, putS_a, setS_z, setS_s, getS_z, getS_s, parM_a, callP_a, callF_a, callR_a, frzM_a, setIx_a, intD_i, addD_i, addD_t, addD_l, addD_s, subD_i, mulD_i, fdivD_i, modD_i, powD_i, negD_i, eqD_i, eqD_s, neD_i, neD_s, ltD_i, leD_i, gtD_i, geD_i, isND_a, notND_a, isBD_a, notBD_a, ixD_l, ixD_t, ixD_k, absL_i, maxL_i, minL_i, lenL_l, lenL_t, lenL_k, intL_i, intL_b, tupL_l, lstL_l, lstL_t, items_l, items_t, itM_a, rngM1_a, rngM2_a, range1_i, forM_a, forL_n, sumL_l, allL_l, anyL_l, sliceM_a, optM_n, optM_s, lrM1_a, compM_a, methM_a, startE, List.map_cons, List.map_nil, List.length_cons, List.length_nil, List.cons_append, List.nil_append, if_true, if_false, Bool.not_true, Bool.not_false, Bool.false_eq_true, reduceCtorEq, decide_true, decide_false, Nat.reduceAdd, ite_true, ite_false, sizeLine, en, -putS_a, put_l, hc, lenL_s, hz', a1]
theorem v2_eq {K : Nat} {us : List PyData} {p b c d e f q : M.Slot} (h : PotOk K us) (hK : K < 800000) (hd : loose d) (he : loose e) : ∃ (us' : List PyData) (k : Int) (s : Str), V2 (en us p q b c d e f) = .next (en us' p q b c (.fz (.int k)) (.fz (.str s)) f) ∧ s.length ≤ 1 ∧ PotOk (K + 2) us' := by
  obtain ⟨t1, u1, a1, b1, c1, p1⟩ := take_eq (n := 4) h (by omega) (by omega) (by omega)
  obtain ⟨t2, u2, a2, m2, p2⟩ := of_eq (ds := [.str "0", .str "1", .str "-", .str "/", .str " ", .str "+", .str "2", .str "a", .str "6"]) p1 (by omega) (by decide) (by decide)
  obtain ⟨s, rfl, hs⟩ : ∃ s : Str, t2 = .str s ∧ s.length ≤ 1 := by
    simp only [List.mem_cons, List.not_mem_nil, or_false] at m2
    rcases m2 with rfl | rfl | rfl | rfl | rfl | rfl | rfl | rfl | rfl
    all_goals exact ⟨_, rfl, by decide⟩
  refine ⟨u2, t1, s, ?_, hs, p2⟩
  simp [V2, bnd_a, ret_a, lft_ok, lft_err, lfo_some, nameM_a, peek_a, fin_l, fin_r, run_v, run_n, op1_a, op2_a, opL_a, runs_n, runs_c, fins_n, fins_c, evs_n, evs_c, tupM_a, lstM_a, lstO_a, andM_a, orM_a, notM_a, andV_a, orV_a, notV_a, asB_b, ifM_a, tstM_a, tstD_a, truth_b, truth_i, truth_n, bndS_a, retM_a, retOM_a, dropM_a, seqS_a, nextM_a, failS_a, ifS_a, asgM_a, asgO_a, tgN_a, tgTup_t, tgLst_t, tgsNil_a, tgsCons_a, putS_a, setS_z, setS_s, getS_z, getS_s, parM_a, callP_a, callF_a, callR_a, frzM_a, setIx_a, intD_i, addD_i, addD_t, addD_l, addD_s, subD_i, mulD_i, fdivD_i, modD_i, powD_i, negD_i, eqD_i, eqD_s, neD_i, neD_s, ltD_i, leD_i, gtD_i, geD_i, isND_a, notND_a, isBD_a, notBD_a, ixD_l, ixD_t, ixD_k, absL_i, maxL_i, minL_i, lenL_l, lenL_t, lenL_k, intL_i, intL_b, tupL_l, lstL_l, lstL_t, items_l, items_t, itM_a, rngM1_a, rngM2_a, range1_i, forM_a, forL_n, sumL_l, allL_l, anyL_l, sliceM_a, optM_n, optM_s, lrM1_a, compM_a, methM_a, startE, List.map_cons, List.map_nil, List.length_cons, List.length_nil, List.cons_append, List.nil_append, if_true, if_false, Bool.not_true, Bool.not_false, Bool.false_eq_true, reduceCtorEq, decide_true, decide_false, Nat.reduceAdd, ite_true, ite_false, sizeLine, en, -putS_a, put_l, hd, he, loose_fz, a1, a2]
theorem cut_len (z : Str) (lo hi : Option Int) : (cutS z lo hi).length ≤ z.length := cutS_length z lo hi
theorem add_s {a b : Str} (h : a.length + b.length ≤ 100) : addD (.str a) (.str b) = some (.str (a ++ b)) := by
  rw [addD_s, if_pos (by show _ ≤ 16777216; omega)]
theorem v3_eq {us : List PyData} {p b d f : M.Slot} {z s : Str} {i : Int} (hz : z.length ≤ 14) (hs : s.length ≤ 1) (hf : loose f) : ∃ y : Str, V3 (en us p (.fz (.str z)) b (.fz (.int i)) d (.fz (.str s)) f) = .next (en us p (.fz (.str z)) b (.fz (.int i)) d (.fz (.str s)) (.fz (.str y))) ∧ y.length ≤ 30 := by
  have hz' : z.length ≤ 16777216 := by omega
  have l1 := cut_len z none (some i)
  have l2 := cut_len z (some i) none
  have q1 := add_s (a := cutS z none (some i)) (b := s) (by omega)
  have q2 := add_s (a := cutS z none (some i) ++ s) (b := cutS z (some i) none) (by rw [len_app]; omega)
  refine ⟨cutS z none (some i) ++ s ++ cutS z (some i) none, ?_, by rw [len_app, len_app]; omega⟩
  simp [V3, bnd_a, ret_a, lft_ok, lft_err, lfo_some, nameM_a, peek_a, fin_l, fin_r, run_v, run_n, op1_a, op2_a, opL_a, runs_n, runs_c, fins_n, fins_c, evs_n, evs_c, tupM_a, lstM_a, lstO_a, andM_a, orM_a, notM_a, andV_a, orV_a, notV_a, asB_b, ifM_a, tstM_a, tstD_a, truth_b, truth_i, truth_n, bndS_a, retM_a, retOM_a, dropM_a, seqS_a, nextM_a, failS_a, ifS_a, asgM_a, asgO_a, tgN_a, tgTup_t, tgLst_t, tgsNil_a, tgsCons_a, putS_a, setS_z, setS_s, getS_z, getS_s, parM_a, callP_a, callF_a, callR_a, frzM_a, setIx_a, intD_i, addD_i, addD_t, addD_l, addD_s, subD_i, mulD_i, fdivD_i, modD_i, powD_i, negD_i, eqD_i, eqD_s, neD_i, neD_s, ltD_i, leD_i, gtD_i, geD_i, isND_a, notND_a, isBD_a, notBD_a, ixD_l, ixD_t, ixD_k, absL_i, maxL_i, minL_i, lenL_l, lenL_t, lenL_k, intL_i, intL_b, tupL_l, lstL_l, lstL_t, items_l, items_t, itM_a, rngM1_a, rngM2_a, range1_i, forM_a, forL_n, sumL_l, allL_l, anyL_l, sliceM_a, optM_n, optM_s, lrM1_a, compM_a, methM_a, startE, List.map_cons, List.map_nil, List.length_cons, List.length_nil, List.cons_append, List.nil_append, if_true, if_false, Bool.not_true, Bool.not_false, Bool.false_eq_true, reduceCtorEq, decide_true, decide_false, Nat.reduceAdd, ite_true, ite_false, sizeLine, en, -putS_a, put_l, hf, cutD_s, hz', -addD_s, q1, q2]
theorem v4_eq {K : Nat} {us : List PyData} {p b : M.Slot} {z s y : Str} {i k : Int} (h : PotOk K us) (hK : K < 800000) (hz : z.length ≤ 14) (hs : s.length ≤ 1) (hy : y.length ≤ 30) : ∃ (us' : List PyData) (y' : Str), V4 (en us p (.fz (.str z)) b (.fz (.int i)) (.fz (.int k)) (.fz (.str s)) (.fz (.str y))) = .next (en us' p (.fz (.str z)) b (.fz (.int i)) (.fz (.int k)) (.fz (.str s)) (.fz (.str y'))) ∧ y'.length ≤ 30 ∧ PotOk (K + 1) us' := by
  have hz' : z.length ≤ 16777216 := by omega
  have more : PotOk (K + 1) us := by
    obtain ⟨a, b, c, q1, q2, q3, q4⟩ := h
    exact ⟨a, b, c, q1, q2, q3, by omega⟩
  have l1 := cut_len z none (some i)
  have l2 := cut_len z (some (i + 1)) none
  have q1 := add_s (a := cutS z none (some i)) (b := s) (by omega)
  have q2 := add_s (a := cutS z none (some i) ++ s) (b := cutS z (some (i + 1)) none) (by rw [len_app]; omega)
  have q3 := add_s (a := cutS z none (some i)) (b := cutS z (some (i + 1)) none) (by omega)
  by_cases k1 : k = 1
  · refine ⟨us, cutS z none (some i) ++ s ++ cutS z (some (i + 1)) none, ?_, by rw [len_app, len_app]; omega, more⟩
    subst k1
    simp [V4, bnd_a, ret_a, lft_ok, lft_err, lfo_some, nameM_a, peek_a, fin_l, fin_r, run_v, run_n, op1_a, op2_a, opL_a, runs_n, runs_c, fins_n, fins_c, evs_n, evs_c, tupM_a, lstM_a, lstO_a, andM_a, orM_a, notM_a, andV_a, orV_a, notV_a, asB_b, ifM_a, tstM_a, tstD_a, truth_b, truth_i, truth_n, bndS_a, retM_a, retOM_a, dropM_a, seqS_a, nextM_a, failS_a, ifS_a, asgM_a, asgO_a, tgN_a, tgTup_t, tgLst_t, tgsNil_a, tgsCons_a, putS_a, setS_z, setS_s, getS_z, getS_s, parM_a, callP_a, callF_a, callR_a, frzM_a, setIx_a, intD_i, addD_i, addD_t, addD_l, addD_s, subD_i, mulD_i, fdivD_i, modD_i, powD_i, negD_i, eqD_i, eqD_s, neD_i, neD_s, ltD_i, leD_i, gtD_i, geD_i, isND_a, notND_a, isBD_a, notBD_a, ixD_l, ixD_t, ixD_k, absL_i, maxL_i, minL_i, lenL_l, lenL_t, lenL_k, intL_i, intL_b, tupL_l, lstL_l, lstL_t, items_l, items_t, itM_a, rngM1_a, rngM2_a, range1_i, forM_a, forL_n, sumL_l, allL_l, anyL_l, sliceM_a, optM_n, optM_s, lrM1_a, compM_a, methM_a, startE, List.map_cons, List.map_nil, List.length_cons, List.length_nil, List.cons_append, List.nil_append, if_true, if_false, Bool.not_true, Bool.not_false, Bool.false_eq_true, reduceCtorEq, decide_true, decide_false, Nat.reduceAdd, ite_true, ite_false, sizeLine, en, cutD_s, hz', -addD_s, q1, q2]
  · by_cases k2 : k = 2
    · refine ⟨us, cutS z none (some i) ++ cutS z (some (i + 1)) none, ?_, by rw [len_app]; omega, more⟩
      subst k2
      simp [V4, bnd_a, ret_a, lft_ok, lft_err, lfo_some, nameM_a, peek_a, fin_l, fin_r, run_v, run_n, op1_a, op2_a, opL_a, runs_n, runs_c, fins_n, fins_c, evs_n, evs_c, tupM_a, lstM_a, lstO_a, andM_a, orM_a, notM_a, andV_a, orV_a, notV_a, asB_b, ifM_a, tstM_a, tstD_a, truth_b, truth_i, truth_n, bndS_a, retM_a, retOM_a, dropM_a, seqS_a, nextM_a, failS_a, ifS_a, asgM_a, asgO_a, tgN_a, tgTup_t, tgLst_t, tgsNil_a, tgsCons_a, putS_a, setS_z, setS_s, getS_z, getS_s, parM_a, callP_a, callF_a, callR_a, frzM_a, setIx_a, intD_i, addD_i, addD_t, addD_l, addD_s, subD_i, mulD_i, fdivD_i, modD_i, powD_i, negD_i, eqD_i, eqD_s, neD_i, neD_s, ltD_i, leD_i, gtD_i, geD_i, isND_a, notND_a, isBD_a, notBD_a, ixD_l, ixD_t, ixD_k, absL_i, maxL_i, minL_i, lenL_l, lenL_t, lenL_k, intL_i, intL_b, tupL_l, lstL_l, lstL_t, items_l, items_t, itM_a, rngM1_a, rngM2_a, range1_i, forM_a, forL_n, sumL_l, allL_l, anyL_l, sliceM_a, optM_n, optM_s, lrM1_a, compM_a, methM_a, startE, List.map_cons, List.map_nil, List.length_cons, List.length_nil, List.cons_append, List.nil_append, if_true, if_false, Bool.not_true, Bool.not_false, Bool.false_eq_true, reduceCtorEq, decide_true, decide_false, Nat.reduceAdd, ite_true, ite_false, sizeLine, en, cutD_s, hz', -addD_s, q3]
    · by_cases k3 : k = 3
      · obtain ⟨t2, u2, a2, m2, p2⟩ := of_eq (ds := [.str "", .str "-", .str "/", .str "1/", .str "/1", .str "2/4", .str "-0", .str "0/1", .str "1/1", .str "01", .str "1/-2", .str "--1", .str "1//2", .str "-1/2", .str " 1"]) h (by omega) (by decide) (by decide)
        obtain ⟨w, rfl, hw⟩ : ∃ s : Str, t2 = .str s ∧ s.length ≤ 30 := by
          simp only [List.mem_cons, List.not_mem_nil, or_false] at m2
          rcases m2 with rfl | rfl | rfl | rfl | rfl | rfl | rfl | rfl | rfl | rfl | rfl | rfl | rfl | rfl | rfl
          all_goals exact ⟨_, rfl, by decide⟩
        refine ⟨u2, w, ?_, hw, p2⟩
        subst k3
        simp [V4, bnd_a, ret_a, lft_ok, lft_err, lfo_some, nameM_a, peek_a, fin_l, fin_r, run_v, run_n, op1_a, op2_a, opL_a, runs_n, runs_c, fins_n, fins_c, evs_n, evs_c, tupM_a, lstM_a, lstO_a, andM_a, orM_a, notM_a, andV_a, orV_a, notV_a, asB_b, ifM_a, tstM_a, tstD_a, truth_b, truth_i, truth_n, bndS_a, retM_a, retOM_a, dropM_a, seqS_a, nextM_a, failS_a, ifS_a, asgM_a, asgO_a, tgN_a, tgTup_t, tgLst_t, tgsNil_a, tgsCons_a, putS_a, setS_z, setS_s, getS_z, getS_s, parM_a, callP_a, callF_a, callR_a, frzM_a, setIx_a, intD_i, addD_i, addD_t, addD_l, addD_s, subD_i, mulD_i, fdivD_i, modD_i, powD_i, negD_i, eqD_i, eqD_s, neD_i, neD_s, ltD_i, leD_i, gtD_i, geD_i, isND_a, notND_a, isBD_a, notBD_a, ixD_l, ixD_t, ixD_k, absL_i, maxL_i, minL_i, lenL_l, lenL_t, lenL_k, intL_i, intL_b, tupL_l, lstL_l, lstL_t, items_l, items_t, itM_a, rngM1_a, rngM2_a, range1_i, forM_a, forL_n, sumL_l, allL_l, anyL_l, sliceM_a, optM_n, optM_s, lrM1_a, compM_a, methM_a, startE, List.map_cons, List.map_nil, List.length_cons, List.length_nil, List.cons_append, List.nil_append, if_true, if_false, Bool.not_true, Bool.not_false, Bool.false_eq_true, reduceCtorEq, decide_true, decide_false, Nat.reduceAdd, ite_true, ite_false, sizeLine, en, a2]
      · exact ⟨us, y, by simp [V4, bnd_a, ret_a, lft_ok, lft_err, lfo_some, nameM_a, peek_a, fin_l, fin_r, run_v, run_n, op1_a, op2_a, opL_a, runs_n, runs_c, fins_n, fins_c, evs_n, evs_c, tupM_a, lstM_a, lstO_a, andM_a, orM_a, notM_a, andV_a, orV_a, notV_a, asB_b, ifM_a, tstM_a, tstD_a, truth_b, truth_i, truth_n, bndS_a, retM_a, retOM_a, dropM_a, seqS_a, nextM_a, failS_a, ifS_a, asgM_a, asgO_a, tgN_a, tgTup_t, tgLst_t, tgsNil_a, tgsCons_a, putS_a, setS_z, setS_s, getS_z, getS_s, parM_a, callP_a, callF_a, callR_a, frzM_a, setIx_a, intD_i, addD_i, addD_t, addD_l, addD_s, subD_i, mulD_i, fdivD_i, modD_i, powD_i, negD_i, eqD_i, eqD_s, neD_i, neD_s, ltD_i, leD_i, gtD_i, geD_i, isND_a, notND_a, isBD_a, notBD_a, ixD_l, ixD_t, ixD_k, absL_i, maxL_i, minL_i, lenL_l, lenL_t, lenL_k, intL_i, intL_b, tupL_l, lstL_l, lstL_t, items_l, items_t, itM_a, rngM1_a, rngM2_a, range1_i, forM_a, forL_n, sumL_l, allL_l, anyL_l, sliceM_a, optM_n, optM_s, lrM1_a, compM_a, methM_a, startE, List.map_cons, List.map_nil, List.length_cons, List.length_nil, List.cons_append, List.nil_append, if_true, if_false, Bool.not_true, Bool.not_false, Bool.false_eq_true, reduceCtorEq, decide_true, decide_false, Nat.reduceAdd, ite_true, ite_false, sizeLine, en, k1, k2, k3], hy, more⟩
theorem v5_eq {us : List PyData} {p b c d e q : M.Slot} {y : Str} (hy : y.length ≤ 30) : V5 (en us p q b c d e (.fz (.str y))) = .next (en us p q b c d e (.fz (.str y))) := by
  obtain ⟨v, e1, e2, e3⟩ := read_same y hy
  have : ∃ s, reprL [v] = some (.str s) := by
    rcases e3 with rfl | ⟨n, m, rfl, h1, h2⟩
    · exact ⟨_, Rp.none.repr (by omega) (by show _ ≤ 16777216; omega)⟩
    · exact ⟨_, (rp_fr2 h1 h2).repr (by omega) (by show _ ≤ 16777216; omega)⟩
  obtain ⟨s, hs⟩ := this
  simp [V5, bnd_a, ret_a, lft_ok, lft_err, lfo_some, nameM_a, peek_a, fin_l, fin_r, run_v, run_n, op1_a, op2_a, opL_a, runs_n, runs_c, fins_n, fins_c, evs_n, evs_c, tupM_a, lstM_a, lstO_a, andM_a, orM_a, notM_a, andV_a, orV_a, notV_a, asB_b, ifM_a, tstM_a, tstD_a, truth_b, truth_i, truth_n, bndS_a, retM_a, retOM_a, dropM_a, seqS_a, nextM_a, failS_a, ifS_a, asgM_a, asgO_a, tgN_a, tgTup_t, tgLst_t, tgsNil_a, tgsCons_a, putS_a, setS_z, setS_s, getS_z, getS_s, parM_a, callP_a, callF_a, callR_a, frzM_a, setIx_a, intD_i, addD_i, addD_t, addD_l, addD_s, subD_i, mulD_i, fdivD_i, modD_i, powD_i, negD_i, eqD_i, eqD_s, neD_i, neD_s, ltD_i, leD_i, gtD_i, geD_i, isND_a, notND_a, isBD_a, notBD_a, ixD_l, ixD_t, ixD_k, absL_i, maxL_i, minL_i, lenL_l, lenL_t, lenL_k, intL_i, intL_b, tupL_l, lstL_l, lstL_t, items_l, items_t, itM_a, rngM1_a, rngM2_a, range1_i, forM_a, forL_n, sumL_l, allL_l, anyL_l, sliceM_a, optM_n, optM_s, lrM1_a, compM_a, methM_a, startE, List.map_cons, List.map_nil, List.length_cons, List.length_nil, List.cons_append, List.nil_append, if_true, if_false, Bool.not_true, Bool.not_false, Bool.false_eq_true, reduceCtorEq, decide_true, decide_false, Nat.reduceAdd, ite_true, ite_false, sizeLine, en, e1, e2, hs]
theorem loopS : ∀ (ds : List PyData) (K : Nat) (us : List PyData) (p b c d e f : M.Slot) (z : Str), PotOk K us → K + 4 * ds.length < 700000 → z.length ≤ 14 → loose b → loose c → loose d → loose e → loose f →
    ∃ us' b' c' d' e' f', forL (tgN 3) lapS ds (en us p (.fz (.str z)) b c d e f) = .next (en us' p (.fz (.str z)) b' c' d' e' f') ∧ PotOk (K + 4 * ds.length) us' := by
  intro ds
  induction ds with
  | nil => intro K us p b c d e f z hp _ _ _ _ _ _ _; exact ⟨us, b, c, d, e, f, rfl, hp⟩
  | cons x r ih =>
    intro K us p b c d e f z hp hK hz hb hc hd he hf
    rw [List.length_cons] at hK ⊢
    obtain ⟨u1, i, e1, p1⟩ := v1_eq (p := p) (b := .fz x) (d := d) (e := e) (f := f) hp (by omega) hz hc
    obtain ⟨u2, k, s, e2, hs, p2⟩ := v2_eq (p := p) (q := .fz (.str z)) (b := .fz x) (c := .fz (.int i)) (f := f) p1 (by omega) hd he
    obtain ⟨y, e3, hy⟩ := v3_eq (us := u2) (p := p) (b := .fz x) (d := .fz (.int k)) (i := i) hz hs hf
    obtain ⟨u4, y', e4, hy', p4⟩ := v4_eq (p := p) (b := .fz x) (i := i) (k := k) p2 (by omega) hz hs hy
    have e5 := v5_eq (us := u4) (p := p) (q := .fz (.str z)) (b := .fz x) (c := .fz (.int i)) (d := .fz (.int k)) (e := .fz (.str s)) hy'
    have l : ∀ d : PyData, loose (.fz d) := fun d => of_eq_true (loose_fz d)
    obtain ⟨us', b', c', d', e', f', e6, p6⟩ := ih (K + 4) u4 p (.fz x) (.fz (.int i)) (.fz (.int k)) (.fz (.str s)) (.fz (.str y')) z (by exact p4) (by omega) hz (l _) (l _) (l _) (l _) (l _)
    refine ⟨us', b', c', d', e', f', ?_, by rw [show K + 4 * (r.length + 1) = K + 4 + 4 * r.length by omega]; exact p6⟩
    have hput : putS 3 (.fz x) (en us p (.fz (.str z)) b c d e f) = some (en us p (.fz (.str z)) (.fz x) c d e f) := put_l hb
    unfold forL
    rw [tgN_a, hput]
    simp only [seqS_a, e1, e2, e3, e4, e5]
    exact e6
theorem up8 : range1 (.int 8) = some (M.upTo 0 8) := rfl
theorem rnone (v : PyData) (h : isD "str" v = some (.bool false)) : m_read_fraction [v] = .ok .none := by
  simp [m_read_fraction, runP, b_read_fraction, bnd_a, ret_a, lft_ok, lft_err, lfo_some, nameM_a, peek_a, fin_l, fin_r, run_v, run_n, op1_a, op2_a, opL_a, runs_n, runs_c, fins_n, fins_c, evs_n, evs_c, tupM_a, lstM_a, lstO_a, andM_a, orM_a, notM_a, andV_a, orV_a, notV_a, asB_b, ifM_a, tstM_a, tstD_a, truth_b, truth_i, truth_n, bndS_a, retM_a, retOM_a, dropM_a, seqS_a, nextM_a, failS_a, ifS_a, asgM_a, asgO_a, tgN_a, tgTup_t, tgLst_t, tgsNil_a, tgsCons_a, putS_a, setS_z, setS_s, getS_z, getS_s, parM_a, callP_a, callF_a, callR_a, frzM_a, setIx_a, intD_i, addD_i, addD_t, addD_l, addD_s, subD_i, mulD_i, fdivD_i, modD_i, powD_i, negD_i, eqD_i, eqD_s, neD_i, neD_s, ltD_i, leD_i, gtD_i, geD_i, isND_a, notND_a, isBD_a, notBD_a, ixD_l, ixD_t, ixD_k, absL_i, maxL_i, minL_i, lenL_l, lenL_t, lenL_k, intL_i, intL_b, tupL_l, lstL_l, lstL_t, items_l, items_t, itM_a, rngM1_a, rngM2_a, range1_i, forM_a, forL_n, sumL_l, allL_l, anyL_l, sliceM_a, optM_n, optM_s, lrM1_a, compM_a, methM_a, startE, List.map_cons, List.map_nil, List.length_cons, List.length_nil, List.cons_append, List.nil_append, if_true, if_false, Bool.not_true, Bool.not_false, Bool.false_eq_true, reduceCtorEq, decide_true, decide_false, Nat.reduceAdd, ite_true, ite_false, sizeLine, h]
theorem s5_eq {us : List PyData} {a b c d e f g : M.Slot} : S5 (en us a b c d e f g) = .ret (.bool true) (en us a b c d e f g) := by
  have hm : mulD (.list [.none]) (.int 6) = some (.list [.none, .none, .none, .none, .none, .none]) := rfl
  have he : eqD (.list [.none, .none, .none, .none, .none, .none]) (.list [.none, .none, .none, .none, .none, .none]) = some (.bool true) := by
    simp [eqD, SeqAt.shaped, PyData.eqv, PyData.canLay0, PyData.canLayAll0, PyData.depth, PyData.depthAll, PyData.eqvAll]
  have r1 := rnone .none rfl
  have r2 := rnone (.int 1) rfl
  have r3 := rnone (.tuple [.int 1, .int 2]) rfl
  have r4 := rnone (.list [.str "1"]) rfl
  have r5 := rnone (.bool true) rfl
  have r6 := rnone (.tuple [.str "1"]) rfl
  simp [S5, bnd_a, ret_a, lft_ok, lft_err, lfo_some, nameM_a, peek_a, fin_l, fin_r, run_v, run_n, op1_a, op2_a, opL_a, runs_n, runs_c, fins_n, fins_c, evs_n, evs_c, tupM_a, lstM_a, lstO_a, andM_a, orM_a, notM_a, andV_a, orV_a, notV_a, asB_b, ifM_a, tstM_a, tstD_a, truth_b, truth_i, truth_n, bndS_a, retM_a, retOM_a, dropM_a, seqS_a, nextM_a, failS_a, ifS_a, asgM_a, asgO_a, tgN_a, tgTup_t, tgLst_t, tgsNil_a, tgsCons_a, putS_a, setS_z, setS_s, getS_z, getS_s, parM_a, callP_a, callF_a, callR_a, frzM_a, setIx_a, intD_i, addD_i, addD_t, addD_l, addD_s, subD_i, mulD_i, fdivD_i, modD_i, powD_i, negD_i, eqD_i, eqD_s, neD_i, neD_s, ltD_i, leD_i, gtD_i, geD_i, isND_a, notND_a, isBD_a, notBD_a, ixD_l, ixD_t, ixD_k, absL_i, maxL_i, minL_i, lenL_l, lenL_t, lenL_k, intL_i, intL_b, tupL_l, lstL_l, lstL_t, items_l, items_t, itM_a, rngM1_a, rngM2_a, range1_i, forM_a, forL_n, sumL_l, allL_l, anyL_l, sliceM_a, optM_n, optM_s, lrM1_a, compM_a, methM_a, startE, List.map_cons, List.map_nil, List.length_cons, List.length_nil, List.cons_append, List.nil_append, if_true, if_false, Bool.not_true, Bool.not_false, Bool.false_eq_true, reduceCtorEq, decide_true, decide_false, Nat.reduceAdd, ite_true, ite_false, sizeLine, en, hidable, wipeE, restE, compL, compT, r1, r2, r3, r4, r5, r6, hm, he]
theorem right_eq {K : Nat} {us : List PyData} (h : PotOk K us) (hK : K < 600000) : ∃ us', m__law_right us [] = .ok (.bool true, us') ∧ PotOk (K + 104) us' := by
  obtain ⟨u1, n, d, q1, f, p1⟩ := s1_eq h (by omega)
  have q2 := s2_eq (us := u1) f
  have q3 := s3_eq (us := u1) f
  have un : loose .un := of_eq_true loose_un
  obtain ⟨u2, b', c', d', e', f', q4, p4⟩ := loopS (M.upTo 0 8) (K + 6) u1 (.fz (fr n d)) .un .un .un .un .un (tx n d) p1 (by simp [M.upTo]; omega) (tx_len f) un un un un un
  have q4' : S4 (en u1 (.fz (fr n d)) (.fz (.str (tx n d))) .un .un .un .un .un) = .next (en u2 (.fz (fr n d)) (.fz (.str (tx n d))) b' c' d' e' f') := by
    rw [S4_lap, forM_a]
    have : rngM1 (.v (ret (.int 8))) (en u1 (.fz (fr n d)) (.fz (.str (tx n d))) .un .un .un .un .un) = .ok (M.upTo 0 8, en u1 (.fz (fr n d)) (.fz (.str (tx n d))) .un .un .un .un .un) := by
      simp [bnd_a, ret_a, lft_ok, lft_err, lfo_some, nameM_a, peek_a, fin_l, fin_r, run_v, run_n, op1_a, op2_a, opL_a, runs_n, runs_c, fins_n, fins_c, evs_n, evs_c, tupM_a, lstM_a, lstO_a, andM_a, orM_a, notM_a, andV_a, orV_a, notV_a, asB_b, ifM_a, tstM_a, tstD_a, truth_b, truth_i, truth_n, bndS_a, retM_a, retOM_a, dropM_a, seqS_a, nextM_a, failS_a, ifS_a, asgM_a, asgO_a, tgN_a, tgTup_t, tgLst_t, tgsNil_a, tgsCons_a, putS_a, setS_z, setS_s, getS_z, getS_s, parM_a, callP_a, callF_a, callR_a, frzM_a, setIx_a, intD_i, addD_i, addD_t, addD_l, addD_s, subD_i, mulD_i, fdivD_i, modD_i, powD_i, negD_i, eqD_i, eqD_s, neD_i, neD_s, ltD_i, leD_i, gtD_i, geD_i, isND_a, notND_a, isBD_a, notBD_a, ixD_l, ixD_t, ixD_k, absL_i, maxL_i, minL_i, lenL_l, lenL_t, lenL_k, intL_i, intL_b, tupL_l, lstL_l, lstL_t, items_l, items_t, itM_a, rngM1_a, rngM2_a, range1_i, forM_a, forL_n, sumL_l, allL_l, anyL_l, sliceM_a, optM_n, optM_s, lrM1_a, compM_a, methM_a, startE, List.map_cons, List.map_nil, List.length_cons, List.length_nil, List.cons_append, List.nil_append, if_true, if_false, Bool.not_true, Bool.not_false, Bool.false_eq_true, reduceCtorEq, decide_true, decide_false, Nat.reduceAdd, ite_true, ite_false, sizeLine, up8, -range1_i]
    rw [this]
    exact q4
  refine ⟨u2, ?_, ?_⟩
  · have st : startE 9 ((.ol (some 0) us) :: ([] : List PyData).map .fz) = en us .un .un .un .un .un .un .un := rfl
    unfold m__law_right runR
    rw [S_all, st]
    simp only [seqS_a, q1, q2, q3, q4', s5_eq]
    rfl
  · obtain ⟨a, b, c, z1, z2, z3, z4⟩ := p4
    have : (M.upTo 0 8).length = 8 := by simp [M.upTo]
    exact ⟨a, b, c, z1, z2, z3, by omega⟩
noncomputable abbrev lap8 : SM := ifS (notM (tstM (.v (callR m__law_right 2 [])))) (retM (ret (.bool false))) (nextM)
theorem loop8 : ∀ (ds : List PyData) (k : Nat) (us : List PyData) (a b t : M.Slot), PotOk k us → k + 104 * ds.length ≤ 1000 → loose t → ∃ us' t', forL (tgN 3) lap8 ds [a, b, .ol none us, t] = .next [a, b, .ol none us', t'] ∧ loose t' := by
  intro ds
  induction ds with
  | nil => intro k us a b t _ _ ht; exact ⟨us, t, rfl, ht⟩
  | cons d r ih =>
    intro k us a b t hp hk ht
    rw [List.length_cons] at hk
    obtain ⟨u1, e1, p1⟩ := right_eq hp (by omega)
    obtain ⟨u2, t2, e2, l2⟩ := ih (k + 104) u1 a b (.fz d) p1 (by omega) (fun _ _ z => by cases z)
    refine ⟨u2, t2, ?_, l2⟩
    have hput : putS 3 (.fz d) [a, b, .ol none us, t] = some [a, b, .ol none us, .fz d] := by
      match t, ht with
      | .un, _ => rfl
      | .fz _, _ => rfl
      | .ol none _, _ => rfl
      | .ol (some r) us, h => exact absurd rfl (h r us)
    unfold forL
    rw [tgN_a, hput]
    simp [bnd_a, ret_a, lft_ok, lft_err, lfo_some, nameM_a, peek_a, fin_l, fin_r, run_v, run_n, op1_a, op2_a, opL_a, runs_n, runs_c, fins_n, fins_c, evs_n, evs_c, tupM_a, lstM_a, lstO_a, andM_a, orM_a, notM_a, andV_a, orV_a, notV_a, asB_b, ifM_a, tstM_a, tstD_a, truth_b, truth_i, truth_n, bndS_a, retM_a, retOM_a, dropM_a, seqS_a, nextM_a, failS_a, ifS_a, asgM_a, asgO_a, tgN_a, tgTup_t, tgLst_t, tgsNil_a, tgsCons_a, putS_a, setS_z, setS_s, getS_z, getS_s, parM_a, callP_a, callF_a, callR_a, frzM_a, setIx_a, intD_i, addD_i, addD_t, addD_l, addD_s, subD_i, mulD_i, fdivD_i, modD_i, powD_i, negD_i, eqD_i, eqD_s, neD_i, neD_s, ltD_i, leD_i, gtD_i, geD_i, isND_a, notND_a, isBD_a, notBD_a, ixD_l, ixD_t, ixD_k, absL_i, maxL_i, minL_i, lenL_l, lenL_t, lenL_k, intL_i, intL_b, tupL_l, lstL_l, lstL_t, items_l, items_t, itM_a, rngM1_a, rngM2_a, range1_i, forM_a, forL_n, sumL_l, allL_l, anyL_l, sliceM_a, optM_n, optM_s, lrM1_a, compM_a, methM_a, startE, List.map_cons, List.map_nil, List.length_cons, List.length_nil, List.cons_append, List.nil_append, if_true, if_false, Bool.not_true, Bool.not_false, Bool.false_eq_true, reduceCtorEq, decide_true, decide_false, Nat.reduceAdd, ite_true, ite_false, sizeLine, lap8, e1]
    exact e2
noncomputable abbrev lapC : SM := seqS (asgO (callF m__law_pot [nameM 0, nameM 1]) 2) (forM (rngM1 (.v (ret (.int 8)))) (tgN 3) lap8)
theorem loopC (ns : List Int) : ∀ (is : List Int), (∀ i ∈ is, i = 0 ∨ i = 1) → ∀ (b c t : M.Slot), loose b → loose c → loose t → ∃ b' c' t', forL (tgN 1) lapC (is.map .int) [.fz (lck (ns.map .int)), b, c, t] = .next [.fz (lck (ns.map .int)), b', c', t'] := by
  intro is
  induction is with
  | nil => intro _ b c t _ _ _; exact ⟨b, c, t, rfl⟩
  | cons i r ih =>
    intro hi b c t hb hc ht
    obtain ⟨us, e1, p1⟩ := pot_eq ns (hi i (List.mem_cons_self ..))
    obtain ⟨u2, t2, e2, l2⟩ := loop8 (M.upTo 0 8) 0 us (.fz (lck (ns.map .int))) (.fz (.int i)) t p1 (by simp [M.upTo]) ht
    obtain ⟨b', c', t', e3⟩ := ih (fun j hj => hi j (List.mem_cons_of_mem _ hj)) (.fz (.int i)) (.ol none u2) t2 (fun _ _ z => by cases z) (fun _ _ z => by cases z) l2
    refine ⟨b', c', t', ?_⟩
    have h1 : putS 1 (.fz (.int i)) [.fz (lck (ns.map .int)), b, c, t] = some [.fz (lck (ns.map .int)), .fz (.int i), c, t] := by
      match b, hb with
      | .un, _ => rfl
      | .fz _, _ => rfl
      | .ol none _, _ => rfl
      | .ol (some r) us, h => exact absurd rfl (h r us)
    have h2 : putS 2 (.ol none us) [.fz (lck (ns.map .int)), .fz (.int i), c, t] = some [.fz (lck (ns.map .int)), .fz (.int i), .ol none us, t] := by
      match c, hc with
      | .un, _ => rfl
      | .fz _, _ => rfl
      | .ol none _, _ => rfl
      | .ol (some r) us, h => exact absurd rfl (h r us)
    rw [List.map_cons]
    unfold forL
    rw [tgN_a, h1]
    simp [bnd_a, ret_a, lft_ok, lft_err, lfo_some, nameM_a, peek_a, fin_l, fin_r, run_v, run_n, op1_a, op2_a, opL_a, runs_n, runs_c, fins_n, fins_c, evs_n, evs_c, tupM_a, lstM_a, lstO_a, andM_a, orM_a, notM_a, andV_a, orV_a, notV_a, asB_b, ifM_a, tstM_a, tstD_a, truth_b, truth_i, truth_n, bndS_a, retM_a, retOM_a, dropM_a, seqS_a, nextM_a, failS_a, ifS_a, asgM_a, asgO_a, tgN_a, tgTup_t, tgLst_t, tgsNil_a, tgsCons_a, putS_a, setS_z, setS_s, getS_z, getS_s, parM_a, callP_a, callF_a, callR_a, frzM_a, setIx_a, intD_i, addD_i, addD_t, addD_l, addD_s, subD_i, mulD_i, fdivD_i, modD_i, powD_i, negD_i, eqD_i, eqD_s, neD_i, neD_s, ltD_i, leD_i, gtD_i, geD_i, isND_a, notND_a, isBD_a, notBD_a, ixD_l, ixD_t, ixD_k, absL_i, maxL_i, minL_i, lenL_l, lenL_t, lenL_k, intL_i, intL_b, tupL_l, lstL_l, lstL_t, items_l, items_t, itM_a, rngM1_a, rngM2_a, range1_i, forM_a, forL_n, sumL_l, allL_l, anyL_l, sliceM_a, optM_n, optM_s, lrM1_a, compM_a, methM_a, startE, List.map_cons, List.map_nil, List.length_cons, List.length_nil, List.cons_append, List.nil_append, if_true, if_false, Bool.not_true, Bool.not_false, Bool.false_eq_true, reduceCtorEq, decide_true, decide_false, Nat.reduceAdd, ite_true, ite_false, sizeLine, lapC, e1, -putS_a, h2, up8, -range1_i, e2]
    exact e3
theorem law_true (ns : List Int) (h : ns.length ≤ 63) : m_law [lck (ns.map .int)] = .ok (.bool true) := by
  have un : loose .un := fun _ _ z => by cases z
  rcases cells_eq (ns.map .int) with e | e
  · obtain ⟨b, c, t, q⟩ := loopC ns [0] (by simp) .un .un .un un un un
    have q' : forL (tgN 1) lapC [.int 0] [.fz (lck (ns.map .int)), .un, .un, .un] = .next [.fz (lck (ns.map .int)), b, c, t] := q
    simp [m_law, runP, b_law, bnd_a, ret_a, lft_ok, lft_err, lfo_some, nameM_a, peek_a, fin_l, fin_r, run_v, run_n, op1_a, op2_a, opL_a, runs_n, runs_c, fins_n, fins_c, evs_n, evs_c, tupM_a, lstM_a, lstO_a, andM_a, orM_a, notM_a, andV_a, orV_a, notV_a, asB_b, ifM_a, tstM_a, tstD_a, truth_b, truth_i, truth_n, bndS_a, retM_a, retOM_a, dropM_a, seqS_a, nextM_a, failS_a, ifS_a, asgM_a, asgO_a, tgN_a, tgTup_t, tgLst_t, tgsNil_a, tgsCons_a, putS_a, setS_z, setS_s, getS_z, getS_s, parM_a, callP_a, callF_a, callR_a, frzM_a, setIx_a, intD_i, addD_i, addD_t, addD_l, addD_s, subD_i, mulD_i, fdivD_i, modD_i, powD_i, negD_i, eqD_i, eqD_s, neD_i, neD_s, ltD_i, leD_i, gtD_i, geD_i, isND_a, notND_a, isBD_a, notBD_a, ixD_l, ixD_t, ixD_k, absL_i, maxL_i, minL_i, lenL_l, lenL_t, lenL_k, intL_i, intL_b, tupL_l, lstL_l, lstL_t, items_l, items_t, itM_a, rngM1_a, rngM2_a, range1_i, forM_a, forL_n, sumL_l, allL_l, anyL_l, sliceM_a, optM_n, optM_s, lrM1_a, compM_a, methM_a, startE, List.map_cons, List.map_nil, List.length_cons, List.length_nil, List.cons_append, List.nil_append, if_true, if_false, Bool.not_true, Bool.not_false, Bool.false_eq_true, reduceCtorEq, decide_true, decide_false, Nat.reduceAdd, ite_true, ite_false, sizeLine, e, q']
  · obtain ⟨b, c, t, q⟩ := loopC ns [0, 1] (by simp) .un .un .un un un un
    have q' : forL (tgN 1) lapC [.int 0, .int 1] [.fz (lck (ns.map .int)), .un, .un, .un] = .next [.fz (lck (ns.map .int)), b, c, t] := q
    simp [m_law, runP, b_law, bnd_a, ret_a, lft_ok, lft_err, lfo_some, nameM_a, peek_a, fin_l, fin_r, run_v, run_n, op1_a, op2_a, opL_a, runs_n, runs_c, fins_n, fins_c, evs_n, evs_c, tupM_a, lstM_a, lstO_a, andM_a, orM_a, notM_a, andV_a, orV_a, notV_a, asB_b, ifM_a, tstM_a, tstD_a, truth_b, truth_i, truth_n, bndS_a, retM_a, retOM_a, dropM_a, seqS_a, nextM_a, failS_a, ifS_a, asgM_a, asgO_a, tgN_a, tgTup_t, tgLst_t, tgsNil_a, tgsCons_a, putS_a, setS_z, setS_s, getS_z, getS_s, parM_a, callP_a, callF_a, callR_a, frzM_a, setIx_a, intD_i, addD_i, addD_t, addD_l, addD_s, subD_i, mulD_i, fdivD_i, modD_i, powD_i, negD_i, eqD_i, eqD_s, neD_i, neD_s, ltD_i, leD_i, gtD_i, geD_i, isND_a, notND_a, isBD_a, notBD_a, ixD_l, ixD_t, ixD_k, absL_i, maxL_i, minL_i, lenL_l, lenL_t, lenL_k, intL_i, intL_b, tupL_l, lstL_l, lstL_t, items_l, items_t, itM_a, rngM1_a, rngM2_a, range1_i, forM_a, forL_n, sumL_l, allL_l, anyL_l, sliceM_a, optM_n, optM_s, lrM1_a, compM_a, methM_a, startE, List.map_cons, List.map_nil, List.length_cons, List.length_nil, List.cons_append, List.nil_append, if_true, if_false, Bool.not_true, Bool.not_false, Bool.false_eq_true, reduceCtorEq, decide_true, decide_false, Nat.reduceAdd, ite_true, ite_false, sizeLine, e, q']
end Lk01
set_option Elab.async false
set_option linter.all false
set_option maxRecDepth 100000
set_option maxHeartbeats 4000000
namespace Lk01
open M PySem PySem.Spec PyProof.Rows L2
theorem all_mk {l : PySem.W.OpenLaw} {w : World} {K : PySem.W.Frag} {h : Heap} {mg : Str → Option Value} {fa : Addr} (X : K.In h) (G : h.Ns mainGlobals mg) (hfa : mg "law" = some (.ref fa))
    {f0 : Addr} {od0 an0 : Option Addr} {sl0 : Array (Option Value)} {oc0 kV0 dc0 pm0 cd0 ct0 : Value}
    (a0 : PySem.W.nsIn K mainGlobals "_law_cells" = some (some (.ref f0))) (l0 : K.lookup f0 = some ⟨oc0, od0, .func (PySem.W.fnOf "_law_cells" "_law_cells" (defArgs s__law_cells) (defBody s__law_cells) (defScope s__law_cells) .none kV0 dc0 pm0 an0 cd0 ct0), sl0⟩) (c0 : PySem.W.codeIn K cd0 "_law_cells" = true) (k0 : PySem.W.keepIn K (.ref f0) = true)
    {f1 : Addr} {od1 an1 : Option Addr} {sl1 : Array (Option Value)} {oc1 kV1 dc1 pm1 cd1 ct1 : Value}
    (a1 : PySem.W.nsIn K mainGlobals "_law_pot" = some (some (.ref f1))) (l1 : K.lookup f1 = some ⟨oc1, od1, .func (PySem.W.fnOf "_law_pot" "_law_pot" (defArgs s__law_pot) (defBody s__law_pot) (defScope s__law_pot) .none kV1 dc1 pm1 an1 cd1 ct1), sl1⟩) (c1 : PySem.W.codeIn K cd1 "_law_pot" = true) (k1 : PySem.W.keepIn K (.ref f1) = true)
    {f2 : Addr} {od2 an2 : Option Addr} {sl2 : Array (Option Value)} {oc2 kV2 dc2 pm2 cd2 ct2 : Value}
    (a2 : PySem.W.nsIn K mainGlobals "_law_shared" = some (some (.ref f2))) (l2 : K.lookup f2 = some ⟨oc2, od2, .func (PySem.W.fnOf "_law_shared" "_law_shared" (defArgs s__law_shared) (defBody s__law_shared) (defScope s__law_shared) .none kV2 dc2 pm2 an2 cd2 ct2), sl2⟩) (c2 : PySem.W.codeIn K cd2 "_law_shared" = true) (k2 : PySem.W.keepIn K (.ref f2) = true)
    {f3 : Addr} {od3 an3 : Option Addr} {sl3 : Array (Option Value)} {oc3 kV3 dc3 pm3 cd3 ct3 : Value}
    (a3 : PySem.W.nsIn K mainGlobals "_law_made" = some (some (.ref f3))) (l3 : K.lookup f3 = some ⟨oc3, od3, .func (PySem.W.fnOf "_law_made" "_law_made" (defArgs s__law_made) (defBody s__law_made) (defScope s__law_made) .none kV3 dc3 pm3 an3 cd3 ct3), sl3⟩) (c3 : PySem.W.codeIn K cd3 "_law_made" = true) (k3 : PySem.W.keepIn K (.ref f3) = true)
    {f4 : Addr} {od4 an4 : Option Addr} {sl4 : Array (Option Value)} {oc4 kV4 dc4 pm4 cd4 ct4 : Value}
    (a4 : PySem.W.nsIn K mainGlobals "_law_text" = some (some (.ref f4))) (l4 : K.lookup f4 = some ⟨oc4, od4, .func (PySem.W.fnOf "_law_text" "_law_text" (defArgs s__law_text) (defBody s__law_text) (defScope s__law_text) .none kV4 dc4 pm4 an4 cd4 ct4), sl4⟩) (c4 : PySem.W.codeIn K cd4 "_law_text" = true) (k4 : PySem.W.keepIn K (.ref f4) = true)
    {f5 : Addr} {od5 an5 : Option Addr} {sl5 : Array (Option Value)} {oc5 kV5 dc5 pm5 cd5 ct5 : Value}
    (a5 : PySem.W.nsIn K mainGlobals "_law_take" = some (some (.ref f5))) (l5 : K.lookup f5 = some ⟨oc5, od5, .func (PySem.W.fnOf "_law_take" "_law_take" (defArgs s__law_take) (defBody s__law_take) (defScope s__law_take) .none kV5 dc5 pm5 an5 cd5 ct5), sl5⟩) (c5 : PySem.W.codeIn K cd5 "_law_take" = true) (k5 : PySem.W.keepIn K (.ref f5) = true)
    {f6 : Addr} {od6 an6 : Option Addr} {sl6 : Array (Option Value)} {oc6 kV6 dc6 pm6 cd6 ct6 : Value}
    (a6 : PySem.W.nsIn K mainGlobals "_law_of" = some (some (.ref f6))) (l6 : K.lookup f6 = some ⟨oc6, od6, .func (PySem.W.fnOf "_law_of" "_law_of" (defArgs s__law_of) (defBody s__law_of) (defScope s__law_of) .none kV6 dc6 pm6 an6 cd6 ct6), sl6⟩) (c6 : PySem.W.codeIn K cd6 "_law_of" = true) (k6 : PySem.W.keepIn K (.ref f6) = true)
    {f7 : Addr} {od7 an7 : Option Addr} {sl7 : Array (Option Value)} {oc7 kV7 dc7 pm7 cd7 ct7 : Value}
    (a7 : PySem.W.nsIn K mainGlobals "read_whole" = some (some (.ref f7))) (l7 : K.lookup f7 = some ⟨oc7, od7, .func (PySem.W.fnOf "read_whole" "read_whole" (defArgs s_read_whole) (defBody s_read_whole) (defScope s_read_whole) .none kV7 dc7 pm7 an7 cd7 ct7), sl7⟩) (c7 : PySem.W.codeIn K cd7 "read_whole" = true) (k7 : PySem.W.keepIn K (.ref f7) = true)
    {f8 : Addr} {od8 an8 : Option Addr} {sl8 : Array (Option Value)} {oc8 kV8 dc8 pm8 cd8 ct8 : Value}
    (a8 : PySem.W.nsIn K mainGlobals "common_divisor" = some (some (.ref f8))) (l8 : K.lookup f8 = some ⟨oc8, od8, .func (PySem.W.fnOf "common_divisor" "common_divisor" (defArgs s_common_divisor) (defBody s_common_divisor) (defScope s_common_divisor) .none kV8 dc8 pm8 an8 cd8 ct8), sl8⟩) (c8 : PySem.W.codeIn K cd8 "common_divisor" = true) (k8 : PySem.W.keepIn K (.ref f8) = true)
    {f9 : Addr} {od9 an9 : Option Addr} {sl9 : Array (Option Value)} {oc9 kV9 dc9 pm9 cd9 ct9 : Value}
    (a9 : PySem.W.nsIn K mainGlobals "is_pair" = some (some (.ref f9))) (l9 : K.lookup f9 = some ⟨oc9, od9, .func (PySem.W.fnOf "is_pair" "is_pair" (defArgs s_is_pair) (defBody s_is_pair) (defScope s_is_pair) .none kV9 dc9 pm9 an9 cd9 ct9), sl9⟩) (c9 : PySem.W.codeIn K cd9 "is_pair" = true) (k9 : PySem.W.keepIn K (.ref f9) = true)
    {f10 : Addr} {od10 an10 : Option Addr} {sl10 : Array (Option Value)} {oc10 kV10 dc10 pm10 cd10 ct10 : Value}
    (a10 : PySem.W.nsIn K mainGlobals "is_integer" = some (some (.ref f10))) (l10 : K.lookup f10 = some ⟨oc10, od10, .func (PySem.W.fnOf "is_integer" "is_integer" (defArgs s_is_integer) (defBody s_is_integer) (defScope s_is_integer) .none kV10 dc10 pm10 an10 cd10 ct10), sl10⟩) (c10 : PySem.W.codeIn K cd10 "is_integer" = true) (k10 : PySem.W.keepIn K (.ref f10) = true)
    {f11 : Addr} {od11 an11 : Option Addr} {sl11 : Array (Option Value)} {oc11 kV11 dc11 pm11 cd11 ct11 : Value}
    (a11 : PySem.W.nsIn K mainGlobals "is_fraction_value" = some (some (.ref f11))) (l11 : K.lookup f11 = some ⟨oc11, od11, .func (PySem.W.fnOf "is_fraction_value" "is_fraction_value" (defArgs s_is_fraction_value) (defBody s_is_fraction_value) (defScope s_is_fraction_value) .none kV11 dc11 pm11 an11 cd11 ct11), sl11⟩) (c11 : PySem.W.codeIn K cd11 "is_fraction_value" = true) (k11 : PySem.W.keepIn K (.ref f11) = true)
    {f12 : Addr} {od12 an12 : Option Addr} {sl12 : Array (Option Value)} {oc12 kV12 dc12 pm12 cd12 ct12 : Value}
    (a12 : PySem.W.nsIn K mainGlobals "text_of" = some (some (.ref f12))) (l12 : K.lookup f12 = some ⟨oc12, od12, .func (PySem.W.fnOf "text_of" "text_of" (defArgs s_text_of) (defBody s_text_of) (defScope s_text_of) .none kV12 dc12 pm12 an12 cd12 ct12), sl12⟩) (c12 : PySem.W.codeIn K cd12 "text_of" = true) (k12 : PySem.W.keepIn K (.ref f12) = true)
    {f13 : Addr} {od13 an13 : Option Addr} {sl13 : Array (Option Value)} {oc13 kV13 dc13 pm13 cd13 ct13 : Value}
    (a13 : PySem.W.nsIn K mainGlobals "read_fraction" = some (some (.ref f13))) (l13 : K.lookup f13 = some ⟨oc13, od13, .func (PySem.W.fnOf "read_fraction" "read_fraction" (defArgs s_read_fraction) (defBody s_read_fraction) (defScope s_read_fraction) .none kV13 dc13 pm13 an13 cd13 ct13), sl13⟩) (c13 : PySem.W.codeIn K cd13 "read_fraction" = true) (k13 : PySem.W.keepIn K (.ref f13) = true)
    {f14 : Addr} {od14 an14 : Option Addr} {sl14 : Array (Option Value)} {oc14 kV14 dc14 pm14 cd14 ct14 : Value}
    (a14 : PySem.W.nsIn K mainGlobals "check_number" = some (some (.ref f14))) (l14 : K.lookup f14 = some ⟨oc14, od14, .func (PySem.W.fnOf "check_number" "check_number" (defArgs s_check_number) (defBody s_check_number) (defScope s_check_number) .none kV14 dc14 pm14 an14 cd14 ct14), sl14⟩) (c14 : PySem.W.codeIn K cd14 "check_number" = true) (k14 : PySem.W.keepIn K (.ref f14) = true)
    {f15 : Addr} {od15 an15 : Option Addr} {sl15 : Array (Option Value)} {oc15 kV15 dc15 pm15 cd15 ct15 : Value}
    (a15 : PySem.W.nsIn K mainGlobals "fraction_text" = some (some (.ref f15))) (l15 : K.lookup f15 = some ⟨oc15, od15, .func (PySem.W.fnOf "fraction_text" "fraction_text" (defArgs s_fraction_text) (defBody s_fraction_text) (defScope s_fraction_text) .none kV15 dc15 pm15 an15 cd15 ct15), sl15⟩) (c15 : PySem.W.codeIn K cd15 "fraction_text" = true) (k15 : PySem.W.keepIn K (.ref f15) = true)
    {f16 : Addr} {od16 an16 : Option Addr} {sl16 : Array (Option Value)} {oc16 kV16 dc16 pm16 cd16 ct16 : Value}
    (a16 : PySem.W.nsIn K mainGlobals "_law_is_count" = some (some (.ref f16))) (l16 : K.lookup f16 = some ⟨oc16, od16, .func (PySem.W.fnOf "_law_is_count" "_law_is_count" (defArgs s__law_is_count) (defBody s__law_is_count) (defScope s__law_is_count) .none kV16 dc16 pm16 an16 cd16 ct16), sl16⟩) (c16 : PySem.W.codeIn K cd16 "_law_is_count" = true) (k16 : PySem.W.keepIn K (.ref f16) = true)
    {f17 : Addr} {od17 an17 : Option Addr} {sl17 : Array (Option Value)} {oc17 kV17 dc17 pm17 cd17 ct17 : Value}
    (a17 : PySem.W.nsIn K mainGlobals "_law_read" = some (some (.ref f17))) (l17 : K.lookup f17 = some ⟨oc17, od17, .func (PySem.W.fnOf "_law_read" "_law_read" (defArgs s__law_read) (defBody s__law_read) (defScope s__law_read) .none kV17 dc17 pm17 an17 cd17 ct17), sl17⟩) (c17 : PySem.W.codeIn K cd17 "_law_read" = true) (k17 : PySem.W.keepIn K (.ref f17) = true)
    {f18 : Addr} {od18 an18 : Option Addr} {sl18 : Array (Option Value)} {oc18 kV18 dc18 pm18 cd18 ct18 : Value}
    (a18 : PySem.W.nsIn K mainGlobals "_law_right" = some (some (.ref f18))) (l18 : K.lookup f18 = some ⟨oc18, od18, .func (PySem.W.fnOf "_law_right" "_law_right" (defArgs s__law_right) (defBody s__law_right) (defScope s__law_right) .none kV18 dc18 pm18 an18 cd18 ct18), sl18⟩) (c18 : PySem.W.codeIn K cd18 "_law_right" = true) (k18 : PySem.W.keepIn K (.ref f18) = true)
    {f19 : Addr} {od19 an19 : Option Addr} {sl19 : Array (Option Value)} {oc19 kV19 dc19 pm19 cd19 ct19 : Value}
    (a19 : PySem.W.nsIn K mainGlobals "law" = some (some (.ref f19))) (l19 : K.lookup f19 = some ⟨oc19, od19, .func (PySem.W.fnOf "law" "law" (defArgs s_law) (defBody s_law) (defScope s_law) .none kV19 dc19 pm19 an19 cd19 ct19), sl19⟩) (c19 : PySem.W.codeIn K cd19 "law" = true) (k19 : PySem.W.keepIn K (.ref f19) = true)
    (z_abs : PySem.W.nsIn K mainGlobals "abs" = some none)
    (z_all : PySem.W.nsIn K mainGlobals "all" = some none)
    (z_bool : PySem.W.nsIn K mainGlobals "bool" = some none)
    (z_int : PySem.W.nsIn K mainGlobals "int" = some none)
    (z_isinstance : PySem.W.nsIn K mainGlobals "isinstance" = some none)
    (z_len : PySem.W.nsIn K mainGlobals "len" = some none)
    (z_list : PySem.W.nsIn K mainGlobals "list" = some none)
    (z_max : PySem.W.nsIn K mainGlobals "max" = some none)
    (z_min : PySem.W.nsIn K mainGlobals "min" = some none)
    (z_range : PySem.W.nsIn K mainGlobals "range" = some none)
    (z_repr : PySem.W.nsIn K mainGlobals "repr" = some none)
    (z_str : PySem.W.nsIn K mainGlobals "str" = some none)
    (z_sum : PySem.W.nsIn K mainGlobals "sum" = some none)
    (z_tuple : PySem.W.nsIn K mainGlobals "tuple" = some none) :
    ∃ fd : FuncData, (∀ (s : Shared) (u : Value), BindsTo s fd ⟨[u], []⟩ [("script", u)]) ∧ ∀ base : Heap, K.In base → base.Ns mainGlobals mg → FnG l.prog w K mg base 6 fa fd ["script"] (spP K mg 1 m_law) := by
  have e := hfa.symm.trans (PySem.W.mg_of X G a19)
  have e0 : fa = f19 := by cases e; rfl
  have T : ∃ T : Txt K mg, T.f_law = f19 ∧ T.d_law = PySem.W.fnOf "law" "law" (defArgs s_law) (defBody s_law) (defScope s_law) .none kV19 dc19 pm19 an19 cd19 ct19 := ⟨{ f__law_cells := f0, d__law_cells := _, F__law_cells := fun_mk (st := s__law_cells) l0 c0 k0, g__law_cells := PySem.W.mg_of X G a0, b__law_cells := (fun_mk (st := s__law_cells) l0 c0 k0).binds (ps := ["script", "limit"]) (fun _ _ _ _ _ _ us hl => match us, hl with | [_, _], _ => rfl), f__law_pot := f1, d__law_pot := _, F__law_pot := fun_mk (st := s__law_pot) l1 c1 k1, g__law_pot := PySem.W.mg_of X G a1, b__law_pot := (fun_mk (st := s__law_pot) l1 c1 k1).binds (ps := ["script", "place"]) (fun _ _ _ _ _ _ us hl => match us, hl with | [_, _], _ => rfl), f__law_shared := f2, d__law_shared := _, F__law_shared := fun_mk (st := s__law_shared) l2 c2 k2, g__law_shared := PySem.W.mg_of X G a2, b__law_shared := (fun_mk (st := s__law_shared) l2 c2 k2).binds (ps := ["one", "other"]) (fun _ _ _ _ _ _ us hl => match us, hl with | [_, _], _ => rfl), f__law_made := f3, d__law_made := _, F__law_made := fun_mk (st := s__law_made) l3 c3 k3, g__law_made := PySem.W.mg_of X G a3, b__law_made := (fun_mk (st := s__law_made) l3 c3 k3).binds (ps := ["top", "low"]) (fun _ _ _ _ _ _ us hl => match us, hl with | [_, _], _ => rfl), f__law_text := f4, d__law_text := _, F__law_text := fun_mk (st := s__law_text) l4 c4 k4, g__law_text := PySem.W.mg_of X G a4, b__law_text := (fun_mk (st := s__law_text) l4 c4 k4).binds (ps := ["number"]) (fun _ _ _ _ _ _ us hl => match us, hl with | [_], _ => rfl), f__law_take := f5, d__law_take := _, F__law_take := fun_mk (st := s__law_take) l5 c5 k5, g__law_take := PySem.W.mg_of X G a5, b__law_take := (fun_mk (st := s__law_take) l5 c5 k5).binds (ps := ["pot", "upto"]) (fun _ _ _ _ _ _ us hl => match us, hl with | [_, _], _ => rfl), f__law_of := f6, d__law_of := _, F__law_of := fun_mk (st := s__law_of) l6 c6 k6, g__law_of := PySem.W.mg_of X G a6, b__law_of := (fun_mk (st := s__law_of) l6 c6 k6).binds (ps := ["pot", "some"]) (fun _ _ _ _ _ _ us hl => match us, hl with | [_, _], _ => rfl), f_read_whole := f7, d_read_whole := _, F_read_whole := fun_mk (st := s_read_whole) l7 c7 k7, g_read_whole := PySem.W.mg_of X G a7, b_read_whole := (fun_mk (st := s_read_whole) l7 c7 k7).binds (ps := ["word"]) (fun _ _ _ _ _ _ us hl => match us, hl with | [_], _ => rfl), f_common_divisor := f8, d_common_divisor := _, F_common_divisor := fun_mk (st := s_common_divisor) l8 c8 k8, g_common_divisor := PySem.W.mg_of X G a8, b_common_divisor := (fun_mk (st := s_common_divisor) l8 c8 k8).binds (ps := ["one", "other"]) (fun _ _ _ _ _ _ us hl => match us, hl with | [_, _], _ => rfl), f_is_pair := f9, d_is_pair := _, F_is_pair := fun_mk (st := s_is_pair) l9 c9 k9, g_is_pair := PySem.W.mg_of X G a9, b_is_pair := (fun_mk (st := s_is_pair) l9 c9 k9).binds (ps := ["value"]) (fun _ _ _ _ _ _ us hl => match us, hl with | [_], _ => rfl), f_is_integer := f10, d_is_integer := _, F_is_integer := fun_mk (st := s_is_integer) l10 c10 k10, g_is_integer := PySem.W.mg_of X G a10, b_is_integer := (fun_mk (st := s_is_integer) l10 c10 k10).binds (ps := ["value"]) (fun _ _ _ _ _ _ us hl => match us, hl with | [_], _ => rfl), f_is_fraction_value := f11, d_is_fraction_value := _, F_is_fraction_value := fun_mk (st := s_is_fraction_value) l11 c11 k11, g_is_fraction_value := PySem.W.mg_of X G a11, b_is_fraction_value := (fun_mk (st := s_is_fraction_value) l11 c11 k11).binds (ps := ["value"]) (fun _ _ _ _ _ _ us hl => match us, hl with | [_], _ => rfl), f_text_of := f12, d_text_of := _, F_text_of := fun_mk (st := s_text_of) l12 c12 k12, g_text_of := PySem.W.mg_of X G a12, b_text_of := (fun_mk (st := s_text_of) l12 c12 k12).binds (ps := ["number"]) (fun _ _ _ _ _ _ us hl => match us, hl with | [_], _ => rfl), f_read_fraction := f13, d_read_fraction := _, F_read_fraction := fun_mk (st := s_read_fraction) l13 c13 k13, g_read_fraction := PySem.W.mg_of X G a13, b_read_fraction := (fun_mk (st := s_read_fraction) l13 c13 k13).binds (ps := ["text"]) (fun _ _ _ _ _ _ us hl => match us, hl with | [_], _ => rfl), f_check_number := f14, d_check_number := _, F_check_number := fun_mk (st := s_check_number) l14 c14 k14, g_check_number := PySem.W.mg_of X G a14, b_check_number := (fun_mk (st := s_check_number) l14 c14 k14).binds (ps := ["value"]) (fun _ _ _ _ _ _ us hl => match us, hl with | [_], _ => rfl), f_fraction_text := f15, d_fraction_text := _, F_fraction_text := fun_mk (st := s_fraction_text) l15 c15 k15, g_fraction_text := PySem.W.mg_of X G a15, b_fraction_text := (fun_mk (st := s_fraction_text) l15 c15 k15).binds (ps := ["number"]) (fun _ _ _ _ _ _ us hl => match us, hl with | [_], _ => rfl), f__law_is_count := f16, d__law_is_count := _, F__law_is_count := fun_mk (st := s__law_is_count) l16 c16 k16, g__law_is_count := PySem.W.mg_of X G a16, b__law_is_count := (fun_mk (st := s__law_is_count) l16 c16 k16).binds (ps := ["text"]) (fun _ _ _ _ _ _ us hl => match us, hl with | [_], _ => rfl), f__law_read := f17, d__law_read := _, F__law_read := fun_mk (st := s__law_read) l17 c17 k17, g__law_read := PySem.W.mg_of X G a17, b__law_read := (fun_mk (st := s__law_read) l17 c17 k17).binds (ps := ["text"]) (fun _ _ _ _ _ _ us hl => match us, hl with | [_], _ => rfl), f__law_right := f18, d__law_right := _, F__law_right := fun_mk (st := s__law_right) l18 c18 k18, g__law_right := PySem.W.mg_of X G a18, b__law_right := (fun_mk (st := s__law_right) l18 c18 k18).binds (ps := ["pot"]) (fun _ _ _ _ _ _ us hl => match us, hl with | [_], _ => rfl), f_law := f19, d_law := _, F_law := fun_mk (st := s_law) l19 c19 k19, g_law := PySem.W.mg_of X G a19, b_law := (fun_mk (st := s_law) l19 c19 k19).binds (ps := ["script"]) (fun _ _ _ _ _ _ us hl => match us, hl with | [_], _ => rfl), z_abs := PySem.W.mg_none_of X G z_abs, z_all := PySem.W.mg_none_of X G z_all, z_bool := PySem.W.mg_none_of X G z_bool, z_int := PySem.W.mg_none_of X G z_int, z_isinstance := PySem.W.mg_none_of X G z_isinstance, z_len := PySem.W.mg_none_of X G z_len, z_list := PySem.W.mg_none_of X G z_list, z_max := PySem.W.mg_none_of X G z_max, z_min := PySem.W.mg_none_of X G z_min, z_range := PySem.W.mg_none_of X G z_range, z_repr := PySem.W.mg_none_of X G z_repr, z_str := PySem.W.mg_none_of X G z_str, z_sum := PySem.W.mg_none_of X G z_sum, z_tuple := PySem.W.mg_none_of X G z_tuple }, rfl, rfl⟩
  obtain ⟨T, e1, e2⟩ := T
  exact ⟨PySem.W.fnOf "law" "law" (defArgs s_law) (defBody s_law) (defScope s_law) .none kV19 dc19 pm19 an19 cd19 ct19, fun s v => .of_eq rfl, fun base _ _ => by rw [e0, ← e1, ← e2]; exact ok_law T⟩
end Lk01
open PySem PySem.W PyProof.Rows
set_option maxHeartbeats 0 in
theorem PySem.Challenge.cw_onlyonemore_k01_fractions_as_texts_holds : PySem.Challenge.rw_onlyonemore_k01_fractions_as_texts.Holds := by
  w_on; o_law; k_head; (case hw => w_witness2)
  k_fill
  refine M.walkG (l := PySem.Challenge.rw_onlyonemore_k01_fractions_as_texts) (n := 63) (k := 6) (g := Lk01.m_law) rfl (by decide) rfl ⟨rfl, by decide, by decide⟩ (fun w h Y => PySem.W.kIn_of Y) (fun ns hn => Lk01.law_true ns hn) ?F
  case F =>
    intro w mg fa h KX G hmg
    refine' Lk01.all_mk KX G hmg ?a0 ?l0 ?c0 ?k0 ?a1 ?l1 ?c1 ?k1 ?a2 ?l2 ?c2 ?k2 ?a3 ?l3 ?c3 ?k3 ?a4 ?l4 ?c4 ?k4 ?a5 ?l5 ?c5 ?k5 ?a6 ?l6 ?c6 ?k6 ?a7 ?l7 ?c7 ?k7 ?a8 ?l8 ?c8 ?k8 ?a9 ?l9 ?c9 ?k9 ?a10 ?l10 ?c10 ?k10 ?a11 ?l11 ?c11 ?k11 ?a12 ?l12 ?c12 ?k12 ?a13 ?l13 ?c13 ?k13 ?a14 ?l14 ?c14 ?k14 ?a15 ?l15 ?c15 ?k15 ?a16 ?l16 ?c16 ?k16 ?a17 ?l17 ?c17 ?k17 ?a18 ?l18 ?c18 ?k18 ?a19 ?l19 ?c19 ?k19 ?z_abs ?z_all ?z_bool ?z_int ?z_isinstance ?z_len ?z_list ?z_max ?z_min ?z_range ?z_repr ?z_str ?z_sum ?z_tuple
    (case a0 => k_is); (case l0 => k_is); (case c0 => k_is); (case k0 => k_is); (case a1 => k_is); (case l1 => k_is); (case c1 => k_is); (case k1 => k_is); (case a2 => k_is); (case l2 => k_is); (case c2 => k_is); (case k2 => k_is); (case a3 => k_is); (case l3 => k_is); (case c3 => k_is); (case k3 => k_is); (case a4 => k_is); (case l4 => k_is); (case c4 => k_is); (case k4 => k_is); (case a5 => k_is); (case l5 => k_is); (case c5 => k_is); (case k5 => k_is); (case a6 => k_is); (case l6 => k_is); (case c6 => k_is); (case k6 => k_is); (case a7 => k_is); (case l7 => k_is); (case c7 => k_is); (case k7 => k_is); (case a8 => k_is); (case l8 => k_is); (case c8 => k_is); (case k8 => k_is); (case a9 => k_is); (case l9 => k_is); (case c9 => k_is); (case k9 => k_is); (case a10 => k_is); (case l10 => k_is); (case c10 => k_is); (case k10 => k_is); (case a11 => k_is); (case l11 => k_is); (case c11 => k_is); (case k11 => k_is); (case a12 => k_is); (case l12 => k_is); (case c12 => k_is); (case k12 => k_is); (case a13 => k_is); (case l13 => k_is); (case c13 => k_is); (case k13 => k_is); (case a14 => k_is); (case l14 => k_is); (case c14 => k_is); (case k14 => k_is); (case a15 => k_is); (case l15 => k_is); (case c15 => k_is); (case k15 => k_is); (case a16 => k_is); (case l16 => k_is); (case c16 => k_is); (case k16 => k_is); (case a17 => k_is); (case l17 => k_is); (case c17 => k_is); (case k17 => k_is); (case a18 => k_is); (case l18 => k_is); (case c18 => k_is); (case k18 => k_is); (case a19 => k_is); (case l19 => k_is); (case c19 => k_is); (case k19 => k_is); (case z_abs => k_is); (case z_all => k_is); (case z_bool => k_is); (case z_int => k_is); (case z_isinstance => k_is); (case z_len => k_is); (case z_list => k_is); (case z_max => k_is); (case z_min => k_is); (case z_range => k_is); (case z_repr => k_is); (case z_str => k_is); (case z_sum => k_is); (case z_tuple => k_is)
